import PyProof.Rows.All
import Wide.All
import OpenK.AllK
import Wide.FinOn
import HandS.ForMost
import HandS.Exc
import HandS.TupAny
import HandS.IsInst
import HandS.Wide
import HandS.Zip
import KE.GoesMore
import HandS.RevRange
import HandS.Conv
import HandS.SortInts
import PyProof.TupleOfSeq
import HandS.TupLe
import PySem.Challenge.RW_nowhereworse_k18_row_bars
set_option Elab.async false
set_option linter.all false
set_option maxRecDepth 100000
set_option maxHeartbeats 4000000
set_option autoImplicit true
namespace Pm
open PySem PySem.Spec L2

/-- data: what a value is, with what it holds. lst: a list that no one changes any more; own: a list that has one owner -/
inductive D where
  | non | bl (b : Bool) | int (i : Int) | str (x : Str)
  | tup (xs : List D) | lst (xs : List D) | own (xs : List D)

/-- the names' data by slot -/
abbrev Ev := List (Option D)

/-- the end of a piece of code -/
inductive Rs (α : Type) where
  | ok (a : α) (w : Ev)
  | ex (c : Str) (fs : List (Str × D)) (w : Ev)
  | bad
abbrev PM (α : Type) := Ev → Rs α

def Rs.bind {α β : Type} (r : Rs α) (k : α → Ev → Rs β) : Rs β :=
  match r with
  | .ok a w => k a w
  | .ex c fs w => .ex c fs w
  | .bad => .bad
@[simp] theorem Rs.bind_ok {α β : Type} (a : α) (w : Ev) (k : α → Ev → Rs β) : (Rs.ok a w).bind k = k a w := rfl
@[simp] theorem Rs.bind_ex {α β : Type} (c : Str) (fs : List (Str × D)) (w : Ev) (k : α → Ev → Rs β) : (Rs.ex (α := α) c fs w).bind k = .ex c fs w := rfl
@[simp] theorem Rs.bind_bad {α β : Type} (k : α → Ev → Rs β) : (Rs.bad (α := α)).bind k = .bad := rfl

/-- a list that no one changes -/
def Fz (K : PySem.W.Frag) (H : Hp) (a : Addr) (xs : List V) : Prop :=
  (∃ o, H a = some (.frz o (.lst xs))) ∨
    ∃ (o : Obj) (its : Array Value) (n : Nat), K.lookup a = some o ∧ o.cls = .type "list" ∧ o.dict = none ∧ o.data = .seq its n ∧ its.size ≤ sizeLine ∧ Vals xs its.toList
theorem Fz.sq {K : PySem.W.Frag} {H : Hp} {a : Addr} {xs : List V} (h : Fz K H a xs) : SqL K H a xs := by
  rcases h with h | h
  · exact .inl (.inr h)
  · exact .inr h

mutual
/-- the value v bears the data d; fp: the lists that d owns -/
def RV (K : PySem.W.Frag) (H : Hp) : D → V → List Addr → Prop
  | .non, v, fp => v = .non ∧ fp = []
  | .bl b, v, fp => v = .bl b ∧ fp = []
  | .int i, v, fp => v = .int i ∧ fp = []
  | .str x, v, fp => v = .str x ∧ fp = []
  | .tup xs, v, fp => ∃ a vs, v = .ref a ∧ SqT K H a vs ∧ RVs K H xs vs fp
  | .lst xs, v, fp => ∃ a vs, v = .ref a ∧ Fz K H a vs ∧ RVs K H xs vs [] ∧ fp = []
  | .own xs, v, fp => ∃ a vs f, v = .ref a ∧ H a = some (.lst vs) ∧ RVs K H xs vs f ∧ fp = a :: f
def RVs (K : PySem.W.Frag) (H : Hp) : List D → List V → List Addr → Prop
  | [], vs, fp => vs = [] ∧ fp = []
  | d :: ds, vs, fp => ∃ v r f g, vs = v :: r ∧ RV K H d v f ∧ RVs K H ds r g ∧ fp = f ++ g
end

/-- all but what stands at F is as it was -/
def Kp (F : List Addr) (H H' : Hp) : Prop := ∀ a o, H a = some o → a ∉ F → H' a = some o
/-- a step: all but F is kept; what is owned behind it was owned or is new -/
structure Stp (F : List Addr) (H : Hp) (F' : List Addr) (H' : Hp) : Prop where
  keep : Kp F H H'
  new : ∀ a ∈ F', a ∈ F ∨ H a = none
theorem Stp.refl {F F' : List Addr} {H : Hp} (h : ∀ a ∈ F', a ∈ F) : Stp F H F' H := ⟨fun _ _ e _ => e, fun a m => .inl (h a m)⟩
theorem Stp.trans {F F1 F2 : List Addr} {H H1 H2 : Hp} (a : Stp F H F1 H1) (b : Stp F1 H1 F2 H2) : Stp F H F2 H2 := by
  refine ⟨fun c o e n => ?_, fun c m => ?_⟩
  · refine b.keep c o (a.keep c o e n) fun m => ?_
    rcases a.new c m with z | z
    · exact n z
    · rw [e] at z; cases z
  · rcases b.new c m with z | z
    · exact a.new c z
    · by_cases hc : c ∈ F
      · exact .inl hc
      · refine .inr ?_
        cases q : H c with
        | none => rfl
        | some o => rw [a.keep c o q hc] at z; cases z

section
variable {K : PySem.W.Frag} {H H' : Hp} {F : List Addr}
theorem sqT_kp {a : Addr} {vs : List V} (k : Kp F H H') (m : ∀ a ∈ F, Mut (H a)) (h : SqT K H a vs) : SqT K H' a vs := by
  rcases h with (h | ⟨o, h⟩) | h
  · exact .inl (.inl (k _ _ h fun z => by have := m a z; rw [h] at this; exact this))
  · exact .inl (.inr ⟨o, k _ _ h fun z => by have := m a z; rw [h] at this; exact this⟩)
  · exact .inr h
theorem fz_kp {a : Addr} {vs : List V} (k : Kp F H H') (m : ∀ a ∈ F, Mut (H a)) (h : Fz K H a vs) : Fz K H' a vs := by
  rcases h with ⟨o, h⟩ | h
  · exact .inl ⟨o, k _ _ h fun z => by have := m a z; rw [h] at this; exact this⟩
  · exact .inr h
mutual
theorem RV.kp (k : Kp F H H') (m : ∀ a ∈ F, Mut (H a)) : ∀ (d : D) (v : V) (fp : List Addr), (∀ a ∈ fp, a ∉ F) → RV K H d v fp → RV K H' d v fp
  | .non, v, fp, _, h => h
  | .bl b, v, fp, _, h => h
  | .int i, v, fp, _, h => h
  | .str x, v, fp, _, h => h
  | .tup xs, v, fp, hd, h => by
    obtain ⟨a, vs, e, q, r⟩ := h
    exact ⟨a, vs, e, sqT_kp k m q, RVs.kp k m xs vs fp hd r⟩
  | .lst xs, v, fp, hd, h => by
    obtain ⟨a, vs, e, q, r, e2⟩ := h
    exact ⟨a, vs, e, fz_kp k m q, RVs.kp k m xs vs [] (fun _ z => nomatch z) r, e2⟩
  | .own xs, v, fp, hd, h => by
    obtain ⟨a, vs, f, e, q, r, e2⟩ := h
    subst e2
    exact ⟨a, vs, f, e, k _ _ q (hd a List.mem_cons_self), RVs.kp k m xs vs f (fun b hb => hd b (List.mem_cons_of_mem _ hb)) r, rfl⟩
theorem RVs.kp (k : Kp F H H') (m : ∀ a ∈ F, Mut (H a)) : ∀ (ds : List D) (vs : List V) (fp : List Addr), (∀ a ∈ fp, a ∉ F) → RVs K H ds vs fp → RVs K H' ds vs fp
  | [], vs, fp, _, h => h
  | d :: ds, vs, fp, hd, h => by
    obtain ⟨v, r, f, g, e, q, t, e2⟩ := h
    subst e2
    exact ⟨v, r, f, g, e, RV.kp k m d v f (fun b hb => hd b (List.mem_append_left _ hb)) q, RVs.kp k m ds r g (fun b hb => hd b (List.mem_append_right _ hb)) t, rfl⟩
end
mutual
theorem RV.mut : ∀ (d : D) (v : V) (fp : List Addr), RV K H d v fp → ∀ a ∈ fp, Mut (H a)
  | .non, v, fp, h => by obtain ⟨_, e⟩ := h; subst e; exact fun _ z => nomatch z
  | .bl b, v, fp, h => by obtain ⟨_, e⟩ := h; subst e; exact fun _ z => nomatch z
  | .int i, v, fp, h => by obtain ⟨_, e⟩ := h; subst e; exact fun _ z => nomatch z
  | .str x, v, fp, h => by obtain ⟨_, e⟩ := h; subst e; exact fun _ z => nomatch z
  | .tup xs, v, fp, h => by
    obtain ⟨a, vs, e, q, r⟩ := h
    exact RVs.mut xs vs fp r
  | .lst xs, v, fp, h => by
    obtain ⟨a, vs, e, q, r, e2⟩ := h
    subst e2
    exact fun _ z => nomatch z
  | .own xs, v, fp, h => by
    obtain ⟨a, vs, f, e, q, r, e2⟩ := h
    subst e2
    intro b hb
    rcases List.mem_cons.mp hb with z | z
    · subst z; rw [q]; trivial
    · exact RVs.mut xs vs f r b z
theorem RVs.mut : ∀ (ds : List D) (vs : List V) (fp : List Addr), RVs K H ds vs fp → ∀ a ∈ fp, Mut (H a)
  | [], vs, fp, h => by obtain ⟨_, e⟩ := h; subst e; exact fun _ z => nomatch z
  | d :: ds, vs, fp, h => by
    obtain ⟨v, r, f, g, e, q, t, e2⟩ := h
    subst e2
    intro b hb
    rcases List.mem_append.mp hb with z | z
    · exact RV.mut d v f q b z
    · exact RVs.mut ds r g t b z
end
theorem mut_some {a : Addr} (h : Mut (H a)) : ∃ o, H a = some o := by
  cases q : H a with
  | none => rw [q] at h; exact h.elim
  | some o => exact ⟨o, rfl⟩
theorem RVs.length : ∀ {ds : List D} {vs : List V} {fp : List Addr}, RVs K H ds vs fp → ds.length = vs.length
  | [], vs, fp, h => by obtain ⟨e, _⟩ := h; subst e; rfl
  | d :: ds, vs, fp, h => by
    obtain ⟨v, r, f, g, e, q, t, e2⟩ := h
    subst e
    rw [List.length_cons, List.length_cons, RVs.length t]
theorem RVs.append : ∀ {ds ds' : List D} {vs vs' : List V} {f g : List Addr}, RVs K H ds vs f → RVs K H ds' vs' g → RVs K H (ds ++ ds') (vs ++ vs') (f ++ g)
  | [], ds', vs, vs', f, g, h, h' => by obtain ⟨e, e2⟩ := h; subst e; subst e2; exact h'
  | d :: ds, ds', vs, vs', f, g, h, h' => by
    obtain ⟨v, r, f1, g1, e, q, t, e2⟩ := h
    subst e
    subst e2
    exact ⟨v, r ++ vs', f1, g1 ++ g, rfl, q, RVs.append t h', by rw [List.append_assoc]⟩
theorem RVs.split : ∀ {ds ds' : List D} {vs : List V} {fp : List Addr}, RVs K H (ds ++ ds') vs fp → ∃ vs1 vs2 f g, vs = vs1 ++ vs2 ∧ fp = f ++ g ∧ RVs K H ds vs1 f ∧ RVs K H ds' vs2 g
  | [], ds', vs, fp, h => ⟨[], vs, [], fp, rfl, rfl, ⟨rfl, rfl⟩, h⟩
  | d :: ds, ds', vs, fp, h => by
    obtain ⟨v, r, f, g, e, q, t, e2⟩ := h
    subst e
    subst e2
    obtain ⟨vs1, vs2, f1, g1, e1, e2, h1, h2⟩ := RVs.split (ds := ds) (ds' := ds') t
    subst e1
    subst e2
    exact ⟨v :: vs1, vs2, f ++ f1, g1, rfl, by rw [List.append_assoc], ⟨v, vs1, f, f1, rfl, q, h1, rfl⟩, h2⟩
theorem RVs.one {d : D} {v : V} {f : List Addr} (h : RV K H d v f) : RVs K H [d] [v] f := ⟨v, [], f, [], rfl, h, ⟨rfl, rfl⟩, by rw [List.append_nil]⟩
theorem RVs.one' {d : D} {v : V} {f : List Addr} (h : RVs K H [d] [v] f) : RV K H d v f := by
  obtain ⟨v', r, f1, g, e, q, ⟨e3, e4⟩, e2⟩ := h
  injection e with e1 _
  subst e1; subst e2; subst e4
  rw [List.append_nil]; exact q
theorem RVs.get : ∀ {ds : List D} {vs : List V} {fp : List Addr} {i : Nat} {d : D}, RVs K H ds vs fp → ds[i]? = some d → ∃ v f, vs[i]? = some v ∧ RV K H d v f ∧ ∀ a ∈ f, a ∈ fp
  | [], vs, fp, i, d, h, e => by simp at e
  | d0 :: ds, vs, fp, 0, d, h, e => by
    obtain ⟨v, r, f, g, e1, q, t, e2⟩ := h
    simp at e
    subst e; subst e1; subst e2
    exact ⟨v, f, rfl, q, fun a m => List.mem_append_left _ m⟩
  | d0 :: ds, vs, fp, i + 1, d, h, e => by
    obtain ⟨v, r, f, g, e1, q, t, e2⟩ := h
    subst e1; subst e2
    obtain ⟨v', f', h1, h2, h3⟩ := RVs.get (i := i) (d := d) t (by simpa using e)
    exact ⟨v', f', by simpa using h1, h2, fun a m => List.mem_append_right _ (h3 a m)⟩
end

/-! data that own nothing -/
mutual
def pl : D → Bool
  | .tup xs => pls xs
  | .own _ => false
  | _ => true
def pls : List D → Bool
  | [] => true
  | d :: ds => pl d && pls ds
end
section
variable {K : PySem.W.Frag} {H : Hp}
mutual
theorem rv_pl : ∀ (d : D) (v : V) (fp : List Addr), pl d = true → RV K H d v fp → fp = []
  | .non, v, fp, _, h => h.2
  | .bl b, v, fp, _, h => h.2
  | .int i, v, fp, _, h => h.2
  | .str x, v, fp, _, h => h.2
  | .tup xs, v, fp, p, h => by
    obtain ⟨a, vs, e, q, r⟩ := h
    exact rvs_pl xs vs fp p r
  | .lst xs, v, fp, _, h => by
    obtain ⟨a, vs, e, q, r, e2⟩ := h
    exact e2
  | .own xs, v, fp, p, h => by
    exact absurd p (by unfold Pm.pl; exact Bool.false_ne_true)
theorem rvs_pl : ∀ (ds : List D) (vs : List V) (fp : List Addr), pls ds = true → RVs K H ds vs fp → fp = []
  | [], vs, fp, _, h => h.2
  | d :: ds, vs, fp, p, h => by
    obtain ⟨v, r, f, g, e, q, t, e2⟩ := h
    unfold Pm.pls at p
    rw [Bool.and_eq_true] at p
    subst e2
    rw [rv_pl d v f p.1 q, rvs_pl ds r g p.2 t]
    rfl
end
end

/-- the slots bear the names' data; fe: the lists that they own -/
def RE (K : PySem.W.Frag) (H : Hp) : Ev → St → List Addr → Prop
  | [], s, fe => s = [] ∧ fe = []
  | none :: r, s, fe => ∃ x t, s = x :: t ∧ RE K H r t fe
  | some d :: r, s, fe => ∃ v t f g, s = some v :: t ∧ RV K H d v f ∧ RE K H r t g ∧ fe = f ++ g
section
variable {K : PySem.W.Frag} {H H' : Hp} {F : List Addr}
theorem RE.kp (k : Kp F H H') (m : ∀ a ∈ F, Mut (H a)) : ∀ {w : Ev} {s : St} {fe : List Addr}, (∀ a ∈ fe, a ∉ F) → RE K H w s fe → RE K H' w s fe
  | [], s, fe, _, h => h
  | none :: r, s, fe, hd, h => by
    obtain ⟨x, t, e, q⟩ := h
    exact ⟨x, t, e, RE.kp k m hd q⟩
  | some d :: r, s, fe, hd, h => by
    obtain ⟨v, t, f, g, e, q, q2, e2⟩ := h
    subst e2
    exact ⟨v, t, f, g, e, RV.kp k m d v f (fun b hb => hd b (List.mem_append_left _ hb)) q, RE.kp k m (fun b hb => hd b (List.mem_append_right _ hb)) q2, rfl⟩
theorem RE.mut : ∀ {w : Ev} {s : St} {fe : List Addr}, RE K H w s fe → ∀ a ∈ fe, Mut (H a)
  | [], s, fe, h => by obtain ⟨_, e⟩ := h; subst e; exact fun _ z => nomatch z
  | none :: r, s, fe, h => by
    obtain ⟨x, t, e, q⟩ := h
    exact RE.mut q
  | some d :: r, s, fe, h => by
    obtain ⟨v, t, f, g, e, q, q2, e2⟩ := h
    subst e2
    intro b hb
    rcases List.mem_append.mp hb with z | z
    · exact RV.mut d v f q b z
    · exact RE.mut q2 b z
theorem RE.length : ∀ {w : Ev} {s : St} {fe : List Addr}, RE K H w s fe → s.length = w.length
  | [], s, fe, h => by obtain ⟨e, _⟩ := h; subst e; rfl
  | none :: r, s, fe, h => by
    obtain ⟨x, t, e, q⟩ := h
    subst e
    rw [List.length_cons, List.length_cons, RE.length q]
  | some d :: r, s, fe, h => by
    obtain ⟨v, t, f, g, e, q, q2, e2⟩ := h
    subst e
    rw [List.length_cons, List.length_cons, RE.length q2]
/-- a slot's datum is taken out -/
theorem RE.take : ∀ {w : Ev} {s : St} {fe : List Addr} {i : Nat} {d : D}, RE K H w s fe → w[i]? = some (some d) →
    ∃ v f g, s[i]? = some (some v) ∧ RV K H d v f ∧ RE K H (w.set i none) s g ∧ fe.Perm (f ++ g)
  | [], s, fe, i, d, h, e => by simp at e
  | none :: r, s, fe, 0, d, h, e => by simp at e
  | none :: r, s, fe, i + 1, d, h, e => by
    obtain ⟨x, t, e1, q⟩ := h
    subst e1
    obtain ⟨v, f, g, h1, h2, h3, h4⟩ := RE.take (i := i) (d := d) q (by simpa using e)
    exact ⟨v, f, g, by simpa using h1, h2, ⟨x, t, rfl, h3⟩, h4⟩
  | some d0 :: r, s, fe, 0, d, h, e => by
    obtain ⟨v, t, f, g, e1, q, q2, e2⟩ := h
    simp at e
    subst e; subst e1; subst e2
    exact ⟨v, f, g, rfl, q, ⟨some v, t, rfl, q2⟩, .refl _⟩
  | some d0 :: r, s, fe, i + 1, d, h, e => by
    obtain ⟨v, t, f, g, e1, q, q2, e2⟩ := h
    subst e1; subst e2
    obtain ⟨v', f', g', h1, h2, h3, h4⟩ := RE.take (i := i) (d := d) q2 (by simpa using e)
    refine ⟨v', f', f ++ g', by simpa using h1, h2, ⟨v, t, f, g', rfl, q, h3, rfl⟩, ?_⟩
    refine (h4.append_left f).trans ?_
    rw [← List.append_assoc, ← List.append_assoc]
    exact (List.perm_append_comm (l₁ := f) (l₂ := f')).append_right g'
/-- a slot gets a datum (what it held is dropped) -/
theorem RE.put : ∀ {w : Ev} {s : St} {fe f : List Addr} {i : Nat} {d : D} {v : V}, RE K H w s fe → i < w.length → RV K H d v f →
    ∃ g, RE K H (w.set i (some d)) (s.set i (some v)) g ∧ ∃ g', (f ++ fe).Perm (g' ++ g)
  | [], s, fe, f, i, d, v, h, e, _ => by simp at e
  | none :: r, s, fe, f, 0, d, v, h, e, hv => by
    obtain ⟨x, t, e1, q⟩ := h
    subst e1
    exact ⟨f ++ fe, ⟨v, t, f, fe, rfl, hv, q, rfl⟩, [], .refl _⟩
  | none :: r, s, fe, f, i + 1, d, v, h, e, hv => by
    obtain ⟨x, t, e1, q⟩ := h
    subst e1
    obtain ⟨g, h1, g', h2⟩ := RE.put (i := i) q (by simpa using e) hv
    exact ⟨g, ⟨x, _, rfl, h1⟩, g', h2⟩
  | some d0 :: r, s, fe, f, 0, d, v, h, e, hv => by
    obtain ⟨v0, t, f0, g, e1, q, q2, e2⟩ := h
    subst e1; subst e2
    refine ⟨f ++ g, ⟨v, t, f, g, rfl, hv, q2, rfl⟩, f0, ?_⟩
    rw [← List.append_assoc, ← List.append_assoc]
    exact (List.perm_append_comm (l₁ := f) (l₂ := f0)).append_right g
  | some d0 :: r, s, fe, f, i + 1, d, v, h, e, hv => by
    obtain ⟨v0, t, f0, g, e1, q, q2, e2⟩ := h
    subst e1; subst e2
    obtain ⟨g1, h1, g', h2⟩ := RE.put (i := i) q2 (by simpa using e) hv
    refine ⟨f0 ++ g1, ⟨v0, _, f0, g1, rfl, q, h1, rfl⟩, g', ?_⟩
    have p1 : (f ++ (f0 ++ g)).Perm (f0 ++ (f ++ g)) := by
      rw [← List.append_assoc, ← List.append_assoc]
      exact (List.perm_append_comm (l₁ := f) (l₂ := f0)).append_right g
    have p2 : (f0 ++ (g' ++ g1)).Perm (g' ++ (f0 ++ g1)) := by
      rw [← List.append_assoc, ← List.append_assoc]
      exact (List.perm_append_comm (l₁ := f0) (l₂ := g')).append_right g1
    exact p1.trans ((h2.append_left f0).trans p2)
/-- a slot forgets -/
theorem RE.wipe : ∀ {w : Ev} {s : St} {fe : List Addr} (i : Nat), RE K H w s fe → ∃ g g', RE K H (w.set i none) s g ∧ fe.Perm (g' ++ g)
  | [], s, fe, i, h => ⟨fe, [], h, .refl _⟩
  | none :: r, s, fe, 0, h => ⟨fe, [], h, .refl _⟩
  | none :: r, s, fe, i + 1, h => by
    obtain ⟨x, t, e1, q⟩ := h
    subst e1
    obtain ⟨g, g', h1, h2⟩ := RE.wipe i q
    exact ⟨g, g', ⟨x, t, rfl, h1⟩, h2⟩
  | some d0 :: r, s, fe, 0, h => by
    obtain ⟨v0, t, f0, g, e1, q, q2, e2⟩ := h
    subst e1; subst e2
    exact ⟨g, f0, ⟨some v0, t, rfl, q2⟩, .refl _⟩
  | some d0 :: r, s, fe, i + 1, h => by
    obtain ⟨v0, t, f0, g, e1, q, q2, e2⟩ := h
    subst e1; subst e2
    obtain ⟨g1, g', h1, h2⟩ := RE.wipe i q2
    refine ⟨f0 ++ g1, g', ⟨v0, t, f0, g1, rfl, q, h1, rfl⟩, ?_⟩
    refine (h2.append_left f0).trans ?_
    rw [← List.append_assoc, ← List.append_assoc]
    exact (List.perm_append_comm (l₁ := f0) (l₂ := g')).append_right g1
/-- a slot's store, whose value was unknown -/
theorem RE.setNone : ∀ {w : Ev} {s : St} {fe : List Addr} (i : Nat) (x : Option V), RE K H w s fe → w[i]? = some none → RE K H w (s.set i x) fe
  | [], s, fe, i, x, h, e => by simp at e
  | none :: r, s, fe, 0, x, h, e => by
    obtain ⟨y, t, e1, q⟩ := h
    subst e1
    exact ⟨x, t, rfl, q⟩
  | none :: r, s, fe, i + 1, x, h, e => by
    obtain ⟨y, t, e1, q⟩ := h
    subst e1
    exact ⟨y, _, rfl, RE.setNone i x q (by simpa using e)⟩
  | some d0 :: r, s, fe, 0, x, h, e => by simp at e
  | some d0 :: r, s, fe, i + 1, x, h, e => by
    obtain ⟨v0, t, f0, g, e1, q, q2, e2⟩ := h
    subst e1; subst e2
    exact ⟨v0, _, f0, g, rfl, q, RE.setNone i x q2 (by simpa using e), rfl⟩
end

/-- the state: the names' data, and the data ds of values vs that are held beside; F: all that is owned -/
def Hold (K : PySem.W.Frag) (H : Hp) (w : Ev) (s : St) (ds : List D) (vs : List V) (F : List Addr) : Prop :=
  ∃ ft fe, RVs K H ds vs ft ∧ RE K H w s fe ∧ F.Perm (ft ++ fe) ∧ F.Nodup
section
variable {K : PySem.W.Frag} {H H' : Hp} {F F' : List Addr} {w w' : Ev} {s s' : St} {ds ds' : List D} {vs vs' : List V}
theorem Hold.mut (h : Hold K H w s ds vs F) : ∀ a ∈ F, Mut (H a) := by
  obtain ⟨ft, fe, h1, h2, p, nd⟩ := h
  intro a m
  rcases List.mem_append.mp (p.mem_iff.mp m) with z | z
  · exact RVs.mut _ _ _ h1 a z
  · exact h2.mut a z
theorem Hold.nd (h : Hold K H w s ds vs F) : F.Nodup := by
  obtain ⟨ft, fe, h1, h2, p, nd⟩ := h
  exact nd
/-- the held data are let go; F falls -/
theorem Hold.drop (h : Hold K H w s (ds ++ ds') (vs ++ vs') F) (hl : ds.length = vs.length) : ∃ F', Hold K H w s ds' vs' F' ∧ ∀ a ∈ F', a ∈ F := by
  obtain ⟨ft, fe, h1, h2, p, nd⟩ := h
  obtain ⟨vs1, vs2, f, g, e1, e2, q1, q2⟩ := RVs.split h1
  subst e2
  have hl2 := q1.length
  have e3 : vs = vs1 := by
    have := congrArg (List.take vs.length) e1
    rw [List.take_left, ← hl, hl2, List.take_left] at this
    exact this
  subst e3
  have e4 : vs' = vs2 := List.append_cancel_left e1
  subst e4
  refine ⟨g ++ fe, ⟨g, fe, q2, h2, .refl _, ?_⟩, fun a m => p.mem_iff.mpr ?_⟩
  · have := p.nodup_iff.mp nd
    rw [List.append_assoc] at this
    exact (List.nodup_append.mp this).2.1
  · rw [List.append_assoc]
    exact List.mem_append_right _ m
theorem Hold.drop0 (h : Hold K H w s ds vs F) : ∃ F', Hold K H w s [] [] F' ∧ ∀ a ∈ F', a ∈ F := by
  have hl : ds.length = vs.length := by
    obtain ⟨ft, fe, h1, _⟩ := h
    exact h1.length
  exact Hold.drop (ds' := []) (vs' := []) (by rw [List.append_nil, List.append_nil]; exact h) hl
/-- held data, and what a step from the rest of the state holds -/
theorem Hold.frame (h : Hold K H w s ds vs F) : ∃ F0, Hold K H w s [] [] F0 ∧ (∀ a ∈ F0, a ∈ F) ∧
    ∀ {H' : Hp} {w' : Ev} {s' : St} {ds' : List D} {vs' : List V} {F1 : List Addr}, Stp F0 H F1 H' → Hold K H' w' s' ds' vs' F1 →
      ∃ F', Hold K H' w' s' (ds ++ ds') (vs ++ vs') F' ∧ Stp F H F' H' := by
  have hm := h.mut
  obtain ⟨ft, fe, h1, h2, p, nd⟩ := h
  have nd2 := p.nodup_iff.mp nd
  obtain ⟨nd3, nd4, nd5⟩ := List.nodup_append.mp nd2
  refine ⟨fe, ⟨[], fe, ⟨rfl, rfl⟩, h2, .refl _, nd4⟩, fun a m => p.mem_iff.mpr (List.mem_append_right _ m), fun {H' w' s' ds' vs' F1} st h' => ?_⟩
  obtain ⟨ft', fe', h1', h2', p', nd'⟩ := h'
  have dj : ∀ a ∈ ft, a ∉ F1 := fun a m z => by
    rcases st.new a z with q | q
    · exact nd5 a m a q rfl
    · have := hm a (p.mem_iff.mpr (List.mem_append_left _ m))
      rw [q] at this; exact this
  have k1 : RVs K H' ds vs ft := RVs.kp st.keep (fun a m => hm a (p.mem_iff.mpr (List.mem_append_right _ m))) ds vs ft (fun a m z => nd5 a m a z rfl) h1
  refine ⟨ft ++ F1, ⟨ft ++ ft', fe', k1.append h1', h2', ?_, ?_⟩, ⟨fun a o e n => st.keep a o e fun z => n (p.mem_iff.mpr (List.mem_append_right _ z)), fun a m => ?_⟩⟩
  · rw [List.append_assoc]
    exact p'.append_left ft
  · exact List.nodup_append.mpr ⟨nd3, nd', fun a m b n e => dj a m (e ▸ n)⟩
  · rcases List.mem_append.mp m with z | z
    · exact .inl (p.mem_iff.mpr (List.mem_append_left _ z))
    · rcases st.new a z with q | q
      · exact .inl (p.mem_iff.mpr (List.mem_append_right _ q))
      · exact .inr q
end
end Pm

set_option autoImplicit true
namespace Pm
open PySem PySem.Spec L2

/-- an exception of a class of the program's, its fields fs -/
def ExR (K : PySem.W.Frag) (mg : Str → Option Value) (H : Hp) (c : Str) (fs : List (Str × D)) (cls : Value) (od : Option Addr) : Prop :=
  ∃ (C d : Addr) (us : List (Str × V)), cls = .ref C ∧ mg c = some (.ref C) ∧ od = some d ∧ H d = some (.xd us) ∧ ∀ f x, fs.lookup f = some x → ∃ v, us.lookup f = some v ∧ RV K H x v []

section
variable (K : PySem.W.Frag) (mg : Str → Option Value) (Eh : WX)
/-- what must hold behind code that ends as r -/
def Po (H : Hp) (F : List Addr) (s : L2.St) {α : Type} (r : Rs α) (Q : α → Ev → Prop) : Prop :=
  match r with
  | .ok a w => Q a w
  | .ex c fs w => ∀ cls od H' F', Stp F H F' H' → Hold K H' w s [] [] F' → ExR K mg H' c fs cls od → Eh cls od s H'
  | .bad => False
/-- an expression whose value is handed out with what it owns -/
def tP (f : PM D) : TE := fun s H Q => ∃ w F, Hold K H w s [] [] F ∧ Po K mg Eh H F s (f w) fun d w' => ∀ v H' F', Stp F H F' H' → Hold K H' w' s [d] [v] F' → Q v H'
/-- a list of them -/
def tA (f : PM (List D)) : TA := fun s H Q => ∃ w F, Hold K H w s [] [] F ∧ Po K mg Eh H F s (f w) fun ds w' => ∀ vs H' F', Stp F H F' H' → Hold K H' w' s ds vs F' → Q vs H'
/-- a test -/
def tT (f : PM Bool) : TT := fun s H Q => ∃ w F, Hold K H w s [] [] F ∧ Po K mg Eh H F s (f w) fun b w' => ∀ H' F', Stp F H F' H' → Hold K H' w' s [] [] F' → Q b H'
/-- a place: nothing happens, the value stays where it is -/
def tB (K : PySem.W.Frag) (q : Ev → Option D) : TE := fun s H Q => ∃ w F d, Hold K H w s [] [] F ∧ q w = some d ∧ ∀ v f, RV K H d v f → (∀ a ∈ f, a ∈ F) → Q v H
end
def slot (w : Ev) (j : Nat) : Option D := match w[j]? with
  | some (some d) => some d
  | _ => none
theorem slot_some {w : Ev} {j : Nat} {d : D} (h : slot w j = some d) : w[j]? = some (some d) := by
  unfold slot at h
  split at h
  · rename_i e; rw [e]; cases h; rfl
  · cases h
/-- a name's slot -/
def tV (K : PySem.W.Frag) (j : Nat) : TE := fun s H Q => ∃ w F d, Hold K H w s [] [] F ∧ slot w j = some d ∧ ∀ v, s[j]? = some (some v) → Q v H

section
variable {X : Cx} {Eh : WX}
theorem _root_.L2.PE.imp {e : Expr} {t t' : TE} (h : PE X e t) (i : ∀ s H Q, t' s H Q → t s H Q) : PE X e t' := ⟨fun pins s σ H Q I q => h.run pins s σ H Q I (i _ _ _ q)⟩
theorem _root_.L2.PT.imp {e : Expr} {t t' : TT} (h : PT X e t) (i : ∀ s H Q, t' s H Q → t s H Q) : PT X e t' := ⟨fun pins s σ H Q I q => h.run pins s σ H Q I (i _ _ _ q)⟩
theorem _root_.L2.PW.imp {e : Expr} {t t' : TT} (h : PW X e t) (i : ∀ s H Q, t' s H Q → t s H Q) : PW X e t' := ⟨fun wh pins s σ H Q I q => h.run wh pins s σ H Q I (i _ _ _ q)⟩
theorem _root_.L2.PA.imp {es : List Expr} {t t' : TA} (h : PA X es t) (i : ∀ s H Q, t' s H Q → t s H Q) : PA X es t' := ⟨fun pos pins s σ H Q I q => h.run pos pins s σ H Q I (i _ _ _ q)⟩
theorem _root_.L2.PS.imp {e : Stmt} {t t' : TS} (h : PS X e t) (i : ∀ D s H, t' D s H → t D s H) : PS X e t' := ⟨fun pins s σ H D I q => h.run pins s σ H D I (i _ _ _ q)⟩
theorem _root_.L2.PSs.imp {e : List Stmt} {t t' : TS} (h : PSs X e t) (i : ∀ D s H, t' D s H → t D s H) : PSs X e t' := ⟨fun pins s σ H D I q => h.run pins s σ H D I (i _ _ _ q)⟩

variable {H H1 H2 : Hp} {F F1 F2 : List Addr} {s : L2.St} {α β : Type}
theorem Stp.mono {F F' F0 : List Addr} {H H' : Hp} (h : Stp F0 H F' H') (m : ∀ a ∈ F0, a ∈ F) : Stp F H F' H' :=
  ⟨fun a o e n => h.keep a o e fun z => n (m a z), fun a q => (h.new a q).imp (m a) id⟩
/-- a part of code runs, data ds held beside it -/
theorem tP_run {f : PM D} {k : D → Ev → Rs β} {Q' : β → Ev → Prop} {R : VK} {w1 : Ev} {ds : List D} {vs : List V}
    (hold : Hold X.K H1 w1 s ds vs F1) (st : Stp F H F1 H1) (h : Po X.K X.mg Eh H F s ((f w1).bind k) Q')
    (c : ∀ d w2 v H2 F2, f w1 = .ok d w2 → Stp F H F2 H2 → Hold X.K H2 w2 s (ds ++ [d]) (vs ++ [v]) F2 → Po X.K X.mg Eh H F s (k d w2) Q' → R v H2) : tP X.K X.mg Eh f s H1 R := by
  obtain ⟨F0, h0, sub, fr⟩ := hold.frame
  refine ⟨w1, F0, h0, ?_⟩
  cases e : f w1 with
  | ok d w2 =>
    rw [e] at h
    intro v H' F' st' h'
    obtain ⟨F2, h2, st2⟩ := fr st' h'
    exact c d w2 v H' F2 e (st.trans st2) h2 h
  | ex cc fs w2 =>
    rw [e] at h
    intro cls od H' F' st' h' x
    exact h cls od H' F' (st.trans (st'.mono sub)) h' x
  | bad => rw [e] at h; exact h
theorem tA_run {f : PM (List D)} {k : List D → Ev → Rs β} {Q' : β → Ev → Prop} {R : List V → Hp → Prop} {w1 : Ev} {ds : List D} {vs : List V}
    (hold : Hold X.K H1 w1 s ds vs F1) (st : Stp F H F1 H1) (h : Po X.K X.mg Eh H F s ((f w1).bind k) Q')
    (c : ∀ es w2 us H2 F2, f w1 = .ok es w2 → Stp F H F2 H2 → Hold X.K H2 w2 s (ds ++ es) (vs ++ us) F2 → Po X.K X.mg Eh H F s (k es w2) Q' → R us H2) : tA X.K X.mg Eh f s H1 R := by
  obtain ⟨F0, h0, sub, fr⟩ := hold.frame
  refine ⟨w1, F0, h0, ?_⟩
  cases e : f w1 with
  | ok d w2 =>
    rw [e] at h
    intro v H' F' st' h'
    obtain ⟨F2, h2, st2⟩ := fr st' h'
    exact c d w2 v H' F2 e (st.trans st2) h2 h
  | ex cc fs w2 =>
    rw [e] at h
    intro cls od H' F' st' h' x
    exact h cls od H' F' (st.trans (st'.mono sub)) h' x
  | bad => rw [e] at h; exact h
theorem tT_run {f : PM Bool} {k : Bool → Ev → Rs β} {Q' : β → Ev → Prop} {R : Bool → Hp → Prop} {w1 : Ev} {ds : List D} {vs : List V}
    (hold : Hold X.K H1 w1 s ds vs F1) (st : Stp F H F1 H1) (h : Po X.K X.mg Eh H F s ((f w1).bind k) Q')
    (c : ∀ b w2 H2 F2, f w1 = .ok b w2 → Stp F H F2 H2 → Hold X.K H2 w2 s ds vs F2 → Po X.K X.mg Eh H F s (k b w2) Q' → R b H2) : tT X.K X.mg Eh f s H1 R := by
  obtain ⟨F0, h0, sub, fr⟩ := hold.frame
  refine ⟨w1, F0, h0, ?_⟩
  cases e : f w1 with
  | ok d w2 =>
    rw [e] at h
    intro H' F' st' h'
    obtain ⟨F2, h2, st2⟩ := fr st' h'
    rw [List.append_nil, List.append_nil] at h2
    exact c d w2 H' F2 e (st.trans st2) h2 h
  | ex cc fs w2 =>
    rw [e] at h
    intro cls od H' F' st' h' x
    exact h cls od H' F' (st.trans (st'.mono sub)) h' x
  | bad => rw [e] at h; exact h
theorem Hold.atSlot {K : PySem.W.Frag} {w : Ev} {ds : List D} {vs : List V} {j : Nat} {d : D} (h : Hold K H w s ds vs F) (e : slot w j = some d) : ∃ v f, s[j]? = some (some v) ∧ RV K H d v f ∧ ∀ a ∈ f, a ∈ F := by
  obtain ⟨ft, fe, h1, h2, p, nd⟩ := h
  obtain ⟨v, f, g, a, b, _, q⟩ := h2.take (slot_some e)
  exact ⟨v, f, a, b, fun c m => p.mem_iff.mpr (List.mem_append_right _ (q.mem_iff.mpr (List.mem_append_left _ m)))⟩
theorem tV_run {R : VK} {w1 : Ev} {ds : List D} {vs : List V} {j : Nat} {d : D}
    (hold : Hold X.K H1 w1 s ds vs F1) (e : slot w1 j = some d) (c : ∀ v f, s[j]? = some (some v) → RV X.K H1 d v f → (∀ a ∈ f, a ∈ F1) → R v H1) : tV X.K j s H1 R := by
  obtain ⟨F0, h0, sub, fr⟩ := hold.frame
  obtain ⟨v0, f, e0, r, m⟩ := hold.atSlot e
  refine ⟨w1, F0, d, h0, e, fun v hv => ?_⟩
  rw [e0] at hv
  cases hv
  exact c _ f e0 r m
theorem tB_run {R : VK} {w1 : Ev} {ds : List D} {vs : List V} {q : Ev → Option D} {d : D}
    (hold : Hold X.K H1 w1 s ds vs F1) (e : q w1 = some d) (c : ∀ v f, RV X.K H1 d v f → (∀ a ∈ f, a ∈ F1) → R v H1) : tB X.K q s H1 R := by
  obtain ⟨F0, h0, sub, fr⟩ := hold.frame
  exact ⟨w1, F0, d, h0, e, fun v f r m => c v f r fun a z => sub a (m a z)⟩

/-- new: all that was is kept, the value owns new things alone -/
def NewV (K : PySem.W.Frag) (H H' : Hp) (z : D) (v : V) : Prop := Kp [] H H' ∧ ∃ f, RV K H' z v f ∧ f.Nodup ∧ ∀ a ∈ f, H a = none
theorem NewV.plain {K : PySem.W.Frag} {z : D} {v : V} (h : RV K H z v []) : NewV K H H z v := ⟨fun _ _ e _ => e, [], h, .nil, fun _ z => nomatch z⟩
theorem NewV.mine {K : PySem.W.Frag} {z : D} {v : V} {f : List Addr} (h : RV K H z v f) (p : pl z = true) : NewV K H H z v := by
  have e := rv_pl z v f p h
  subst e
  exact .plain h
theorem fin_new {w : Ev} {z : D} {v : V} {Q : VK} {ds : List D} {vs : List V} (q : ∀ v H' F', Stp F H F' H' → Hold X.K H' w s [z] [v] F' → Q v H') (st : Stp F H F2 H2) (hold : Hold X.K H2 w s ds vs F2) (n : NewV X.K H2 H1 z v) : Q v H1 := by
  obtain ⟨F0, h0, sub⟩ := hold.drop0
  have hm := h0.mut
  obtain ⟨k, f, rv, nd, fr⟩ := n
  obtain ⟨ft, fe, h1, h2, p, nd0⟩ := h0
  have e0 : ft = [] := h1.2
  subst e0
  have k2 : RE X.K H1 w s fe := h2.kp (F := []) k (fun _ z => nomatch z) fun _ _ z => nomatch z
  refine q v H1 (f ++ fe) (st.trans (F1 := F2) ⟨fun a o e n => k a o e (fun z => nomatch z), fun a m => ?_⟩) ⟨f, fe, RVs.one rv, k2, .refl _, ?_⟩
  · rcases List.mem_append.mp m with z | z
    · exact .inr (fr a z)
    · exact .inl (sub a (p.mem_iff.mpr z))
  · refine List.nodup_append.mpr ⟨nd, p.nodup_iff.mp nd0, fun a m b m2 e => ?_⟩
    subst e
    have := hm a (p.mem_iff.mpr m2)
    rw [fr a m] at this
    exact this

/-! ### constants and names -/
def xC (d : D) : PM D := fun w => .ok d w
theorem pp_c {e : Expr} {v : V} {d : D} (h : PE X e (tC v)) (r : ∀ K H, RV K H d v []) : PE X e (tP X.K X.mg Eh (xC d)) := h.imp fun s H Q ⟨w, F, hold, q⟩ =>
  fin_new q (Stp.refl fun _ m => m) hold (.plain (r _ _))
theorem pp_int {i j pos} : PE X (.Constant (.int i) j pos) (tP X.K X.mg Eh (xC (.int i))) := pp_c pe_int fun _ _ => ⟨rfl, rfl⟩
theorem pp_bl {b j pos} : PE X (.Constant (.bool b) j pos) (tP X.K X.mg Eh (xC (.bl b))) := pp_c pe_bl fun _ _ => ⟨rfl, rfl⟩
theorem pp_non {j pos} : PE X (.Constant .none j pos) (tP X.K X.mg Eh (xC .non)) := pp_c pe_non fun _ _ => ⟨rfl, rfl⟩
theorem pp_str {x j pos} : PE X (.Constant (.str x) j pos) (tP X.K X.mg Eh (xC (.str x))) := pp_c pe_str fun _ _ => ⟨rfl, rfl⟩
def qV (j : Nat) : Ev → Option D := fun w => slot w j
theorem pv_var {e : Expr} {j : Nat} (h : PE X e (tVar j)) : PE X e (tV X.K j) := h.imp fun s H Q ⟨w, F, d, hold, e, q⟩ => by
  obtain ⟨v, f, e1, r, m⟩ := hold.atSlot e
  exact ⟨v, e1, q v e1⟩
theorem pb_var {e : Expr} {j : Nat} (h : PE X e (tVar j)) : PE X e (tB X.K (qV j)) := h.imp fun s H Q ⟨w, F, d, hold, e, q⟩ => by
  obtain ⟨v, f, e1, r, m⟩ := hold.atSlot e
  exact ⟨v, e1, q v f r m⟩
/-- a place's value, which owns nothing -/
def xP (q : Ev → Option D) : PM D := fun w => match q w with
  | some d => if pl d = true then .ok d w else .bad
  | none => .bad
theorem xP_ok {q : Ev → Option D} {w : Ev} {d : D} (h : q w = some d) (p : pl d = true) : xP q w = .ok d w := by unfold xP; rw [h]; exact if_pos p
theorem pp_place {e : Expr} {q : Ev → Option D} (h : PE X e (tB X.K q)) : PE X e (tP X.K X.mg Eh (xP q)) := h.imp fun s H Q ⟨w, F, hold, q0⟩ => by
  cases e : q w with
  | none => rw [show xP q w = .bad by unfold xP; rw [e]] at q0; exact q0.elim
  | some d =>
    by_cases p : pl d = true
    · rw [xP_ok e p] at q0
      exact ⟨w, F, d, hold, e, fun v f r m => fin_new q0 (Stp.refl fun _ m => m) hold (.mine r p)⟩
    · rw [show xP q w = .bad by unfold xP; rw [e]; exact if_neg p] at q0; exact q0.elim
/-- an owned thing leaves its slot -/
def xT (j : Nat) : PM D := fun w => match slot w j with
  | some d => .ok d (w.set j none)
  | none => .bad
theorem pp_take {e : Expr} {j : Nat} (h : PE X e (tVar j)) : PE X e (tP X.K X.mg Eh (xT j)) := h.imp fun s H Q ⟨w, F, hold, q0⟩ => by
  cases e : slot w j with
  | none => rw [show xT j w = .bad by unfold xT; rw [e]] at q0; exact q0.elim
  | some d =>
    rw [show xT j w = .ok d (w.set j none) by unfold xT; rw [e]] at q0
    obtain ⟨ft, fe, h1, h2, p, nd⟩ := hold
    have e0 : ft = [] := h1.2
    subst e0
    obtain ⟨v, f, g, a, b, c, pp⟩ := h2.take (slot_some e)
    refine ⟨v, a, q0 v H F (Stp.refl fun _ m => m) ⟨f, g, RVs.one b, c, p.trans pp, nd⟩⟩

/-! ### operations that read -/
def Ro1 (K : PySem.W.Frag) (r : V → Hp → VK → Prop) (op : D → Option D) : Prop := ∀ H x dx fx z Q, RV K H dx x fx → op dx = some z → (∀ v H', NewV K H H' z v → Q v H') → r x H Q
def Ro2 (K : PySem.W.Frag) (r : V → V → Hp → VK → Prop) (op : D → D → Option D) : Prop := ∀ H x y dx dy fx fy z Q, RV K H dx x fx → RV K H dy y fy → op dx dy = some z → (∀ v H', NewV K H H' z v → Q v H') → r x y H Q
def back (o : Option D) (w : Ev) : Rs D := match o with
  | some z => .ok z w
  | none => .bad
@[simp] theorem back_some (z : D) (w : Ev) : back (some z) w = .ok z w := rfl
@[simp] theorem back_none (w : Ev) : back none w = .bad := rfl
def x1g (op : D → Option D) (f : PM D) : PM D := fun w => (f w).bind fun x w1 => back (op x) w1
def x1p (op : D → Option D) (q : Ev → Option D) : PM D := fun w => back ((q w).bind op) w
def x2gg (op : D → D → Option D) (f g : PM D) : PM D := fun w => (f w).bind fun x w1 => (g w1).bind fun y w2 => back (op x y) w2
def x2gp (op : D → D → Option D) (f : PM D) (q : Ev → Option D) : PM D := fun w => (f w).bind fun x w1 => back ((q w1).bind (op x)) w1
def x2vg (op : D → D → Option D) (j : Nat) (g : PM D) : PM D := fun w => match slot w j with
  | some _ => (g w).bind fun y w2 => back ((slot w2 j).bind fun x => op x y) w2
  | none => .bad
def x2pp (op : D → D → Option D) (q1 q2 : Ev → Option D) : PM D := fun w => back ((q1 w).bind fun x => (q2 w).bind (op x)) w

theorem Hold.last {K : PySem.W.Frag} {w : Ev} {ds : List D} {vs : List V} {d : D} {v : V} (h : Hold K H w s (ds ++ [d]) (vs ++ [v]) F) (hl : ds.length = vs.length) : ∃ f, RV K H d v f ∧ ∀ a ∈ f, a ∈ F := by
  obtain ⟨F', h', sub⟩ := h.drop hl
  obtain ⟨ft, fe, h1, h2, p, nd⟩ := h'
  exact ⟨ft, h1.one', fun a m => sub a (p.mem_iff.mpr (List.mem_append_left _ m))⟩
theorem Hold.two {K : PySem.W.Frag} {w : Ev} {d e : D} {v u : V} (h : Hold K H w s [d, e] [v, u] F) : ∃ f g, RV K H d v f ∧ RV K H e u g ∧ (∀ a ∈ f, a ∈ F) ∧ ∀ a ∈ g, a ∈ F := by
  obtain ⟨ft, fe, h1, h2, p, nd⟩ := h
  obtain ⟨v', r, f, g, e1, q, q2, e2⟩ := h1
  injection e1 with e3 e4
  subst e3; subst e4; subst e2
  exact ⟨f, g, q, q2.one', fun a m => p.mem_iff.mpr (List.mem_append_left _ (List.mem_append_left _ m)), fun a m => p.mem_iff.mpr (List.mem_append_left _ (List.mem_append_right _ m))⟩
theorem Hold.one {K : PySem.W.Frag} {w : Ev} {d : D} {v : V} (h : Hold K H w s [d] [v] F) : ∃ f, RV K H d v f ∧ ∀ a ∈ f, a ∈ F := Hold.last (ds := []) (vs := []) h rfl
theorem back_po {o : Option D} {w : Ev} {Q : D → Ev → Prop} (h : Po X.K X.mg Eh H F s (back o w) Q) : ∃ z, o = some z ∧ Q z w := by
  cases o with
  | none => exact h.elim
  | some z => exact ⟨z, rfl, h⟩
theorem imp1g {r : V → Hp → VK → Prop} {op : D → Option D} {f : PM D} (hr : Ro1 X.K r op) {Q : VK} (h : tP X.K X.mg Eh (x1g op f) s H Q) : tP X.K X.mg Eh f s H fun x H1 => r x H1 Q := by
  obtain ⟨w, F, hold, q⟩ := h
  refine tP_run hold (Stp.refl fun _ m => m) q fun d w2 v H2 F2 e st h2 q2 => ?_
  obtain ⟨z, hz, q3⟩ := back_po q2
  obtain ⟨fx, rx, _⟩ := Hold.one h2
  exact hr H2 v d fx z Q rx hz fun u H' n => fin_new q3 st h2 n
theorem imp1p {r : V → Hp → VK → Prop} {op : D → Option D} {p : Ev → Option D} (hr : Ro1 X.K r op) {Q : VK} (h : tP X.K X.mg Eh (x1p op p) s H Q) : tB X.K p s H fun x H1 => r x H1 Q := by
  obtain ⟨w, F, hold, q⟩ := h
  obtain ⟨z, hz, q3⟩ := back_po q
  obtain ⟨d, hd, hz⟩ := Option.bind_eq_some_iff.mp hz
  exact tB_run hold hd fun v f r m => hr H v d f z Q r hz fun u H' n => fin_new q3 (Stp.refl fun _ m => m) hold n
theorem imp2gg {r : V → V → Hp → VK → Prop} {op : D → D → Option D} {f g : PM D} (hr : Ro2 X.K r op) {Q : VK} (h : tP X.K X.mg Eh (x2gg op f g) s H Q) :
    tP X.K X.mg Eh f s H fun x H1 => tP X.K X.mg Eh g s H1 fun y H2 => r x y H2 Q := by
  obtain ⟨w, F, hold, q⟩ := h
  refine tP_run hold (Stp.refl fun _ m => m) q fun d w2 v H2 F2 e st h2 q2 => ?_
  refine tP_run h2 st q2 fun d' w3 v' H3 F3 e' st' h3 q3 => ?_
  obtain ⟨z, hz, q4⟩ := back_po q3
  obtain ⟨fx, fy, rx, ry, _⟩ := Hold.two h3
  exact hr H3 v v' d d' fx fy z Q rx ry hz fun u H' n => fin_new q4 st' h3 n
theorem imp2gp {r : V → V → Hp → VK → Prop} {op : D → D → Option D} {f : PM D} {p : Ev → Option D} (hr : Ro2 X.K r op) {Q : VK} (h : tP X.K X.mg Eh (x2gp op f p) s H Q) :
    tP X.K X.mg Eh f s H fun x H1 => tB X.K p s H1 fun y H2 => r x y H2 Q := by
  obtain ⟨w, F, hold, q⟩ := h
  refine tP_run hold (Stp.refl fun _ m => m) q fun d w2 v H2 F2 e st h2 q2 => ?_
  obtain ⟨z, hz, q3⟩ := back_po q2
  obtain ⟨d', hd, hz⟩ := Option.bind_eq_some_iff.mp hz
  obtain ⟨fx, rx, _⟩ := Hold.one h2
  exact tB_run h2 hd fun v' f r m => hr H2 v v' d d' fx f z Q rx r hz fun u H' n => fin_new q3 st h2 n
theorem imp2vg {r : V → V → Hp → VK → Prop} {op : D → D → Option D} {j : Nat} {g : PM D} (hr : Ro2 X.K r op) {Q : VK} (h : tP X.K X.mg Eh (x2vg op j g) s H Q) :
    tV X.K j s H fun x H1 => tP X.K X.mg Eh g s H1 fun y H2 => r x y H2 Q := by
  obtain ⟨w, F, hold, q⟩ := h
  unfold x2vg at q
  cases e : slot w j with
  | none => rw [e] at q; exact q.elim
  | some d0 =>
    rw [e] at q
    refine tV_run hold e fun v f ej _ _ => ?_
    refine tP_run hold (Stp.refl fun _ m => m) q fun d' w3 v' H3 F3 e' st' h3 q3 => ?_
    obtain ⟨z, hz, q4⟩ := back_po q3
    obtain ⟨d, hd, hz⟩ := Option.bind_eq_some_iff.mp hz
    obtain ⟨v2, f2, ej2, r2, _⟩ := h3.atSlot hd
    rw [ej] at ej2
    cases ej2
    obtain ⟨fy, ry, _⟩ := Hold.one h3
    exact hr H3 v v' d d' f2 fy z Q r2 ry hz fun u H' n => fin_new q4 st' h3 n
theorem imp2pp {r : V → V → Hp → VK → Prop} {op : D → D → Option D} {p p' : Ev → Option D} (hr : Ro2 X.K r op) {Q : VK} (h : tP X.K X.mg Eh (x2pp op p p') s H Q) :
    tB X.K p s H fun x H1 => tB X.K p' s H1 fun y H2 => r x y H2 Q := by
  obtain ⟨w, F, hold, q⟩ := h
  obtain ⟨z, hz, q3⟩ := back_po q
  obtain ⟨d, hd, hz⟩ := Option.bind_eq_some_iff.mp hz
  obtain ⟨d', hd', hz⟩ := Option.bind_eq_some_iff.mp hz
  exact tB_run hold hd fun v f r m => tB_run hold hd' fun v' f' r' m' => hr H v v' d d' f f' z Q r r' hz fun u H' n => fin_new q3 (Stp.refl fun _ m => m) hold n

/-! ### lists of arguments, handed over -/
def xNil : PM (List D) := fun w => .ok [] w
def xCons (f : PM D) (g : PM (List D)) : PM (List D) := fun w => (f w).bind fun d w1 => (g w1).bind fun ds w2 => .ok (d :: ds) w2
theorem pa0 : PA X [] (tA X.K X.mg Eh xNil) := pa_nil.imp fun s H Q ⟨w, F, hold, q⟩ => q [] H F (Stp.refl fun _ m => m) hold
theorem pa1 {e : Expr} {es : List Expr} {f : PM D} {g : PM (List D)} (h : PE X e (tP X.K X.mg Eh f)) (hr : PA X es (tA X.K X.mg Eh g)) (hs : starEach (e :: es) X.env = (false, eval e X.env) :: starEach es X.env := by rfl) : PA X (e :: es) (tA X.K X.mg Eh (xCons f g)) :=
  (pa_cons h hr hs).imp fun s H Q ⟨w, F, hold, q⟩ => by
    refine tP_run hold (Stp.refl fun _ m => m) q fun d w2 v H2 F2 e st h2 q2 => ?_
    refine tA_run h2 st q2 fun ds w3 vs H3 F3 e' st' h3 q3 => ?_
    exact q3 (v :: vs) H3 F3 st' h3
end
end Pm

set_option autoImplicit true
namespace Pm
open PySem PySem.Spec L2

section
variable {K : PySem.W.Frag} {H : Hp}
theorem new_tup {xs : List D} {vs : List V} {p : Addr} (r : RVs K H xs vs []) (n : H p = none) : NewV K H (upd H p (.tup vs)) (.tup xs) (.ref p) := by
  have k : Kp [] H (upd H p (.tup vs)) := fun a o e _ => by rw [upd_ne (ne_of_none e n)]; exact e
  exact ⟨k, [], ⟨p, vs, rfl, .inl (.inl upd_same), RVs.kp k (fun _ z => nomatch z) _ _ _ (fun _ z => nomatch z) r⟩, .nil, fun _ z => nomatch z⟩
theorem new_own {xs : List D} {vs : List V} {p : Addr} (r : RVs K H xs vs []) (n : H p = none) : NewV K H (upd H p (.lst vs)) (.own xs) (.ref p) := by
  have k : Kp [] H (upd H p (.lst vs)) := fun a o e _ => by rw [upd_ne (ne_of_none e n)]; exact e
  refine ⟨k, [p], ⟨p, vs, [], rfl, upd_same, RVs.kp k (fun _ z => nomatch z) _ _ _ (fun _ z => nomatch z) r, rfl⟩, by simp, fun a m => ?_⟩
  have e : a = p := by simpa using m
  rw [e]; exact n
theorem RVs.nil_of {xs : List D} {vs : List V} {f : List Addr} (r : RVs K H xs vs f) (p : pls xs = true) : RVs K H xs vs [] := by
  have e := rvs_pl xs vs f p r
  subst e
  exact r
theorem RV.nil_of {d : D} {v : V} {f : List Addr} (r : RV K H d v f) (p : pl d = true) : RV K H d v [] := by
  have e := rv_pl d v f p r
  subst e
  exact r
end
theorem pls_get : ∀ {xs : List D} {i : Nat} {d : D}, pls xs = true → xs[i]? = some d → pl d = true
  | [], i, d, _, e => by simp at e
  | x :: xs, 0, d, p, e => by
    unfold pls at p
    rw [Bool.and_eq_true] at p
    simp at e; subst e; exact p.1
  | x :: xs, i + 1, d, p, e => by
    unfold pls at p
    rw [Bool.and_eq_true] at p
    exact pls_get (i := i) p.2 (by simpa using e)
theorem pls_append {xs ys : List D} : pls (xs ++ ys) = (pls xs && pls ys) := by
  induction xs with
  | nil => rfl
  | cons x xs ih => show (pl x && pls (xs ++ ys)) = _; rw [ih, ← Bool.and_assoc]; rfl
theorem pls_all {xs : List D} : pls xs = true ↔ ∀ d ∈ xs, pl d = true := by
  induction xs with
  | nil => exact Iff.intro (fun _ d m => absurd m (by simp)) (fun _ => rfl)
  | cons x xs ih =>
    show (pl x && pls xs) = true ↔ _
    rw [Bool.and_eq_true, ih]
    exact ⟨fun ⟨a, b⟩ d m => (List.mem_cons.mp m).elim (fun e => e ▸ a) (b d), fun h => ⟨h x List.mem_cons_self, fun d m => h d (List.mem_cons_of_mem _ m)⟩⟩

/-- the items of a list or tuple -/
def seqD : D → Option (List D)
  | .tup xs => some xs
  | .lst xs => some xs
  | .own xs => some xs
  | _ => none
theorem seqD_rv {K : PySem.W.Frag} {H : Hp} {d : D} {v : V} {f : List Addr} {xs : List D} (r : RV K H d v f) (e : seqD d = some xs) : ∃ a vs g, v = .ref a ∧ (SqL K H a vs ∨ SqT K H a vs) ∧ RVs K H xs vs g := by
  cases d with
  | tup ys => cases e; obtain ⟨a, vs, e, q, r⟩ := r; exact ⟨a, vs, f, e, .inr q, r⟩
  | lst ys => cases e; obtain ⟨a, vs, e, q, r, _⟩ := r; exact ⟨a, vs, [], e, .inl q.sq, r⟩
  | own ys => cases e; obtain ⟨a, vs, g, e, q, r, _⟩ := r; exact ⟨a, vs, g, e, .inl (.of q), r⟩
  | non => cases e
  | bl b => cases e
  | int i => cases e
  | str x => cases e

/-! ### ints -/
def dI (g : Int → Int → Option D) : D → D → Option D
  | .int i, .int j => g i j
  | _, _ => none
theorem dI_some {g : Int → Int → Option D} {x y z : D} (h : dI g x y = some z) : ∃ i j, x = .int i ∧ y = .int j ∧ g i j = some z := by
  cases x <;> cases y <;> first
    | exact ⟨_, _, rfl, rfl, h⟩
    | cases h
theorem ro_I0 {K : PySem.W.Frag} {g : Int → Int → Int} : Ro2 K (rI0 fun i j => .int (g i j)) (dI fun i j => some (.int (g i j))) := fun H x y dx dy fx fy z Q rx ry e q => by
  obtain ⟨i, j, rfl, rfl, e⟩ := dI_some e
  cases e
  exact ⟨i, j, rx.1, ry.1, q _ _ (.plain ⟨rfl, rfl⟩)⟩
theorem ro_B0 {K : PySem.W.Frag} {g : Int → Int → Bool} : Ro2 K (rI0 fun i j => .bl (g i j)) (dI fun i j => some (.bl (g i j))) := fun H x y dx dy fx fy z Q rx ry e q => by
  obtain ⟨i, j, rfl, rfl, e⟩ := dI_some e
  cases e
  exact ⟨i, j, rx.1, ry.1, q _ _ (.plain ⟨rfl, rfl⟩)⟩
theorem ro_IC {K : PySem.W.Frag} {C : Int → Int → Prop} {g : Int → Int → Int} {c : Int → Int → Bool} (hc : ∀ i j, c i j = true → C i j) : Ro2 K (rI C fun i j => .int (g i j)) (dI fun i j => if c i j = true then some (.int (g i j)) else none) := fun H x y dx dy fx fy z Q rx ry e q => by
  obtain ⟨i, j, hx, hy, e2⟩ := dI_some e
  clear e
  subst hx; subst hy
  replace e2 : (if c i j = true then some (D.int (g i j)) else none) = some z := e2
  by_cases h : c i j = true
  · rw [if_pos h] at e2
    cases e2
    exact ⟨i, j, rx.1, ry.1, hc i j h, q _ _ (.plain ⟨rfl, rfl⟩)⟩
  · rw [if_neg h] at e2; cases e2
theorem Ro2.or {K : PySem.W.Frag} {r r' : R2} {op op' : D → D → Option D} (h : Ro2 K r op) (h' : Ro2 K r' op') : Ro2 K (fun x y H Q => r x y H Q ∨ r' x y H Q) fun x y => (op x y).orElse fun _ => op' x y := fun H x y dx dy fx fy z Q rx ry e q => by
  replace e : ((op dx dy).orElse fun _ => op' dx dy) = some z := e
  cases e1 : op dx dy with
  | some z1 => rw [e1] at e; cases e; exact .inl (h H x y dx dy fx fy z Q rx ry e1 q)
  | none => rw [e1] at e; exact .inr (h' H x y dx dy fx fy z Q rx ry e q)
theorem Ro2.ext {K : PySem.W.Frag} {r : R2} {op op' : D → D → Option D} (h : Ro2 K r op) (e : ∀ x y, op' x y = op x y) : Ro2 K r op' := fun H x y dx dy fx fy z Q rx ry e1 q => h H x y dx dy fx fy z Q rx ry (by rw [← e]; exact e1) q

/-! ### + -/
def dCatT : D → D → Option D
  | .tup xs, .tup ys => if pls xs = true ∧ pls ys = true ∧ xs.length + ys.length ≤ sizeLine then some (.tup (xs ++ ys)) else none
  | _, _ => none
theorem ro_catT {K : PySem.W.Frag} : Ro2 K (rCatA K) dCatT := fun H x y dx dy fx fy z Q rx ry e q => by
  cases dx <;> cases dy <;> first
    | cases e
    | skip
  rename_i xs ys
  dsimp only [dCatT] at e
  by_cases c : pls xs = true ∧ pls ys = true ∧ xs.length + ys.length ≤ sizeLine
  · rw [if_pos c] at e
    cases e
    obtain ⟨a, vs, ea, qa, ra⟩ := rx
    obtain ⟨b, us, eb, qb, rb⟩ := ry
    have ra0 := ra.nil_of c.1
    have rb0 := rb.nil_of c.2.1
    have la := ra.length
    have lb := rb.length
    refine ⟨a, b, vs, us, ea, eb, qa, qb, by omega, fun h => ?_, fun h h2 => ?_, fun h h2 p n => ?_⟩
    · have h0 : xs = [] := List.length_eq_zero_iff.mp (by rw [la, h]; rfl)
      subst h0
      exact q _ _ (.plain ⟨b, us, rfl, qb, rb0⟩)
    · have h0 : ys = [] := List.length_eq_zero_iff.mp (by rw [lb, h2]; rfl)
      subst h0
      rw [List.append_nil] at q
      exact q _ _ (.plain ⟨a, vs, rfl, qa, ra0⟩)
    · exact q _ _ (new_tup (by exact ra0.append rb0) n)
  · rw [if_neg c] at e; cases e
def dCatL : D → D → Option D
  | .own xs, .own ys => if pls xs = true ∧ pls ys = true ∧ xs.length + ys.length ≤ sizeLine then some (.own (xs ++ ys)) else none
  | _, _ => none
theorem ro_catL {K : PySem.W.Frag} : Ro2 K rCat dCatL := fun H x y dx dy fx fy z Q rx ry e q => by
  cases dx <;> cases dy <;> first
    | cases e
    | skip
  rename_i xs ys
  dsimp only [dCatL] at e
  by_cases c : pls xs = true ∧ pls ys = true ∧ xs.length + ys.length ≤ sizeLine
  · rw [if_pos c] at e
    cases e
    obtain ⟨a, vs, f, ea, qa, ra, _⟩ := rx
    obtain ⟨b, us, g, eb, qb, rb, _⟩ := ry
    have ra0 := ra.nil_of c.1
    have rb0 := rb.nil_of c.2.1
    have la := ra.length
    have lb := rb.length
    exact ⟨a, b, vs, us, ea, eb, qa, qb, by omega, fun p n => q _ _ (new_own (by exact ra0.append rb0) n)⟩
  · rw [if_neg c] at e; cases e
def dCatS : D → D → Option D
  | .str x, .str y => if x.length + y.length ≤ sizeLine then some (.str (x ++ y)) else none
  | _, _ => none
def rCatS : R2 := fun x y H Q => ∃ i j, x = .str i ∧ y = .str j ∧ i.length + j.length ≤ sizeLine ∧ Q (.str (i ++ j)) H
theorem ro_catS {K : PySem.W.Frag} : Ro2 K rCatS dCatS := fun H x y dx dy fx fy z Q rx ry e q => by
  cases dx <;> cases dy <;> first
    | cases e
    | skip
  rename_i xs ys
  dsimp only [dCatS] at e
  by_cases c : xs.length + ys.length ≤ sizeLine
  · rw [if_pos c] at e
    cases e
    exact ⟨xs, ys, rx.1, ry.1, c, q _ _ (.plain ⟨rfl, rfl⟩)⟩
  · rw [if_neg c] at e; cases e
def dAdd : D → D → Option D
  | .int i, .int j => some (.int (i + j))
  | .tup xs, .tup ys => if pls xs = true ∧ pls ys = true ∧ xs.length + ys.length ≤ sizeLine then some (.tup (xs ++ ys)) else none
  | .own xs, .own ys => if pls xs = true ∧ pls ys = true ∧ xs.length + ys.length ≤ sizeLine then some (.own (xs ++ ys)) else none
  | .str x, .str y => if x.length + y.length ≤ sizeLine then some (.str (x ++ y)) else none
  | _, _ => none
def rAdd' (K : PySem.W.Frag) : R2 := fun x y H Q => (rI0 (fun i j => .int (i + j)) x y H Q ∨ rCatA K x y H Q) ∨ (rCat x y H Q ∨ rCatS x y H Q)
theorem op_add' {X : Cx} : OpR X (binaryOp .Add) (rAdd' X.K) := (op_add.or op_catA).or (op_cat.or op_add_str)
theorem orN {α : Type} (o : Option α) : (o.orElse fun _ => none) = o := by cases o <;> rfl
theorem ro_add {K : PySem.W.Frag} : Ro2 K (rAdd' K) dAdd := ((ro_I0.or ro_catT).or (ro_catL.or ro_catS)).ext fun x y => by
  cases x <;> cases y <;> first
    | rfl
    | (unfold dAdd; simp only [dI, dCatT, dCatL, dCatS, Option.orElse_none, Option.orElse_some, orN] <;> (split <;> rfl))

/-! ### -, *, //, %, ** -/
def dSub : D → D → Option D := dI fun i j => some (.int (i - j))
def mulC (i j : Int) : Bool := decide (i.natAbs.log2 + j.natAbs.log2 < 1000000)
def dMul : D → D → Option D := dI fun i j => if mulC i j = true then some (.int (i * j)) else none
def divC (i j : Int) : Bool := decide (0 < j ∧ j < 1073741824)
def dDiv : D → D → Option D := dI fun i j => if divC i j = true then some (.int (i / j)) else none
def modC (i j : Int) : Bool := decide (0 < j)
def dMod : D → D → Option D := dI fun i j => if modC i j = true then some (.int (i % j)) else none
def CPowW (i j : Int) : Prop := 0 ≤ j ∧ (Builtin.Int.intBits i : Int) * j ≤ 2 ^ 27
def powC (i j : Int) : Bool := decide (0 ≤ j ∧ (Builtin.Int.intBits i : Int) * j ≤ 2 ^ 27)
def dPow : D → D → Option D := dI fun i j => if powC i j = true then some (.int (i ^ j.toNat)) else none
theorem op_powW {X : Cx} : OpR X (binaryOp .Pow) (rI CPowW fun i j => .int (i ^ j.toNat)) := opI fun _ _ _ _ _ _ _ hc q => PyProof.Rows.pow_int hc.1 hc.2 q
section
variable {K : PySem.W.Frag}
theorem ro_sub : Ro2 K (rI0 fun i j => .int (i - j)) dSub := ro_I0
theorem ro_mul : Ro2 K (rI CMulW fun i j => .int (i * j)) dMul := ro_IC fun i j h => of_decide_eq_true (p := i.natAbs.log2 + j.natAbs.log2 < 1000000) h
theorem ro_div : Ro2 K (rI CDiv fun i j => .int (i / j)) dDiv := ro_IC fun i j h => of_decide_eq_true (p := 0 < j ∧ j < 1073741824) h
theorem ro_mod : Ro2 K (rI (fun _ j => 0 < j) fun i j => .int (i % j)) dMod := ro_IC fun i j h => of_decide_eq_true (p := 0 < j) h
theorem ro_pow : Ro2 K (rI CPowW fun i j => .int (i ^ j.toNat)) dPow := ro_IC fun i j h => of_decide_eq_true (p := 0 ≤ j ∧ (Builtin.Int.intBits i : Int) * j ≤ 2 ^ 27) h
end
def dNeg : D → Option D
  | .int i => some (.int (-i))
  | _ => none
theorem ro_neg {K : PySem.W.Frag} : Ro1 K (rU fun i => .int (-i)) dNeg := fun H x dx fx z Q rx e q => by
  cases dx <;> first
    | cases e
    | skip
  exact ⟨_, rx.1, q _ _ (.plain ⟨rfl, rfl⟩)⟩

/-! ### comparisons -/
mutual
def toPy : D → PyData
  | .non => .none
  | .bl b => .bool b
  | .int i => .int i
  | .str x => .str x
  | .tup xs => .tuple (toPys xs)
  | .lst xs => .list (toPys xs)
  | .own xs => .list (toPys xs)
def toPys : List D → List PyData
  | [] => []
  | d :: ds => toPy d :: toPys ds
end
section
variable {K : PySem.W.Frag} {H : Hp}
mutual
theorem dp_of : ∀ (d : D) (v : V) (f : List Addr), RV K H d v f → Dp K H v (toPy d)
  | .non, v, f, h => by obtain ⟨e, _⟩ := h; subst e; exact .non
  | .bl b, v, f, h => by obtain ⟨e, _⟩ := h; subst e; exact .bl b
  | .int i, v, f, h => by obtain ⟨e, _⟩ := h; subst e; exact .int i
  | .str x, v, f, h => by obtain ⟨e, _⟩ := h; subst e; exact .str x
  | .tup xs, v, f, h => by
    obtain ⟨a, vs, e, q, r⟩ := h
    subst e
    exact .tup q (dps_of xs vs f r)
  | .lst xs, v, f, h => by
    obtain ⟨a, vs, e, q, r, _⟩ := h
    subst e
    exact .lst q.sq (dps_of xs vs [] r)
  | .own xs, v, f, h => by
    obtain ⟨a, vs, g, e, q, r, _⟩ := h
    subst e
    exact .lst (.of q) (dps_of xs vs g r)
theorem dps_of : ∀ (ds : List D) (vs : List V) (f : List Addr), RVs K H ds vs f → DpAll K H vs (toPys ds)
  | [], vs, f, h => by obtain ⟨e, _⟩ := h; subst e; exact .nil
  | d :: ds, vs, f, h => by
    obtain ⟨v, r, f1, g, e, q, t, _⟩ := h
    subst e
    exact .cons (dp_of d v f1 q) (dps_of ds r g t)
end
end
def dEq (x y : D) : Option D := if SeqAt.shaped (toPy x) = true ∧ SeqAt.shaped (toPy y) = true then some (.bl (PyData.eqv (toPy x) (toPy y))) else none
def dNe (x y : D) : Option D := if SeqAt.shaped (toPy x) = true ∧ SeqAt.shaped (toPy y) = true then some (.bl (!PyData.eqv (toPy x) (toPy y))) else none
theorem ro_eq {K : PySem.W.Frag} : Ro2 K (rEqD K) dEq := fun H x y dx dy fx fy z Q rx ry e q => by
  unfold dEq at e
  by_cases c : SeqAt.shaped (toPy dx) = true ∧ SeqAt.shaped (toPy dy) = true
  · rw [if_pos c] at e
    cases e
    exact ⟨toPy dx, toPy dy, dp_of _ _ _ rx, dp_of _ _ _ ry, c.1, c.2, q _ _ (.plain ⟨rfl, rfl⟩)⟩
  · rw [if_neg c] at e; cases e
theorem ro_ne {K : PySem.W.Frag} : Ro2 K (rNeD K) dNe := fun H x y dx dy fx fy z Q rx ry e q => by
  unfold dNe at e
  by_cases c : SeqAt.shaped (toPy dx) = true ∧ SeqAt.shaped (toPy dy) = true
  · rw [if_pos c] at e
    cases e
    exact ⟨toPy dx, toPy dy, dp_of _ _ _ rx, dp_of _ _ _ ry, c.1, c.2, q _ _ (.plain ⟨rfl, rfl⟩)⟩
  · rw [if_neg c] at e; cases e
@[simp] theorem dEq_int (i j : Int) : dEq (.int i) (.int j) = some (.bl (i == j)) := rfl
@[simp] theorem dNe_int (i j : Int) : dNe (.int i) (.int j) = some (.bl (!(i == j))) := rfl
@[simp] theorem dEq_bl (i j : Bool) : dEq (.bl i) (.bl j) = some (.bl (i == j)) := rfl
def dLt : D → D → Option D := dI fun i j => some (.bl (decide (i < j)))
def dLe : D → D → Option D := dI fun i j => some (.bl (decide (i ≤ j)))
def dGt : D → D → Option D := dI fun i j => some (.bl (decide (j < i)))
def dGe : D → D → Option D := dI fun i j => some (.bl (decide (j ≤ i)))
section
variable {K : PySem.W.Frag}
theorem ro_lt : Ro2 K (rI0 fun i j => .bl (decide (i < j))) dLt := ro_B0
theorem ro_le : Ro2 K (rI0 fun i j => .bl (decide (i ≤ j))) dLe := ro_B0
theorem ro_gt : Ro2 K (rI0 fun i j => .bl (decide (j < i))) dGt := ro_B0
theorem ro_ge : Ro2 K (rI0 fun i j => .bl (decide (j ≤ i))) dGe := ro_B0
end
/-- is None -/
def isN : D → Bool
  | .non => true
  | _ => false
def dIs (x y : D) : Option D := match y with
  | .non => some (.bl (isN x))
  | _ => none
def dIsNot (x y : D) : Option D := match y with
  | .non => some (.bl (!isN x))
  | _ => none
theorem isN_rv {K : PySem.W.Frag} {H : Hp} {d : D} {v : V} {f : List Addr} (r : RV K H d v f) : decide (v = V.non) = isN d := by
  cases d with
  | non => rw [r.1]; rfl
  | bl b => rw [r.1]; rfl
  | int i => rw [r.1]; rfl
  | str x => rw [r.1]; rfl
  | tup xs => obtain ⟨a, vs, e, _⟩ := r; rw [e]; rfl
  | lst xs => obtain ⟨a, vs, e, _⟩ := r; rw [e]; rfl
  | own xs => obtain ⟨a, vs, g, e, _⟩ := r; rw [e]; rfl
def rIsN : R2 := fun x y H Q => y = .non ∧ Q (.bl (decide (x = .non))) H
def rNotN : R2 := fun x y H Q => y = .non ∧ Q (.bl (!decide (x = .non))) H
theorem ro_is {K : PySem.W.Frag} : Ro2 K rIsN dIs := fun H x y dx dy fx fy z Q rx ry e q => by
  cases dy <;> first
    | cases e
    | skip
  exact ⟨ry.1, by rw [isN_rv rx]; exact q _ _ (.plain ⟨rfl, rfl⟩)⟩
theorem ro_isnot {K : PySem.W.Frag} : Ro2 K rNotN dIsNot := fun H x y dx dy fx fy z Q rx ry e q => by
  cases dy <;> first
    | cases e
    | skip
  exact ⟨ry.1, by rw [isN_rv rx]; exact q _ _ (.plain ⟨rfl, rfl⟩)⟩
/-- in, not in: flat things -/
def flatD : D → Bool
  | .non => true
  | .bl _ => true
  | .int _ => true
  | .str _ => true
  | _ => false
def eqD : D → D → Bool
  | .non, .non => true
  | .bl a, .bl b => a == b
  | .bl a, .int b => (if a then 1 else 0) == b
  | .int a, .bl b => a == (if b then 1 else 0)
  | .int a, .int b => a == b
  | .str a, .str b => a == b
  | _, _ => false
def inD (x : D) (xs : List D) : Bool := xs.any fun y => eqD y x
def dIn (neg : Bool) (x y : D) : Option D := match seqD y with
  | some ys => if flatD x = true ∧ ys.all flatD = true then some (.bl (if neg then !inD x ys else inD x ys)) else none
  | none => none
section
variable {K : PySem.W.Frag} {H : Hp}
theorem flat_rv {d : D} {v : V} {f : List Addr} (r : RV K H d v f) (h : flatD d = true) : flatV v = true := by
  cases d <;> first
    | exact absurd h Bool.false_ne_true
    | (rw [r.1]; rfl)
theorem eq_rv {d e : D} {v u : V} {f g : List Addr} (r : RV K H d v f) (r' : RV K H e u g) (h : flatD d = true) (h' : flatD e = true) : eqV v u = eqD d e := by
  cases d <;> first
    | exact absurd h Bool.false_ne_true
    | (cases e <;> first
        | exact absurd h' Bool.false_ne_true
        | (rw [r.1, r'.1]; rfl))
theorem flats_rv : ∀ {ds : List D} {vs : List V} {f : List Addr}, RVs K H ds vs f → ds.all flatD = true → vs.all flatV = true
  | [], vs, f, r, _ => by rw [r.1]; rfl
  | d :: ds, vs, f, r, h => by
    obtain ⟨v, t, f1, g, e, q, q2, _⟩ := r
    subst e
    rw [List.all_cons, Bool.and_eq_true] at h ⊢
    exact ⟨flat_rv q h.1, flats_rv q2 h.2⟩
theorem in_rv {x : D} {v : V} {g : List Addr} (r' : RV K H x v g) (h' : flatD x = true) : ∀ {ds : List D} {vs : List V} {f : List Addr}, RVs K H ds vs f → ds.all flatD = true → inV v vs = inD x ds
  | [], vs, f, r, _ => by rw [r.1]; rfl
  | d :: ds, vs, f, r, h => by
    obtain ⟨u, t, f1, g, e, q, q2, _⟩ := r
    subst e
    rw [List.all_cons, Bool.and_eq_true] at h
    show (eqV u v || inV v t) = (eqD d x || inD x ds)
    rw [eq_rv q r' h.1 h', in_rv r' h' q2 h.2]
end
theorem ro_in {K : PySem.W.Frag} (neg : Bool) : Ro2 K (rIn K neg) (dIn neg) := fun H x y dx dy fx fy z Q rx ry e q => by
  unfold dIn at e
  cases e1 : seqD dy with
  | none => rw [e1] at e; cases e
  | some ys =>
    rw [e1] at e
    obtain ⟨a, vs, g, ea, qa, ra⟩ := seqD_rv ry e1
    by_cases c : flatD dx = true ∧ ys.all flatD = true
    · replace e : (if flatD dx = true ∧ ys.all flatD = true then some (D.bl (if neg then !inD dx ys else inD dx ys)) else none) = some z := e
      rw [if_pos c] at e
      cases e
      refine ⟨a, vs, ea, qa, flat_rv rx c.1, flats_rv ra c.2, ?_⟩
      rw [in_rv rx c.1 ra c.2]
      exact q _ _ (.plain ⟨rfl, rfl⟩)
    · replace e : (if flatD dx = true ∧ ys.all flatD = true then some (D.bl (if neg then !inD dx ys else inD dx ys)) else none) = some z := e
      rw [if_neg c] at e; cases e

/-! ### items -/
def dIx (x y : D) : Option D := match x, y with
  | .str s, .int i => if s.length ≤ sizeLine then (atI s.cps.toList i).map fun c => D.str ⟨#[c]⟩ else none
  | x, .int i => match seqD x with
    | some xs => match atI xs i with
      | some d => if pl d = true then some d else none
      | none => none
    | none => none
  | _, _ => none
theorem atI_rv {K : PySem.W.Frag} {H : Hp} {xs : List D} {vs : List V} {f : List Addr} {i : Int} {d : D} (r : RVs K H xs vs f) (e : atI xs i = some d) : ∃ v g, atI vs i = some v ∧ RV K H d v g := by
  unfold atI at e ⊢
  obtain ⟨j, h1, h2⟩ := Option.bind_eq_some_iff.mp e
  obtain ⟨v, g, h3, h4, _⟩ := r.get h2
  exact ⟨v, g, by rw [← r.length, h1]; exact h3, h4⟩
theorem ro_ix {K : PySem.W.Frag} : Ro2 K (rIx K) dIx := fun H x y dx dy fx fy z Q rx ry e q => by
  cases dy <;> first
    | (cases dx <;> cases e)
    | skip
  rename_i i
  have seqs : ∀ {dx : D} {fx : List Addr} {xs : List D}, RV K H dx x fx → seqD dx = some xs → (match atI xs i with
      | some d => if pl d = true then some d else none
      | none => none) = some z → rIx K x y H Q := fun {dx fx xs} rx h1 h2 => by
    obtain ⟨a, vs, g, ea, qa, ra⟩ := seqD_rv rx h1
    cases e2 : atI xs i with
    | none => rw [e2] at h2; cases h2
    | some d =>
      rw [e2] at h2
      by_cases p : pl d = true
      · replace h2 : (if pl d = true then some d else none) = some z := h2
        rw [if_pos p] at h2
        cases h2
        obtain ⟨v, g', e3, r3⟩ := atI_rv ra e2
        rcases qa with qa | qa
        · exact .inl ⟨a, vs, i, v, ea, ry.1, qa, e3, q _ _ (.mine r3 p)⟩
        · exact .inr (.inl ⟨a, vs, i, v, ea, ry.1, qa, e3, q _ _ (.mine r3 p)⟩)
      · replace h2 : (if pl d = true then some d else none) = some z := h2
        rw [if_neg p] at h2; cases h2
  cases dx with
  | str s =>
    replace e : (if s.length ≤ sizeLine then (atI s.cps.toList i).map fun c => D.str ⟨#[c]⟩ else none) = some z := e
    by_cases c : s.length ≤ sizeLine
    · rw [if_pos c] at e
      obtain ⟨ch, h1, h2⟩ := Option.map_eq_some_iff.mp e
      subst h2
      exact .inr (.inr ⟨s, i, ch, rx.1, ry.1, c, h1, q _ _ (.plain ⟨rfl, rfl⟩)⟩)
    · rw [if_neg c] at e; cases e
  | tup xs => exact seqs rx rfl e
  | lst xs => exact seqs rx rfl e
  | own xs => exact seqs rx rfl e
  | non => cases e
  | bl b => cases e
  | int j => cases e

/-! ### built-ins of one argument -/
def r1' (r : List V → Hp → VK → Prop) : V → Hp → VK → Prop := fun x H Q => r [x] H Q
def dLen : D → Option D
  | .str s => if s.length ≤ sizeLine then some (.int s.length) else none
  | x => (seqD x).map fun xs => .int xs.length
def rLen (K : PySem.W.Frag) : List V → Hp → VK → Prop := fun xs H Q => ∃ x n, xs = [x] ∧ LenV K x H n ∧ Q (.int n) H
theorem ro_len {K : PySem.W.Frag} : Ro1 K (r1' (rLen K)) dLen := fun H x dx fx z Q rx e q => by
  have seqs : ∀ {dx : D} {fx : List Addr}, RV K H dx x fx → ((seqD dx).map fun xs => D.int xs.length) = some z → r1' (rLen K) x H Q := fun {dx fx} rx h1 => by
    obtain ⟨xs, h2, h3⟩ := Option.map_eq_some_iff.mp h1
    subst h3
    obtain ⟨a, vs, g, ea, qa, ra⟩ := seqD_rv rx h2
    subst ea
    refine ⟨.ref a, xs.length, rfl, ?_, q _ _ (.plain ⟨rfl, rfl⟩)⟩
    rcases qa with qa | qa
    · exact .inl ⟨vs, qa, ra.length⟩
    · exact .inr ⟨vs, qa, ra.length⟩
  cases dx with
  | str s =>
    replace e : (if s.length ≤ sizeLine then some (D.int s.length) else none) = some z := e
    by_cases c : s.length ≤ sizeLine
    · rw [if_pos c] at e
      cases e
      exact ⟨.str s, s.length, by rw [rx.1], ⟨c, rfl⟩, q _ _ (.plain ⟨rfl, rfl⟩)⟩
    · rw [if_neg c] at e; cases e
  | tup xs => exact seqs rx e
  | lst xs => exact seqs rx e
  | own xs => exact seqs rx e
  | non => cases e
  | bl b => cases e
  | int j => cases e
def dTuple : D → Option D
  | .tup xs => if pls xs = true then some (.tup xs) else none
  | .lst xs => if pls xs = true then some (.tup xs) else none
  | .own xs => if pls xs = true then some (.tup xs) else none
  | _ => none
def rTuple (K : PySem.W.Frag) : List V → Hp → VK → Prop := fun xs H Q => ∃ p ys, xs = [.ref p] ∧ ((SqL K H p ys ∧ ∀ l, H l = none → Q (.ref l) (upd H l (.tup ys))) ∨ (SqT K H p ys ∧ Q (.ref p) H))
theorem ro_tuple {K : PySem.W.Frag} : Ro1 K (r1' (rTuple K)) dTuple := fun H x dx fx z Q rx e q => by
  cases dx with
  | tup xs =>
    replace e : (if pls xs = true then some (D.tup xs) else none) = some z := e
    by_cases c : pls xs = true
    · rw [if_pos c] at e
      cases e
      obtain ⟨a, vs, ea, qa, ra⟩ := rx
      exact ⟨a, vs, by rw [ea], .inr ⟨qa, q _ _ (.plain ⟨a, vs, rfl, qa, ra.nil_of c⟩)⟩⟩
    · rw [if_neg c] at e; cases e
  | lst xs =>
    replace e : (if pls xs = true then some (D.tup xs) else none) = some z := e
    by_cases c : pls xs = true
    · rw [if_pos c] at e
      cases e
      obtain ⟨a, vs, ea, qa, ra, _⟩ := rx
      exact ⟨a, vs, by rw [ea], .inl ⟨qa.sq, fun p n => q _ _ (new_tup ra n)⟩⟩
    · rw [if_neg c] at e; cases e
  | own xs =>
    replace e : (if pls xs = true then some (D.tup xs) else none) = some z := e
    by_cases c : pls xs = true
    · rw [if_pos c] at e
      cases e
      obtain ⟨a, vs, g, ea, qa, ra, _⟩ := rx
      exact ⟨a, vs, by rw [ea], .inl ⟨.of qa, fun p n => q _ _ (new_tup (ra.nil_of c) n)⟩⟩
    · rw [if_neg c] at e; cases e
  | non => cases e
  | bl b => cases e
  | int j => cases e
  | str s => cases e
def dList (x : D) : Option D := match seqD x with
  | some xs => if pls xs = true then some (.own xs) else none
  | none => none
def rList (K : PySem.W.Frag) : List V → Hp → VK → Prop := fun xs H Q => ∃ p ys, xs = [.ref p] ∧ (SqL K H p ys ∨ SqT K H p ys) ∧ ∀ l, H l = none → Q (.ref l) (upd H l (.lst ys))
theorem ro_list {K : PySem.W.Frag} : Ro1 K (r1' (rList K)) dList := fun H x dx fx z Q rx e q => by
  unfold dList at e
  cases e1 : seqD dx with
  | none => rw [e1] at e; cases e
  | some xs =>
    rw [e1] at e
    replace e : (if pls xs = true then some (D.own xs) else none) = some z := e
    by_cases c : pls xs = true
    · rw [if_pos c] at e
      cases e
      obtain ⟨a, vs, g, ea, qa, ra⟩ := seqD_rv rx e1
      exact ⟨a, vs, by rw [ea], qa, fun p n => q _ _ (new_own (ra.nil_of c) n)⟩
    · rw [if_neg c] at e; cases e
def dInt : D → Option D
  | .int i => some (.int i)
  | .bl b => some (.int (if b then 1 else 0))
  | _ => none
def rInt : List V → Hp → VK → Prop := fun xs H Q => (∃ i, xs = [.int i] ∧ Q (.int i) H) ∨ ∃ k, xs = [.bl k] ∧ Q (.int (if k then 1 else 0)) H
theorem ro_int {K : PySem.W.Frag} : Ro1 K (r1' rInt) dInt := fun H x dx fx z Q rx e q => by
  cases dx with
  | int i => cases e; exact .inl ⟨_, by rw [rx.1], q _ _ (.plain ⟨rfl, rfl⟩)⟩
  | bl i => cases e; exact .inr ⟨i, by rw [rx.1], q _ _ (.plain ⟨rfl, rfl⟩)⟩
  | non => cases e
  | str i => cases e
  | tup i => cases e
  | lst i => cases e
  | own i => cases e
/-- a value's truth -/
def truD : D → Option Bool
  | .non => some false
  | .bl b => some b
  | .int i => some (i != 0)
  | .str s => if s.length ≤ sizeLine then some ((s.length : Int) != 0) else none
  | x => (seqD x).map fun xs => !xs.isEmpty
theorem tru_rv {K : PySem.W.Frag} {H : Hp} {d : D} {v : V} {f : List Addr} {b : Bool} (r : RV K H d v f) (e : truD d = some b) : TruV K v H b := by
  have seqs : ∀ {d : D} {f : List Addr}, RV K H d v f → ((seqD d).map fun xs => !xs.isEmpty) = some b → TruV K v H b := fun {d f} rx h1 => by
    obtain ⟨xs, h2, h3⟩ := Option.map_eq_some_iff.mp h1
    subst h3
    obtain ⟨a, vs, g, ea, qa, ra⟩ := seqD_rv rx h2
    subst ea
    have hl : (!xs.isEmpty) = !vs.isEmpty := by
      have := ra.length
      cases xs <;> cases vs <;> first | rfl | simp at this
    rcases qa with qa | qa
    · exact .inl ⟨vs, qa, hl⟩
    · exact .inr (.inl ⟨vs, qa, hl⟩)
  cases d with
  | non => cases e; rw [r.1]; rfl
  | bl b => cases e; rw [r.1]; rfl
  | int i => cases e; rw [r.1]; rfl
  | str s =>
    replace e : (if s.length ≤ sizeLine then some ((s.length : Int) != 0) else none) = some b := e
    by_cases c : s.length ≤ sizeLine
    · rw [if_pos c] at e
      cases e
      rw [r.1]
      exact ⟨c, rfl⟩
    · rw [if_neg c] at e; cases e
  | tup xs => exact seqs r e
  | lst xs => exact seqs r e
  | own xs => exact seqs r e
/-- isinstance(x, T), T a built-in type -/
def tyD : D → String
  | .non => "NoneType"
  | .bl _ => "bool"
  | .int _ => "int"
  | .str _ => "str"
  | .tup _ => "tuple"
  | .lst _ => "list"
  | .own _ => "list"
theorem ty_rv {K : PySem.W.Frag} {H : Hp} {d : D} {v : V} {f : List Addr} (r : RV K H d v f) : TyX K H v (.type (tyD d)) := by
  cases d with
  | non => rw [r.1]; exact .base .non
  | bl b => rw [r.1]; exact .base (.bl b)
  | int i => rw [r.1]; exact .base (.int i)
  | str x => rw [r.1]; exact .base (.str x)
  | tup xs =>
    obtain ⟨a, vs, e, q, _⟩ := r
    subst e
    rcases q with (q | ⟨o, q⟩) | ⟨o, its, n, q, c, _⟩
    · exact .base (.tup q)
    · exact .fTuple q
    · exact .kTuple q c
  | lst xs =>
    obtain ⟨a, vs, e, q, _⟩ := r
    subst e
    rcases q with ⟨o, q⟩ | ⟨o, its, n, q, c, _⟩
    · exact .base (.frz q)
    · exact .kList q c
  | own xs =>
    obtain ⟨a, vs, g, e, q, _⟩ := r
    subst e
    exact .base (.lst q)
def dIsi (T : String) (x : D) : Option D := (kitB (tyD x) T).map .bl
def rIsiC (K : PySem.W.Frag) (T : String) : V → Hp → VK → Prop := fun x H Q => rIsi K [x, .ty T] H Q
theorem ro_isi {K : PySem.W.Frag} (T : String) : Ro1 K (rIsiC K T) (dIsi T) := fun H x dx fx z Q rx e q => by
  obtain ⟨b, h1, h2⟩ := Option.map_eq_some_iff.mp e
  subst h2
  exact ⟨x, .ty T, _, _, b, rfl, .ty T, ty_rv rx, kit_ty h1, q _ _ (.plain ⟨rfl, rfl⟩)⟩
end Pm

set_option autoImplicit true
namespace Pm
open PySem PySem.Spec L2

/-! ### expressions of two parts -/
section
variable {X : Cx} {Eh : WX} {a b : Expr} {pos : Pos} {op : Operator} {cop : CmpOp} {r : R2} {d : D → D → Option D} {f g : PM D} {p q : Ev → Option D} {j : Nat}
theorem bin_gg (ho : OpR X (binaryOp op) r) (hr : Ro2 X.K r d) (ha : PE X a (tP X.K X.mg Eh f)) (hb : PE X b (tP X.K X.mg Eh g)) : PE X (.BinOp a op b pos) (tP X.K X.mg Eh (x2gg d f g)) := (pe_op ho ha hb).imp fun _ _ _ h => imp2gg hr h
theorem bin_gp (ho : OpR X (binaryOp op) r) (hr : Ro2 X.K r d) (ha : PE X a (tP X.K X.mg Eh f)) (hb : PE X b (tB X.K q)) : PE X (.BinOp a op b pos) (tP X.K X.mg Eh (x2gp d f q)) := (pe_op ho ha hb).imp fun _ _ _ h => imp2gp hr h
theorem bin_vg (ho : OpR X (binaryOp op) r) (hr : Ro2 X.K r d) (ha : PE X a (tV X.K j)) (hb : PE X b (tP X.K X.mg Eh g)) : PE X (.BinOp a op b pos) (tP X.K X.mg Eh (x2vg d j g)) := (pe_op ho ha hb).imp fun _ _ _ h => imp2vg hr h
theorem bin_pp (ho : OpR X (binaryOp op) r) (hr : Ro2 X.K r d) (ha : PE X a (tB X.K p)) (hb : PE X b (tB X.K q)) : PE X (.BinOp a op b pos) (tP X.K X.mg Eh (x2pp d p q)) := (pe_op ho ha hb).imp fun _ _ _ h => imp2pp hr h
theorem cmp_gg (ho : OpR X (compareOp cop) r) (hr : Ro2 X.K r d) (ha : PE X a (tP X.K X.mg Eh f)) (hb : PE X b (tP X.K X.mg Eh g)) (hm : behindInMarks cop b = false) : PE X (.Compare a [cop] [b] pos) (tP X.K X.mg Eh (x2gg d f g)) := (pe_cmpR ho ha hb hm).imp fun _ _ _ h => imp2gg hr h
theorem cmp_gp (ho : OpR X (compareOp cop) r) (hr : Ro2 X.K r d) (ha : PE X a (tP X.K X.mg Eh f)) (hb : PE X b (tB X.K q)) (hm : behindInMarks cop b = false) : PE X (.Compare a [cop] [b] pos) (tP X.K X.mg Eh (x2gp d f q)) := (pe_cmpR ho ha hb hm).imp fun _ _ _ h => imp2gp hr h
theorem cmp_vg (ho : OpR X (compareOp cop) r) (hr : Ro2 X.K r d) (ha : PE X a (tV X.K j)) (hb : PE X b (tP X.K X.mg Eh g)) (hm : behindInMarks cop b = false) : PE X (.Compare a [cop] [b] pos) (tP X.K X.mg Eh (x2vg d j g)) := (pe_cmpR ho ha hb hm).imp fun _ _ _ h => imp2vg hr h
theorem cmp_pp (ho : OpR X (compareOp cop) r) (hr : Ro2 X.K r d) (ha : PE X a (tB X.K p)) (hb : PE X b (tB X.K q)) (hm : behindInMarks cop b = false) : PE X (.Compare a [cop] [b] pos) (tP X.K X.mg Eh (x2pp d p q)) := (pe_cmpR ho ha hb hm).imp fun _ _ _ h => imp2pp hr h
theorem ix_gg (ha : PE X a (tP X.K X.mg Eh f)) (hb : PE X b (tP X.K X.mg Eh g)) (hs : PlainIx b) : PE X (.Subscript a b pos) (tP X.K X.mg Eh (x2gg dIx f g)) := (pe_ix ix_seq ha hb hs).imp fun _ _ _ h => imp2gg ro_ix h
theorem ix_gp (ha : PE X a (tP X.K X.mg Eh f)) (hb : PE X b (tB X.K q)) (hs : PlainIx b) : PE X (.Subscript a b pos) (tP X.K X.mg Eh (x2gp dIx f q)) := (pe_ix ix_seq ha hb hs).imp fun _ _ _ h => imp2gp ro_ix h
theorem ix_vg (ha : PE X a (tV X.K j)) (hb : PE X b (tP X.K X.mg Eh g)) (hs : PlainIx b) : PE X (.Subscript a b pos) (tP X.K X.mg Eh (x2vg dIx j g)) := (pe_ix ix_seq ha hb hs).imp fun _ _ _ h => imp2vg ro_ix h
theorem ix_pp (ha : PE X a (tB X.K p)) (hb : PE X b (tB X.K q)) (hs : PlainIx b) : PE X (.Subscript a b pos) (tP X.K X.mg Eh (x2pp dIx p q)) := (pe_ix ix_seq ha hb hs).imp fun _ _ _ h => imp2pp ro_ix h
theorem neg_g (ha : PE X a (tP X.K X.mg Eh f)) : PE X (.UnaryOp .USub a pos) (tP X.K X.mg Eh (x1g dNeg f)) := (pe_un un_neg ha).imp fun _ _ _ h => imp1g ro_neg h

/-! ### built-ins of one argument -/
variable {x : Str} {pp : Pos} {id T : String} {rr : List V → Hp → VK → Prop} {d1 : D → Option D}
theorem tCons_nil {ta : TE} {s : L2.St} {H : Hp} {Q : VK} (h : ta s H fun x H1 => rr [x] H1 Q) : tCB rr (tCons ta tNil) s H Q := h
theorem bi_g (hc : CallR X (.builtin id) rr) (hr : Ro1 X.K (r1' rr) d1) (hg : Gl X x) (hm : X.mg x = none) (hv : bootBuiltins x = some (.builtin id)) (ha : PE X a (tP X.K X.mg Eh f)) (hn : x ≠ "__name__" := by decide) (hdb : (x == ("__debug__" : Str)) = false := by decide)
    (he : starEach [a] X.env = (false, eval a X.env) :: starEach [] X.env := by rfl) (hpl : (backTo pos (starEach [] X.env)).any (·.1) = false := by rfl) : PE X (.Call (.Name x pp) [a] [] pos) (tP X.K X.mg Eh (x1g d1 f)) :=
  (pe_callB hc hg hm hv (pa_cons ha pa_nil he) hn hdb he hpl).imp fun _ _ _ h => imp1g hr h
theorem bi_p (hc : CallR X (.builtin id) rr) (hr : Ro1 X.K (r1' rr) d1) (hg : Gl X x) (hm : X.mg x = none) (hv : bootBuiltins x = some (.builtin id)) (ha : PE X a (tB X.K q)) (hn : x ≠ "__name__" := by decide) (hdb : (x == ("__debug__" : Str)) = false := by decide)
    (he : starEach [a] X.env = (false, eval a X.env) :: starEach [] X.env := by rfl) (hpl : (backTo pos (starEach [] X.env)).any (·.1) = false := by rfl) : PE X (.Call (.Name x pp) [a] [] pos) (tP X.K X.mg Eh (x1p d1 q)) :=
  (pe_callB hc hg hm hv (pa_cons ha pa_nil he) hn hdb he hpl).imp fun _ _ _ h => imp1p hr h
theorem bt_g (hc : CallR X (.type T) rr) (hr : Ro1 X.K (r1' rr) d1) (hg : Gl X x) (hm : X.mg x = none) (hv : bootBuiltins x = some (.type T)) (ha : PE X a (tP X.K X.mg Eh f)) (hn : x ≠ "__name__" := by decide) (hdb : (x == ("__debug__" : Str)) = false := by decide)
    (he : starEach [a] X.env = (false, eval a X.env) :: starEach [] X.env := by rfl) (hpl : (backTo pos (starEach [] X.env)).any (·.1) = false := by rfl) : PE X (.Call (.Name x pp) [a] [] pos) (tP X.K X.mg Eh (x1g d1 f)) :=
  (pe_callTy hc hg hm hv (pa_cons ha pa_nil he) hn hdb he hpl).imp fun _ _ _ h => imp1g hr h
theorem bt_p (hc : CallR X (.type T) rr) (hr : Ro1 X.K (r1' rr) d1) (hg : Gl X x) (hm : X.mg x = none) (hv : bootBuiltins x = some (.type T)) (ha : PE X a (tB X.K q)) (hn : x ≠ "__name__" := by decide) (hdb : (x == ("__debug__" : Str)) = false := by decide)
    (he : starEach [a] X.env = (false, eval a X.env) :: starEach [] X.env := by rfl) (hpl : (backTo pos (starEach [] X.env)).any (·.1) = false := by rfl) : PE X (.Call (.Name x pp) [a] [] pos) (tP X.K X.mg Eh (x1p d1 q)) :=
  (pe_callTy hc hg hm hv (pa_cons ha pa_nil he) hn hdb he hpl).imp fun _ _ _ h => imp1p hr h
/-- isinstance(e, T) -/
theorem isi_g {y : Str} {py : Pos} (hg : Gl X "isinstance") (hm : X.mg "isinstance" = none) (hgy : Gl X y) (hmy : X.mg y = none) (hvy : bootBuiltins y = some (.type T)) (ha : PE X a (tP X.K X.mg Eh f)) (hn : y ≠ "__name__" := by decide) (hdb : (y == ("__debug__" : Str)) = false := by decide)
    (he : starEach [a, .Name y py] X.env = (false, eval a X.env) :: starEach [.Name y py] X.env := by rfl) (he2 : starEach [.Name y py] X.env = (false, eval (.Name y py) X.env) :: starEach [] X.env := by rfl)
    (hpl : (backTo pos (starEach [.Name y py] X.env)).any (·.1) = false := by rfl) : PE X (.Call (.Name "isinstance" pp) [a, .Name y py] [] pos) (tP X.K X.mg Eh (x1g (dIsi T) f)) :=
  (pe_callB call_isi hg hm (by decide +kernel) (pa_cons ha (pa_cons (pe_bltn (v := .ty T) hgy hmy hvy rfl hn hdb) pa_nil he2) he) (by decide) (by decide) he hpl).imp fun _ _ _ h => imp1g (ro_isi T) h
theorem isi_p {y : Str} {py : Pos} (hg : Gl X "isinstance") (hm : X.mg "isinstance" = none) (hgy : Gl X y) (hmy : X.mg y = none) (hvy : bootBuiltins y = some (.type T)) (ha : PE X a (tB X.K q)) (hn : y ≠ "__name__" := by decide) (hdb : (y == ("__debug__" : Str)) = false := by decide)
    (he : starEach [a, .Name y py] X.env = (false, eval a X.env) :: starEach [.Name y py] X.env := by rfl) (he2 : starEach [.Name y py] X.env = (false, eval (.Name y py) X.env) :: starEach [] X.env := by rfl)
    (hpl : (backTo pos (starEach [.Name y py] X.env)).any (·.1) = false := by rfl) : PE X (.Call (.Name "isinstance" pp) [a, .Name y py] [] pos) (tP X.K X.mg Eh (x1p (dIsi T) q)) :=
  (pe_callB call_isi hg hm (by decide +kernel) (pa_cons ha (pa_cons (pe_bltn (v := .ty T) hgy hmy hvy rfl hn hdb) pa_nil he2) he) (by decide) (by decide) he hpl).imp fun _ _ _ h => imp1p (ro_isi T) h
end

/-! ### displays -/
def mkTup (ds : List D) : Option D := if ds.length ≤ sizeLine then some (.tup ds) else none
def mkOwn (ds : List D) : Option D := if ds.length ≤ sizeLine then some (.own ds) else none
def xTup (f : PM (List D)) : PM D := fun w => (f w).bind fun ds w1 => back (mkTup ds) w1
def xOwn (f : PM (List D)) : PM D := fun w => (f w).bind fun ds w1 => back (mkOwn ds) w1
section
variable {X : Cx} {Eh : WX} {es : List Expr} {pos : Pos} {f : PM (List D)}
theorem hold_upd {K : PySem.W.Frag} {H : Hp} {w : Ev} {s : L2.St} {ds : List D} {vs : List V} {F : List Addr} {p : Addr} {o : HO} (h : Hold K H w s ds vs F) (n : H p = none) : Hold K (upd H p o) w s ds vs F := by
  obtain ⟨ft, fe, h1, h2, q, nd⟩ := h
  have k : Kp [] H (upd H p o) := fun a o e _ => by rw [upd_ne (ne_of_none e n)]; exact e
  exact ⟨ft, fe, RVs.kp k (fun _ z => nomatch z) _ _ _ (fun _ _ z => nomatch z) h1, h2.kp k (fun _ z => nomatch z) (fun _ _ z => nomatch z), q, nd⟩
theorem stp_upd {H : Hp} {F : List Addr} {p : Addr} {o : HO} (n : H p = none) : Stp F H F (upd H p o) := ⟨fun a o e _ => by rw [upd_ne (ne_of_none e n)]; exact e, fun a m => .inl m⟩
theorem stp_upd' {H : Hp} {F : List Addr} {p : Addr} {o : HO} (n : H p = none) : Stp F H (p :: F) (upd H p o) := ⟨fun a o e _ => by rw [upd_ne (ne_of_none e n)]; exact e, fun a m => (List.mem_cons.mp m).elim (fun e => .inr (by rw [e]; exact n)) .inl⟩
theorem hold_tup {K : PySem.W.Frag} {H : Hp} {w : Ev} {s : L2.St} {ds : List D} {vs : List V} {F : List Addr} {p : Addr} (h : Hold K H w s ds vs F) (n : H p = none) : Hold K (upd H p (.tup vs)) w s [.tup ds] [.ref p] F := by
  obtain ⟨ft, fe, h1, h2, q, nd⟩ := hold_upd (o := .tup vs) h n
  exact ⟨ft, fe, RVs.one ⟨p, vs, rfl, .inl (.inl upd_same), h1⟩, h2, q, nd⟩
theorem hold_own {K : PySem.W.Frag} {H : Hp} {w : Ev} {s : L2.St} {ds : List D} {vs : List V} {F : List Addr} {p : Addr} (h : Hold K H w s ds vs F) (n : H p = none) : Hold K (upd H p (.lst vs)) w s [.own ds] [.ref p] (p :: F) := by
  have hm := h.mut
  obtain ⟨ft, fe, h1, h2, q, nd⟩ := hold_upd (o := .lst vs) h n
  refine ⟨p :: ft, fe, RVs.one ⟨p, vs, ft, rfl, upd_same, h1, rfl⟩, h2, q.cons p, List.nodup_cons.mpr ⟨fun m => ?_, nd⟩⟩
  have := hm p m
  rw [n] at this
  exact this
theorem hold_len {K : PySem.W.Frag} {H : Hp} {w : Ev} {s : L2.St} {ds : List D} {vs : List V} {F : List Addr} (h : Hold K H w s ds vs F) : ds.length = vs.length := by
  obtain ⟨ft, fe, h1, h2, q, nd⟩ := h
  exact h1.length
theorem pp_tup {x1} (h : PA X es (tA X.K X.mg Eh f)) : PE X (.Tuple es x1 pos) (tP X.K X.mg Eh (xTup f)) := (pe_tup h).imp fun s H Q ⟨w, F, hold, q⟩ => by
  refine tA_run hold (Stp.refl fun _ m => m) q fun ds w2 vs H2 F2 e st h2 q2 => ?_
  replace h2 : Hold X.K H2 w2 s ds vs F2 := h2
  obtain ⟨z, hz, q3⟩ := back_po q2
  unfold mkTup at hz
  by_cases c : ds.length ≤ sizeLine
  · rw [if_pos c] at hz
    cases hz
    exact ⟨by rw [← hold_len h2]; exact c, fun p n => q3 _ _ F2 (st.trans (stp_upd n)) (hold_tup h2 n)⟩
  · rw [if_neg c] at hz; cases hz
theorem pp_own (h : PA X es (tA X.K X.mg Eh f)) : PE X (.List es pos) (tP X.K X.mg Eh (xOwn f)) := (pe_lst h).imp fun s H Q ⟨w, F, hold, q⟩ => by
  refine tA_run hold (Stp.refl fun _ m => m) q fun ds w2 vs H2 F2 e st h2 q2 => ?_
  replace h2 : Hold X.K H2 w2 s ds vs F2 := h2
  obtain ⟨z, hz, q3⟩ := back_po q2
  unfold mkOwn at hz
  by_cases c : ds.length ≤ sizeLine
  · rw [if_pos c] at hz
    cases hz
    exact ⟨by rw [← hold_len h2]; exact c, fun p n => q3 _ _ _ (st.trans (stp_upd' n)) (hold_own h2 n)⟩
  · rw [if_neg c] at hz; cases hz
end

/-! ### tests -/
def backB (o : Option Bool) (w : Ev) : Rs Bool := match o with
  | some b => .ok b w
  | none => .bad
@[simp] theorem backB_some (b : Bool) (w : Ev) : backB (some b) w = .ok b w := rfl
@[simp] theorem backB_none (w : Ev) : backB none w = .bad := rfl
def blD : D → Option Bool
  | .bl b => some b
  | _ => none
/-- a bool's own truth; any value's -/
def tBl (f : PM D) : PM Bool := fun w => (f w).bind fun d w1 => backB (blD d) w1
def tTru (f : PM D) : PM Bool := fun w => (f w).bind fun d w1 => backB (truD d) w1
def tTruP (q : Ev → Option D) : PM Bool := fun w => backB ((q w).bind truD) w
def tNotF (f : PM Bool) : PM Bool := fun w => (f w).bind fun b w1 => .ok (!b) w1
def tAndF (f g : PM Bool) : PM Bool := fun w => (f w).bind fun b w1 => if b = true then g w1 else .ok false w1
def tOrF (f g : PM Bool) : PM Bool := fun w => (f w).bind fun b w1 => if b = true then .ok true w1 else g w1
/-- a test as a value -/
def xBl (f : PM Bool) : PM D := fun w => (f w).bind fun b w1 => .ok (.bl b) w1
section
variable {X : Cx} {Eh : WX} {s : L2.St} {H : Hp}
theorem backB_po {F : List Addr} {o : Option Bool} {w : Ev} {Q : Bool → Ev → Prop} (h : Po X.K X.mg Eh H F s (backB o w) Q) : ∃ z, o = some z ∧ Q z w := by
  cases o with
  | none => exact h.elim
  | some z => exact ⟨z, rfl, h⟩
theorem bl_rv {K : PySem.W.Frag} {d : D} {v : V} {f : List Addr} {b : Bool} (r : RV K H d v f) (e : blD d = some b) : v = .bl b := by
  cases d with
  | bl c => cases e; exact r.1
  | non => cases e
  | int i => cases e
  | str x => cases e
  | tup x => cases e
  | lst x => cases e
  | own x => cases e
theorem tBl_imp {f : PM D} {Q : Bool → Hp → Prop} (h : tT X.K X.mg Eh (tBl f) s H Q) : tP X.K X.mg Eh f s H fun x H1 => ∃ k, x = .bl k ∧ Q k H1 := by
  obtain ⟨w, F, hold, q⟩ := h
  refine tP_run hold (Stp.refl fun _ m => m) q fun d w2 v H2 F2 e st h2 q2 => ?_
  obtain ⟨z, hz, q3⟩ := backB_po q2
  obtain ⟨fx, rx, _⟩ := Hold.one h2
  obtain ⟨F3, h3, sub⟩ := h2.drop0
  exact ⟨z, bl_rv rx hz, q3 H2 F3 (st.trans (Stp.refl sub)) h3⟩
theorem tTru_imp {f : PM D} {Q : Bool → Hp → Prop} (h : tT X.K X.mg Eh (tTru f) s H Q) : tP X.K X.mg Eh f s H fun x H1 => ∃ k, TruV X.K x H1 k ∧ Q k H1 := by
  obtain ⟨w, F, hold, q⟩ := h
  refine tP_run hold (Stp.refl fun _ m => m) q fun d w2 v H2 F2 e st h2 q2 => ?_
  obtain ⟨z, hz, q3⟩ := backB_po q2
  obtain ⟨fx, rx, _⟩ := Hold.one h2
  obtain ⟨F3, h3, sub⟩ := h2.drop0
  exact ⟨z, tru_rv rx hz, q3 H2 F3 (st.trans (Stp.refl sub)) h3⟩
theorem tTruP_imp {p : Ev → Option D} {Q : Bool → Hp → Prop} (h : tT X.K X.mg Eh (tTruP p) s H Q) : tB X.K p s H fun x H1 => ∃ k, TruV X.K x H1 k ∧ Q k H1 := by
  obtain ⟨w, F, hold, q⟩ := h
  obtain ⟨z, hz, q3⟩ := backB_po q
  obtain ⟨d, hd, hz⟩ := Option.bind_eq_some_iff.mp hz
  exact tB_run hold hd fun v f r m => ⟨z, tru_rv r hz, q3 H F (Stp.refl fun _ m => m) hold⟩
variable {a b e : Expr} {pos : Pos} {cop : CmpOp} {r : R2} {d : D → D → Option D} {f g : PM D} {p q : Ev → Option D} {j : Nat} {rest : List Expr}
theorem pt_gg (ho : OpR X (compareOp cop) r) (hr : Ro2 X.K r d) (ha : PE X a (tP X.K X.mg Eh f)) (hb : PE X b (tP X.K X.mg Eh g)) (hm : behindInMarks cop b = false) : PT X (.Compare a [cop] [b] pos) (tT X.K X.mg Eh (tBl (x2gg d f g))) := (pt_cmpR ho ha hb hm).imp fun _ _ _ h => imp2gg hr (tBl_imp h)
theorem pt_gp (ho : OpR X (compareOp cop) r) (hr : Ro2 X.K r d) (ha : PE X a (tP X.K X.mg Eh f)) (hb : PE X b (tB X.K q)) (hm : behindInMarks cop b = false) : PT X (.Compare a [cop] [b] pos) (tT X.K X.mg Eh (tBl (x2gp d f q))) := (pt_cmpR ho ha hb hm).imp fun _ _ _ h => imp2gp hr (tBl_imp h)
theorem pt_vg (ho : OpR X (compareOp cop) r) (hr : Ro2 X.K r d) (ha : PE X a (tV X.K j)) (hb : PE X b (tP X.K X.mg Eh g)) (hm : behindInMarks cop b = false) : PT X (.Compare a [cop] [b] pos) (tT X.K X.mg Eh (tBl (x2vg d j g))) := (pt_cmpR ho ha hb hm).imp fun _ _ _ h => imp2vg hr (tBl_imp h)
theorem pt_pp (ho : OpR X (compareOp cop) r) (hr : Ro2 X.K r d) (ha : PE X a (tB X.K p)) (hb : PE X b (tB X.K q)) (hm : behindInMarks cop b = false) : PT X (.Compare a [cop] [b] pos) (tT X.K X.mg Eh (tBl (x2pp d p q))) := (pt_cmpR ho ha hb hm).imp fun _ _ _ h => imp2pp hr (tBl_imp h)
theorem pt_tru (ha : PE X a (tP X.K X.mg Eh f)) (he : ∀ whole, PySem.isTrue a X.env whole = (do let v ← whole; standAt a.pos; holding [v] (truthy v)) := by intro _; rfl) : PT X a (tT X.K X.mg Eh (tTru f)) := (pt_truth ha he).imp fun _ _ _ h => tTru_imp h
theorem pt_truP (ha : PE X a (tB X.K p)) (he : ∀ whole, PySem.isTrue a X.env whole = (do let v ← whole; standAt a.pos; holding [v] (truthy v)) := by intro _; rfl) : PT X a (tT X.K X.mg Eh (tTruP p)) := (pt_truth ha he).imp fun _ _ _ h => tTruP_imp h
theorem pt_no {t : PM Bool} (ha : PT X a (tT X.K X.mg Eh t)) : PT X (.UnaryOp .Not a pos) (tT X.K X.mg Eh (tNotF t)) := (pt_not ha).imp fun s H Q ⟨w, F, hold, q⟩ => by
  refine tT_run hold (Stp.refl fun _ m => m) q fun c w2 H2 F2 e st h2 q2 => ?_
  exact q2 H2 F2 st h2
theorem tT_two {t : PM Bool} {k : Bool → Ev → Rs Bool} {Q : Bool → Hp → Prop} {R : Bool → Hp → Prop} {w : Ev} {F : List Addr} (hold : Hold X.K H w s [] [] F)
    (q : Po X.K X.mg Eh H F s ((t w).bind k) fun b w' => ∀ H' F', Stp F H F' H' → Hold X.K H' w' s [] [] F' → Q b H')
    (c : ∀ b w2 H2 F2, Stp F H F2 H2 → Hold X.K H2 w2 s [] [] F2 → Po X.K X.mg Eh H F s (k b w2) (fun b w' => ∀ H' F', Stp F H F' H' → Hold X.K H' w' s [] [] F' → Q b H') → R b H2) : tT X.K X.mg Eh t s H R :=
  tT_run hold (Stp.refl fun _ m => m) q fun b w2 H2 F2 e st h2 q2 => c b w2 H2 F2 st h2 q2
theorem po_back {H2 : Hp} {F F2 : List Addr} {w2 : Ev} {u : PM Bool} {Q : Bool → Hp → Prop} (st : Stp F H F2 H2) (h2 : Hold X.K H2 w2 s [] [] F2)
    (q : Po X.K X.mg Eh H F s (u w2) fun b w' => ∀ H' F', Stp F H F' H' → Hold X.K H' w' s [] [] F' → Q b H') : tT X.K X.mg Eh u s H2 Q := by
  refine ⟨w2, F2, h2, ?_⟩
  cases e : u w2 with
  | ok b w3 =>
    rw [e] at q
    intro H' F' st' h'
    exact q H' F' (st.trans st') h'
  | ex c fs w3 =>
    rw [e] at q
    intro cls od H' F' st' h' x
    exact q cls od H' F' (st.trans st') h' x
  | bad => rw [e] at q; exact q
theorem pw_an {t u : PM Bool} (ha : PT X a (tT X.K X.mg Eh t)) (hb : PW X (.BoolOp .And (b :: rest) pos) (tT X.K X.mg Eh u)) : PW X (.BoolOp .And (a :: b :: rest) pos) (tT X.K X.mg Eh (tAndF t u)) := (pw_and ha hb).imp fun s H Q ⟨w, F, hold, q⟩ => by
  refine tT_two hold q fun c w2 H2 F2 st h2 q2 => ?_
  cases c with
  | true => rw [if_pos rfl] at q2 ⊢; exact po_back st h2 q2
  | false =>
    rw [if_neg Bool.false_ne_true] at q2 ⊢
    exact q2 H2 F2 st h2
theorem pw_orr {t u : PM Bool} (ha : PT X a (tT X.K X.mg Eh t)) (hb : PW X (.BoolOp .Or (b :: rest) pos) (tT X.K X.mg Eh u)) : PW X (.BoolOp .Or (a :: b :: rest) pos) (tT X.K X.mg Eh (tOrF t u)) := (pw_or ha hb).imp fun s H Q ⟨w, F, hold, q⟩ => by
  refine tT_two hold q fun c w2 H2 F2 st h2 q2 => ?_
  cases c with
  | true =>
    rw [if_pos rfl] at q2 ⊢
    exact q2 H2 F2 st h2
  | false => rw [if_neg Bool.false_ne_true] at q2 ⊢; exact po_back st h2 q2
end

/-! ### and, or, not, if .. else as values (bools) -/
def xAnd (f g : PM D) : PM D := fun w => (f w).bind fun d w1 => match blD d with
  | some true => g w1
  | some false => .ok (.bl false) w1
  | none => .bad
def xOr (f g : PM D) : PM D := fun w => (f w).bind fun d w1 => match blD d with
  | some true => .ok (.bl true) w1
  | some false => g w1
  | none => .bad
def dNot : D → Option D
  | .bl b => some (.bl (!b))
  | _ => none
def xIf (t : PM Bool) (f g : PM D) : PM D := fun w => (t w).bind fun b w1 => if b = true then f w1 else g w1
section
variable {X : Cx} {Eh : WX} {a b c : Expr} {pos : Pos} {f g : PM D} {t : PM Bool} {rest : List Expr}
theorem pe_back {s : L2.St} {H H2 : Hp} {F F2 : List Addr} {w2 : Ev} {u : PM D} {Q : VK} (st : Stp F H F2 H2) (h2 : Hold X.K H2 w2 s [] [] F2)
    (q : Po X.K X.mg Eh H F s (u w2) fun d w' => ∀ v H' F', Stp F H F' H' → Hold X.K H' w' s [d] [v] F' → Q v H') : tP X.K X.mg Eh u s H2 Q := by
  refine ⟨w2, F2, h2, ?_⟩
  cases e : u w2 with
  | ok b w3 =>
    rw [e] at q
    intro v H' F' st' h'
    exact q v H' F' (st.trans st') h'
  | ex c fs w3 =>
    rw [e] at q
    intro cls od H' F' st' h' x
    exact q cls od H' F' (st.trans st') h' x
  | bad => rw [e] at q; exact q
theorem pp_and (ha : PE X a (tP X.K X.mg Eh f)) (hb : PE X (.BoolOp .And (b :: rest) pos) (tP X.K X.mg Eh g)) : PE X (.BoolOp .And (a :: b :: rest) pos) (tP X.K X.mg Eh (xAnd f g)) := (pe_and ha hb).imp fun s H Q ⟨w, F, hold, q⟩ => by
  refine tP_run hold (Stp.refl fun _ m => m) q fun d w2 v H2 F2 e st h2 q2 => ?_
  obtain ⟨fx, rx, _⟩ := Hold.one h2
  cases eb : blD d with
  | none => rw [eb] at q2; exact q2.elim
  | some k =>
    rw [eb] at q2
    refine ⟨k, bl_rv rx eb, ?_⟩
    obtain ⟨F3, h3, sub⟩ := h2.drop0
    cases k with
    | true => rw [if_pos rfl]; exact pe_back (st.trans (Stp.refl sub)) h3 q2
    | false => rw [if_neg Bool.false_ne_true]; exact fin_new q2 st h2 (.plain ⟨rfl, rfl⟩)
theorem pp_or (ha : PE X a (tP X.K X.mg Eh f)) (hb : PE X (.BoolOp .Or (b :: rest) pos) (tP X.K X.mg Eh g)) : PE X (.BoolOp .Or (a :: b :: rest) pos) (tP X.K X.mg Eh (xOr f g)) := (pe_or ha hb).imp fun s H Q ⟨w, F, hold, q⟩ => by
  refine tP_run hold (Stp.refl fun _ m => m) q fun d w2 v H2 F2 e st h2 q2 => ?_
  obtain ⟨fx, rx, _⟩ := Hold.one h2
  cases eb : blD d with
  | none => rw [eb] at q2; exact q2.elim
  | some k =>
    rw [eb] at q2
    refine ⟨k, bl_rv rx eb, ?_⟩
    obtain ⟨F3, h3, sub⟩ := h2.drop0
    cases k with
    | true => rw [if_pos rfl]; exact fin_new q2 st h2 (.plain ⟨rfl, rfl⟩)
    | false => rw [if_neg Bool.false_ne_true]; exact pe_back (st.trans (Stp.refl sub)) h3 q2
theorem pp_not (ha : PE X a (tP X.K X.mg Eh f)) : PE X (.UnaryOp .Not a pos) (tP X.K X.mg Eh (x1g dNot f)) := (pe_not ha).imp fun s H Q ⟨w, F, hold, q⟩ => by
  refine tP_run hold (Stp.refl fun _ m => m) q fun d w2 v H2 F2 e st h2 q2 => ?_
  obtain ⟨z, hz, q3⟩ := back_po q2
  obtain ⟨fx, rx, _⟩ := Hold.one h2
  cases d with
  | bl k => cases hz; exact ⟨k, rx.1, fin_new q3 st h2 (.plain ⟨rfl, rfl⟩)⟩
  | non => cases hz
  | int i => cases hz
  | str x => cases hz
  | tup x => cases hz
  | lst x => cases hz
  | own x => cases hz
theorem pp_if (hc : PT X c (tT X.K X.mg Eh t)) (ha : PE X a (tP X.K X.mg Eh f)) (hb : PE X b (tP X.K X.mg Eh g)) : PE X (.IfExp c a b pos) (tP X.K X.mg Eh (xIf t f g)) := (pe_ifExp hc ha hb).imp fun s H Q ⟨w, F, hold, q⟩ => by
  refine tT_run hold (Stp.refl fun _ m => m) q fun k w2 H2 F2 e st h2 q2 => ?_
  cases k with
  | true => rw [if_pos rfl] at q2 ⊢; exact pe_back st h2 q2
  | false => rw [if_neg Bool.false_ne_true] at q2 ⊢; exact pe_back st h2 q2
end
end Pm

set_option autoImplicit true
namespace Pm
open PySem PySem.Spec L2

/-! ### slots that are owned: taken and put back -/
section
variable {K : PySem.W.Frag} {H : Hp} {w : Ev} {s : L2.St} {ds : List D} {vs : List V} {F : List Addr}
theorem Hold.takeS {j : Nat} {d : D} (h : Hold K H w s ds vs F) (e : slot w j = some d) : ∃ v, s[j]? = some (some v) ∧ Hold K H (w.set j none) s (d :: ds) (v :: vs) F := by
  obtain ⟨ft, fe, h1, h2, p, nd⟩ := h
  obtain ⟨v, f, g, a, b, c, q⟩ := h2.take (slot_some e)
  refine ⟨v, a, f ++ ft, g, ⟨v, vs, f, ft, rfl, b, h1, rfl⟩, c, ?_, nd⟩
  refine p.trans ((q.append_left ft).trans ?_)
  rw [← List.append_assoc]
  exact (List.perm_append_comm (l₁ := ft) (l₂ := f)).append_right g
theorem Hold.put {j : Nat} {d : D} {v : V} (h : Hold K H w s (d :: ds) (v :: vs) F) (hj : j < w.length) : ∃ F', Hold K H (w.set j (some d)) (s.set j (some v)) ds vs F' ∧ ∀ a ∈ F', a ∈ F := by
  obtain ⟨ft, fe, h1, h2, p, nd⟩ := h
  obtain ⟨v', r, f, g, e1, q, q2, e2⟩ := h1
  injection e1 with e3 e4
  subst e3; subst e4; subst e2
  obtain ⟨g2, h3, g3, pp⟩ := h2.put hj q
  have p2 : F.Perm (g ++ (g3 ++ g2)) := by
    refine p.trans ?_
    rw [List.append_assoc]
    refine (List.perm_append_comm (l₁ := f) (l₂ := g ++ fe)).trans ?_
    rw [List.append_assoc]
    exact ((List.perm_append_comm (l₁ := fe) (l₂ := f)).trans pp).append_left g
  refine ⟨g ++ g2, ⟨g, g2, q2, h3, .refl _, ?_⟩, fun a m => p2.mem_iff.mpr ?_⟩
  · have n2 := p2.nodup_iff.mp nd
    obtain ⟨n3, n4, n5⟩ := List.nodup_append.mp n2
    obtain ⟨n6, n7, n8⟩ := List.nodup_append.mp n4
    exact List.nodup_append.mpr ⟨n3, n7, fun a m b m2 e => n5 a m b (List.mem_append_right _ m2) e⟩
  · rcases List.mem_append.mp m with z | z
    · exact List.mem_append_left _ z
    · exact List.mem_append_right _ (List.mem_append_right _ z)
theorem set_self {α : Type} {s : List α} {j : Nat} {x : α} (h : s[j]? = some x) : s.set j x = s := by
  obtain ⟨hj, e⟩ := List.getElem?_eq_some_iff.mp h
  rw [← e]
  exact List.set_getElem_self hj
theorem Hold.putS {j : Nat} {d : D} {v : V} (h : Hold K H w s (d :: ds) (v :: vs) F) (e : s[j]? = some (some v)) : ∃ F', Hold K H (w.set j (some d)) s ds vs F' ∧ ∀ a ∈ F', a ∈ F := by
  have hl : s.length = w.length := by
    obtain ⟨ft, fe, h1, h2, p, nd⟩ := h
    exact h2.length
  have hj : j < w.length := by rw [← hl]; exact (List.getElem?_eq_some_iff.mp e).1
  obtain ⟨F', h', m⟩ := h.put hj
  rw [set_self e] at h'
  exact ⟨F', h', m⟩
theorem Hold.wipe (h : Hold K H w s ds vs F) (j : Nat) : ∃ F', Hold K H (w.set j none) s ds vs F' ∧ ∀ a ∈ F', a ∈ F := by
  obtain ⟨ft, fe, h1, h2, p, nd⟩ := h
  obtain ⟨g, g', h3, q⟩ := h2.wipe j
  have p2 : F.Perm (ft ++ (g' ++ g)) := p.trans (q.append_left ft)
  refine ⟨ft ++ g, ⟨ft, g, h1, h3, .refl _, ?_⟩, fun a m => p2.mem_iff.mpr ?_⟩
  · have n2 := p2.nodup_iff.mp nd
    obtain ⟨n3, n4, n5⟩ := List.nodup_append.mp n2
    obtain ⟨n6, n7, n8⟩ := List.nodup_append.mp n4
    exact List.nodup_append.mpr ⟨n3, n7, fun a m b m2 e => n5 a m b (List.mem_append_right _ m2) e⟩
  · rcases List.mem_append.mp m with z | z
    · exact List.mem_append_left _ z
    · exact List.mem_append_right _ (List.mem_append_right _ z)
theorem Hold.setNone {j : Nat} {x : Option V} (h : Hold K H w s ds vs F) (e : w[j]? = some none) : Hold K H w (s.set j x) ds vs F := by
  obtain ⟨ft, fe, h1, h2, p, nd⟩ := h
  exact ⟨ft, fe, h1, h2.setNone j x e, p, nd⟩
/-- an owned list that is held is written anew -/
theorem Hold.wr {xs xs' : List D} {a : Addr} {us' : List V} (h : Hold K H w s (.own xs :: ds) (.ref a :: vs) F) :
    ∃ us, H a = some (.lst us) ∧ xs.length = us.length ∧ a ∈ F ∧ Mut (H a) ∧
      ∀ xs' us', (∀ H', Kp [a] H H' → ∀ ft f, RVs K H' ds vs ft → RVs K H' xs us f → ∃ f', RVs K H' xs' us' f' ∧ ∃ g, (f ++ ft).Perm (g ++ f')) →
        ∃ F', Hold K (upd H a (.lst us')) w s [.own xs'] [.ref a] F' ∧ (∀ a ∈ F', a ∈ F) ∧ Stp F H F' (upd H a (.lst us')) := by
  obtain ⟨ft0, fe, h1, h2, p, nd⟩ := h
  obtain ⟨v', r, f0, ft, e1, q, q2, e2⟩ := h1
  injection e1 with e3 e4
  subst e3; subst e4; subst e2
  obtain ⟨a', us, f, e5, q5, r5, e6⟩ := q
  cases e5
  subst e6
  have ma : a ∈ F := p.mem_iff.mpr (List.mem_append_left _ (List.mem_append_left _ List.mem_cons_self))
  refine ⟨us, q5, r5.length, ma, by rw [q5]; trivial, fun xs' us' hx => ?_⟩
  have k : Kp [a] H (upd H a (.lst us')) := fun b o e n => by rw [upd_ne (fun z => n (by rw [z]; exact List.mem_cons_self))]; exact e
  have mk : ∀ b ∈ [a], Mut (H b) := fun b m => by
    have e : b = a := by simpa using m
    rw [e, q5]; trivial
  have n0 : (a :: (f ++ (ft ++ fe))).Nodup := by
    have := p.nodup_iff.mp nd
    rw [List.append_assoc] at this
    exact this
  obtain ⟨na, n1⟩ := List.nodup_cons.mp n0
  have apart : ∀ (l : List Addr), (∀ b ∈ l, b ∈ f ++ (ft ++ fe)) → ∀ b ∈ l, b ∉ [a] := fun l m b mb z => by
    have e : b = a := by simpa using z
    exact na (e ▸ m b mb)
  have rf := RVs.kp k mk xs us f (apart f fun b m => List.mem_append_left _ m) r5
  have rt := RVs.kp k mk ds vs ft (apart ft fun b m => List.mem_append_right _ (List.mem_append_left _ m)) q2
  have re := h2.kp k mk (apart fe fun b m => List.mem_append_right _ (List.mem_append_right _ m))
  obtain ⟨f', r', g, pg⟩ := hx _ k ft f rt rf
  have pF : F.Perm (a :: (g ++ f') ++ fe) := by
    refine p.trans ?_
    show (a :: (f ++ ft) ++ fe).Perm (a :: (g ++ f') ++ fe)
    exact (pg.cons a).append_right fe
  refine ⟨a :: f' ++ fe, ⟨a :: f', fe, RVs.one ⟨a, us', f', rfl, upd_same, r', rfl⟩, re, .refl _, ?_⟩, ?_⟩
  · have n2 := pF.nodup_iff.mp nd
    rw [List.cons_append] at n2
    obtain ⟨nb, n3⟩ := List.nodup_cons.mp n2
    rw [List.append_assoc] at n3 nb
    obtain ⟨n4, n5, n6⟩ := List.nodup_append.mp n3
    rw [List.cons_append]
    exact List.nodup_cons.mpr ⟨fun z => nb (List.mem_append_right _ z), n5⟩
  · have sub : ∀ b ∈ a :: f' ++ fe, b ∈ F := fun b m => pF.mem_iff.mpr (by
      rw [List.cons_append] at m
      rcases List.mem_cons.mp m with z | z
      · rw [z]; exact List.mem_append_left _ List.mem_cons_self
      · rcases List.mem_append.mp z with z | z
        · exact List.mem_append_left _ (List.mem_cons_of_mem _ (List.mem_append_right _ z))
        · exact List.mem_append_right _ z)
    exact ⟨sub, fun b o e n => k b o e fun z => n (by
      have e2 : b = a := by simpa using z
      rw [e2]; exact ma), fun b m => .inl (sub b m)⟩
theorem RVs.setD : ∀ {xs : List D} {us : List V} {f ft : List Addr} {k : Nat} {d : D} {v : V}, RVs K H xs us f → RV K H d v ft → k < xs.length → ∃ f', RVs K H (xs.set k d) (us.set k v) f' ∧ ∃ g, (f ++ ft).Perm (g ++ f')
  | [], us, f, ft, k, d, v, r, rv, hk => absurd hk (by simp)
  | x :: xs, us, f, ft, 0, d, v, r, rv, hk => by
    obtain ⟨u, t, f1, g1, e, q, q2, e2⟩ := r
    subst e; subst e2
    refine ⟨ft ++ g1, ⟨v, t, ft, g1, rfl, rv, q2, rfl⟩, f1, ?_⟩
    rw [List.append_assoc]
    exact (List.perm_append_comm (l₁ := g1) (l₂ := ft)).append_left f1
  | x :: xs, us, f, ft, k + 1, d, v, r, rv, hk => by
    obtain ⟨u, t, f1, g1, e, q, q2, e2⟩ := r
    subst e; subst e2
    obtain ⟨f', r', g, pg⟩ := RVs.setD (k := k) q2 rv (by simpa using hk)
    refine ⟨f1 ++ f', ⟨u, _, f1, f', rfl, q, r', rfl⟩, g, ?_⟩
    rw [List.append_assoc]
    refine (pg.append_left f1).trans ?_
    rw [← List.append_assoc, ← List.append_assoc]
    exact (List.perm_append_comm (l₁ := f1) (l₂ := g)).append_right f'
theorem RVs.erase : ∀ {xs : List D} {us : List V} {f : List Addr} {k : Nat} {d : D}, RVs K H xs us f → xs[k]? = some d → ∃ v f1 f2, us[k]? = some v ∧ RV K H d v f1 ∧ RVs K H (xs.eraseIdx k) (us.eraseIdx k) f2 ∧ f.Perm (f1 ++ f2)
  | [], us, f, k, d, r, hk => by simp at hk
  | x :: xs, us, f, 0, d, r, hk => by
    obtain ⟨u, t, f1, g1, e, q, q2, e2⟩ := r
    subst e; subst e2
    simp at hk
    subst hk
    exact ⟨u, f1, g1, rfl, q, q2, .refl _⟩
  | x :: xs, us, f, k + 1, d, r, hk => by
    obtain ⟨u, t, f1, g1, e, q, q2, e2⟩ := r
    subst e; subst e2
    obtain ⟨v, h1, h2, e3, r3, r4, p⟩ := RVs.erase (k := k) q2 (by simpa using hk)
    refine ⟨v, h1, f1 ++ h2, by simpa using e3, r3, ⟨u, _, f1, h2, rfl, q, r4, rfl⟩, ?_⟩
    refine (p.append_left f1).trans ?_
    rw [← List.append_assoc, ← List.append_assoc]
    exact (List.perm_append_comm (l₁ := f1) (l₂ := h1)).append_right h2
end

/-! ### statements -/
inductive Fl where
  | nx | bk | ct | rt (d : D)
def Agr (wr : List Nat) (s s' : L2.St) : Prop := s'.length = s.length ∧ ∀ i, i ∉ wr → s'[i]? = s[i]?
theorem Agr.refl (wr : List Nat) (s : L2.St) : Agr wr s s := ⟨rfl, fun _ _ => rfl⟩
theorem Agr.trans {wr : List Nat} {a b c : L2.St} (h : Agr wr a b) (h' : Agr wr b c) : Agr wr a c := ⟨h'.1.trans h.1, fun i n => (h'.2 i n).trans (h.2 i n)⟩
theorem Agr.mono {wr wr' : List Nat} {a b : L2.St} (h : Agr wr a b) (m : ∀ i ∈ wr, i ∈ wr') : Agr wr' a b := ⟨h.1, fun i n => h.2 i fun z => n (m i z)⟩
theorem Agr.set {wr : List Nat} {s : L2.St} {i : Nat} {x : Option V} (m : i ∈ wr) : Agr wr s (s.set i x) := ⟨List.length_set, fun k n => by
  rw [List.getElem?_set_ne]
  exact fun e => n (e ▸ m)⟩
section
variable (K : PySem.W.Frag) (mg : Str → Option Value) (Eh : WX) (wr : List Nat)
def PoS (H : Hp) (F : List Addr) (s : L2.St) (r : Rs Fl) (E : Ends) : Prop :=
  match r with
  | .ok .nx w => ∀ s' H' F', Stp F H F' H' → Agr wr s s' → Hold K H' w s' [] [] F' → E.nx s' H'
  | .ok .bk w => ∀ s' H' F', Stp F H F' H' → Agr wr s s' → Hold K H' w s' [] [] F' → E.bk s' H'
  | .ok .ct w => ∀ s' H' F', Stp F H F' H' → Agr wr s s' → Hold K H' w s' [] [] F' → E.ct s' H'
  | .ok (.rt d) w => ∀ v s' H' F', Stp F H F' H' → Agr wr s s' → Hold K H' w s' [d] [v] F' → E.rt v H'
  | .ex c fs w => ∀ cls od s' H' F', Stp F H F' H' → Agr wr s s' → Hold K H' w s' [] [] F' → ExR K mg H' c fs cls od → Eh cls od s' H'
  | .bad => False
def tS (f : PM Fl) : TS := fun E s H => ∃ w F, Hold K H w s [] [] F ∧ PoS K mg Eh wr H F s (f w) E
end
section
variable {X : Cx} {Eh : WX} {wr wr' wr1 wr2 : List Nat} {H H1 : Hp} {F F1 : List Addr} {s s1 : L2.St} {E : Ends}
/-- behind a step -/
theorem PoS.step {r : Rs Fl} (h : PoS X.K X.mg Eh wr H F s r E) (st : Stp F H F1 H1) (ag : Agr wr s s1) : PoS X.K X.mg Eh wr H1 F1 s1 r E := by
  cases r with
  | ok fl w =>
    cases fl with
    | nx => exact fun s' H' F' st' ag' h' => h s' H' F' (st.trans st') (ag.trans ag') h'
    | bk => exact fun s' H' F' st' ag' h' => h s' H' F' (st.trans st') (ag.trans ag') h'
    | ct => exact fun s' H' F' st' ag' h' => h s' H' F' (st.trans st') (ag.trans ag') h'
    | rt d => exact fun v s' H' F' st' ag' h' => h v s' H' F' (st.trans st') (ag.trans ag') h'
  | ex c fs w => exact fun cls od s' H' F' st' ag' h' x => h cls od s' H' F' (st.trans st') (ag.trans ag') h' x
  | bad => exact h
theorem PoS.weak {r : Rs Fl} (h : PoS X.K X.mg Eh wr' H F s r E) (m : ∀ i ∈ wr, i ∈ wr') : PoS X.K X.mg Eh wr H F s r E := by
  cases r with
  | ok fl w =>
    cases fl with
    | nx => exact fun s' H' F' st' ag' h' => h s' H' F' st' (ag'.mono m) h'
    | bk => exact fun s' H' F' st' ag' h' => h s' H' F' st' (ag'.mono m) h'
    | ct => exact fun s' H' F' st' ag' h' => h s' H' F' st' (ag'.mono m) h'
    | rt d => exact fun v s' H' F' st' ag' h' => h v s' H' F' st' (ag'.mono m) h'
  | ex c fs w => exact fun cls od s' H' F' st' ag' h' x => h cls od s' H' F' st' (ag'.mono m) h' x
  | bad => exact h
theorem tS_of {f : PM Fl} {w : Ev} (hold : Hold X.K H w s [] [] F) (m : ∀ i ∈ wr, i ∈ wr') (h : PoS X.K X.mg Eh wr' H F s (f w) E) : tS X.K X.mg Eh wr f E s H := ⟨w, F, hold, h.weak m⟩
/-- an expression ahead of the rest of a statement -/
theorem tP_runS {f : PM D} {k : D → Ev → Rs Fl} {R : VK} {w1 : Ev} {ds : List D} {vs : List V}
    (hold : Hold X.K H1 w1 s ds vs F1) (st : Stp F H F1 H1) (h : PoS X.K X.mg Eh wr H F s ((f w1).bind k) E)
    (c : ∀ d w2 v H2 F2, f w1 = .ok d w2 → Stp F H F2 H2 → Hold X.K H2 w2 s (ds ++ [d]) (vs ++ [v]) F2 → PoS X.K X.mg Eh wr H F s (k d w2) E → R v H2) : tP X.K X.mg Eh f s H1 R := by
  obtain ⟨F0, h0, sub, fr⟩ := hold.frame
  refine ⟨w1, F0, h0, ?_⟩
  cases e : f w1 with
  | ok d w2 =>
    rw [e] at h
    intro v H' F' st' h'
    obtain ⟨F2, h2, st2⟩ := fr st' h'
    exact c d w2 v H' F2 e (st.trans st2) h2 h
  | ex cc fs w2 =>
    rw [e] at h
    intro cls od H' F' st' h' x
    exact h cls od s H' F' (st.trans (st'.mono sub)) (.refl _ _) h' x
  | bad => rw [e] at h; exact h
theorem tA_runS {f : PM (List D)} {k : List D → Ev → Rs Fl} {R : List V → Hp → Prop} {w1 : Ev} {ds : List D} {vs : List V}
    (hold : Hold X.K H1 w1 s ds vs F1) (st : Stp F H F1 H1) (h : PoS X.K X.mg Eh wr H F s ((f w1).bind k) E)
    (c : ∀ es w2 us H2 F2, f w1 = .ok es w2 → Stp F H F2 H2 → Hold X.K H2 w2 s (ds ++ es) (vs ++ us) F2 → PoS X.K X.mg Eh wr H F s (k es w2) E → R us H2) : tA X.K X.mg Eh f s H1 R := by
  obtain ⟨F0, h0, sub, fr⟩ := hold.frame
  refine ⟨w1, F0, h0, ?_⟩
  cases e : f w1 with
  | ok d w2 =>
    rw [e] at h
    intro v H' F' st' h'
    obtain ⟨F2, h2, st2⟩ := fr st' h'
    exact c d w2 v H' F2 e (st.trans st2) h2 h
  | ex cc fs w2 =>
    rw [e] at h
    intro cls od H' F' st' h' x
    exact h cls od s H' F' (st.trans (st'.mono sub)) (.refl _ _) h' x
  | bad => rw [e] at h; exact h
theorem tT_runS {f : PM Bool} {k : Bool → Ev → Rs Fl} {R : Bool → Hp → Prop} {w1 : Ev}
    (hold : Hold X.K H1 w1 s [] [] F1) (st : Stp F H F1 H1) (h : PoS X.K X.mg Eh wr H F s ((f w1).bind k) E)
    (c : ∀ b w2 H2 F2, f w1 = .ok b w2 → Stp F H F2 H2 → Hold X.K H2 w2 s [] [] F2 → PoS X.K X.mg Eh wr H F s (k b w2) E → R b H2) : tT X.K X.mg Eh f s H1 R := by
  refine ⟨w1, F1, hold, ?_⟩
  cases e : f w1 with
  | ok d w2 =>
    rw [e] at h
    intro H' F' st' h'
    exact c d w2 H' F' e (st.trans st') h' h
  | ex cc fs w2 =>
    rw [e] at h
    intro cls od H' F' st' h' x
    exact h cls od s H' F' (st.trans st') (.refl _ _) h' x
  | bad => rw [e] at h; exact h

/-! small statements -/
def sNx : PM Fl := fun w => .ok .nx w
def sBk : PM Fl := fun w => .ok .bk w
def sCt : PM Fl := fun w => .ok .ct w
def sSeq (f g : PM Fl) : PM Fl := fun w => (f w).bind fun fl w1 => match fl with
  | .nx => g w1
  | o => .ok o w1
def sIf (t : PM Bool) (f g : PM Fl) : PM Fl := fun w => (t w).bind fun b w1 => if b = true then f w1 else g w1
def sRet (f : PM D) : PM Fl := fun w => (f w).bind fun d w1 => .ok (.rt d) w1
def sExpr (f : PM D) : PM Fl := fun w => (f w).bind fun _ w1 => .ok .nx w1
def setE (w : Ev) (i : Nat) (d : D) : Option Ev := if i < w.length then some (w.set i (some d)) else none
def backW (o : Option Ev) : Rs Fl := match o with
  | some w => .ok .nx w
  | none => .bad
@[simp] theorem backW_some (w : Ev) : backW (some w) = .ok .nx w := rfl
@[simp] theorem backW_none : backW none = .bad := rfl
def sSet (i : Nat) (f : PM D) : PM Fl := fun w => (f w).bind fun d w1 => backW (setE w1 i d)
theorem ss_nil : PSs X [] (tS X.K X.mg Eh [] sNx) := pss_nil.imp fun E s H ⟨w, F, hold, q⟩ => q s H F (Stp.refl fun _ m => m) (.refl _ _) hold
theorem ss_pass {pos : Pos} : PS X (.Pass pos) (tS X.K X.mg Eh [] sNx) := ps_pass.imp fun E s H ⟨w, F, hold, q⟩ => q s H F (Stp.refl fun _ m => m) (.refl _ _) hold
theorem ss_break {pos : Pos} : PS X (.Break pos) (tS X.K X.mg Eh [] sBk) := ps_break.imp fun E s H ⟨w, F, hold, q⟩ => q s H F (Stp.refl fun _ m => m) (.refl _ _) hold
theorem ss_cont {pos : Pos} : PS X (.Continue pos) (tS X.K X.mg Eh [] sCt) := ps_continue.imp fun E s H ⟨w, F, hold, q⟩ => q s H F (Stp.refl fun _ m => m) (.refl _ _) hold
/-- a statement, with what follows it -/
theorem tS_run {f : PM Fl} {k : Fl → Ev → Rs Fl} {R : L2.St → Hp → Prop} {w1 : Ev} (hold : Hold X.K H1 w1 s1 [] [] F1) (st : Stp F H F1 H1) (ag : Agr wr s s1) (m : ∀ i ∈ wr1, i ∈ wr)
    (h : PoS X.K X.mg Eh wr H F s ((f w1).bind k) E) (hk : ∀ fl w, fl ≠ .nx → k fl w = .ok fl w)
    (c : ∀ w2 s2 H2 F2, Stp F H F2 H2 → Agr wr s s2 → Hold X.K H2 w2 s2 [] [] F2 → PoS X.K X.mg Eh wr H F s (k .nx w2) E → R s2 H2) : tS X.K X.mg Eh wr1 f { E with nx := R } s1 H1 := by
  refine ⟨w1, F1, hold, ?_⟩
  cases e : f w1 with
  | bad => rw [e] at h; exact h
  | ex cc fs w2 =>
    rw [e] at h
    exact fun cls od s' H' F' st' ag' h' x => h cls od s' H' F' (st.trans st') (ag.trans (ag'.mono m)) h' x
  | ok fl w2 =>
    rw [e] at h
    rw [Rs.bind_ok] at h
    cases fl with
    | nx => exact fun s' H' F' st' ag' h' => c w2 s' H' F' (st.trans st') (ag.trans (ag'.mono m)) h' h
    | bk => rw [hk .bk w2 (by intro z; cases z)] at h; exact fun s' H' F' st' ag' h' => h s' H' F' (st.trans st') (ag.trans (ag'.mono m)) h'
    | ct => rw [hk .ct w2 (by intro z; cases z)] at h; exact fun s' H' F' st' ag' h' => h s' H' F' (st.trans st') (ag.trans (ag'.mono m)) h'
    | rt d => rw [hk (.rt d) w2 (by intro z; cases z)] at h; exact fun v s' H' F' st' ag' h' => h v s' H' F' (st.trans st') (ag.trans (ag'.mono m)) h'
theorem ss_cons {st : Stmt} {rest : List Stmt} {f g : PM Fl} (h1 : PS X st (tS X.K X.mg Eh wr1 f)) (h2 : PSs X rest (tS X.K X.mg Eh wr2 g)) : PSs X (st :: rest) (tS X.K X.mg Eh (wr1 ++ wr2) (sSeq f g)) := (pss_cons h1 h2).imp fun E s H ⟨w, F, hold, q⟩ => by
  refine tS_run hold (Stp.refl fun _ m => m) (.refl _ _) (fun i m => List.mem_append_left _ m) q (fun fl w n => ?_) fun w2 s2 H2 F2 st ag h2 q2 => ?_
  · cases fl with
    | nx => exact absurd rfl n
    | bk => rfl
    | ct => rfl
    | rt d => rfl
  · exact tS_of h2 (fun i m => List.mem_append_right _ m) (q2.step st ag)
theorem ss_one {st : Stmt} {f : PM Fl} (h1 : PS X st (tS X.K X.mg Eh wr f)) : PSs X [st] (tS X.K X.mg Eh wr f) := pss_one h1
theorem ss_if {c : Expr} {a b : List Stmt} {pos : Pos} {t : PM Bool} {f g : PM Fl} (hc : PT X c (tT X.K X.mg Eh t)) (ha : PSs X a (tS X.K X.mg Eh wr1 f)) (hb : PSs X b (tS X.K X.mg Eh wr2 g)) : PS X (.If c a b pos) (tS X.K X.mg Eh (wr1 ++ wr2) (sIf t f g)) := (ps_if hc ha hb).imp fun E s H ⟨w, F, hold, q⟩ => by
  refine tT_runS hold (Stp.refl fun _ m => m) q fun k w2 H2 F2 e st h2 q2 => ?_
  cases k with
  | true => rw [if_pos rfl] at q2 ⊢; exact tS_of h2 (fun i m => List.mem_append_left _ m) (q2.step st (.refl _ _))
  | false => rw [if_neg Bool.false_ne_true] at q2 ⊢; exact tS_of h2 (fun i m => List.mem_append_right _ m) (q2.step st (.refl _ _))
theorem ss_ret {e : Expr} {pos : Pos} {f : PM D} (he : PE X e (tP X.K X.mg Eh f)) : PS X (.Return (some e) pos) (tS X.K X.mg Eh [] (sRet f)) := (ps_ret he).imp fun E s H ⟨w, F, hold, q⟩ => by
  refine tP_runS hold (Stp.refl fun _ m => m) q fun d w2 v H2 F2 e st h2 q2 => ?_
  exact q2 v s H2 F2 st (.refl _ _) h2
theorem ss_retN {pos : Pos} : PS X (.Return none pos) (tS X.K X.mg Eh [] (sRet (xC .non))) := ps_retN.imp fun E s H ⟨w, F, hold, q⟩ => by
  obtain ⟨ft, fe, h1, h2, p, nd⟩ := hold
  have e0 : ft = [] := h1.2
  subst e0
  exact q .non s H F (Stp.refl fun _ m => m) (.refl _ _) ⟨[], fe, RVs.one ⟨rfl, rfl⟩, h2, p, nd⟩
theorem ss_expr {e : Expr} {pos : Pos} {f : PM D} (he : PE X e (tP X.K X.mg Eh f)) (hs : swapsWith e none pos.line X.env = pure false := by rfl) : PS X (.Expr e pos) (tS X.K X.mg Eh [] (sExpr f)) := (ps_expr he hs).imp fun E s H ⟨w, F, hold, q⟩ => by
  refine tP_runS hold (Stp.refl fun _ m => m) q fun d w2 v H2 F2 e st h2 q2 => ?_
  obtain ⟨F3, h3, sub⟩ := h2.drop0
  exact q2 s H2 F3 (st.trans (Stp.refl sub)) (.refl _ _) h3
/-- a name's store -/
theorem set_po {i : Nat} {d : D} {v : V} {w : Ev} {H2 : Hp} {F2 : List Addr} (hi : i ∈ wr) (st : Stp F H F2 H2) (ag : Agr wr s s1) (h2 : Hold X.K H2 w s1 [d] [v] F2) (q : PoS X.K X.mg Eh wr H F s (backW (setE w i d)) E) : E.nx (s1.set i (some v)) H2 := by
  unfold setE at q
  by_cases c : i < w.length
  · rw [if_pos c] at q
    obtain ⟨F3, h3, sub⟩ := h2.put c
    exact q _ H2 F3 (st.trans (Stp.refl sub)) (ag.trans (.set hi)) h3
  · rw [if_neg c] at q; exact q.elim
theorem set_imp {i : Nat} {f : PM D} (h : tS X.K X.mg Eh [i] (sSet i f) E s H) : tAsg (tP X.K X.mg Eh f) (gName i) E s H := by
  obtain ⟨w, F, hold, q⟩ := h
  refine tP_runS hold (Stp.refl fun _ m => m) q fun d w2 v H2 F2 e st h2 q2 => ?_
  exact set_po List.mem_cons_self st (.refl _ _) h2 q2
theorem ss_set {i : Nat} {x : Str} {e : Expr} {f : PM D} {pos pos' : Pos} (hN : X.N.Nodup) (hi : X.N[i]? = some x) (hx : Loc X.env.scope x) (he : PE X e (tP X.K X.mg Eh f)) (hs : swapsWith e (some (.Name x pos')) pos.line X.env = pure false := by rfl) (hf : X.fn x = true ∨ X.env.scope.names.lookup x = some .local := by first | exact .inl rfl | exact .inr rfl | assumption) :
    PS X (.Assign [.Name x pos'] e pos) (tS X.K X.mg Eh [i] (sSet i f)) := (ps_set hN hi hx he hs hf).imp fun E s H h => set_imp h
end

/-! ### methods that change a slot's list -/
def ownD : D → Option (List D)
  | .own xs => some xs
  | _ => none
theorem ownD_some {d : D} {xs : List D} (h : ownD d = some xs) : d = .own xs := by
  cases d with
  | own ys => cases h; rfl
  | non => cases h
  | bl i => cases h
  | int i => cases h
  | str x => cases h
  | tup x => cases h
  | lst x => cases h
/-- x.append(e), x in slot j -/
def xApp (j : Nat) (f : PM D) : PM D := fun w => match (slot w j).bind ownD with
  | some _ => (f w).bind fun d w1 => match (slot w1 j).bind ownD with
    | some xs => if xs.length < sizeLine then .ok .non (w1.set j (some (.own (xs ++ [d])))) else .bad
    | none => .bad
  | none => .bad
/-- x.pop(e), x in slot j -/
def xPopAt (j : Nat) (f : PM D) : PM D := fun w => match (slot w j).bind ownD with
  | some _ => (f w).bind fun d w1 => match (slot w1 j).bind ownD, d with
    | some xs, .int i => match ixN xs.length i with
      | some k => match xs[k]? with
        | some y => if xs.length ≤ sizeLine then .ok y (w1.set j (some (.own (xs.eraseIdx k)))) else .bad
        | none => .bad
      | none => .bad
    | _, _ => .bad
  | none => .bad
/-- x.pop() -/
def xPop (j : Nat) : PM D := fun w => match (slot w j).bind ownD with
  | some xs => match xs[xs.length - 1]? with
    | some y => .ok y (w.set j (some (.own (xs.eraseIdx (xs.length - 1)))))
    | none => .bad
  | none => .bad
/-- x[g] = f -/
def sSetI (j : Nat) (f g : PM D) : PM Fl := fun w => (f w).bind fun d w1 => match slot w1 j with
  | some _ => (g w1).bind fun i w2 => match (slot w2 j).bind ownD, i with
    | some xs, .int n => match ixN xs.length n with
      | some k => .ok .nx (w2.set j (some (.own (xs.set k d))))
      | none => .bad
    | _, _ => .bad
  | none => .bad
theorem ixN_lt {n : Nat} {i : Int} {k : Nat} (h : ixN n i = some k) : k < n := (ixN_seq h).2.1
section
variable {X : Cx} {Eh : WX} {wr : List Nat} {H : Hp} {F : List Addr} {s : L2.St} {E : Ends} {o e : Expr} {apos cpos : Pos} {j : Nat} {f g : PM D}
theorem slotOwn {w : Ev} {xs : List D} (h : (slot w j).bind ownD = some xs) : slot w j = some (.own xs) := by
  obtain ⟨d, h1, h2⟩ := Option.bind_eq_some_iff.mp h
  rw [h1, ownD_some h2]
theorem own_at {K : PySem.W.Frag} {w : Ev} {xs : List D} {ds : List D} {vs : List V} (hold : Hold K H w s ds vs F) (h : slot w j = some (.own xs)) : ∃ a us, s[j]? = some (some (.ref a)) ∧ H a = some (.lst us) := by
  obtain ⟨v, f, e1, r, m⟩ := hold.atSlot h
  obtain ⟨a, us, g, e2, q, _⟩ := r
  exact ⟨a, us, by rw [e1, e2], q⟩
theorem pp_app (ho : PE X o (tV X.K j)) (ha : PE X e (tP X.K X.mg Eh f))
    (hbase : attributeBase o "append" X.env (eval o X.env) = eval o X.env := by rfl)
    (hfew : ((backTo cpos (starEach (e :: []) X.env)).all (fun x => !x.1) && (backToKw cpos (keywordEach [] X.env)).all (fun x => x.1.isSome)
      && decide ((e :: []).length + ([] : List Keyword).length + (if ([] : List Keyword).isEmpty then 0 else 1) < 30)) = true := by rfl)
    (hline : (apos.endLine == cpos.line) = true := by rfl) (hs : starEach (e :: []) X.env = (false, eval e X.env) :: starEach [] X.env := by rfl) (hplain : (backTo cpos (starEach [] X.env)).any (·.1) = false := by rfl) :
    PE X (.Call (.Attribute o "append" apos) [e] [] cpos) (tP X.K X.mg Eh (xApp j f)) :=
  (pe_bm PySem.F.plainAttrs_list PySem.F.slot_list_append PySem.F.type_list_append mt_append ho (pa_cons ha pa_nil hs) hbase hfew hline hs hplain).imp fun s H Q ⟨w, F, hold, q⟩ => by
    unfold xApp at q
    cases e0 : (slot w j).bind ownD with
    | none => rw [e0] at q; exact q.elim
    | some xs0 =>
      rw [e0] at q
      refine tV_run hold (slotOwn e0) fun v0 f0 ej r0 _ => ?_
      obtain ⟨a, us0, g0, ea, qa, _⟩ := r0
      subst ea
      refine ⟨.inl ⟨rfl, us0, .of qa⟩, ?_⟩
      refine tP_run hold (Stp.refl fun _ m => m) q fun d w2 v H2 F2 e st h2 q2 => ?_
      cases e1 : (slot w2 j).bind ownD with
      | none => rw [e1] at q2; exact q2.elim
      | some xs =>
        rw [e1] at q2
        by_cases c : xs.length < sizeLine
        · replace q2 := (show Po X.K X.mg Eh _ _ _ (if xs.length < sizeLine then Rs.ok D.non (w2.set j (some (.own (xs ++ [d])))) else .bad) _ from q2)
          rw [if_pos c] at q2
          obtain ⟨v', ej', h3⟩ := Hold.takeS (ds := [d]) (vs := [v]) h2 (slotOwn e1)
          rw [ej] at ej'
          cases ej'
          obtain ⟨us, hu, hl, _, _, wrt⟩ := Hold.wr (xs' := xs) (us' := us0) h3
          obtain ⟨F4, h4, sub, st4⟩ := wrt (xs ++ [d]) (us ++ [v]) fun H' k ft f r1 r2 => ⟨f ++ ft, r2.append r1, [], .refl _⟩
          refine ⟨a, us, v, rfl, rfl, hu, by rw [← hl]; exact c, ?_⟩
          obtain ⟨F5, h5, sub5⟩ := Hold.putS h4 ej
          rw [List.set_set] at h5
          exact fin_new q2 ((st.trans st4).trans (Stp.refl sub5)) h5 (.plain ⟨rfl, rfl⟩)
        · replace q2 := (show Po X.K X.mg Eh _ _ _ (if xs.length < sizeLine then Rs.ok D.non (w2.set j (some (.own (xs ++ [d])))) else .bad) _ from q2)
          rw [if_neg c] at q2; exact q2.elim
theorem pp_popAt (ho : PE X o (tV X.K j)) (ha : PE X e (tP X.K X.mg Eh f))
    (hbase : attributeBase o "pop" X.env (eval o X.env) = eval o X.env := by rfl)
    (hfew : ((backTo cpos (starEach (e :: []) X.env)).all (fun x => !x.1) && (backToKw cpos (keywordEach [] X.env)).all (fun x => x.1.isSome)
      && decide ((e :: []).length + ([] : List Keyword).length + (if ([] : List Keyword).isEmpty then 0 else 1) < 30)) = true := by rfl)
    (hline : (apos.endLine == cpos.line) = true := by rfl) (hs : starEach (e :: []) X.env = (false, eval e X.env) :: starEach [] X.env := by rfl) (hplain : (backTo cpos (starEach [] X.env)).any (·.1) = false := by rfl) :
    PE X (.Call (.Attribute o "pop" apos) [e] [] cpos) (tP X.K X.mg Eh (xPopAt j f)) :=
  (pe_bm PySem.F.plainAttrs_list PySem.F.slot_list_pop PySem.F.type_list_pop mt_popAt ho (pa_cons ha pa_nil hs) hbase hfew hline hs hplain).imp fun s H Q ⟨w, F, hold, q⟩ => by
    unfold xPopAt at q
    cases e0 : (slot w j).bind ownD with
    | none => rw [e0] at q; exact q.elim
    | some xs0 =>
      rw [e0] at q
      refine tV_run hold (slotOwn e0) fun v0 f0 ej r0 _ => ?_
      obtain ⟨a, us0, g0, ea, qa, _⟩ := r0
      subst ea
      refine ⟨.inl ⟨rfl, us0, .of qa⟩, ?_⟩
      refine tP_run hold (Stp.refl fun _ m => m) q fun d w2 v H2 F2 e st h2 q2 => ?_
      cases e1 : (slot w2 j).bind ownD with
      | none => rw [e1] at q2; exact q2.elim
      | some xs =>
        rw [e1] at q2
        cases d with
        | int i =>
          dsimp only at q2
          cases e2 : ixN xs.length i with
          | none => rw [e2] at q2; exact q2.elim
          | some k =>
            rw [e2] at q2
            dsimp only at q2
            cases e3 : xs[k]? with
            | none => rw [e3] at q2; exact q2.elim
            | some y =>
              rw [e3] at q2
              dsimp only at q2
              by_cases c : xs.length ≤ sizeLine
              · rw [if_pos c] at q2
                obtain ⟨fx, rx, _⟩ := Hold.one h2
                obtain ⟨F2', h2', sub2⟩ := h2.drop0
                obtain ⟨v', ej', h3⟩ := Hold.takeS (ds := []) (vs := []) h2' (slotOwn e1)
                rw [ej] at ej'
                cases ej'
                -- the item leaves the list
                obtain ⟨ft0, fe, k1, k2, p, nd⟩ := h3
                obtain ⟨a', us, f, e5, q5, r5, e6⟩ := k1.one'
                cases e5
                obtain ⟨u, f1, f2, e7, r6, r7, p2⟩ := RVs.erase r5 e3
                have hl := r5.length
                have line : sizeLine < 2 ^ 63 := line63
                obtain ⟨z1, z2, z3, z4⟩ := ixN_seq e2
                refine ⟨a, us, i, k, u, rfl, by rw [rx.1], q5, by omega, by omega, by rw [← hl]; exact z1, e7, ?_⟩
                have kk : Kp [a] H2 (upd H2 a (.lst (us.eraseIdx k))) := fun b o e n => by rw [upd_ne (fun z => n (by rw [z]; exact List.mem_cons_self))]; exact e
                have mk : ∀ b ∈ [a], Mut (H2 b) := fun b m => by
                  have e : b = a := by simpa using m
                  rw [e, q5]; trivial
                subst e6
                have n0 := p.nodup_iff.mp nd
                rw [List.cons_append] at n0
                obtain ⟨na, n1⟩ := List.nodup_cons.mp n0
                have pF : F2'.Perm (a :: (f1 ++ f2) ++ fe) := p.trans ((p2.cons a).append_right fe)
                have apart : ∀ (l : List Addr), (∀ b ∈ l, b ∈ f ++ fe) → ∀ b ∈ l, b ∉ [a] := fun l m b mb z => by
                  have e : b = a := by simpa using z
                  exact na (e ▸ m b mb)
                have i1 : ∀ b ∈ f1, b ∈ f := fun b m => p2.mem_iff.mpr (List.mem_append_left _ m)
                have i2 : ∀ b ∈ f2, b ∈ f := fun b m => p2.mem_iff.mpr (List.mem_append_right _ m)
                have R1 := RV.kp kk mk y u f1 (apart f1 fun b m => List.mem_append_left _ (i1 b m)) r6
                have R2 := RVs.kp kk mk _ _ f2 (apart f2 fun b m => List.mem_append_left _ (i2 b m)) r7
                have R3 := k2.kp kk mk (apart fe fun b m => List.mem_append_right _ m)
                have h5 : Hold X.K (upd H2 a (.lst (us.eraseIdx k))) (w2.set j none) s [.own (xs.eraseIdx k), y] [.ref a, u] F2' := by
                  refine ⟨(a :: f2) ++ f1, fe, ⟨.ref a, [u], a :: f2, f1, rfl, ⟨a, _, f2, rfl, upd_same, R2, rfl⟩, RVs.one R1, rfl⟩, R3, pF.trans ?_, nd⟩
                  exact ((List.perm_append_comm (l₁ := f1) (l₂ := f2)).cons a).append_right fe
                have ma : a ∈ F2' := pF.mem_iff.mpr (List.mem_append_left _ List.mem_cons_self)
                obtain ⟨F5, h6, sub5⟩ := Hold.putS h5 ej
                rw [List.set_set] at h6
                refine q2 u _ F5 ((st.trans (Stp.refl sub2)).trans (F1 := F2') ⟨fun b o e n => kk b o e fun z => n ?_, fun b m => .inl (sub5 b m)⟩) h6
                have e : b = a := by simpa using z
                rw [e]; exact ma
              · rw [if_neg c] at q2; exact q2.elim
        | non => exact q2.elim
        | bl i => exact q2.elim
        | str x => exact q2.elim
        | tup x => exact q2.elim
        | lst x => exact q2.elim
        | own x => exact q2.elim
theorem setI_imp {tpos : Pos} (h : tS X.K X.mg Eh [] (sSetI j f g) E s H) : tAsg (tP X.K X.mg Eh f) (gSub (tV X.K j) (tP X.K X.mg Eh g) rSetL) E s H := by
  obtain ⟨w, F, hold, q⟩ := h
  refine tP_runS hold (Stp.refl fun _ m => m) q fun d w1 v H1 F1 e st h1 q1 => ?_
  cases e0 : slot w1 j with
  | none => rw [e0] at q1; exact q1.elim
  | some d0 =>
    rw [e0] at q1
    refine tV_run h1 e0 fun v0 f0 ej r0 _ => ?_
    refine tP_runS h1 st q1 fun i w2 vi H2 F2 e st h2 q2 => ?_
    cases e1 : (slot w2 j).bind ownD with
    | none => rw [e1] at q2; exact q2.elim
    | some xs =>
      rw [e1] at q2
      cases i with
      | int n =>
        dsimp only at q2
        cases e2 : ixN xs.length n with
        | none => rw [e2] at q2; exact q2.elim
        | some k =>
          rw [e2] at q2
          obtain ⟨fd, fi, rd, ri, _, _⟩ := Hold.two h2
          -- the index is let go
          have h2b : Hold X.K H2 w2 s [d] [v] F2 := by
            obtain ⟨ft, fe, k1, k2, p, nd⟩ := h2
            obtain ⟨v', r, f, g, e1, q, q2, e2⟩ := k1
            injection e1 with e3 e4
            subst e3; subst e4; subst e2
            have := q2.one'.2
            subst this
            rw [List.append_nil] at p
            exact ⟨f, fe, RVs.one q, k2, p, nd⟩
          obtain ⟨v', ej', h3⟩ := Hold.takeS (ds := [d]) (vs := [v]) h2b (slotOwn e1)
          rw [ej] at ej'
          cases ej'
          obtain ⟨a, us0, eja, _⟩ := own_at h2b (slotOwn e1)
          rw [ej] at eja
          cases eja
          obtain ⟨us, hu, hl, _, _, wrt⟩ := Hold.wr (xs' := xs) (us' := us0) h3
          obtain ⟨F4, h4, sub, st4⟩ := wrt (xs.set k d) (us.set k v) fun H' kk ft f r1 r2 => RVs.setD r2 r1.one' (ixN_lt e2)
          refine ⟨a, us, n, k, rfl, ri.1, hu, by rw [← hl]; exact e2, ?_⟩
          obtain ⟨F5, h5, sub5⟩ := Hold.putS h4 ej
          rw [List.set_set] at h5
          exact q2 s _ F5 ((st.trans st4).trans (Stp.refl sub5)) (.refl _ _) h5
      | non => exact q2.elim
      | bl i => exact q2.elim
      | str x => exact q2.elim
      | tup x => exact q2.elim
      | lst x => exact q2.elim
      | own x => exact q2.elim
theorem ss_setI {i : Expr} {pos tpos : Pos} (he : PE X e (tP X.K X.mg Eh f)) (ho : PE X o (tV X.K j)) (hi : PE X i (tP X.K X.mg Eh g))
    (ha : ∀ v, assign (.Subscript o i tpos) X.env v = (do
      let ov ← holding [v] (eval o X.env)
      let iv ← holding [v, ov] (eval i X.env)
      standAt tpos
      holding [v, ov, iv] (setItem ov iv v)
      release [v, ov, iv] []) := by intro _; rfl)
    (hs : swapsWithSole [.Subscript o i tpos] e pos.line X.env = pure false := by rfl) (hw : swappedStores [.Subscript o i tpos] e X.env = pure none := by rfl)
    (h1 : (assignEach [.Subscript o i tpos] X.env).map (·.2) = [assign (.Subscript o i tpos) X.env] := by rfl) : PS X (.Assign [.Subscript o i tpos] e pos) (tS X.K X.mg Eh [] (sSetI j f g)) :=
  (ps_asg he (pg_sub ho hi set_list ha) hs hw h1).imp fun E s H h => setI_imp (tpos := tpos) h
end
end Pm

set_option autoImplicit true
/-! More rules of the hand layer: what is walked whether it is a list or a tuple; enumerate over a tuple. -/
namespace Pm
open PySem PySem.Spec PyProof.Rows L2
section
variable {X : Cx} {tg : Expr}
def iSeq (K : PySem.W.Frag) (tl : TE) : TI := fun s H R => tl s H fun x H1 => ∃ a, x = .ref a ∧ (((∃ xs, SqL K H1 a xs) ∧ R (Itl K a) H1) ∨ ((∃ xs, SqT K H1 a xs) ∧ R (Itt K a) H1))
theorem pi_seq {l : Expr} {tl : TE} (hl : PE X l tl) : PI X tg l (iSeq X.K tl) := by
  refine ⟨fun pins s σ H R I h => ?_⟩
  refine thn (hl.run pins s σ H _ I h) fun v s1 ⟨x, H1, I1, r1, q1⟩ => ?_
  obtain ⟨a, e, q⟩ := q1
  subst e
  cases r1
  rcases q with ⟨⟨xs, hq⟩, q⟩ | ⟨⟨xs, hq⟩, q⟩
  · obtain ⟨its, rv, p, hz⟩ := I1.list hq
    refine wpAny_pyIter_list p.isList ?_
    refine ⟨s1.heap.objs.size, [s1.heap.objs.size], _, _, H1, rfl, I1.kept (t' := s1.toks) fun b o e => Heap.get?_push_of_some _ e, turn_list a _, ⟨_, Heap.get?_push_size _ rfl, rfl, rfl⟩, fun b hb => ?_, q⟩
    have e : b = s1.heap.objs.size := by simpa using hb
    subst e
    exact I1.fpOk (Nat.le_refl _) (I1.hok.fresh (Nat.le_refl _))
  · obtain ⟨its, rv, p, hz⟩ := I1.tuple hq
    refine wpAny_pyIter_tuple (show s1.heap.IsTuple a its.toArray from p) ?_
    refine ⟨s1.heap.objs.size, [s1.heap.objs.size], _, _, H1, rfl, I1.kept (t' := s1.toks) fun b o e => Heap.get?_push_of_some _ e, turn_tuple a _, ⟨_, Heap.get?_push_size _ rfl, rfl, rfl⟩, fun b hb => ?_, q⟩
    have e : b = s1.heap.objs.size := by simpa using hb
    subst e
    exact I1.fpOk (Nat.le_refl _) (I1.hok.fresh (Nat.le_refl _))
end

/-! ### enumerate of a tuple -/
theorem meets_enumerate_newT (l : Addr) (items : Array Value) (n : Nat) (dct : Option Addr) (sl : Array (Option Value)) :
    Meets (Builtin.«enumerate.__new__» ⟨[.type "enumerate", .ref l], []⟩) (fun _ R s => s.heap.get? l = some { cls := .type "tuple", dict := dct, data := .seq items n, slots := sl } ∧
      R (.ok (.ret (.ref (s.heap.push { cls := .type "tuple_iterator", data := .fields #[.ref l, .int 0 0] }).objs.size)))
        { s with heap := (s.heap.push { cls := .type "tuple_iterator", data := .fields #[.ref l, .int 0 0] }).push { cls := .type "enumerate", data := .fields #[.none, .bool false, .ref s.heap.objs.size, rawInt 0, .none, .none] } }) :=
  .of_wp fun prog w A R s h => by
    obtain ⟨hp, g, d, tk, os⟩ := s; obtain ⟨hl, h⟩ := h
    have hsub := sub_enumerate
    have hL : Heap.IsTuple (Shared.heap ⟨hp, g, d, tk, os⟩) l items := ⟨_, hl, rfl, n, rfl⟩
    wp_walk using AutoSeq1.wpAny_loadPart' hl
    refine wpAny_stack_any fun st => wpAny_pure ?_
    split
    · rename_i c _ _ _ _ _
      cases (c == Value.type "enumerate")
      · wp_walk using AutoSeq1.wpAny_loadPart' hl, wpAny_pyIter_tuple hL
        exact ⟨_, rfl, h⟩
      · wp_walk using AutoSeq1.wpAny_loadPart' hl, wpAny_pyIter_tuple hL
        exact ⟨_, rfl, h⟩
    · wp_walk using AutoSeq1.wpAny_loadPart' hl, wpAny_pyIter_tuple hL
      exact ⟨_, rfl, h⟩
theorem call_enumerate_tuple {prog : Program} {w : World} {A : Around} {E : Value → Shared → Prop} {s : Shared} {l : Addr} {items : Array Value} {Q : Value → Shared → Prop} (hL : s.heap.IsTuple l items)
    (h : ∀ h', IsEnum h' (s.heap.objs.size + 1) s.heap.objs.size 0 .none → h'.IsTupleIter s.heap.objs.size l 0 → h'.objs.size = s.heap.objs.size + 2 →
      (∀ b o, s.heap.get? b = some o → h'.get? b = some o) → Q (.ref (s.heap.objs.size + 1)) { s with heap := h' }) :
    wpAny (model prog w) A (call (.type "enumerate") [.ref l]) Q E s := by
  obtain ⟨⟨c, dct, dt, sl⟩, hl, hc, n, hd⟩ := hL
  replace hc : c = .type "tuple" := hc
  replace hd : dt = .seq items n := hd
  subst hc hd
  refine callType_new F.called_enumerate (by decide) (F.typeCall_enumerate_1 _) (F.newCall_enumerate_1 _) (fun obj => F.args_object_init_2 obj _) F.entry_enumerate_new
    (meets_enumerate_newT l items n dct sl) ⟨hl, ?_⟩
  have hz : (s.heap.push { cls := .type "tuple_iterator", data := .fields #[.ref l, .int 0 0] }).objs.size = s.heap.objs.size + 1 := Heap.size_push ..
  show _ ∧ _
  rw [hz]
  have he : IsEnum ((s.heap.push { cls := .type "tuple_iterator", data := .fields #[.ref l, .int 0 0] }).push
      { cls := .type "enumerate", data := .fields #[.none, .bool false, .ref s.heap.objs.size, rawInt 0, .none, .none] }) (s.heap.objs.size + 1) s.heap.objs.size 0 .none := by
    have := Heap.get?_push_size (s.heap.push { cls := .type "tuple_iterator", data := .fields #[.ref l, .int 0 0] })
      (o := { cls := .type "enumerate", data := .fields #[.none, .bool false, .ref s.heap.objs.size, rawInt 0, .none, .none] }) rfl
    rw [hz] at this; exact this
  refine ⟨⟨_, he, rfl⟩, h _ he ⟨_, Heap.get?_push_of_some _ (Heap.get?_push_size _ rfl), rfl, rfl⟩ (by rw [Heap.size_push, hz]) fun b o x => Heap.get?_push_of_some _ (Heap.get?_push_of_some _ x)⟩
def IteT (K : PySem.W.Frag) (a : Addr) : It :=
  ⟨fun i H => ∃ (xs : List V) (x : V), SqT K H a xs ∧ xs[i]? = some x, fun i H v H' => ∃ T x, v = .ref T ∧ H T = none ∧ H' = upd H T (.tup [.int (i : Nat), x]) ∧ ∀ xs, SqT K H a xs → xs[i]? = some x, fun i H => ∃ xs : List V, SqT K H a xs ∧ xs.length = i⟩
theorem enum_apart {h : Heap} {e it a : Addr} {i : Int} {old : Value} {its : Array Value} (he : IsEnum h e it i old) (p : h.IsTuple a its) : e ≠ a := fun z => by
  subst z
  obtain ⟨o, ho, _, n, hd⟩ := p
  have q : some o = some _ := ho.symm.trans he
  cases q
  cases hd
theorem titer_apart {h : Heap} {it a b : Addr} {i : Nat} {its : Array Value} (he : h.IsTupleIter it b i) (p : h.IsTuple a its) : a ≠ it := fun z => by
  subst z
  obtain ⟨o, ho, _, n, hd⟩ := p
  obtain ⟨o', ho', _, hd'⟩ := he
  rw [ho] at ho'
  cases ho'
  rw [hd] at hd'
  cases hd'
theorem turn_enumT {P : Program} {w : World} {K : PySem.W.Frag} {elts : List Expr} {kk : Nat} {tpos : Pos} (a e it : Addr) :
    Turn P w K (.Tuple elts kk tpos) (IteT K a) [e, it] e (fun i h => (∃ old, IsEnum h e it ((i : Nat) : Int) old) ∧ h.IsTupleIter it a i ∧ e ≠ it) where
  mem := by simp
  obj := fun i h st b hb => by
    obtain ⟨⟨old, he⟩, ⟨o, ho, hc, hd⟩, _⟩ := st
    have e' : b = e ∨ b = it := by simpa using hb
    rcases e' with z | z
    · rw [z]; exact ⟨_, he, fun v q => nomatch q⟩
    · rw [z]; exact ⟨o, ho, fun v q => by rw [hd] at q; cases q⟩
  keep := fun i h h' st k => let ⟨⟨old, he⟩, hi, hne⟩ := st; ⟨⟨old, k e (by simp) _ he⟩, hi.at fun o q => k it (by simp) o q, hne⟩
  item := by
    intro X hP hw hK hc i pins s σ H E I hf st hg
    subst hP hw hK
    obtain ⟨⟨old, he⟩, hit, hne⟩ := st
    obtain ⟨xs, x, hq, hx⟩ := hg
    obtain ⟨its, rv, p, hz⟩ := I.tuple hq
    obtain ⟨u, hu, ru⟩ := rv.get hx
    have hel : e < s.heap.objs.size := Heap.lt_size he
    have hil : it < s.heap.objs.size := by obtain ⟨_, q, _⟩ := hit; exact Heap.lt_size q
    have pT : s.heap.IsTuple a its.toArray := p
    have hea : e ≠ a := enum_apart he pT
    have hia : a ≠ it := titer_apart hit pT
    have hlt : i < its.toArray.size := by
      have := (List.getElem?_eq_some_iff.mp hu).1
      simpa using this
    refine wpAny_pyNext_enum_itemD (Draws.tuple (A := X.A.in1) (by have := I.ok.hd hc; exact this) it a hia its.toArray) he ⟨hit, pT⟩ hlt hne (by simp [hne, hea]) fun y h' tk hP ho hs' hT hsz hk => ?_
    have hy : y = u := by
      have q : its.toArray[i]? = some y := hP
      have q2 : its.toArray[i]? = some u := by simpa using hu
      rw [q] at q2
      exact Option.some.inj q2
    subst hy
    refine ⟨_, rfl, wpAny_letOwnedTupleGo_enum (s := { s with heap := h', toks := tk + 1 }) ho fun h'' he' sb => ?_⟩
    have hT2 : h''.get? s.heap.objs.size = some { cls := .type "tuple", data := .seq #[.int i tk, y] } := (sb.2 _ (Nat.ne_of_gt hel)).trans hT
    have new : ObjOk X.prog X.w (upd H s.heap.objs.size (.tup [.int (i : Nat), x])) h'' s.heap.objs.size (.tup [.int (i : Nat), x]) :=
      ⟨by show 2 ≤ sizeLine; decide, [.int i tk, y], .cons ⟨_, rfl⟩ (.cons ru .nil), ⟨_, hT2, rfl, _, rfl⟩⟩
    have I1 : Inv X pins σ (upd H s.heap.objs.size (.tup [.int (i : Nat), x])) { s with heap := h'', toks := tk + 1 } :=
      I.turnedNew (ch := [e, it]) (fun b ob hb q => (sb.2 b (fun z => hb (by simp [z]))).trans (hk b ob (fun z => hb (by simp [z])) (fun z => hb (by simp [z])) q)) hf (Nat.le_refl _) new
    refine ⟨.ref s.heap.objs.size, _, I1, rfl, ⟨_, x, rfl, I.hok.fresh (Nat.le_refl _), rfl, fun ys hy => by rw [I.tuple_inj hy hq]; exact hx⟩, ⟨⟨y, ?_⟩, hs'.1.at fun o q => (sb.2 it (Ne.symm hne)).trans q, hne⟩, fun b hb => ?_⟩
    · have e1 : ((i + 1 : Nat) : Int) = (i : Int) + 1 := by omega
      rw [e1]; exact he'
    · have hb' : b < s.heap.objs.size := by
        have e' : b = e ∨ b = it := by simpa using hb
        rcases e' with z | z
        · rw [z]; exact hel
        · rw [z]; exact hil
      rw [upd_ne (Nat.ne_of_lt hb')]
      exact (hf b hb).1
  done := by
    intro X hP hw hK hc i pins s σ H E I hf st hg
    subst hP hw hK
    obtain ⟨⟨old, he⟩, hit, hne⟩ := st
    obtain ⟨xs, hq, hx⟩ := hg
    obtain ⟨its, rv, p, hz⟩ := I.tuple hq
    have pT : s.heap.IsTuple a its.toArray := p
    have hia : a ≠ it := titer_apart hit pT
    obtain ⟨f0, f1, f2, f3, f4, f5⟩ := hf it (by simp)
    have hl := rv.length
    have hn : its.toArray.size = i := by simp; omega
    exact wpAny_pyNext_enum_endD (Draws.tuple (A := X.A.in1) (by have := I.ok.hd hc; exact this) it a hia its.toArray) he (by rw [hn]; exact ⟨hit, pT⟩) fun h' eb => ⟨rfl, I.turned (t' := s.toks) (fun b o hb q => eb b o hb q) f0 f1 f3 f4 f5⟩
  self := fun A i s Q E st h => let ⟨⟨_, he⟩, _⟩ := st; wpAny_pyIter_enum he h
def iEnumA (K : PySem.W.Frag) (ta : TA) : TI := fun s H R => ta s H fun vs H1 => ∃ a xs, vs = [.ref a] ∧ ((SqL K H1 a xs ∧ R (Ite K a) H1) ∨ (SqT K H1 a xs ∧ R (IteT K a) H1))
theorem pi_enumA {X : Cx} {e : Expr} {ta : TA} {p pos tpos : Pos} {elts : List Expr} {kk : Nat} (hg : Gl X "enumerate") (hm : X.mg "enumerate" = none) (ha : PA X [e] ta) (hs : starEach [e] X.env = [(false, eval e X.env)] := by rfl) :
    PI X (.Tuple elts kk tpos) (.Call (.Name "enumerate" p) [e] [] pos) (iEnumA X.K ta) := by
  refine ⟨fun pins s σ H R I h => ?_⟩
  refine Call_ (ld_blt I hg hm boot_enumerate (PyProof.Rows.callWith_type1 (thn (ha.run pos pins s σ H _ I h) fun us s1 ⟨vs, H1, I1, r1, q1⟩ => ?_) hs rfl))
  obtain ⟨a, xs, ex, q⟩ := q1
  subst ex
  cases r1 with
  | cons r rr =>
    cases rr
    cases r
    have fpk : ∀ b ∈ [s1.heap.objs.size + 1, s1.heap.objs.size], FpOk X pins H1 b := fun b hb => by
      have e' : b = s1.heap.objs.size + 1 ∨ b = s1.heap.objs.size := by simpa using hb
      have hle : s1.heap.objs.size ≤ b := by
        rcases e' with z | z
        · rw [z]; exact Nat.le_add_right _ _
        · rw [z]; exact Nat.le_refl _
      exact I1.fpOk hle (I1.hok.fresh hle)
    rcases q with ⟨hq, q⟩ | ⟨hq, q⟩
    · obtain ⟨its, rv, p', hz⟩ := I1.list hq
      refine call_enumerate_list p'.isList fun h' he hit hsz hk => wpAny_pyIter_enum he ?_
      have I2 : Inv X pins σ H1 { s1 with heap := h' } := I1.kept (t' := s1.toks) hk
      exact ⟨s1.heap.objs.size + 1, [s1.heap.objs.size + 1, s1.heap.objs.size], _, _, H1, rfl, I2, turn_enum a (s1.heap.objs.size + 1) s1.heap.objs.size, ⟨⟨.none, he⟩, hit, Nat.succ_ne_self _⟩, fpk, q⟩
    · obtain ⟨its, rv, p', hz⟩ := I1.tuple hq
      refine call_enumerate_tuple (show s1.heap.IsTuple a its.toArray from p') fun h' he hit hsz hk => wpAny_pyIter_enum he ?_
      have I2 : Inv X pins σ H1 { s1 with heap := h' } := I1.kept (t' := s1.toks) hk
      exact ⟨s1.heap.objs.size + 1, [s1.heap.objs.size + 1, s1.heap.objs.size], _, _, H1, rfl, I2, turn_enumT a (s1.heap.objs.size + 1) s1.heap.objs.size, ⟨⟨.none, he⟩, hit, Nat.succ_ne_self _⟩, fpk, q⟩
end Pm

set_option autoImplicit true
namespace Pm
open PySem PySem.Spec L2

/-! ### targets -/
inductive Tgt where
  | nm (i : Nat) | tp (is : List Nat)
def setA : List Nat → List D → Ev → Option Ev
  | [], [], w => some w
  | i :: is, d :: ds, w => (setE w i d).bind (setA is ds)
  | _, _, _ => none
def setT : Tgt → D → Ev → Option Ev
  | .nm i, d, w => setE w i d
  | .tp is, .tup xs, w => setA is xs w
  | .tp _, _, _ => none
def wrT : Tgt → List Nat
  | .nm i => [i]
  | .tp is => is
/-- a target's reading, for data that own nothing -/
def TgR (K : PySem.W.Frag) (g : TG) (tg : Tgt) : Prop := ∀ (v : V) (s : L2.St) (H : Hp) (Q : L2.St → Hp → Prop) (w w1 : Ev) (F : List Addr) (ds : List D) (vs : List V) (d : D),
  RV K H d v [] → pl d = true → Hold K H w s ds vs F → setT tg d w = some w1 → (∀ s' F', Agr (wrT tg) s s' → (∀ a ∈ F', a ∈ F) → Hold K H w1 s' ds vs F' → Q s' H) → g v s H Q
theorem Hold.addP {K : PySem.W.Frag} {H : Hp} {w : Ev} {s : L2.St} {ds : List D} {vs : List V} {F : List Addr} {d : D} {v : V} (h : Hold K H w s ds vs F) (r : RV K H d v []) : Hold K H w s (d :: ds) (v :: vs) F := by
  obtain ⟨ft, fe, h1, h2, p, nd⟩ := h
  exact ⟨ft, fe, ⟨v, vs, [], ft, rfl, r, h1, rfl⟩, h2, p, nd⟩
theorem tgr_name {K : PySem.W.Frag} (i : Nat) : TgR K (gName i) (.nm i) := fun v s H Q w w1 F ds vs d r p h e c => by
  change setE w i d = some w1 at e
  unfold setE at e
  by_cases hi : i < w.length
  · rw [if_pos hi] at e
    cases e
    obtain ⟨F', h', sub⟩ := (h.addP r).put hi
    exact c _ F' (.set List.mem_cons_self) sub h'
  · rw [if_neg hi] at e; cases e
def TgsR (K : PySem.W.Frag) (g : TGs) (is : List Nat) : Prop := ∀ (us : List V) (s : L2.St) (H : Hp) (Q : L2.St → Hp → Prop) (w w1 : Ev) (F : List Addr) (ds : List D) (vs : List V) (xs : List D),
  RVs K H xs us [] → pls xs = true → Hold K H w s ds vs F → setA is xs w = some w1 → (∀ s' F', Agr is s s' → (∀ a ∈ F', a ∈ F) → Hold K H w1 s' ds vs F' → Q s' H) → g us s H Q
theorem tgs_nil {K : PySem.W.Frag} : TgsR K gNil [] := fun us s H Q w w1 F ds vs xs r p h e c => by
  cases xs with
  | cons x xs => cases e
  | nil =>
    cases e
    exact ⟨r.1, c s F (.refl _ _) (fun _ m => m) h⟩
theorem tgs_cons {K : PySem.W.Frag} {i : Nat} {is : List Nat} {g : TGs} (hg : TgsR K g is) : TgsR K (gCons (gName i) g) (i :: is) := fun us s H Q w w1 F ds vs xs r p h e c => by
  cases xs with
  | nil => cases e
  | cons x xs =>
    obtain ⟨w0, e1, e2⟩ := Option.bind_eq_some_iff.mp (show (setE w i x).bind (setA is xs) = some w1 from e)
    obtain ⟨u, t, f, f2, e3, r1, r2, e4⟩ := r
    have e5 : f = [] := List.append_eq_nil_iff.mp e4.symm |>.1
    have e6 : f2 = [] := List.append_eq_nil_iff.mp e4.symm |>.2
    subst e5; subst e6
    have pp : pl x = true ∧ pls xs = true := by
      unfold pls at p
      rw [Bool.and_eq_true] at p
      exact p
    refine ⟨u, t, e3, tgr_name i u s H _ w w0 F ds vs x r1 pp.1 h e1 fun s' F' ag sub h' => ?_⟩
    refine hg t s' H _ w0 w1 F' ds vs xs r2 pp.2 h' e2 fun s2 F2 ag2 sub2 h2 => ?_
    exact c s2 F2 ((ag.mono fun k m => by
      have : k = i := by simpa [wrT] using m
      rw [this]; exact List.mem_cons_self).trans (ag2.mono fun k m => List.mem_cons_of_mem _ m)) (fun a m => sub a (sub2 a m)) h2
theorem setA_len : ∀ {is : List Nat} {xs : List D} {w w1 : Ev}, setA is xs w = some w1 → xs.length = is.length
  | [], [], _, _, _ => rfl
  | [], _ :: _, _, _, h => by cases h
  | _ :: _, [], _, _, h => by cases h
  | i :: is, x :: xs, w, w1, h => by
    obtain ⟨w0, e1, e2⟩ := Option.bind_eq_some_iff.mp (show (setE w i x).bind (setA is xs) = some w1 from h)
    rw [List.length_cons, List.length_cons, setA_len e2]
theorem tgr_tup {K : PySem.W.Frag} {is : List Nat} {g : TGs} {n : Nat} (hg : TgsR K g is) (hn : is.length = n := by rfl) : TgR K (gTup K n g) (.tp is) := fun v s H Q w w1 F ds vs d r p h e c => by
  cases d with
  | tup xs =>
    obtain ⟨a, us, e1, q, r1⟩ := r
    have e2 := setA_len (show setA is xs w = some w1 from e)
    exact ⟨a, us, e1, q, by rw [← r1.length, e2, hn], hg us s H Q w w1 F ds vs xs r1 p h e c⟩
  | non => cases e
  | bl i => cases e
  | int i => cases e
  | str x => cases e
  | lst x => cases e
  | own x => cases e

/-! ### what is walked -/
/-- the walk J goes over the items, as long as what it walks (tds at tvs) stands -/
structure Src (K : PySem.W.Frag) (J : It) (items tds : List D) (tvs : List V) : Prop where
  pl : ∀ (i : Nat) d, items[i]? = some d → pl d = true
  go : ∀ H f i, RVs K H tds tvs f → i < items.length → J.go i H
  stop : ∀ H f, RVs K H tds tvs f → J.stop items.length H
  yld : ∀ H f i d x H', RVs K H tds tvs f → items[i]? = some d → J.yld i H x H' → Kp [] H H' ∧ RV K H' d x []
/-- the links of what is walked to slots -/
def Lnk (s : L2.St) (ks : List (Option Nat)) (vs : List V) : Prop := ∀ (k j : Nat) (v : V), ks[k]? = some (some j) → vs[k]? = some v → s[j]? = some (some v)
def tI (K : PySem.W.Frag) (mg : Str → Option Value) (Eh : WX) (ks : List (Option Nat)) (f : PM (List D × List D)) : TI := fun s H R => ∃ w F, Hold K H w s [] [] F ∧ Po K mg Eh H F s (f w) fun p w' =>
  ∀ J H' F' tvs, Stp F H F' H' → Hold K H' w' s p.2 tvs F' → Src K J p.1 p.2 tvs → Lnk s ks tvs → R J H'
/-- an argument that is walked: a slot's datum, taken if it is owned and put back behind -/
def xK (j : Nat) : PM D := fun w => match slot w j with
  | some d => if pl d = true then .ok d w else .ok d (w.set j none)
  | none => .bad
/-- arguments with links -/
def tAL (K : PySem.W.Frag) (mg : Str → Option Value) (Eh : WX) (ks : List (Option Nat)) (f : PM (List D)) : TA := fun s H Q => ∃ w F, Hold K H w s [] [] F ∧ Po K mg Eh H F s (f w) fun ds w' =>
  ∀ vs H' F', Stp F H F' H' → Hold K H' w' s ds vs F' → Lnk s ks vs → Q vs H'
/-- what walks over one value, by items -/
def putB : List (Option Nat) → List D → Ev → Ev
  | some j :: ks, d :: ds, w => putB ks ds (w.set j (some d))
  | none :: ks, _ :: ds, w => putB ks ds w
  | _, _, w => w
section
variable {X : Cx} {Eh : WX} {s : L2.St} {H H1 : Hp} {F F1 : List Addr} {β : Type}
theorem tAL_run {ks : List (Option Nat)} {f : PM (List D)} {k : List D → Ev → Rs β} {Q' : β → Ev → Prop} {R : List V → Hp → Prop} {w1 : Ev} {ds : List D} {vs : List V}
    (hold : Hold X.K H1 w1 s ds vs F1) (st : Stp F H F1 H1) (h : Po X.K X.mg Eh H F s ((f w1).bind k) Q')
    (c : ∀ es w2 us H2 F2, f w1 = .ok es w2 → Stp F H F2 H2 → Hold X.K H2 w2 s (ds ++ es) (vs ++ us) F2 → Lnk s ks us → Po X.K X.mg Eh H F s (k es w2) Q' → R us H2) : tAL X.K X.mg Eh ks f s H1 R := by
  obtain ⟨F0, h0, sub, fr⟩ := hold.frame
  refine ⟨w1, F0, h0, ?_⟩
  cases e : f w1 with
  | ok d w2 =>
    rw [e] at h
    intro v H' F' st' h' l
    obtain ⟨F2, h2, st2⟩ := fr st' h'
    exact c d w2 v H' F2 e (st.trans st2) h2 l h
  | ex cc fs w2 =>
    rw [e] at h
    intro cls od H' F' st' h' x
    exact h cls od H' F' (st.trans (st'.mono sub)) h' x
  | bad => rw [e] at h; exact h
theorem pal0 : PA X [] (tAL X.K X.mg Eh [] xNil) := pa_nil.imp fun s H Q ⟨w, F, hold, q⟩ => q [] H F (Stp.refl fun _ m => m) hold fun k j v e _ => by simp at e
theorem lnk_cons {ks : List (Option Nat)} {o : Option Nat} {v : V} {vs : List V} (h : ∀ j, o = some j → s[j]? = some (some v)) (l : Lnk s ks vs) : Lnk s (o :: ks) (v :: vs) := fun k j u e e2 => by
  cases k with
  | zero =>
    have a : o = some j := by simpa using e
    have b : v = u := by simpa using e2
    rw [← b]
    exact h j a
  | succ k => exact l k j u (by simpa using e) (by simpa using e2)
theorem pal1 {e : Expr} {es : List Expr} {ks : List (Option Nat)} {f : PM D} {g : PM (List D)} (h : PE X e (tP X.K X.mg Eh f)) (hr : PA X es (tAL X.K X.mg Eh ks g)) (hs : starEach (e :: es) X.env = (false, eval e X.env) :: starEach es X.env := by rfl) : PA X (e :: es) (tAL X.K X.mg Eh (none :: ks) (xCons f g)) :=
  (pa_cons h hr hs).imp fun s H Q ⟨w, F, hold, q⟩ => by
    refine tP_run hold (Stp.refl fun _ m => m) q fun d w2 v H2 F2 e st h2 q2 => ?_
    refine tAL_run h2 st q2 fun ds w3 vs H3 F3 e' st' h3 l q3 => ?_
    exact q3 (v :: vs) H3 F3 st' h3 (lnk_cons (fun j z => nomatch z) l)
theorem xK_run {j : Nat} {k : D → Ev → Rs β} {Q' : β → Ev → Prop} {R : VK} {w : Ev} (hold : Hold X.K H w s [] [] F) (q : Po X.K X.mg Eh H F s ((xK j w).bind k) Q')
    (c : ∀ d w2 v F2, (∀ a ∈ F2, a ∈ F) → s[j]? = some (some v) → Hold X.K H w2 s [d] [v] F2 → Po X.K X.mg Eh H F s (k d w2) Q' → R v H) : ∃ v, s[j]? = some (some v) ∧ R v H := by
  cases e : slot w j with
  | none => rw [show xK j w = .bad by unfold xK; rw [e]] at q; exact q.elim
  | some d =>
    obtain ⟨v, ej, h2⟩ := hold.takeS e
    by_cases p : pl d = true
    · rw [show xK j w = .ok d w by unfold xK; rw [e]; exact if_pos p] at q
      obtain ⟨v', f, ej', r, m⟩ := hold.atSlot e
      rw [ej] at ej'
      cases ej'
      exact ⟨v, ej, c d w v F (fun _ m => m) ej (hold.addP (r.nil_of p)) q⟩
    · rw [show xK j w = .ok d (w.set j none) by unfold xK; rw [e]; exact if_neg p] at q
      exact ⟨v, ej, c d _ v F (fun _ m => m) ej h2 q⟩
theorem palk {e : Expr} {es : List Expr} {ks : List (Option Nat)} {j : Nat} {g : PM (List D)} (h : PE X e (tVar j)) (hr : PA X es (tAL X.K X.mg Eh ks g)) (hs : starEach (e :: es) X.env = (false, eval e X.env) :: starEach es X.env := by rfl) : PA X (e :: es) (tAL X.K X.mg Eh (some j :: ks) (xCons (xK j) g)) :=
  (pa_cons h hr hs).imp fun s H Q ⟨w, F, hold, q⟩ => by
    refine xK_run (R := fun x H1 => tAL X.K X.mg Eh ks g s H1 fun xs H2 => Q (x :: xs) H2) hold q fun d w2 v F2 sub ej h2 q2 => ?_
    refine tAL_run h2 (Stp.refl sub) q2 fun ds w3 vs H3 F3 e' st' h3 l q3 => ?_
    exact q3 (v :: vs) H3 F3 st' h3 (lnk_cons (fun i z => by cases z; exact ej) l)
theorem Hold.putL {K : PySem.W.Frag} : ∀ {ks : List (Option Nat)} {ds : List D} {vs : List V} {w : Ev} {F : List Addr}, Hold K H w s ds vs F → Lnk s ks vs → ∃ F', Hold K H (putB ks ds w) s [] [] F' ∧ ∀ a ∈ F', a ∈ F
  | [], ds, vs, w, F, h, l => by
    have e : putB [] ds w = w := by unfold putB; rfl
    rw [e]
    exact h.drop0
  | o :: ks, [], vs, w, F, h, l => by
    have e : putB (o :: ks) [] w = w := by cases o <;> (unfold putB; rfl)
    rw [e]
    exact h.drop0
  | o :: ks, d :: ds, vs, w, F, h, l => by
    cases vs with
    | nil =>
      have := hold_len h
      cases this
    | cons v vs =>
      have l2 : Lnk s ks vs := fun k j u e e2 => l (k + 1) j u (by simpa using e) (by simpa using e2)
      cases o with
      | none =>
        obtain ⟨F1, h1, s1⟩ := Hold.drop (ds := [d]) (vs := [v]) h rfl
        obtain ⟨F2, h2, s2⟩ := Hold.putL (ks := ks) h1 l2
        exact ⟨F2, h2, fun a m => s1 a (s2 a m)⟩
      | some j =>
        obtain ⟨F1, h1, s1⟩ := h.putS (l 0 j v rfl rfl)
        obtain ⟨F2, h2, s2⟩ := Hold.putL (ks := ks) h1 l2
        exact ⟨F2, h2, fun a m => s1 a (s2 a m)⟩
end

/-! ### sources -/
def rngD (n : Nat) : List D := (List.range n).map fun (i : Nat) => D.int (i : Int)
def rngD2 (lo : Int) (n : Nat) : List D := (List.range n).map fun (i : Nat) => D.int (lo + (i : Int))
def enumD (xs : List D) : List D := xs.zipIdx.map fun p => .tup [.int (p.2 : Nat), p.1]
def zipD (xs ys : List D) : List D := (xs.zip ys).map fun p => .tup [p.1, p.2]
/-- from the arguments' data: the items, and what stands behind them -/
def iW (k : List D → Option (List D × List D)) (f : PM (List D)) : PM (List D × List D) := fun w => (f w).bind fun ds w1 => match k ds with
  | some p => .ok p w1
  | none => .bad
def rngC (j : Int) : Bool := decide (-(2 ^ 62) ≤ j ∧ j < 2 ^ 62)
def seqP (d : D) : Option (List D) := (seqD d).bind fun xs => if pls xs = true then some xs else none
def qG : List D → Option (List D × List D)
  | [d] => (seqP d).map fun xs => (xs, [d])
  | _ => none
def qR1 : List D → Option (List D × List D)
  | [.int n] => if rngC n = true then some (rngD n.toNat, []) else none
  | _ => none
def qR2 : List D → Option (List D × List D)
  | [.int lo, .int hi] => if rngC lo = true ∧ rngC hi = true then some (rngD2 lo (hi - lo).toNat, []) else none
  | _ => none
def qEn : List D → Option (List D × List D)
  | [d] => (seqP d).map fun xs => (enumD xs, [d])
  | _ => none
def sameK : D → D → Bool
  | .tup _, .tup _ => true
  | .tup _, _ => false
  | _, .tup _ => false
  | _, _ => true
def qZp : List D → Option (List D × List D)
  | [d, e] => if sameK d e = true then (seqP d).bind fun xs => (seqP e).map fun ys => (zipD xs ys, [d, e]) else none
  | _ => none
theorem seqP_some {d : D} {xs : List D} (h : seqP d = some xs) : seqD d = some xs ∧ pls xs = true := by
  obtain ⟨ys, h1, h2⟩ := Option.bind_eq_some_iff.mp h
  by_cases c : pls ys = true
  · rw [if_pos c] at h2; cases h2; exact ⟨h1, c⟩
  · rw [if_neg c] at h2; cases h2
theorem qG_some {ds : List D} {p : List D × List D} (h : qG ds = some p) : ∃ d xs, ds = [d] ∧ seqD d = some xs ∧ pls xs = true ∧ p = (xs, [d]) := by
  unfold qG at h
  split at h
  · obtain ⟨xs, h1, h2⟩ := Option.map_eq_some_iff.mp h
    exact ⟨_, xs, rfl, (seqP_some h1).1, (seqP_some h1).2, h2.symm⟩
  · cases h
theorem qR1_some {ds : List D} {p : List D × List D} (h : qR1 ds = some p) : ∃ n, ds = [.int n] ∧ rngC n = true ∧ p = (rngD n.toNat, []) := by
  unfold qR1 at h
  split at h
  · split at h
    · rename_i c; cases h; exact ⟨_, rfl, c, rfl⟩
    · cases h
  · cases h
theorem qR2_some {ds : List D} {p : List D × List D} (h : qR2 ds = some p) : ∃ lo hi, ds = [.int lo, .int hi] ∧ rngC lo = true ∧ rngC hi = true ∧ p = (rngD2 lo (hi - lo).toNat, []) := by
  unfold qR2 at h
  split at h
  · split at h
    · rename_i c; cases h; exact ⟨_, _, rfl, c.1, c.2, rfl⟩
    · cases h
  · cases h
theorem qEn_some {ds : List D} {p : List D × List D} (h : qEn ds = some p) : ∃ d xs, ds = [d] ∧ seqD d = some xs ∧ pls xs = true ∧ p = (enumD xs, [d]) := by
  unfold qEn at h
  split at h
  · obtain ⟨xs, h1, h2⟩ := Option.map_eq_some_iff.mp h
    exact ⟨_, xs, rfl, (seqP_some h1).1, (seqP_some h1).2, h2.symm⟩
  · cases h
theorem qZp_some {ds : List D} {p : List D × List D} (h : qZp ds = some p) : ∃ d e xs ys, ds = [d, e] ∧ sameK d e = true ∧ seqD d = some xs ∧ pls xs = true ∧ seqD e = some ys ∧ pls ys = true ∧ p = (zipD xs ys, [d, e]) := by
  unfold qZp at h
  split at h
  · split at h
    · rename_i c
      obtain ⟨xs, h1, h2⟩ := Option.bind_eq_some_iff.mp h
      obtain ⟨ys, h3, h4⟩ := Option.map_eq_some_iff.mp h2
      exact ⟨_, _, xs, ys, rfl, c, (seqP_some h1).1, (seqP_some h1).2, (seqP_some h3).1, (seqP_some h3).2, h4.symm⟩
    · cases h
  · cases h
section
variable {X : Cx} {Eh : WX} {s : L2.St} {H H1 : Hp} {F F1 : List Addr} {tg : Expr} {ks : List (Option Nat)}
theorem src_list {K : PySem.W.Frag} {d : D} {v : V} {xs : List D} {a : Addr} (hp : pls xs = true) (hv : v = .ref a) (hl : ∀ H f, RV K H d v f → ∃ vs g, SqL K H a vs ∧ RVs K H xs vs g) : Src K (Itl K a) xs [d] [v] where
  pl := fun i d e => pls_get hp e
  go := fun H f i r hi => by
    obtain ⟨vs, g, q, rs⟩ := hl H f r.one'
    have : i < vs.length := by rw [← rs.length]; exact hi
    exact ⟨vs, vs[i], q, List.getElem?_eq_getElem this⟩
  stop := fun H f r => by
    obtain ⟨vs, g, q, rs⟩ := hl H f r.one'
    exact ⟨vs, q, by rw [rs.length]; exact Nat.le_refl _⟩
  yld := fun H f i d' x H' r hi y => by
    obtain ⟨vs, g, q, rs⟩ := hl H f r.one'
    obtain ⟨e, y⟩ := y
    subst e
    obtain ⟨u, g2, h1, h2, _⟩ := rs.get hi
    have := y vs q
    rw [h1] at this
    cases this
    exact ⟨fun _ _ e _ => e, h2.nil_of (pls_get hp hi)⟩
theorem src_tup {K : PySem.W.Frag} {d : D} {v : V} {xs : List D} {a : Addr} (hp : pls xs = true) (hv : v = .ref a) (hl : ∀ H f, RV K H d v f → ∃ vs g, SqT K H a vs ∧ RVs K H xs vs g) : Src K (Itt K a) xs [d] [v] where
  pl := fun i d e => pls_get hp e
  go := fun H f i r hi => by
    obtain ⟨vs, g, q, rs⟩ := hl H f r.one'
    have : i < vs.length := by rw [← rs.length]; exact hi
    exact ⟨vs, vs[i], q, List.getElem?_eq_getElem this⟩
  stop := fun H f r => by
    obtain ⟨vs, g, q, rs⟩ := hl H f r.one'
    exact ⟨vs, q, by rw [rs.length]; exact Nat.le_refl _⟩
  yld := fun H f i d' x H' r hi y => by
    obtain ⟨vs, g, q, rs⟩ := hl H f r.one'
    obtain ⟨e, y⟩ := y
    subst e
    obtain ⟨u, g2, h1, h2, _⟩ := rs.get hi
    have := y vs q
    rw [h1] at this
    cases this
    exact ⟨fun _ _ e _ => e, h2.nil_of (pls_get hp hi)⟩
/-- where a value's items stand: a list or a tuple at a, at every heap -/
theorem seq_kind {K : PySem.W.Frag} {d : D} {v : V} {f : List Addr} {xs : List D} (r : RV K H d v f) (e : seqD d = some xs) :
    ∃ a, v = .ref a ∧ ((∀ H f, RV K H d v f → ∃ vs g, SqL K H a vs ∧ RVs K H xs vs g) ∧ (∃ ys, d = .lst ys ∨ d = .own ys) ∨ (∀ H f, RV K H d v f → ∃ vs g, SqT K H a vs ∧ RVs K H xs vs g) ∧ ∃ ys, d = .tup ys) := by
  cases d with
  | tup ys =>
    cases e
    obtain ⟨a, vs, e, q, r⟩ := r
    subst e
    exact ⟨a, rfl, .inr ⟨fun H f r => by obtain ⟨b, us, e, q, r⟩ := r; cases e; exact ⟨us, f, q, r⟩, _, rfl⟩⟩
  | lst ys =>
    cases e
    obtain ⟨a, vs, e, q, r⟩ := r
    subst e
    exact ⟨a, rfl, .inl ⟨fun H f r => by obtain ⟨b, us, e, q, r, _⟩ := r; cases e; exact ⟨us, [], q.sq, r⟩, _, .inl rfl⟩⟩
  | own ys =>
    cases e
    obtain ⟨a, vs, g, e, q, r⟩ := r
    subst e
    exact ⟨a, rfl, .inl ⟨fun H f r => by obtain ⟨b, us, g, e, q, r, _⟩ := r; cases e; exact ⟨us, g, .of q, r⟩, _, .inr rfl⟩⟩
  | non => cases e
  | bl b => cases e
  | int i => cases e
  | str x => cases e
theorem src_nil {K : PySem.W.Frag} {lo : Int} {n : Nat} {items : List D} (hl : items.length = n) (hi : ∀ i d, items[i]? = some d → d = D.int (lo + (i : Nat))) : Src K (Itr lo n) items [] [] where
  pl := fun i d e => by rw [hi i d e]; rfl
  go := fun H f i r h => by show i < n; omega
  stop := fun H f r => by show n ≤ items.length; omega
  yld := fun H f i d x H' r e y => by
    obtain ⟨e1, e2⟩ := y
    subst e1
    have := hi i d e
    subst this
    exact ⟨fun _ _ e _ => e, e2, rfl⟩
theorem rngD_len (n : Nat) : (rngD n).length = n := by unfold rngD; simp
theorem rngD2_len (lo : Int) (n : Nat) : (rngD2 lo n).length = n := by unfold rngD2; simp
theorem rngD_get {n i : Nat} {d : D} (h : (rngD n)[i]? = some d) : d = D.int (0 + (i : Nat)) := by
  unfold rngD at h
  rw [List.getElem?_map] at h
  obtain ⟨k, h1, h2⟩ := Option.map_eq_some_iff.mp h
  have := List.getElem?_eq_some_iff.mp h1
  obtain ⟨h3, h4⟩ := this
  rw [List.getElem_range] at h4
  rw [← h2, ← h4, Int.zero_add]
theorem rngD2_get {lo : Int} {n i : Nat} {d : D} (h : (rngD2 lo n)[i]? = some d) : d = D.int (lo + (i : Nat)) := by
  unfold rngD2 at h
  rw [List.getElem?_map] at h
  obtain ⟨k, h1, h2⟩ := Option.map_eq_some_iff.mp h
  obtain ⟨h3, h4⟩ := List.getElem?_eq_some_iff.mp h1
  rw [List.getElem_range] at h4
  rw [← h2, ← h4]
end
end Pm

set_option autoImplicit true
namespace Pm
open PySem PySem.Spec L2

/-! ### what is walked, as rules -/
theorem _root_.L2.PI.imp {X : Cx} {tg e : Expr} {t t' : TI} (h : PI X tg e t) (i : ∀ s H R, t' s H R → t s H R) : PI X tg e t' := ⟨fun pins s σ H R I q => h.run pins s σ H R I (i _ _ _ q)⟩
theorem hold_kp {K : PySem.W.Frag} {H H' : Hp} {w : Ev} {s : L2.St} {ds : List D} {vs : List V} {F : List Addr} (h : Hold K H w s ds vs F) (k : Kp [] H H') : Hold K H' w s ds vs F := by
  obtain ⟨ft, fe, h1, h2, q, nd⟩ := h
  exact ⟨ft, fe, RVs.kp k (fun _ z => nomatch z) _ _ _ (fun _ _ z => nomatch z) h1, h2.kp k (fun _ z => nomatch z) (fun _ _ z => nomatch z), q, nd⟩
theorem stp_kp {H H' : Hp} {F : List Addr} (k : Kp [] H H') : Stp F H F H' := ⟨fun a o e n => k a o e (fun z => nomatch z), fun a m => .inl m⟩
section
variable {X : Cx} {Eh : WX} {s : L2.St} {H H1 : Hp} {F F1 : List Addr} {tg e e2 : Expr} {f g : PM D} {j : Nat} {p pos tpos : Pos}
theorem seq_end {R : It → Hp → Prop} {w : Ev} {d : D} {v : V} {xs : List D} {ks : List (Option Nat)} (h1 : Hold X.K H1 w s [d] [v] F1) (hs : seqD d = some xs) (hp : pls xs = true)
    (q : ∀ J, Src X.K J xs [d] [v] → R J H1) : ∃ a, v = .ref a ∧ (((∃ ys, SqL X.K H1 a ys) ∧ R (Itl X.K a) H1) ∨ ((∃ ys, SqT X.K H1 a ys) ∧ R (Itt X.K a) H1)) := by
  obtain ⟨f, r, _⟩ := Hold.one h1
  obtain ⟨a, ev, hk⟩ := seq_kind r hs
  refine ⟨a, ev, ?_⟩
  rcases hk with ⟨hk, _⟩ | ⟨hk, _⟩
  · obtain ⟨vs, g, sq, _⟩ := hk H1 f r
    exact .inl ⟨⟨vs, sq⟩, q _ (src_list hp ev hk)⟩
  · obtain ⟨vs, g, sq, _⟩ := hk H1 f r
    exact .inr ⟨⟨vs, sq⟩, q _ (src_tup hp ev hk)⟩
theorem lnk1 {v : V} : Lnk s [none] [v] := fun k j u e e2 => by
  cases k with
  | zero => cases e
  | succ k => cases e
theorem lnkj {v : V} (h : s[j]? = some (some v)) : Lnk s [some j] [v] := fun k i u e e2 => by
  cases k with
  | zero =>
    have a : j = i := by simpa using e
    have b : v = u := by simpa using e2
    rw [← a, ← b]; exact h
  | succ k => cases e
theorem back_iw {R : List D × List D → Ev → Prop} {o : Option (List D × List D)} {w : Ev} (h : Po X.K X.mg Eh H F s (match o with
    | some p => Rs.ok p w
    | none => .bad) R) : ∃ p, o = some p ∧ R p w := by
  cases o with
  | none => exact h.elim
  | some p => exact ⟨p, rfl, h⟩
theorem x1_eq {α : Type} {f : PM D} {w : Ev} {k : List D → Ev → Rs α} : ((xCons f xNil w).bind k) = (f w).bind fun d w1 => k [d] w1 := by
  unfold xCons xNil
  cases f w <;> rfl
theorem it_g (h : PE X e (tP X.K X.mg Eh f)) : PI X tg e (tI X.K X.mg Eh [none] (iW qG (xCons f xNil))) := (pi_seq h).imp fun s H R ⟨w, F, hold, q⟩ => by
  unfold iW at q
  rw [x1_eq] at q
  refine tP_run hold (Stp.refl fun _ m => m) q fun d w2 v H2 F2 e st h2 q2 => ?_
  obtain ⟨p, h1, h3⟩ := back_iw q2
  obtain ⟨d', xs, e1, e2, e3, e4⟩ := qG_some h1
  cases e1
  subst e4
  exact seq_end (ks := [none]) h2 e2 e3 fun J src => h3 J H2 F2 [v] st h2 src lnk1
theorem it_v (h : PE X e (tVar j)) : PI X tg e (tI X.K X.mg Eh [some j] (iW qG (xCons (xK j) xNil))) := (pi_seq h).imp fun s H R ⟨w, F, hold, q⟩ => by
  unfold iW at q
  rw [x1_eq] at q
  refine xK_run (R := fun x H1 => ∃ a, x = .ref a ∧ (((∃ xs, SqL X.K H1 a xs) ∧ R (Itl X.K a) H1) ∨ ((∃ xs, SqT X.K H1 a xs) ∧ R (Itt X.K a) H1))) hold q fun d w2 v F2 sub ej h2 q2 => ?_
  obtain ⟨p, h1, h3⟩ := back_iw q2
  obtain ⟨d', xs, e1, e2, e3, e4⟩ := qG_some h1
  cases e1
  subst e4
  exact seq_end (ks := [some j]) h2 e2 e3 fun J src => h3 J H F2 [v] (Stp.refl sub) h2 src (lnkj ej)
variable {a b : Expr} {fs : PM (List D)} {ks : List (Option Nat)}
theorem lnk0 {ks : List (Option Nat)} : Lnk s ks [] := fun k j u e e2 => by simp at e2
theorem hold1 {K : PySem.W.Frag} {w : Ev} {d : D} {us : List V} (h : Hold K H w s [d] us F) : ∃ v, us = [v] := by
  have := hold_len h
  match us, this with
  | [v], _ => exact ⟨v, rfl⟩
theorem hold2 {K : PySem.W.Frag} {w : Ev} {d d' : D} {us : List V} (h : Hold K H w s [d, d'] us F) : ∃ v v', us = [v, v'] := by
  have := hold_len h
  match us, this with
  | [v, v'], _ => exact ⟨v, v', rfl⟩
theorem it_r1 (hg : Gl X "range") (hm : X.mg "range" = none) (ha : PA X [a] (tAL X.K X.mg Eh ks fs)) (hs : starEach [a] X.env = [(false, eval a X.env)] := by rfl) :
    PI X tg (.Call (.Name "range" p) [a] [] pos) (tI X.K X.mg Eh ks (iW qR1 fs)) := (pi_range1 hg hm ha hs).imp fun s H R ⟨w, F, hold, q⟩ => by
  unfold iW at q
  refine tAL_run hold (Stp.refl fun _ m => m) q fun ds w2 us H2 F2 e st h2 l q2 => ?_
  replace h2 : Hold X.K H2 w2 s ds us F2 := h2
  obtain ⟨p, h1, h3⟩ := back_iw q2
  obtain ⟨n, e1, c, e2⟩ := qR1_some h1
  subst e1; subst e2
  have hc := of_decide_eq_true (p := -(2 ^ 62) ≤ n ∧ n < 2 ^ 62) c
  obtain ⟨F3, h4, sub⟩ := h2.drop0
  obtain ⟨v, ev⟩ := hold1 h2
  subst ev
  obtain ⟨fx, rx, _⟩ := Hold.one h2
  exact ⟨n, by rw [rx.1], hc.1, hc.2, h3 _ H2 F3 [] (st.trans (Stp.refl sub)) h4 (src_nil (rngD_len _) fun i d h => rngD_get h) lnk0⟩
theorem it_r2 (hg : Gl X "range") (hm : X.mg "range" = none) (ha : PA X [a, b] (tAL X.K X.mg Eh ks fs)) (hs : starEach [a, b] X.env = [(false, eval a X.env), (false, eval b X.env)] := by rfl) (hs2 : starEach [b] X.env = [(false, eval b X.env)] := by rfl) :
    PI X tg (.Call (.Name "range" p) [a, b] [] pos) (tI X.K X.mg Eh ks (iW qR2 fs)) := (pi_range2 hg hm ha hs hs2).imp fun s H R ⟨w, F, hold, q⟩ => by
  unfold iW at q
  refine tAL_run hold (Stp.refl fun _ m => m) q fun ds w2 us H2 F2 e st h2 l q2 => ?_
  replace h2 : Hold X.K H2 w2 s ds us F2 := h2
  obtain ⟨p, h1, h3⟩ := back_iw q2
  obtain ⟨lo, hi, e1, c1, c2, e2⟩ := qR2_some h1
  subst e1; subst e2
  have hc := of_decide_eq_true (p := -(2 ^ 62) ≤ lo ∧ lo < 2 ^ 62) c1
  have hc2 := of_decide_eq_true (p := -(2 ^ 62) ≤ hi ∧ hi < 2 ^ 62) c2
  obtain ⟨F3, h4, sub⟩ := h2.drop0
  obtain ⟨v, v', ev⟩ := hold2 h2
  subst ev
  obtain ⟨fx, fy, rx, ry, _⟩ := Hold.two h2
  exact ⟨lo, hi, by rw [rx.1, ry.1], ⟨hc.1, hc.2, hc2.1, hc2.2⟩, h3 _ H2 F3 [] (st.trans (Stp.refl sub)) h4 (src_nil (rngD2_len _ _) fun i d h => rngD2_get h) lnk0⟩
theorem pair_rv {K : PySem.W.Frag} {d d' : D} {x y : V} {T : Addr} (r : RV K H d x []) (r' : RV K H d' y []) (n : H T = none) : Kp [] H (upd H T (.tup [x, y])) ∧ RV K (upd H T (.tup [x, y])) (.tup [d, d']) (.ref T) [] := by
  obtain ⟨k, f, rv, _, fr⟩ := new_tup (K := K) (H := H) (xs := [d, d']) (vs := [x, y]) (p := T) ⟨x, [y], [], [], rfl, r, ⟨y, [], [], [], rfl, r', ⟨rfl, rfl⟩, rfl⟩, rfl⟩ n
  refine ⟨k, ?_⟩
  obtain ⟨a, vs, e, q, rs⟩ := rv
  cases e
  refine ⟨T, [x, y], rfl, .inl (.inl upd_same), ?_⟩
  have r1 := RV.kp k (fun _ z => nomatch z) d x [] (fun _ z => nomatch z) r
  have r2 := RV.kp k (fun _ z => nomatch z) d' y [] (fun _ z => nomatch z) r'
  exact ⟨x, [y], [], [], rfl, r1, ⟨y, [], [], [], rfl, r2, ⟨rfl, rfl⟩, rfl⟩, rfl⟩
theorem enumD_get {xs : List D} {i : Nat} {d : D} (h : (enumD xs)[i]? = some d) : ∃ x, xs[i]? = some x ∧ d = .tup [.int (i : Nat), x] := by
  unfold enumD at h
  rw [List.getElem?_map, List.getElem?_zipIdx] at h
  obtain ⟨q, h1, h2⟩ := Option.map_eq_some_iff.mp h
  obtain ⟨x, h3, h4⟩ := Option.map_eq_some_iff.mp h1
  subst h4
  exact ⟨x, h3, by rw [← h2]; simp⟩
theorem enumD_len (xs : List D) : (enumD xs).length = xs.length := by unfold enumD; simp
theorem zipD_len (xs ys : List D) : (zipD xs ys).length = min xs.length ys.length := by unfold zipD; simp
theorem zipD_get {xs ys : List D} {i : Nat} {d : D} (h : (zipD xs ys)[i]? = some d) : ∃ x y, xs[i]? = some x ∧ ys[i]? = some y ∧ d = .tup [x, y] := by
  unfold zipD at h
  rw [List.getElem?_map] at h
  obtain ⟨q, h1, h2⟩ := Option.map_eq_some_iff.mp h
  rw [List.getElem?_zip_eq_some] at h1
  exact ⟨q.1, q.2, h1.1, h1.2, h2.symm⟩
theorem src_enum {K : PySem.W.Frag} {d : D} {v : V} {xs : List D} {a : Addr} (hp : pls xs = true) (hl : ∀ H f, RV K H d v f → ∃ vs g, SqL K H a vs ∧ RVs K H xs vs g) : Src K (Ite K a) (enumD xs) [d] [v] where
  pl := fun i d e => by
    obtain ⟨x, h1, h2⟩ := enumD_get e
    rw [h2]
    show (true && (pl x && true)) = true
    rw [pls_get hp h1]; rfl
  go := fun H f i r hi => by
    obtain ⟨vs, g, q, rs⟩ := hl H f r.one'
    have : i < vs.length := by rw [← rs.length]; rw [enumD_len] at hi; exact hi
    exact ⟨vs, vs[i], q, List.getElem?_eq_getElem this⟩
  stop := fun H f r => by
    obtain ⟨vs, g, q, rs⟩ := hl H f r.one'
    exact ⟨vs, q, by rw [enumD_len, rs.length]; exact Nat.le_refl _⟩
  yld := fun H f i d' x H' r hi y => by
    obtain ⟨vs, g, q, rs⟩ := hl H f r.one'
    obtain ⟨T, z, e1, e2, e3, e4⟩ := y
    obtain ⟨x0, h1, h2⟩ := enumD_get hi
    obtain ⟨u, g2, h3, h4, _⟩ := rs.get h1
    have := e4 vs q
    rw [h3] at this
    cases this
    subst e1; subst e3; subst h2
    exact pair_rv ⟨rfl, rfl⟩ (h4.nil_of (pls_get hp h1)) e2
theorem src_enumT {K : PySem.W.Frag} {d : D} {v : V} {xs : List D} {a : Addr} (hp : pls xs = true) (hl : ∀ H f, RV K H d v f → ∃ vs g, SqT K H a vs ∧ RVs K H xs vs g) : Src K (IteT K a) (enumD xs) [d] [v] where
  pl := fun i d e => by
    obtain ⟨x, h1, h2⟩ := enumD_get e
    rw [h2]
    show (true && (pl x && true)) = true
    rw [pls_get hp h1]; rfl
  go := fun H f i r hi => by
    obtain ⟨vs, g, q, rs⟩ := hl H f r.one'
    have : i < vs.length := by rw [← rs.length]; rw [enumD_len] at hi; exact hi
    exact ⟨vs, vs[i], q, List.getElem?_eq_getElem this⟩
  stop := fun H f r => by
    obtain ⟨vs, g, q, rs⟩ := hl H f r.one'
    exact ⟨vs, q, by rw [enumD_len, rs.length]⟩
  yld := fun H f i d' x H' r hi y => by
    obtain ⟨vs, g, q, rs⟩ := hl H f r.one'
    obtain ⟨T, z, e1, e2, e3, e4⟩ := y
    obtain ⟨x0, h1, h2⟩ := enumD_get hi
    obtain ⟨u, g2, h3, h4, _⟩ := rs.get h1
    have := e4 vs q
    rw [h3] at this
    cases this
    subst e1; subst e3; subst h2
    exact pair_rv ⟨rfl, rfl⟩ (h4.nil_of (pls_get hp h1)) e2
theorem it_en {elts : List Expr} {kk : Nat} (hg : Gl X "enumerate") (hm : X.mg "enumerate" = none) (ha : PA X [a] (tAL X.K X.mg Eh ks fs)) (hs : starEach [a] X.env = [(false, eval a X.env)] := by rfl) :
    PI X (.Tuple elts kk tpos) (.Call (.Name "enumerate" p) [a] [] pos) (tI X.K X.mg Eh ks (iW qEn fs)) := (pi_enumA hg hm ha hs).imp fun s H R ⟨w, F, hold, q⟩ => by
  unfold iW at q
  refine tAL_run hold (Stp.refl fun _ m => m) q fun ds w2 us H2 F2 e st h2 l q2 => ?_
  replace h2 : Hold X.K H2 w2 s ds us F2 := h2
  obtain ⟨p, h1, h3⟩ := back_iw q2
  obtain ⟨d, xs, e1, e2, e3, e4⟩ := qEn_some h1
  subst e1; subst e4
  obtain ⟨v, ev⟩ := hold1 h2
  subst ev
  obtain ⟨fx, rx, _⟩ := Hold.one h2
  obtain ⟨a, ev, hk⟩ := seq_kind rx e2
  subst ev
  rcases hk with ⟨hk, _⟩ | ⟨hk, _⟩
  · obtain ⟨vs, g, sq, _⟩ := hk H2 fx rx
    exact ⟨a, vs, rfl, .inl ⟨sq, h3 _ H2 F2 _ st h2 (src_enum e3 hk) l⟩⟩
  · obtain ⟨vs, g, sq, _⟩ := hk H2 fx rx
    exact ⟨a, vs, rfl, .inr ⟨sq, h3 _ H2 F2 _ st h2 (src_enumT e3 hk) l⟩⟩
theorem src_zip {K : PySem.W.Frag} {d d' : D} {v v' : V} {xs ys : List D} {a b : Addr} (hp : pls xs = true) (hp' : pls ys = true) (hl : ∀ H f, RV K H d v f → ∃ vs g, SqL K H a vs ∧ RVs K H xs vs g) (hl' : ∀ H f, RV K H d' v' f → ∃ vs g, SqL K H b vs ∧ RVs K H ys vs g) : Src K (Itz K a b) (zipD xs ys) [d, d'] [v, v'] where
  pl := fun i d e => by
    obtain ⟨x, y, h1, h2, h3⟩ := zipD_get e
    rw [h3]
    show (pl x && (pl y && true)) = true
    rw [pls_get hp h1, pls_get hp' h2]; rfl
  go := fun H f i r hi => by
    obtain ⟨_, _, f1, g1, e, r1, r2, _⟩ := r
    cases e
    obtain ⟨vs, g, q, rs⟩ := hl H _ r1
    obtain ⟨vs', g', q', rs'⟩ := hl' H _ r2.one'
    rw [zipD_len] at hi
    have h1 : i < vs.length := by rw [← rs.length]; omega
    have h2 : i < vs'.length := by rw [← rs'.length]; omega
    exact ⟨vs, vs', vs[i], vs'[i], q, q', List.getElem?_eq_getElem h1, List.getElem?_eq_getElem h2⟩
  stop := fun H f r => by
    obtain ⟨_, _, f1, g1, e, r1, r2, _⟩ := r
    cases e
    obtain ⟨vs, g, q, rs⟩ := hl H _ r1
    obtain ⟨vs', g', q', rs'⟩ := hl' H _ r2.one'
    refine ⟨vs, vs', q, q', ?_⟩
    rw [zipD_len, ← rs.length, ← rs'.length]
    omega
  yld := fun H f i d' x H' r hi y => by
    obtain ⟨_, _, f1, g1, e, r1, r2, _⟩ := r
    cases e
    obtain ⟨vs, g, q, rs⟩ := hl H _ r1
    obtain ⟨vs', g', q', rs'⟩ := hl' H _ r2.one'
    obtain ⟨T, z, z', e1, e2, e3, e4, e5⟩ := y
    obtain ⟨x0, y0, h1, h2, h3⟩ := zipD_get hi
    obtain ⟨u, g2, h4, h5, _⟩ := rs.get h1
    obtain ⟨u', g2', h4', h5', _⟩ := rs'.get h2
    have t1 := e4 vs q
    have t2 := e5 vs' q'
    rw [h4] at t1
    rw [h4'] at t2
    cases t1; cases t2
    subst e1; subst e3; subst h3
    exact pair_rv (h5.nil_of (pls_get hp h1)) (h5'.nil_of (pls_get hp' h2)) e2
theorem src_zipT {K : PySem.W.Frag} {d d' : D} {v v' : V} {xs ys : List D} {a b : Addr} (hp : pls xs = true) (hp' : pls ys = true) (hl : ∀ H f, RV K H d v f → ∃ vs g, SqT K H a vs ∧ RVs K H xs vs g) (hl' : ∀ H f, RV K H d' v' f → ∃ vs g, SqT K H b vs ∧ RVs K H ys vs g) : Src K (RZ.ItzT K a b) (zipD xs ys) [d, d'] [v, v'] where
  pl := fun i d e => by
    obtain ⟨x, y, h1, h2, h3⟩ := zipD_get e
    rw [h3]
    show (pl x && (pl y && true)) = true
    rw [pls_get hp h1, pls_get hp' h2]; rfl
  go := fun H f i r hi => by
    obtain ⟨_, _, f1, g1, e, r1, r2, _⟩ := r
    cases e
    obtain ⟨vs, g, q, rs⟩ := hl H _ r1
    obtain ⟨vs', g', q', rs'⟩ := hl' H _ r2.one'
    rw [zipD_len] at hi
    have h1 : i < vs.length := by rw [← rs.length]; omega
    have h2 : i < vs'.length := by rw [← rs'.length]; omega
    exact ⟨vs, vs', vs[i], vs'[i], q, q', List.getElem?_eq_getElem h1, List.getElem?_eq_getElem h2⟩
  stop := fun H f r => by
    obtain ⟨_, _, f1, g1, e, r1, r2, _⟩ := r
    cases e
    obtain ⟨vs, g, q, rs⟩ := hl H _ r1
    obtain ⟨vs', g', q', rs'⟩ := hl' H _ r2.one'
    refine ⟨vs, vs', q, q', ?_⟩
    rw [zipD_len, ← rs.length, ← rs'.length]
    omega
  yld := fun H f i d' x H' r hi y => by
    obtain ⟨_, _, f1, g1, e, r1, r2, _⟩ := r
    cases e
    obtain ⟨vs, g, q, rs⟩ := hl H _ r1
    obtain ⟨vs', g', q', rs'⟩ := hl' H _ r2.one'
    obtain ⟨T, z, z', e1, e2, e3, e4, e5⟩ := y
    obtain ⟨x0, y0, h1, h2, h3⟩ := zipD_get hi
    obtain ⟨u, g2, h4, h5, _⟩ := rs.get h1
    obtain ⟨u', g2', h4', h5', _⟩ := rs'.get h2
    have t1 := e4 vs q
    have t2 := e5 vs' q'
    rw [h4] at t1
    rw [h4'] at t2
    cases t1; cases t2
    subst e1; subst e3; subst h3
    exact pair_rv (h5.nil_of (pls_get hp h1)) (h5'.nil_of (pls_get hp' h2)) e2
theorem it_zp {elts : List Expr} {kk : Nat} (hg : Gl X "zip") (hm : X.mg "zip" = none) (ha : PA X [a, b] (tAL X.K X.mg Eh ks fs)) (hs : starEach [a, b] X.env = (false, eval a X.env) :: starEach [b] X.env := by rfl) (hpl : (backTo pos (starEach [b] X.env)).any (·.1) = false := by rfl) :
    PI X (.Tuple elts kk tpos) (.Call (.Name "zip" p) [a, b] [] pos) (tI X.K X.mg Eh ks (iW qZp fs)) := (RZ.pi_zipA hg hm ha hs hpl).imp fun s H R ⟨w, F, hold, q⟩ => by
  unfold iW at q
  refine tAL_run hold (Stp.refl fun _ m => m) q fun ds w2 us H2 F2 e st h2 l q2 => ?_
  replace h2 : Hold X.K H2 w2 s ds us F2 := h2
  obtain ⟨p, h1, h3⟩ := back_iw q2
  obtain ⟨d, d', xs, ys, e1, c, e2, e3, e4, e5, e6⟩ := qZp_some h1
  subst e1; subst e6
  obtain ⟨v, v', ev⟩ := hold2 h2
  subst ev
  obtain ⟨fx, fy, rx, ry, _⟩ := Hold.two h2
  obtain ⟨a, ev, hk⟩ := seq_kind rx e2
  obtain ⟨b, ev', hk'⟩ := seq_kind ry e4
  subst ev; subst ev'
  rcases hk with ⟨hk, zs, hz⟩ | ⟨hk, zs, hz⟩
  · rcases hk' with ⟨hk', zs', hz'⟩ | ⟨hk', zs', hz'⟩
    · obtain ⟨vs, g, sq, _⟩ := hk H2 fx rx
      obtain ⟨vs', g', sq', _⟩ := hk' H2 fy ry
      exact ⟨a, b, vs, vs', rfl, .inl ⟨sq, sq', h3 _ H2 F2 _ st h2 (src_zip e3 e5 hk hk') l⟩⟩
    · subst hz'
      rcases hz with hz | hz <;> (subst hz; cases c)
  · subst hz
    rcases hk' with ⟨hk', zs', hz'⟩ | ⟨hk', zs', hz'⟩
    · rcases hz' with hz' | hz' <;> (subst hz'; cases c)
    · obtain ⟨vs, g, sq, _⟩ := hk H2 fx rx
      obtain ⟨vs', g', sq', _⟩ := hk' H2 fy ry
      exact ⟨a, b, vs, vs', rfl, .inr ⟨sq, sq', h3 _ H2 F2 _ st h2 (src_zipT e3 e5 hk hk') l⟩⟩
end
end Pm

set_option autoImplicit true
namespace Pm
open PySem PySem.Spec L2

/-! ### for -/
def forL (tg : Tgt) (body : PM Fl) : List D → PM Fl
  | [] => fun w => .ok .nx w
  | d :: ds => fun w => match setT tg d w with
    | some w1 => (body w1).bind fun fl w2 => match fl with
      | .nx => forL tg body ds w2
      | .ct => forL tg body ds w2
      | .bk => .ok .nx w2
      | .rt v => .ok (.rt v) w2
    | none => .bad
theorem forL_nil {tg : Tgt} {body : PM Fl} {w : Ev} : forL tg body [] w = .ok .nx w := rfl
theorem forL_cons {tg : Tgt} {body : PM Fl} {d : D} {ds : List D} {w : Ev} : forL tg body (d :: ds) w = match setT tg d w with
    | some w1 => (body w1).bind fun fl w2 => match fl with
      | .nx => forL tg body ds w2
      | .ct => forL tg body ds w2
      | .bk => .ok .nx w2
      | .rt v => .ok (.rt v) w2
    | none => .bad := rfl
def putR (ks : List (Option Nat)) (tds : List D) (r : Rs Fl) : Rs Fl := match r with
  | .ok fl w => .ok fl (putB ks tds w)
  | .ex c fs w => .ex c fs (putB ks tds w)
  | .bad => .bad
def sFor (ks : List (Option Nat)) (it : PM (List D × List D)) (tg : Tgt) (body : PM Fl) : PM Fl := fun w => (it w).bind fun p w1 => putR ks p.2 (forL tg body p.1 w1)

theorem Hold.putL2 {K : PySem.W.Frag} {H : Hp} {s : L2.St} {es : List D} {us : List V} : ∀ {ks : List (Option Nat)} {ds : List D} {vs : List V} {w : Ev} {F : List Addr}, Hold K H w s (ds ++ es) (vs ++ us) F → ds.length = vs.length → Lnk s ks vs → ∃ F', Hold K H (putB ks ds w) s es us F' ∧ ∀ a ∈ F', a ∈ F
  | [], ds, vs, w, F, h, hl, l => by
    have e : putB [] ds w = w := by unfold putB; rfl
    rw [e]
    exact h.drop hl
  | o :: ks, [], vs, w, F, h, hl, l => by
    have e : putB (o :: ks) [] w = w := by cases o <;> (unfold putB; rfl)
    rw [e]
    exact h.drop hl
  | o :: ks, d :: ds, vs, w, F, h, hl, l => by
    cases vs with
    | nil => cases hl
    | cons v vs =>
      have hl2 : ds.length = vs.length := by simpa using hl
      have l2 : Lnk s ks vs := fun k j u e e2 => l (k + 1) j u (by simpa using e) (by simpa using e2)
      cases o with
      | none =>
        obtain ⟨F1, h1, s1⟩ := Hold.drop (ds := [d]) (vs := [v]) h rfl
        obtain ⟨F2, h2, s2⟩ := Hold.putL2 (ks := ks) h1 hl2 l2
        exact ⟨F2, h2, fun a m => s1 a (s2 a m)⟩
      | some j =>
        obtain ⟨F1, h1, s1⟩ := Hold.putS h (l 0 j v rfl rfl)
        obtain ⟨F2, h2, s2⟩ := Hold.putL2 (ks := ks) h1 hl2 l2
        exact ⟨F2, h2, fun a m => s1 a (s2 a m)⟩
theorem lnk_agr {s s' : L2.St} {ks : List (Option Nat)} {vs : List V} {wr : List Nat} (l : Lnk s ks vs) (ag : Agr wr s s') (h : ∀ j, some j ∈ ks → j ∉ wr) : Lnk s' ks vs := fun k j v e e2 => by
  rw [ag.2 j (h j (List.mem_of_getElem? e))]
  exact l k j v e e2
theorem Hold.rvs {K : PySem.W.Frag} {H : Hp} {w : Ev} {s : L2.St} {ds : List D} {vs : List V} {F : List Addr} (h : Hold K H w s ds vs F) : ∃ f, RVs K H ds vs f := by
  obtain ⟨ft, fe, h1, _⟩ := h
  exact ⟨ft, h1⟩
section
variable {X : Cx} {Eh : WX} {s : L2.St} {H : Hp} {E : Ends}
theorem for_imp {K : PySem.W.Frag} {mg : Str → Option Value} {g : TG} {tg : Tgt} {body : PM Fl} {wrB : List Nat} {ks : List (Option Nat)} {it : PM (List D × List D)} (hg : TgR K g tg) (hj : ∀ j, some j ∈ ks → j ∉ wrT tg ++ wrB)
    (h : tS K mg Eh (wrT tg ++ wrB) (sFor ks it tg body) E s H) : tFor (tI K mg Eh ks it) g (tS K mg Eh wrB body) E s H := by
  obtain ⟨w, F, hold, q⟩ := h
  unfold sFor at q
  refine ⟨w, F, hold, ?_⟩
  cases e : it w with
  | bad => rw [e] at q; exact q
  | ex c fs w1 =>
    rw [e] at q
    exact fun cls od H' F' st h' x => q cls od s H' F' st (.refl _ _) h' x
  | ok p w1 =>
    rw [e] at q
    replace q : PoS K mg Eh (wrT tg ++ wrB) H F s (putR ks p.2 (forL tg body p.1 w1)) E := q
    intro J H1 F1 tvs st h1 src lnk
    refine ⟨fun i m s2 H2 => m + i = p.1.length ∧ i ≤ p.1.length ∧ ∃ w2 F2, Stp F H F2 H2 ∧ Agr (wrT tg ++ wrB) s s2 ∧ Hold K H2 w2 s2 p.2 tvs F2 ∧
      PoS K mg Eh (wrT tg ++ wrB) H F s (putR ks p.2 (forL tg body (p.1.drop i) w2)) E, ⟨p.1.length, by omega, by omega, w1, F1, st, .refl _ _, h1, q⟩, ?_⟩
    rintro i m s2 H2 ⟨e1, e2, w2, F2, st2, ag2, h2, q2⟩
    obtain ⟨ft, rt⟩ := h2.rvs
    have hlen := hold_len h2
    have lnk2 := lnk_agr lnk ag2 hj
    by_cases hi : i < p.1.length
    · have hd : p.1[i]? = some p.1[i] := List.getElem?_eq_getElem hi
      have hdr : p.1.drop i = p.1[i] :: p.1.drop (i + 1) := List.drop_eq_getElem_cons hi
      rw [hdr] at q2
      refine .inr ⟨src.go H2 ft i rt hi, fun s' H' => ∃ w3 F3, Stp F H F3 H' ∧ Agr (wrT tg ++ wrB) s s' ∧ Hold K H' w3 s' p.2 tvs F3 ∧
        PoS K mg Eh (wrT tg ++ wrB) H F s (putR ks p.2 (forL tg body (p.1.drop (i + 1)) w3)) E, fun s' H' hN => ⟨m - 1, by omega, by omega, hi, hN⟩, fun x H' hy => ?_⟩
      obtain ⟨kp, rx⟩ := src.yld H2 ft i _ x H' rt hd hy
      cases et : setT tg p.1[i] w2 with
      | none =>
        have : putR ks p.2 (forL tg body (p.1[i] :: p.1.drop (i + 1)) w2) = .bad := by rw [forL_cons, et]; rfl
        rw [this] at q2; exact q2.elim
      | some w3 =>
        refine hg x s2 H' _ w2 w3 F2 p.2 tvs p.1[i] rx (src.pl i _ hd) (hold_kp h2 kp) et fun s3 F3 ag3 sub3 h3 => ?_
        have st3 : Stp F H F3 H' := (st2.trans (stp_kp kp)).trans (Stp.refl sub3)
        have ag3' : Agr (wrT tg ++ wrB) s s3 := ag2.trans (ag3.mono fun k m => List.mem_append_left _ m)
        obtain ⟨F0, h0, sub0, fr⟩ := h3.frame
        refine ⟨w3, F0, h0, ?_⟩
        have q3 : PoS K mg Eh (wrT tg ++ wrB) H F s (putR ks p.2 ((body w3).bind fun fl w2 => match fl with
            | .nx => forL tg body (p.1.drop (i + 1)) w2
            | .ct => forL tg body (p.1.drop (i + 1)) w2
            | .bk => .ok .nx w2
            | .rt v => .ok (.rt v) w2)) E := by
          have z : forL tg body (p.1[i] :: p.1.drop (i + 1)) w2 = (body w3).bind fun fl w2 => match fl with
            | .nx => forL tg body (p.1.drop (i + 1)) w2
            | .ct => forL tg body (p.1.drop (i + 1)) w2
            | .bk => .ok .nx w2
            | .rt v => .ok (.rt v) w2 := by
            rw [forL_cons, et]
          rw [z] at q2
          exact q2
        clear q2
        have agB : ∀ {s'}, Agr wrB s3 s' → Agr (wrT tg ++ wrB) s s' := fun ag => ag3'.trans (ag.mono fun k m => List.mem_append_right _ m)
        cases eb : body w3 with
        | bad => rw [eb] at q3; exact q3
        | ex c fs w4 =>
          rw [eb] at q3
          intro cls od s' H4 F4 st4 ag4 h4 x
          obtain ⟨F5, h5, st5⟩ := fr st4 h4
          rw [List.append_nil, List.append_nil] at h5
          obtain ⟨F6, h6, sub6⟩ := Hold.putL h5 (lnk_agr lnk (agB ag4) hj)
          exact q3 cls od s' H4 F6 ((st3.trans st5).trans (Stp.refl sub6)) (agB ag4) h6 x
        | ok fl w4 =>
          rw [eb] at q3
          cases fl with
          | nx =>
            intro s' H4 F4 st4 ag4 h4
            obtain ⟨F5, h5, st5⟩ := fr st4 h4
            rw [List.append_nil, List.append_nil] at h5
            exact ⟨w4, F5, st3.trans st5, agB ag4, h5, q3⟩
          | ct =>
            intro s' H4 F4 st4 ag4 h4
            obtain ⟨F5, h5, st5⟩ := fr st4 h4
            rw [List.append_nil, List.append_nil] at h5
            exact ⟨w4, F5, st3.trans st5, agB ag4, h5, q3⟩
          | bk =>
            intro s' H4 F4 st4 ag4 h4
            obtain ⟨F5, h5, st5⟩ := fr st4 h4
            rw [List.append_nil, List.append_nil] at h5
            obtain ⟨F6, h6, sub6⟩ := Hold.putL h5 (lnk_agr lnk (agB ag4) hj)
            exact q3 s' H4 F6 ((st3.trans st5).trans (Stp.refl sub6)) (agB ag4) h6
          | rt v =>
            intro x' s' H4 F4 st4 ag4 h4
            obtain ⟨F5, h5, st5⟩ := fr st4 h4
            obtain ⟨F6, h6, sub6⟩ := Hold.putL2 h5 hlen (lnk_agr lnk (agB ag4) hj)
            exact q3 x' s' H4 F6 ((st3.trans st5).trans (Stp.refl sub6)) (agB ag4) h6
    · have ei : i = p.1.length := by omega
      subst ei
      refine .inl ⟨src.stop H2 ft rt, ?_⟩
      rw [List.drop_length] at q2
      obtain ⟨F6, h6, sub6⟩ := Hold.putL h2 lnk2
      exact q2 s2 H2 F6 (st2.trans (Stp.refl sub6)) ag2 h6
def lkOk (ks : List (Option Nat)) (wr : List Nat) : Bool := ks.all fun o => match o with
  | some j => !wr.contains j
  | none => true
theorem lkOk_of {ks : List (Option Nat)} {wr : List Nat} (h : lkOk ks wr = true) : ∀ j, some j ∈ ks → j ∉ wr := fun j m z => by
  have := List.all_eq_true.mp h _ m
  simp at this
  exact this z
theorem ss_for {tgE iter : Expr} {b : List Stmt} {pos : Pos} {g : TG} {tg : Tgt} {body : PM Fl} {wrB : List Nat} {ks : List (Option Nat)} {it : PM (List D × List D)} (hp : PassesOwn (model X.prog X.w) X.A X.env X.xe) (hc : X.calm = true)
    (hi : PI X tgE iter (tI X.K X.mg Eh ks it)) (hg : PG X tgE g) (hr : TgR X.K g tg) (hb : PSs X b (tS X.K X.mg Eh wrB body)) (hj : lkOk ks (wrT tg ++ wrB) = true := by rfl)
    (hs : ∀ x, foldedSetIterable iter X.env x = pure x := by intro _; rfl) : PS X (.For tgE iter b [] pos) (tS X.K X.mg Eh (wrT tg ++ wrB) (sFor ks it tg body)) :=
  (ps_for hp hc hi hg hb hs).imp fun E s H h => for_imp hr (lkOk_of hj) h

/-! ### while -/
def whL (t : PM Bool) (body : PM Fl) : Nat → PM Fl
  | 0 => fun _ => .bad
  | n + 1 => fun w => (t w).bind fun b w1 => if b = true then (body w1).bind fun fl w2 => match fl with
      | .nx => whL t body n w2
      | .ct => whL t body n w2
      | .bk => .ok .nx w2
      | .rt v => .ok (.rt v) w2
    else .ok .nx w1
open Classical in
noncomputable def sWh (t : PM Bool) (body : PM Fl) : PM Fl := fun w => if h : ∃ n, whL t body n w ≠ .bad then whL t body (Classical.choose h) w else .bad
theorem whL_more {t : PM Bool} {body : PM Fl} : ∀ {n k : Nat} {w : Ev}, whL t body n w ≠ .bad → whL t body (n + k) w = whL t body n w
  | 0, k, w, h => absurd rfl h
  | n + 1, k, w, h => by
    rw [show n + 1 + k = (n + k) + 1 by omega]
    unfold whL at h ⊢
    cases et : t w with
    | bad => rfl
    | ex c fs w1 => rfl
    | ok b w1 =>
      rw [et] at h
      rw [Rs.bind_ok] at h ⊢
      rw [Rs.bind_ok]
      cases b with
      | false => rfl
      | true =>
        rw [if_pos rfl] at h ⊢
        rw [if_pos rfl]
        cases eb : body w1 with
        | bad => rfl
        | ex c fs w2 => rfl
        | ok fl w2 =>
          rw [eb] at h
          rw [Rs.bind_ok] at h ⊢
          rw [Rs.bind_ok]
          cases fl with
          | nx => exact whL_more (k := k) h
          | ct => exact whL_more (k := k) h
          | bk => rfl
          | rt v => rfl
theorem sWh_eq {t : PM Bool} {body : PM Fl} {w : Ev} (n : Nat) (h : whL t body n w ≠ .bad) : sWh t body w = whL t body n w := by
  have hx : ∃ n, whL t body n w ≠ .bad := ⟨n, h⟩
  unfold sWh
  rw [dif_pos hx]
  have hm := Classical.choose_spec hx
  rcases Nat.le_total n (Classical.choose hx) with z | z
  · obtain ⟨k, e⟩ := Nat.exists_eq_add_of_le z
    rw [e]
    exact whL_more h
  · obtain ⟨k, e⟩ := Nat.exists_eq_add_of_le z
    have := whL_more (k := k) hm
    rw [← e] at this
    exact this.symm
theorem while_imp {K : PySem.W.Frag} {mg : Str → Option Value} {t : PM Bool} {body : PM Fl} {wr : List Nat} (h : tS K mg Eh wr (sWh t body) E s H) : tWhile (tT K mg Eh t) (tS K mg Eh wr body) E s H := by
  obtain ⟨w, F, hold, q⟩ := h
  unfold sWh at q
  by_cases hx : ∃ n, whL t body n w ≠ .bad
  · rw [dif_pos hx] at q
    refine ⟨fun m s2 H2 => ∃ w2 F2, Stp F H F2 H2 ∧ Agr wr s s2 ∧ Hold K H2 w2 s2 [] [] F2 ∧ PoS K mg Eh wr H F s (whL t body m w2) E, ⟨_, w, F, Stp.refl fun _ m => m, .refl _ _, hold, q⟩, ?_⟩
    rintro m s2 H2 ⟨w2, F2, st2, ag2, h2, q2⟩
    cases m with
    | zero => exact q2.elim
    | succ m =>
      unfold whL at q2
      refine ⟨w2, F2, h2, ?_⟩
      cases et : t w2 with
      | bad => rw [et] at q2; exact q2
      | ex c fs w3 =>
        rw [et] at q2
        exact fun cls od H' F' st' h' x => q2 cls od s2 H' F' (st2.trans st') ag2 h' x
      | ok b w3 =>
        rw [et] at q2
        rw [Rs.bind_ok] at q2
        intro H3 F3 st3 h3
        cases b with
        | false => rw [if_neg Bool.false_ne_true] at q2 ⊢; exact q2 s2 H3 F3 (st2.trans st3) ag2 h3
        | true =>
          rw [if_pos rfl] at q2 ⊢
          refine ⟨fun s' H' => ∃ w2 F2, Stp F H F2 H' ∧ Agr wr s s' ∧ Hold K H' w2 s' [] [] F2 ∧ PoS K mg Eh wr H F s (whL t body m w2) E, fun s' H' hN => ⟨m, Nat.lt_succ_self _, hN⟩, w3, F3, h3, ?_⟩
          cases eb : body w3 with
          | bad => rw [eb] at q2; exact q2
          | ex c fs w4 =>
            rw [eb] at q2
            exact fun cls od s' H' F' st' ag' h' x => q2 cls od s' H' F' ((st2.trans st3).trans st') (ag2.trans ag') h' x
          | ok fl w4 =>
            rw [eb] at q2
            cases fl with
            | nx => exact fun s' H' F' st' ag' h' => ⟨w4, F', (st2.trans st3).trans st', ag2.trans ag', h', q2⟩
            | ct => exact fun s' H' F' st' ag' h' => ⟨w4, F', (st2.trans st3).trans st', ag2.trans ag', h', q2⟩
            | bk => exact fun s' H' F' st' ag' h' => q2 s' H' F' ((st2.trans st3).trans st') (ag2.trans ag') h'
            | rt v => exact fun x s' H' F' st' ag' h' => q2 x s' H' F' ((st2.trans st3).trans st') (ag2.trans ag') h'
  · rw [dif_neg hx] at q; exact q.elim
theorem ss_while {c : Expr} {b : List Stmt} {pos : Pos} {t : PM Bool} {body : PM Fl} {wr : List Nat} (hp : PassesOwn (model X.prog X.w) X.A X.env X.xe) (hc : PT X c (tT X.K X.mg Eh t)) (hb : PSs X b (tS X.K X.mg Eh wr body)) :
    PS X (.While c b [] pos) (tS X.K X.mg Eh wr (sWh t body)) := (ps_while hp hc hb).imp fun E s H h => while_imp h
end

/-! ### comprehensions -/
def wipeE (w : Ev) : List Nat → Ev
  | [] => w
  | v :: vs => (wipeE w vs).set v none
def Rs.bindN {α β : Type} (r : Rs α) (k : α → Ev → Rs β) : Rs β := match r with
  | .ok a w => k a w
  | _ => .bad
@[simp] theorem Rs.bindN_ok {α β : Type} (a : α) (w : Ev) (k : α → Ev → Rs β) : (Rs.ok a w).bindN k = k a w := rfl
def cmpL (tg : Tgt) (c : PM Bool) (elt : PM D) (vs : List Nat) : List D → List D → PM (List D)
  | [], acc => fun w => .ok acc w
  | d :: ds, acc => fun w => match setT tg d (wipeE w vs) with
    | some w1 => (c w1).bindN fun b w2 => if b = true then (elt w2).bindN fun e w3 => if acc.length < sizeLine then cmpL tg c elt vs ds (acc ++ [e]) w3 else .bad
      else cmpL tg c elt vs ds acc w2
    | none => .bad
theorem cmpL_nil {tg : Tgt} {c : PM Bool} {elt : PM D} {vs : List Nat} {acc : List D} {w : Ev} : cmpL tg c elt vs [] acc w = .ok acc w := rfl
theorem cmpL_cons {tg : Tgt} {c : PM Bool} {elt : PM D} {vs : List Nat} {d : D} {ds acc : List D} {w : Ev} : cmpL tg c elt vs (d :: ds) acc w = match setT tg d (wipeE w vs) with
    | some w1 => (c w1).bindN fun b w2 => if b = true then (elt w2).bindN fun e w3 => if acc.length < sizeLine then cmpL tg c elt vs ds (acc ++ [e]) w3 else .bad
      else cmpL tg c elt vs ds acc w2
    | none => .bad := rfl
def xComp (ks : List (Option Nat)) (it : PM (List D × List D)) (tg : Tgt) (c : PM Bool) (elt : PM D) (vs : List Nat) : PM D := fun w => (it w).bind fun p w1 => (cmpL tg c elt vs p.1 [] w1).bindN fun acc w2 => Rs.ok (D.own acc) (putB ks p.2 (wipeE w2 vs))
def tYesF : PM Bool := fun w => .ok true w
theorem wipeE_some {w : Ev} {i : Nat} {d : D} : ∀ {vs : List Nat}, (wipeE w vs)[i]? = some (some d) → w[i]? = some (some d) ∧ i ∉ vs
  | [], h => ⟨h, fun z => nomatch z⟩
  | v :: vs, h => by
    unfold wipeE at h
    by_cases hi : v = i
    · subst hi
      rw [List.getElem?_set] at h
      rw [if_pos rfl] at h
      split at h <;> cases h
    · rw [List.getElem?_set_ne hi] at h
      obtain ⟨h1, h2⟩ := wipeE_some h
      exact ⟨h1, fun z => (List.mem_cons.mp z).elim (fun e => hi e.symm) h2⟩
theorem wipe_get {s : L2.St} {i : Nat} : ∀ {vs : List Nat}, i ∉ vs → (wipe s vs)[i]? = s[i]?
  | [], _ => rfl
  | v :: vs, h => by
    unfold wipe
    rw [List.getElem?_set_ne (fun e => h (by rw [← e]; exact List.mem_cons_self))]
    exact wipe_get fun z => h (List.mem_cons_of_mem _ z)
theorem wipe_in {s : L2.St} {i : Nat} (hi : i < s.length) : ∀ {vs : List Nat}, i ∈ vs → (wipe s vs)[i]? = some none
  | [], h => nomatch h
  | v :: vs, h => by
    unfold wipe
    by_cases e : v = i
    · subst e
      rw [List.getElem?_set_self (by rw [wipe_length]; exact hi)]
    · rw [List.getElem?_set_ne e]
      exact wipe_in hi ((List.mem_cons.mp h).elim (fun z => absurd z.symm e) id)
theorem wipe_ext {a b : L2.St} {vs : List Nat} (hl : a.length = b.length) (h : ∀ i, i ∉ vs → a[i]? = b[i]?) : wipe a vs = wipe b vs := by
  refine List.ext_getElem? fun i => ?_
  by_cases m : i ∈ vs
  · by_cases hi : i < a.length
    · rw [wipe_in hi m, wipe_in (by rw [← hl]; exact hi) m]
    · rw [List.getElem?_eq_none (by rw [wipe_length]; omega), List.getElem?_eq_none (by rw [wipe_length]; omega)]
  · rw [wipe_get m, wipe_get m, h i m]
theorem RE.agree {K : PySem.W.Frag} {H : Hp} : ∀ {w : Ev} {s s' : L2.St} {fe : List Addr}, RE K H w s fe → s'.length = s.length → (∀ (i : Nat) (d : D), w[i]? = some (some d) → s'[i]? = s[i]?) → RE K H w s' fe
  | [], s, s', fe, h, hl, _ => by
    obtain ⟨e, e2⟩ := h
    subst e
    exact ⟨List.length_eq_zero_iff.mp hl, e2⟩
  | none :: r, s, s', fe, h, hl, hx => by
    obtain ⟨x, t, e, q⟩ := h
    subst e
    match s', hl, hx with
    | y :: t', hl, hx => exact ⟨y, t', rfl, RE.agree q (by simpa using hl) fun i d e => by simpa using hx (i + 1) d (by simpa using e)⟩
  | some d :: r, s, s', fe, h, hl, hx => by
    obtain ⟨v, t, f, g, e, q, q2, e2⟩ := h
    subst e
    match s', hl, hx with
    | y :: t', hl, hx =>
      have e3 : y = some v := by simpa using hx 0 d rfl
      subst e3
      exact ⟨v, t', f, g, rfl, q, RE.agree q2 (by simpa using hl) fun i d e => by simpa using hx (i + 1) d (by simpa using e), e2⟩
theorem Hold.agree {K : PySem.W.Frag} {H : Hp} {w : Ev} {s s' : L2.St} {ds : List D} {vs : List V} {F : List Addr} (h : Hold K H w s ds vs F) (hl : s'.length = s.length) (hx : ∀ (i : Nat) (d : D), w[i]? = some (some d) → s'[i]? = s[i]?) : Hold K H w s' ds vs F := by
  obtain ⟨ft, fe, h1, h2, p, nd⟩ := h
  exact ⟨ft, fe, h1, h2.agree hl hx, p, nd⟩
theorem Hold.wipes {K : PySem.W.Frag} {H : Hp} {w : Ev} {s : L2.St} {ds : List D} {vs : List V} {F : List Addr} (h : Hold K H w s ds vs F) : ∀ l : List Nat, ∃ F', Hold K H (wipeE w l) s ds vs F' ∧ ∀ a ∈ F', a ∈ F
  | [] => ⟨F, h, fun _ m => m⟩
  | v :: l => by
    obtain ⟨F1, h1, s1⟩ := Hold.wipes h l
    obtain ⟨F2, h2, s2⟩ := h1.wipe v
    exact ⟨F2, h2, fun a m => s1 a (s2 a m)⟩
/-- the state of a turn: from any state alike but for the comprehension's own names -/
theorem Hold.turn {K : PySem.W.Frag} {H : Hp} {w : Ev} {s s' : L2.St} {ds : List D} {vs : List V} {F : List Addr} {l : List Nat} (h : Hold K H w s' ds vs F) (e : L2.wipe s' l = L2.wipe s l) : ∃ F', Hold K H (wipeE w l) (L2.wipe s l) ds vs F' ∧ Hold K H (wipeE w l) s ds vs F' ∧ ∀ a ∈ F', a ∈ F := by
  obtain ⟨F1, h1, s1⟩ := h.wipes l
  have hl : s.length = s'.length := by rw [← wipe_length s l, ← e, wipe_length]
  have hx : ∀ (i : Nat) (d : D), (wipeE w l)[i]? = some (some d) → s[i]? = s'[i]? := fun i d z => by
    have n := (wipeE_some z).2
    rw [← wipe_get n, ← e, wipe_get n]
  exact ⟨F1, h1.agree (by rw [wipe_length, hl]) fun i d z => by rw [wipe_get (wipeE_some z).2, hx i d z], h1.agree hl hx, s1⟩
theorem Hold.comm {K : PySem.W.Frag} {H : Hp} {w : Ev} {s : L2.St} {ds es : List D} {vs us : List V} {F : List Addr} (h : Hold K H w s (ds ++ es) (vs ++ us) F) (hl : ds.length = vs.length) : Hold K H w s (es ++ ds) (us ++ vs) F := by
  obtain ⟨ft, fe, h1, h2, p, nd⟩ := h
  obtain ⟨vs1, vs2, f, g, e1, e2, q1, q2⟩ := RVs.split h1
  have hl2 := q1.length
  have e3 : vs = vs1 := by
    have := congrArg (List.take vs.length) e1
    rw [List.take_left, ← hl, hl2, List.take_left] at this
    exact this
  subst e3
  have e4 : us = vs2 := List.append_cancel_left e1
  subst e4; subst e2
  exact ⟨g ++ f, fe, q2.append q1, h2, p.trans ((List.perm_append_comm (l₁ := f) (l₂ := g)).append_right fe), nd⟩
/-- the last item held goes into the first one's list -/
theorem Hold.grow {K : PySem.W.Frag} {H : Hp} {w : Ev} {s : L2.St} {xs ds : List D} {vs : List V} {F : List Addr} {a : Addr} {d : D} {v : V} (h : Hold K H w s ((.own xs :: ds) ++ [d]) ((.ref a :: vs) ++ [v]) F) (hl : ds.length = vs.length) :
    ∃ us, H a = some (.lst us) ∧ xs.length = us.length ∧ ∃ F', Hold K (upd H a (.lst (us ++ [v]))) w s (.own (xs ++ [d]) :: ds) (.ref a :: vs) F' ∧ (∀ a ∈ F', a ∈ F) ∧ Stp F H F' (upd H a (.lst (us ++ [v]))) := by
  obtain ⟨ft0, fe, h1, h2, p, nd⟩ := Hold.comm h (by simp [hl])
  obtain ⟨v', r, fd, ft1, e1, qd, q1, e2⟩ := h1
  injection e1 with e3 e4
  subst e3; subst e4; subst e2
  obtain ⟨v2, r2, f0, ft, e5, q, q2, e6⟩ := q1
  injection e5 with e7 e8
  subst e7; subst e8; subst e6
  obtain ⟨a', us, f, e9, q5, r5, e10⟩ := q
  cases e9
  subst e10
  refine ⟨us, q5, r5.length, ?_⟩
  have k : Kp [a] H (upd H a (.lst (us ++ [v]))) := fun b o e n => by rw [upd_ne (fun z => n (by rw [z]; exact List.mem_cons_self))]; exact e
  have mk : ∀ b ∈ [a], Mut (H b) := fun b m => by
    have e : b = a := by simpa using m
    rw [e, q5]; trivial
  have p2 : F.Perm (a :: (fd ++ (f ++ (ft ++ fe)))) := by
    refine p.trans ?_
    show ((fd ++ (a :: f ++ ft)) ++ fe).Perm _
    rw [List.append_assoc, List.cons_append, List.cons_append, List.append_assoc]
    exact List.perm_middle
  have n0 := p2.nodup_iff.mp nd
  obtain ⟨na, n1⟩ := List.nodup_cons.mp n0
  have apart : ∀ (l : List Addr), (∀ b ∈ l, b ∈ fd ++ (f ++ (ft ++ fe))) → ∀ b ∈ l, b ∉ [a] := fun l m b mb z => by
    have e : b = a := by simpa using z
    exact na (e ▸ m b mb)
  have r1 := RV.kp k mk d v fd (apart fd fun b m => List.mem_append_left _ m) qd
  have r2 := RVs.kp k mk xs us f (apart f fun b m => List.mem_append_right _ (List.mem_append_left _ m)) r5
  have r3 := RVs.kp k mk ds vs ft (apart ft fun b m => List.mem_append_right _ (List.mem_append_right _ (List.mem_append_left _ m))) q2
  have r4 := h2.kp k mk (apart fe fun b m => List.mem_append_right _ (List.mem_append_right _ (List.mem_append_right _ m)))
  have p3 : F.Perm ((a :: (f ++ fd) ++ ft) ++ fe) := by
    refine p2.trans (List.Perm.cons a ?_)
    show (fd ++ (f ++ (ft ++ fe))).Perm (((f ++ fd) ++ ft) ++ fe)
    rw [List.append_assoc, List.append_assoc, ← List.append_assoc, ← List.append_assoc f]
    exact (List.perm_append_comm (l₁ := fd) (l₂ := f)).append_right (ft ++ fe)
  refine ⟨F, ⟨a :: (f ++ fd) ++ ft, fe, ⟨.ref a, vs, a :: (f ++ fd), ft, rfl, ⟨a, us ++ [v], f ++ fd, rfl, upd_same, r2.append (RVs.one r1), rfl⟩, r3, rfl⟩, r4, p3, nd⟩, fun _ m => m, fun b o e n => k b o e fun z => n ?_, fun b m => .inl m⟩
  have e : b = a := by simpa using z
  rw [e]
  exact p3.mem_iff.mpr (List.mem_append_left _ (List.mem_append_left _ List.mem_cons_self))
section
variable {X : Cx} {Eh : WX} {s : L2.St} {H H1 : Hp} {F F1 : List Addr}
theorem tP_runN {K : PySem.W.Frag} {mg : Str → Option Value} {f : PM D} {R : VK} {w1 w2 : Ev} {d : D} {ds : List D} {vs : List V} (hold : Hold K H1 w1 s ds vs F1) (e : f w1 = .ok d w2)
    (c : ∀ v H2 F2, Stp F1 H1 F2 H2 → Hold K H2 w2 s (ds ++ [d]) (vs ++ [v]) F2 → R v H2) : tP K mg Eh f s H1 R := by
  obtain ⟨F0, h0, sub, fr⟩ := hold.frame
  refine ⟨w1, F0, h0, ?_⟩
  rw [e]
  intro v H' F' st' h'
  obtain ⟨F2, h2, st2⟩ := fr st' h'
  exact c v H' F2 st2 h2
theorem tT_runN {K : PySem.W.Frag} {mg : Str → Option Value} {f : PM Bool} {R : Bool → Hp → Prop} {w1 w2 : Ev} {b : Bool} {ds : List D} {vs : List V} (hold : Hold K H1 w1 s ds vs F1) (e : f w1 = .ok b w2)
    (c : ∀ H2 F2, Stp F1 H1 F2 H2 → Hold K H2 w2 s ds vs F2 → R b H2) : tT K mg Eh f s H1 R := by
  obtain ⟨F0, h0, sub, fr⟩ := hold.frame
  refine ⟨w1, F0, h0, ?_⟩
  rw [e]
  intro H' F' st' h'
  obtain ⟨F2, h2, st2⟩ := fr st' h'
  rw [List.append_nil, List.append_nil] at h2
  exact c H' F2 st2 h2
abbrev EhN : WX := fun _ _ _ _ => False
theorem comp_imp {K : PySem.W.Frag} {mg : Str → Option Value} {g : TG} {tg : Tgt} {c : PM Bool} {elt : PM D} {vs : List Nat} {ks : List (Option Nat)} {it : PM (List D × List D)} (hg : TgR K g tg) (hv : ∀ i ∈ wrT tg, i ∈ vs) {Q : VK}
    (h : tP K mg Eh (xComp ks it tg c elt vs) s H Q) : tLc (tI K mg Eh ks it) g (tT K mg EhN c) (tP K mg EhN elt) vs s H Q := by
  obtain ⟨w, F, hold, q⟩ := h
  unfold xComp at q
  refine ⟨w, F, hold, ?_⟩
  cases e : it w with
  | bad => rw [e] at q; exact q
  | ex cc fs w1 =>
    rw [e] at q
    exact q
  | ok p w1 =>
    rw [e] at q
    replace q : Po K mg Eh H F s ((cmpL tg c elt vs p.1 [] w1).bindN fun acc w2 => Rs.ok (D.own acc) (putB ks p.2 (wipeE w2 vs))) (fun d w' => ∀ v H' F', Stp F H F' H' → Hold K H' w' s [d] [v] F' → Q v H') := q
    intro J H1 F1 tvs st h1 src lnk Da nDa
    have hlen := hold_len h1
    have hnew : Hold K (upd H1 Da (.lst [])) w1 s (.own [] :: p.2) (.ref Da :: tvs) (Da :: F1) := by
      have hm := h1.mut
      obtain ⟨ft, fe, k1, k2, pp, nd⟩ := hold_upd (o := .lst []) h1 nDa
      refine ⟨Da :: ft, fe, ⟨.ref Da, tvs, [Da], ft, rfl, ⟨Da, [], [], rfl, upd_same, ⟨rfl, rfl⟩, rfl⟩, k1, rfl⟩, k2, pp.cons Da, List.nodup_cons.mpr ⟨fun m => ?_, nd⟩⟩
      have := hm Da m
      rw [nDa] at this
      exact this
    refine ⟨fun i m H2 => m + i = p.1.length ∧ i ≤ p.1.length ∧ ∃ w2 s2 F2 acc, Stp F H F2 H2 ∧ wipe s2 vs = wipe s vs ∧ Hold K H2 w2 s2 (.own acc :: p.2) (.ref Da :: tvs) F2 ∧
      Po K mg Eh H F s ((cmpL tg c elt vs (p.1.drop i) acc w2).bindN fun acc w2 => Rs.ok (D.own acc) (putB ks p.2 (wipeE w2 vs))) (fun d w' => ∀ v H' F', Stp F H F' H' → Hold K H' w' s [d] [v] F' → Q v H'),
      ⟨p.1.length, by omega, by omega, w1, s, Da :: F1, [], st.trans (stp_upd' nDa), rfl, hnew, q⟩, ?_⟩
    rintro i m H2 ⟨e1, e2, w2, s2, F2, acc, st2, ag2, h2, q2⟩
    obtain ⟨ft, rt⟩ := h2.rvs
    obtain ⟨v0, r0, f0, ft2, e3, rD, rT, e4⟩ := rt
    injection e3 with e5 e6
    subst e5; subst e6
    obtain ⟨F3, h3, h3s, sub3⟩ := h2.turn ag2
    by_cases hi : i < p.1.length
    · have hd : p.1[i]? = some p.1[i] := List.getElem?_eq_getElem hi
      have hdr : p.1.drop i = p.1[i] :: p.1.drop (i + 1) := List.drop_eq_getElem_cons hi
      rw [hdr] at q2
      refine .inr ⟨src.go H2 _ i rT hi, fun H' => ∃ w2 s2 F2 acc, Stp F H F2 H' ∧ wipe s2 vs = wipe s vs ∧ Hold K H' w2 s2 (.own acc :: p.2) (.ref Da :: tvs) F2 ∧
        Po K mg Eh H F s ((cmpL tg c elt vs (p.1.drop (i + 1)) acc w2).bindN fun acc w2 => Rs.ok (D.own acc) (putB ks p.2 (wipeE w2 vs))) (fun d w' => ∀ v H' F', Stp F H F' H' → Hold K H' w' s [d] [v] F' → Q v H'), fun H' hN => ⟨m - 1, by omega, by omega, hi, hN⟩, fun x H' hy => ?_⟩
      obtain ⟨kp, rx⟩ := src.yld H2 _ i _ x H' rT hd hy
      rw [cmpL_cons] at q2
      cases et : setT tg p.1[i] (wipeE w2 vs) with
      | none => rw [et] at q2; exact q2.elim
      | some w3 =>
        rw [et] at q2
        dsimp only at q2
        refine hg x (wipe s vs) H' _ (wipeE w2 vs) w3 F3 (.own acc :: p.2) (.ref Da :: tvs) p.1[i] rx (src.pl i _ hd) (hold_kp h3 kp) et fun s3 F4 ag3 sub4 h4 => ?_
        have ew : wipe s3 vs = wipe s vs := by
          refine wipe_ext (by rw [ag3.1, wipe_length]) fun k n => ?_
          rw [ag3.2 k (fun z => n (hv k z)), wipe_get n]
        refine ⟨ew, ?_⟩
        have st4 : Stp F H F4 H' := ((st2.trans (Stp.refl sub3)).trans (stp_kp kp)).trans (Stp.refl sub4)
        cases ec : c w3 with
        | bad => rw [ec] at q2; exact q2.elim
        | ex _ _ _ => rw [ec] at q2; exact q2.elim
        | ok b w4 =>
          rw [ec] at q2
          refine tT_runN h4 ec fun H5 F5 st5 h5 => ?_
          cases b with
          | false =>
            rw [if_neg Bool.false_ne_true]
            rw [Rs.bindN_ok, if_neg Bool.false_ne_true] at q2
            exact ⟨w4, s3, F5, acc, st4.trans st5, ew, h5, q2⟩
          | true =>
            rw [if_pos rfl]
            rw [Rs.bindN_ok, if_pos rfl] at q2
            cases ee : elt w4 with
            | bad => rw [ee] at q2; exact q2.elim
            | ex _ _ _ => rw [ee] at q2; exact q2.elim
            | ok d w5 =>
              rw [ee] at q2
              refine tP_runN h5 ee fun y H6 F6 st6 h6 => ?_
              obtain ⟨us, hu, hlu, F7, h7, sub7, st7⟩ := Hold.grow h6 hlen
              rw [Rs.bindN_ok] at q2
              by_cases cl : acc.length < sizeLine
              · rw [if_pos cl] at q2
                exact ⟨us, hu, by rw [← hlu]; exact cl, w5, s3, F7, acc ++ [d], ((st4.trans st5).trans st6).trans st7, ew, h7, q2⟩
              · rw [if_neg cl] at q2; exact q2.elim
    · have ei : i = p.1.length := by omega
      subst ei
      refine .inl ⟨src.stop H2 _ rT, ?_⟩
      rw [List.drop_length] at q2
      replace q2 : ∀ v H' F', Stp F H F' H' → Hold K H' (putB ks p.2 (wipeE w2 vs)) s [.own acc] [v] F' → Q v H' := q2
      have h8 := Hold.comm (ds := [.own acc]) (vs := [.ref Da]) h3s rfl
      obtain ⟨F9, h9, sub9⟩ := Hold.putL2 h8 hlen lnk
      exact q2 _ H2 F9 ((st2.trans (Stp.refl sub3)).trans (Stp.refl sub9)) h9
theorem pp_comp {elt tgE iter : Expr} {ifs : List Expr} {scope : Scope} {own : List (Str × Nat)} {pos : Pos} {g : TG} {tg : Tgt} {c : PM Bool} {el : PM D} {ks : List (Option Nat)} {it : PM (List D × List D)} (hc : X.calm = true) (hN : X.N.Nodup)
    (hi : PI X tgE iter (tI X.K X.mg Eh ks it)) (ok : BlkOk X.N X.env.scope scope own) (hr : TgR X.K g tg)
    (hg : ∀ (s : Shared) (H : Hp) (C : Addr) (cl : List (Str × Addr)) (fp : List Addr), PG (X.blk s H scope (compEnvC scope cl C X.env) fp) tgE g)
    (ht : ∀ (s : Shared) (H : Hp) (C : Addr) (cl : List (Str × Addr)) (fp : List Addr), PTs (X.blk s H scope (compEnvC scope cl C X.env) fp) ifs (tT X.K X.mg EhN c))
    (he : ∀ (s : Shared) (H : Hp) (C : Addr) (cl : List (Str × Addr)) (fp : List Addr), PE (X.blk s H scope (compEnvC scope cl C X.env) fp) elt (tP X.K X.mg EhN el))
    (hv : ∀ i ∈ wrT tg, i ∈ own.map (·.2) := by decide) (hs : ∀ x, foldedSetIterable iter X.env x = pure x := by intro _; rfl) : PE X (.ListComp elt [⟨tgE, iter, ifs, 0⟩] scope pos) (tP X.K X.mg Eh (xComp ks it tg c el (own.map (·.2)))) :=
  (pe_lc hc hN hi ok hg ht he hs).imp fun s H Q h => comp_imp hr hv h
theorem yes_imp {K : PySem.W.Frag} {mg : Str → Option Value} {Q : Bool → Hp → Prop} (h : tT K mg Eh tYesF s H Q) : tYes s H Q := by
  obtain ⟨w, F, hold, q⟩ := h
  exact q H F (Stp.refl fun _ m => m) hold
theorem _root_.L2.PTs.imp {X : Cx} {ifs : List Expr} {t t' : TT} (h : PTs X ifs t) (i : ∀ s H Q, t' s H Q → t s H Q) : PTs X ifs t' := ⟨fun pins s σ H Q I q => h.run pins s σ H Q I (i _ _ _ q)⟩
theorem pts0 : PTs X [] (tT X.K X.mg Eh tYesF) := pts_nil.imp fun _ _ _ h => yes_imp h
theorem pts1 {e : Expr} {t : TT} (h : PT X e t) : PTs X [e] t := pts_one h
theorem ss_setLc {i : Nat} {y : Str} {py : Pos} {elt tgE iter : Expr} {ifs : List Expr} {scope : Scope} {own : List (Str × Nat)} {pos spos : Pos} {g : TG} {tg : Tgt} {c : PM Bool} {el : PM D} {ks : List (Option Nat)} {it : PM (List D × List D)} (hc : X.calm = true) (hN : X.N.Nodup) (hy : X.N[i]? = some y) (hyl : X.env.scope.names.lookup y = some .local)
    (hsw : swapsWith (.ListComp elt [⟨tgE, iter, ifs, 0⟩] scope pos) (some (.Name y py)) spos.line X.env = pure true) (hi : PI X tgE iter (tI X.K X.mg Eh ks it)) (ok : BlkOk X.N X.env.scope scope own) (hr : TgR X.K g tg)
    (hg : ∀ (s : Shared) (H : Hp) (C : Addr) (cl : List (Str × Addr)) (fp : List Addr), PG (X.blk s H scope (compEnvC scope cl C X.env) fp) tgE g)
    (ht : ∀ (s : Shared) (H : Hp) (C : Addr) (cl : List (Str × Addr)) (fp : List Addr), PTs (X.blk s H scope (compEnvC scope cl C X.env) fp) ifs (tT X.K X.mg EhN c))
    (he : ∀ (s : Shared) (H : Hp) (C : Addr) (cl : List (Str × Addr)) (fp : List Addr), PE (X.blk s H scope (compEnvC scope cl C X.env) fp) elt (tP X.K X.mg EhN el))
    (hv : ∀ i ∈ wrT tg, i ∈ own.map (·.2) := by decide) (hs : ∀ x, foldedSetIterable iter X.env x = pure x := by intro _; rfl) : PS X (.Assign [.Name y py] (.ListComp elt [⟨tgE, iter, ifs, 0⟩] scope pos) spos) (tS X.K X.mg Eh [i] (sSet i (xComp ks it tg c el (own.map (·.2))))) :=
  (ps_setLc hc hN hy hyl hsw hi ok hg ht he hs).imp fun E s H h => by
    have q := set_imp h
    exact comp_imp hr hv q
end
end Pm

set_option autoImplicit false
namespace Pm
open PySem PySem.Spec L2

/-! ### defs -/
inductive Rd where
  | ok (d : D) (outs : List D)
  | ex (c : Str) (fs : List (Str × D)) (outs : List D)
  | bad
/-- what the slots io hold at the end -/
def outsOf : List Nat → Ev → Option (List D)
  | [], _ => some []
  | k :: r, w => match slot w k, outsOf r w with
    | some d, some ds => some (d :: ds)
    | _, _ => none
def startE (N : Nat) (ds : List D) : Ev := ds.map some ++ List.replicate (N - ds.length) none
def endD (d : D) (o : Option (List D)) : Rd := match o with
  | some os => .ok d os
  | none => .bad
def endX (c : Str) (fs : List (Str × D)) (o : Option (List D)) : Rd := match o with
  | some os => .ex c fs os
  | none => .bad
def mkDef (N np : Nat) (io : List Nat) (body : PM Fl) (ds : List D) : Rd := if ds.length = np then match body (startE N ds) with
    | .ok (.rt d) w => endD d (outsOf io w)
    | .ok .nx w => endD .non (outsOf io w)
    | .ok _ _ => .bad
    | .ex c fs w => endX c fs (outsOf io w)
    | .bad => .bad
  else .bad
/-- the promise of a def that lets nothing out -/
def spP (K : PySem.W.Frag) (np : Nat) (io : List Nat) (m : List D → Rd) : Sp := fun vs H Q _ => vs.length = np ∧ ∃ ds F, RVs K H ds vs F ∧ F.Nodup ∧ match m ds with
  | .ok d outs => ∀ v H' F', Stp F H F' H' → RVs K H' (d :: outs) (v :: io.map fun k => vs.getD k .non) F' → F'.Nodup → Q v H'
  | _ => False
theorem outsOf_set : ∀ {io : List Nat} {k : Nat} {w : Ev} {x : Option D}, k ∉ io → outsOf io (w.set k x) = outsOf io w
  | [], k, w, x, _ => rfl
  | i :: io, k, w, x, h => by
    have h1 : k ≠ i := fun e => h (by rw [e]; exact List.mem_cons_self)
    have e1 : slot (w.set k x) i = slot w i := by unfold slot; rw [List.getElem?_set_ne h1]
    unfold outsOf
    rw [e1, outsOf_set fun z => h (List.mem_cons_of_mem _ z)]
theorem outsOf_cons {k : Nat} {io : List Nat} {w : Ev} {os : List D} (h : outsOf (k :: io) w = some os) : ∃ d ds, os = d :: ds ∧ slot w k = some d ∧ outsOf io w = some ds := by
  unfold outsOf at h
  cases e1 : slot w k with
  | none => rw [e1] at h; cases h
  | some d =>
    cases e2 : outsOf io w with
    | none => rw [e1, e2] at h; cases h
    | some ds => rw [e1, e2] at h; cases h; exact ⟨d, ds, rfl, rfl, rfl⟩
theorem Hold.outs {K : PySem.W.Frag} {H : Hp} {s : L2.St} {g : Nat → V} : ∀ {io : List Nat} {w : Ev} {ds os : List D} {vs : List V} {F : List Addr}, Hold K H w s ds vs F → outsOf io w = some os → io.Nodup → (∀ k ∈ io, s[k]? = some (some (g k))) →
    ∃ F', RVs K H (ds ++ os) (vs ++ io.map g) F' ∧ F'.Nodup ∧ ∀ a ∈ F', a ∈ F
  | [], w, ds, os, vs, F, h, e, _, _ => by
    cases e
    obtain ⟨ft, fe, h1, h2, p, nd⟩ := h
    refine ⟨ft, by rw [List.append_nil]; show RVs K H ds (vs ++ []) ft; rw [List.append_nil]; exact h1, (List.nodup_append.mp (p.nodup_iff.mp nd)).1, fun a m => p.mem_iff.mpr (List.mem_append_left _ m)⟩
  | k :: io, w, ds, os, vs, F, h, e, nd, hs => by
    obtain ⟨d, ds', e1, e2, e3⟩ := outsOf_cons e
    subst e1
    obtain ⟨n1, n2⟩ := List.nodup_cons.mp nd
    obtain ⟨v, ev, h2⟩ := h.takeS e2
    rw [hs k List.mem_cons_self] at ev
    cases ev
    have h3 := Hold.comm (ds := [d]) (vs := [g k]) h2 rfl
    obtain ⟨F', r, nd', sub⟩ := Hold.outs (io := io) h3 (by rw [outsOf_set n1]; exact e3) n2 fun i m => hs i (List.mem_cons_of_mem _ m)
    refine ⟨F', ?_, nd', sub⟩
    rw [List.append_assoc, List.append_assoc] at r
    exact r
theorem re_start {K : PySem.W.Frag} {H : Hp} : ∀ {ds : List D} {vs : List V} {F : List Addr} {n : Nat}, RVs K H ds vs F → RE K H (ds.map some ++ List.replicate n none) (vs.map some ++ List.replicate n none) F
  | [], vs, F, n, h => by
    obtain ⟨e, e2⟩ := h
    subst e; subst e2
    show RE K H (List.replicate n none) (List.replicate n none) []
    induction n with
    | zero => exact ⟨rfl, rfl⟩
    | succ n ih => exact ⟨none, _, rfl, ih⟩
  | d :: ds, vs, F, n, h => by
    obtain ⟨v, r, f, g, e, q, t, e2⟩ := h
    subst e; subst e2
    exact ⟨v, _, f, g, rfl, q, re_start t, rfl⟩
section
variable {P : Program} {w : World} {K : PySem.W.Frag} {mg : Str → Option Value} {base : Heap}
theorem fn_p {x qual : Str} {st : Stmt} {f : Addr} {fd : FuncData} {N ps : List Str} {k : Nat} {io wr : List Nat} {body : PM Fl} (F : Fun K x qual st f fd) (S : FnScope N ps (defScope st))
    (hb : ∀ (cdv : Value) (A : Around) (outer : List Env) (s : Shared) (H : Hp) (E : XK), Room k (A.deeper (PyProof.Rows.envOfC qual (defScope st) s.heap.objs.size f cdv)) →
      PSs (cxOf CX0 P w K mg base N qual (defScope st) f cdv A outer s H E).nox (defBody st) (tS K mg EhN wr body))
    (hio : ∀ i ∈ io, i ∉ wr ∧ i < ps.length := by decide) (hnd : io.Nodup := by decide) :
    FnOk P w K mg base CX0 (k + 1) f fd ps (spP K ps.length io (mkDef N.length ps.length io body)) := by
  refine F.ok S (fun vs H Q E h => h.1) fun cdv A outer s H vs Q E hr h => ⟨_, hb cdv A outer s H E hr, ?_⟩
  obtain ⟨hl, ds, FF, rv, nd, q⟩ := h
  have hdl : ds.length = vs.length := rv.length
  unfold mkDef at q
  rw [if_pos (hdl.trans hl)] at q
  have es : start N vs = vs.map some ++ List.replicate (N.length - vs.length) none := rfl
  refine ⟨startE N.length ds, FF, ⟨[], FF, ⟨rfl, rfl⟩, ?_, .refl _, nd⟩, ?_⟩
  · rw [es]
    unfold startE
    rw [hdl]
    exact re_start rv
  · have slots : ∀ {s' : L2.St}, Agr wr (start N vs) s' → ∀ i ∈ io, s'[i]? = some (some (vs.getD i .non)) := fun {s'} ag i m => by
      obtain ⟨n1, n2⟩ := hio i m
      rw [ag.2 i n1, es]
      have hi : i < vs.length := by rw [hl]; exact n2
      rw [List.getElem?_append_left (by simpa using hi), List.getElem?_map, List.getElem?_eq_getElem hi]
      rw [List.getD_eq_getElem?_getD, List.getElem?_eq_getElem hi]
      rfl
    have fin : ∀ {d : D} {w' : Ev} {v : V} {s' : L2.St} {H' : Hp} {F' : List Addr}, (match endD d (outsOf io w') with
        | .ok d outs => ∀ v H' F', Stp FF H F' H' → RVs K H' (d :: outs) (v :: io.map fun k => vs.getD k .non) F' → F'.Nodup → Q v H'
        | _ => False) → Stp FF H F' H' → Agr wr (start N vs) s' → Hold K H' w' s' [d] [v] F' → Q v H' := fun {d w' v s' H' F'} q st ag h' => by
      cases e : outsOf io w' with
      | none => rw [e] at q; exact q.elim
      | some os =>
        rw [e] at q
        obtain ⟨F2, r, nd2, sub⟩ := Hold.outs (g := fun k => vs.getD k .non) h' e hnd (slots ag)
        exact q v H' F2 (st.trans (Stp.refl sub)) r nd2
    cases e : body (startE N.length ds) with
    | bad => rw [e] at q; exact q.elim
    | ex c fs w' =>
      rw [e] at q
      dsimp only at q
      cases e2 : outsOf io w' with
      | none => rw [e2] at q; exact q.elim
      | some os => rw [e2] at q; exact q.elim
    | ok fl w' =>
      rw [e] at q
      cases fl with
      | nx =>
        intro s' H' F' st ag h'
        refine fin (v := .non) q st ag ?_
        obtain ⟨ft, fe, h1, h2, p, nd⟩ := h'
        have e0 : ft = [] := h1.2
        subst e0
        exact ⟨[], fe, RVs.one ⟨rfl, rfl⟩, h2, p, nd⟩
      | rt d => exact fun v s' H' F' st ag h' => fin q st ag h'
      | bk => exact q.elim
      | ct => exact q.elim
end

/-! ### calls -/
def xCall (np : Nat) (js : List Nat) (m : List D → Rd) (f : PM (List D)) : PM D := fun w => (f w).bind fun ds w1 => if ds.length = np then match m ds with
    | .ok d outs => .ok d (putB (js.map some) outs w1)
    | _ => .bad
  else .bad
theorem Hold.call {K : PySem.W.Frag} {H : Hp} {w : Ev} {s : L2.St} {ds : List D} {vs : List V} {F : List Addr} (h : Hold K H w s ds vs F) : ∃ ft, RVs K H ds vs ft ∧ ft.Nodup ∧
    ∀ {H' : Hp} {ds' : List D} {vs' : List V} {F1 : List Addr}, Stp ft H F1 H' → RVs K H' ds' vs' F1 → F1.Nodup → ∃ F', Hold K H' w s ds' vs' F' ∧ Stp F H F' H' := by
  have hm := h.mut
  obtain ⟨ft, fe, h1, h2, p, nd⟩ := h
  obtain ⟨nd3, nd4, nd5⟩ := List.nodup_append.mp (p.nodup_iff.mp nd)
  refine ⟨ft, h1, nd3, fun {H' ds' vs' F1} st h' nd' => ?_⟩
  have dj : ∀ a ∈ fe, a ∉ F1 := fun a m z => by
    rcases st.new a z with q | q
    · exact nd5 a q a m rfl
    · have := hm a (p.mem_iff.mpr (List.mem_append_right _ m))
      rw [q] at this; exact this
  have k1 : RE K H' w s fe := h2.kp st.keep (fun a m => hm a (p.mem_iff.mpr (List.mem_append_left _ m))) fun a m z => nd5 a z a m rfl
  refine ⟨F1 ++ fe, ⟨F1, fe, h', k1, .refl _, List.nodup_append.mpr ⟨nd', nd4, fun a m b n e => dj b n (e ▸ m)⟩⟩, ⟨fun a o e n => st.keep a o e fun z => n (p.mem_iff.mpr (List.mem_append_left _ z)), fun a m => ?_⟩⟩
  rcases List.mem_append.mp m with z | z
  · rcases st.new a z with q | q
    · exact .inl (p.mem_iff.mpr (List.mem_append_left _ q))
    · exact .inr q
  · exact .inl (p.mem_iff.mpr (List.mem_append_right _ z))
theorem ds_list {K : PySem.W.Frag} {H : Hp} {w : Ev} {s : L2.St} {ds : List D} {vs : List V} {F : List Addr} (h : Hold K H w s ds vs F) : ds.length = vs.length := hold_len h
section
variable {X : Cx} {Eh : WX}
theorem call_imp {s : L2.St} {H : Hp} {K : PySem.W.Frag} {mg : Str → Option Value} {np : Nat} {io js : List Nat} {ks : List (Option Nat)} {m : List D → Rd} {f : PM (List D)} {Q : VK} {E : XK} (X : Cx) (hK : X.K = K) (hM : X.mg = mg) (hks : js.map some = io.map fun k => (ks[k]?).getD none) (hio : ∀ k ∈ io, k < np)
    (h : tP K mg Eh (xCall np js m f) s H Q) : tAL K mg Eh ks f s H fun vs H1 => spP K np io m (vs ++ []) H1 Q E := by
  subst hK; subst hM
  obtain ⟨w, F, hold, q⟩ := h
  unfold xCall at q
  refine tAL_run hold (Stp.refl fun _ m => m) q fun ds w2 us H2 F2 e st h2 l q2 => ?_
  replace h2 : Hold X.K H2 w2 s ds us F2 := h2
  by_cases c : ds.length = np
  · rw [if_pos c] at q2
    rw [List.append_nil]
    obtain ⟨ft, rt, nd, fr⟩ := h2.call
    refine ⟨by rw [← hold_len h2]; exact c, ds, ft, rt, nd, ?_⟩
    cases em : m ds with
    | bad => rw [em] at q2; exact q2
    | ex _ _ _ => rw [em] at q2; exact q2
    | ok d outs =>
      rw [em] at q2
      intro v H' F' st' r nd'
      obtain ⟨F3, h3, st3⟩ := fr st' r nd'
      have h4 := Hold.comm (ds := [d]) (vs := [v]) h3 rfl
      have hl : outs.length = (io.map fun k => us.getD k .non).length := by
        have := r.length
        simpa using this
      have lk : Lnk s (js.map some) (io.map fun k => us.getD k .non) := fun i j u e1 e2 => by
        rw [hks, List.getElem?_map] at e1
        rw [List.getElem?_map] at e2
        obtain ⟨k, e3, e4⟩ := Option.map_eq_some_iff.mp e1
        rw [e3] at e2
        have e5 : us.getD k .non = u := by simpa using e2
        have e6 : ks[k]? = some (some j) := by
          cases z : ks[k]? with
          | none => rw [z] at e4; cases e4
          | some o => rw [z] at e4; exact congrArg some e4
        have hkl : k < us.length := by
          rw [← hold_len h2, c]
          exact hio k (List.mem_of_getElem? e3)
        exact l k j u e6 (by rw [← e5, List.getD_eq_getElem?_getD, List.getElem?_eq_getElem hkl]; rfl)
      obtain ⟨F5, h5, sub5⟩ := Hold.putL2 h4 hl lk
      exact q2 v H' F5 ((st.trans st3).trans (Stp.refl sub5)) h5
  · rw [if_neg c] at q2; exact q2.elim
theorem pp_call {k : Nat} {f : Addr} {fd : FuncData} {ps : List Str} {io js : List Nat} {ks : List (Option Nat)} {m : List D → Rd} {g : PM (List D)} {x : Str} {p pos : Pos} {e : Expr} {es : List Expr} (np : Nat) (F : FnOk X.prog X.w X.K X.mg X.base CX0 k f fd ps (spP X.K np io m)) (hr : Room k X.A) (hg : Gl X x) (hm : X.mg x = some (.ref f)) (hk : PySem.W.keepIn X.K (.ref f) = true) (hb : Binds X.K fd ps [])
    (ha : PA X (e :: es) (tAL X.K X.mg Eh ks g)) (hks : js.map some = io.map fun k => (ks[k]?).getD none := by rfl) (hio : ∀ k ∈ io, k < np := by decide) (hdb : (x == ("__debug__" : Str)) = false := by decide) (he : starEach (e :: es) X.env = (false, eval e X.env) :: starEach es X.env := by rfl) (hpl : (backTo pos (starEach es X.env)).any (·.1) = false := by rfl) :
    PE X (.Call (.Name x p) (e :: es) [] pos) (tP X.K X.mg Eh (xCall np js m g)) :=
  (pe_call F hr hg hm hk hb .nil pass0 ha hdb he hpl).imp fun s H Q h => call_imp X rfl rfl hks hio h
theorem pp_call0 {k : Nat} {f : Addr} {fd : FuncData} {ps : List Str} {m : List D → Rd} {x : Str} {p pos : Pos} (F : FnOk X.prog X.w X.K X.mg X.base CX0 k f fd ps (spP X.K 0 [] m)) (hr : Room k X.A) (hg : Gl X x) (hm : X.mg x = some (.ref f)) (hk : PySem.W.keepIn X.K (.ref f) = true) (hb : Binds X.K fd ps [])
    (hdb : (x == ("__debug__" : Str)) = false := by decide) :
    PE X (.Call (.Name x p) [] [] pos) (tP X.K X.mg Eh (xCall 0 [] m xNil)) :=
  (pe_call0 F hr hg hm hk hb .nil pass0 hdb).imp fun s H Q ⟨w, F, hold, q⟩ => by
    unfold xCall xNil at q
    refine ⟨rfl, [], [], ⟨rfl, rfl⟩, .nil, ?_⟩
    replace q : Po X.K X.mg Eh H F s (match m [] with
      | .ok d outs => Rs.ok d (putB (([] : List Nat).map some) outs w)
      | _ => .bad) (fun d w' => ∀ v H' F', Stp F H F' H' → Hold X.K H' w' s [d] [v] F' → Q v H') := q
    cases em : m [] with
    | bad => rw [em] at q; exact q
    | ex _ _ _ => rw [em] at q; exact q
    | ok d outs =>
      rw [em] at q
      intro v H' F' st' r nd'
      obtain ⟨ft, r0, nd0, fr⟩ := hold.call
      have e0 : ft = [] := r0.2
      subst e0
      obtain ⟨F3, h3, st3⟩ := fr st' r nd'
      have hl : outs.length = 0 := by simpa using r.length
      have eo : outs = [] := List.length_eq_zero_iff.mp hl
      subst eo
      exact q v H' F3 st3 h3
end
end Pm

set_option autoImplicit false
namespace Pm
open PySem PySem.Spec L2

/-! ### a list freezes -/
theorem pe_ice {X : Cx} {e : Expr} {t : TE} (h : PE X e t) : PE X e (fun s H Q => t s H fun v H1 => Q v H1 ∨ ∃ d u, H1 d = some u ∧ Mut (some u) ∧ ∀ od, Q v (upd H1 d (.frz od u))) := by
  refine ⟨fun pins s σ H Q I hw => ?_⟩
  refine thn (h.run pins s σ H _ I hw) fun u s1 ⟨v, H1, I1, r, q⟩ => ?_
  rcases q with q | ⟨d, o, hd, mu, q⟩
  · exact ⟨v, H1, I1, r, q⟩
  · obtain ⟨od, I2⟩ := I1.lock hd mu
    exact ⟨v, _, I2, r, q od⟩
def xI (j : Nat) : PM D := fun w => match slot w j with
  | some d => if pl d = true then .ok d w else match ownD d with
    | some xs => if pls xs = true then .ok (.lst xs) (w.set j (some (.lst xs))) else .bad
    | none => .bad
  | none => .bad
section
variable {X : Cx} {Eh : WX} {s : L2.St} {H : Hp} {F : List Addr}
theorem hold_ice {K : PySem.W.Frag} {w : Ev} {ds : List D} {vs : List V} {xs : List D} {j : Nat} (h : Hold K H w s ds vs F) (e : slot w j = some (.own xs)) (p : pls xs = true) :
    ∃ a us, s[j]? = some (some (.ref a)) ∧ H a = some (.lst us) ∧ ∀ od, ∃ F', Hold K (upd H a (.frz od (.lst us))) (w.set j (some (.lst xs))) s (.lst xs :: ds) (.ref a :: vs) F' ∧ (∀ b ∈ F', b ∈ F) ∧ Stp F H F' (upd H a (.frz od (.lst us))) := by
  obtain ⟨v, ej, h1⟩ := h.takeS e
  obtain ⟨ft0, fe, k1, k2, pp, nd⟩ := h1
  obtain ⟨v', r, f0, ft, e1, q, q2, e2⟩ := k1
  injection e1 with e3 e4
  subst e3; subst e4; subst e2
  obtain ⟨a, us, f, e5, q5, r5, e6⟩ := q
  subst e5; subst e6
  have r6 := r5.nil_of p
  have ef : f = [] := rvs_pl xs us f p r5
  subst ef
  refine ⟨a, us, ej, q5, fun od => ?_⟩
  have k : Kp [a] H (upd H a (.frz od (.lst us))) := fun b o e n => by rw [upd_ne (fun z => n (by rw [z]; exact List.mem_cons_self))]; exact e
  have mk : ∀ b ∈ [a], Mut (H b) := fun b m => by
    have e : b = a := by simpa using m
    rw [e, q5]; trivial
  have n0 : (a :: (ft ++ fe)).Nodup := pp.nodup_iff.mp nd
  obtain ⟨na, n1⟩ := List.nodup_cons.mp n0
  have apart : ∀ (l : List Addr), (∀ b ∈ l, b ∈ ft ++ fe) → ∀ b ∈ l, b ∉ [a] := fun l m b mb z => by
    have e : b = a := by simpa using z
    exact na (e ▸ m b mb)
  have r3 := RVs.kp k mk ds vs ft (apart ft fun b m => List.mem_append_left _ m) q2
  have r4 := k2.kp k mk (apart fe fun b m => List.mem_append_right _ m)
  have r7 := RVs.kp k mk xs us [] (fun _ z => nomatch z) r6
  have rl : RV K (upd H a (.frz od (.lst us))) (.lst xs) (.ref a) [] := ⟨a, us, rfl, .inl ⟨od, upd_same⟩, r7, rfl⟩
  have hh : Hold K (upd H a (.frz od (.lst us))) (w.set j none) s ds vs (ft ++ fe) := ⟨ft, fe, r3, r4, .refl _, n1⟩
  obtain ⟨F3, h3, sub3⟩ := Hold.putS (hh.addP rl) ej
  rw [List.set_set] at h3
  have sub : ∀ b ∈ F3, b ∈ F := fun b m => pp.mem_iff.mpr (List.mem_cons_of_mem _ (sub3 b m))
  refine ⟨F3, h3.addP rl, sub, fun b o e n => k b o e fun z => n ?_, fun b m => .inl (sub b m)⟩
  have e : b = a := by simpa using z
  rw [e]
  exact pp.mem_iff.mpr List.mem_cons_self
theorem pp_ice {e : Expr} {j : Nat} (h : PE X e (tVar j)) : PE X e (tP X.K X.mg Eh (xI j)) := (pe_ice h).imp fun s H Q ⟨w, F, hold, q⟩ => by
  cases e0 : slot w j with
  | none => rw [show xI j w = .bad by unfold xI; rw [e0]] at q; exact q.elim
  | some d =>
    by_cases p : pl d = true
    · rw [show xI j w = .ok d w by unfold xI; rw [e0]; exact if_pos p] at q
      obtain ⟨v, f, ej, r, m⟩ := hold.atSlot e0
      exact ⟨v, ej, .inl (q v H F (Stp.refl fun _ m => m) (hold.addP (r.nil_of p)))⟩
    · cases e1 : ownD d with
      | none =>
        rw [show xI j w = .bad by unfold xI; rw [e0]; dsimp only; rw [if_neg p, e1]] at q
        exact q.elim
      | some xs =>
        have e2 := ownD_some e1
        subst e2
        by_cases c : pls xs = true
        · rw [show xI j w = .ok (.lst xs) (w.set j (some (.lst xs))) by unfold xI; rw [e0]; dsimp only; rw [if_neg p, e1]; exact if_pos c] at q
          obtain ⟨a, us, ej, ha, hx⟩ := hold_ice hold e0 c
          refine ⟨_, ej, .inr ⟨a, _, ha, trivial, fun od => ?_⟩⟩
          obtain ⟨F', h', sub, st⟩ := hx od
          exact q _ _ F' st h'
        · rw [show xI j w = .bad by unfold xI; rw [e0]; dsimp only; rw [if_neg p, e1]; exact if_neg c] at q
          exact q.elim
end

/-! ### slices -/
def cutD (xs : List D) (lo hi : Option Int) : List D := (xs.drop (HT.sIx xs.length 0 lo)).take (HT.sIx xs.length xs.length hi - HT.sIx xs.length 0 lo)
def dSl (d : D) (lo hi : Option Int) : Option D := match d with
  | .tup xs => if pls xs = true then some (.tup (cutD xs lo hi)) else none
  | .lst xs => if pls xs = true then some (.own (cutD xs lo hi)) else none
  | .own xs => if pls xs = true then some (.own (cutD xs lo hi)) else none
  | .str z => if z.length ≤ sizeLine then some (.str (cutS z lo hi)) else none
  | _ => none
def rSlX (K : PySem.W.Frag) : V → Option Int → Option Int → Hp → VK → Prop := fun x lo hi H Q => rSlL K x lo hi H Q ∨ (rSlA K x lo hi H Q ∨ rSlS x lo hi H Q)
theorem sl_X {X : Cx} : SlR X (rSlX X.K) := sl_list.or (sl_tupA.or sl_str)
section
variable {K : PySem.W.Frag} {H : Hp}
theorem RVs.drop' : ∀ {ds : List D} {vs : List V} (n : Nat), RVs K H ds vs [] → RVs K H (ds.drop n) (vs.drop n) []
  | [], vs, n, h => by
    rw [h.1]
    cases n <;> exact ⟨rfl, rfl⟩
  | d :: ds, vs, 0, h => h
  | d :: ds, vs, n + 1, h => by
    obtain ⟨v, r, f, g, e, q, t, e2⟩ := h
    have e4 : g = [] := (List.append_eq_nil_iff.mp e2.symm).2
    subst e; subst e4
    exact RVs.drop' n t
theorem RVs.take' : ∀ {ds : List D} {vs : List V} (n : Nat), RVs K H ds vs [] → RVs K H (ds.take n) (vs.take n) []
  | [], vs, n, h => by
    rw [h.1]
    cases n <;> exact ⟨rfl, rfl⟩
  | d :: ds, vs, 0, h => ⟨rfl, rfl⟩
  | d :: ds, vs, n + 1, h => by
    obtain ⟨v, r, f, g, e, q, t, e2⟩ := h
    obtain ⟨e3, e4⟩ := List.append_eq_nil_iff.mp e2.symm
    subst e; subst e3; subst e4
    exact ⟨v, r.take n, [], [], rfl, q, RVs.take' n t, rfl⟩
theorem cut_rv {xs : List D} {vs : List V} {lo hi : Option Int} (r : RVs K H xs vs []) : RVs K H (cutD xs lo hi) (cutV vs lo hi) [] := by
  unfold cutD cutV
  rw [r.length]
  exact (r.drop' _).take' _
theorem cut_whole {xs : List D} {lo hi : Option Int} (h : HT.sIx xs.length 0 lo = 0 ∧ HT.sIx xs.length xs.length hi = xs.length) : cutD xs lo hi = xs := by
  unfold cutD
  rw [h.1, h.2]
  simp
theorem ro_sl {x : V} {d z : D} {f : List Addr} {lo hi : Option Int} {Q : VK} (r : RV K H d x f) (e : dSl d lo hi = some z) (q : ∀ v H', NewV K H H' z v → Q v H') : rSlX K x lo hi H Q := by
  cases d with
  | tup xs =>
    replace e : (if pls xs = true then some (D.tup (cutD xs lo hi)) else none) = some z := e
    by_cases c : pls xs = true
    · rw [if_pos c] at e
      cases e
      obtain ⟨a, vs, ea, qa, ra⟩ := r
      have r0 := ra.nil_of c
      refine .inr (.inl ⟨a, vs, ea, qa, fun h => ?_, fun h p n => q _ _ (new_tup (cut_rv r0) n)⟩)
      rw [← r0.length] at h
      rw [cut_whole h] at q
      exact q _ _ (.plain ⟨a, vs, rfl, qa, r0⟩)
    · rw [if_neg c] at e; cases e
  | lst xs =>
    replace e : (if pls xs = true then some (D.own (cutD xs lo hi)) else none) = some z := e
    by_cases c : pls xs = true
    · rw [if_pos c] at e
      cases e
      obtain ⟨a, vs, ea, qa, ra, _⟩ := r
      exact .inl ⟨a, vs, ea, qa.sq, fun p n => q _ _ (new_own (cut_rv ra) n)⟩
    · rw [if_neg c] at e; cases e
  | own xs =>
    replace e : (if pls xs = true then some (D.own (cutD xs lo hi)) else none) = some z := e
    by_cases c : pls xs = true
    · rw [if_pos c] at e
      cases e
      obtain ⟨a, vs, g, ea, qa, ra, _⟩ := r
      exact .inl ⟨a, vs, ea, .of qa, fun p n => q _ _ (new_own (cut_rv (ra.nil_of c)) n)⟩
    · rw [if_neg c] at e; cases e
  | str y =>
    replace e : (if y.length ≤ sizeLine then some (D.str (cutS y lo hi)) else none) = some z := e
    by_cases c : y.length ≤ sizeLine
    · rw [if_pos c] at e
      cases e
      exact .inr (.inr ⟨y, r.1, c, q _ _ (.plain ⟨rfl, rfl⟩)⟩)
    · rw [if_neg c] at e; cases e
  | non => cases e
  | bl b => cases e
  | int b => cases e
end
def intD : D → Option Int
  | .int i => some i
  | _ => none
theorem intD_some {d : D} {i : Int} (h : intD d = some i) : d = .int i := by
  cases d with
  | int k => cases h; rfl
  | non => cases h
  | bl b => cases h
  | str b => cases h
  | tup b => cases h
  | lst b => cases h
  | own b => cases h
def backO (o : Option Int) (w : Ev) : Rs (Option Int) := match o with
  | some i => .ok (some i) w
  | none => .bad
@[simp] theorem backO_some (i : Int) (w : Ev) : backO (some i) w = .ok (some i) w := rfl
@[simp] theorem backO_none (w : Ev) : backO none w = .bad := rfl
def bN : PM (Option Int) := fun w => .ok none w
def bS (f : PM D) : PM (Option Int) := fun w => (f w).bind fun d w1 => backO (intD d) w1
def xSlg (f : PM D) (l u : PM (Option Int)) : PM D := fun w => (f w).bind fun d w1 => (l w1).bind fun lo w2 => (u w2).bind fun hi w3 => back (dSl d lo hi) w3
def xSlv (j : Nat) (l u : PM (Option Int)) : PM D := fun w => match slot w j with
  | some _ => (l w).bind fun lo w2 => (u w2).bind fun hi w3 => back ((slot w3 j).bind fun d => dSl d lo hi) w3
  | none => .bad
def tO (K : PySem.W.Frag) (mg : Str → Option Value) (Eh : WX) (f : PM (Option Int)) : TO := fun s H Q => ∃ w F, Hold K H w s [] [] F ∧ Po K mg Eh H F s (f w) fun o w' => ∀ H' F', Stp F H F' H' → Hold K H' w' s [] [] F' → Q o H'
section
variable {X : Cx} {Eh : WX} {s : L2.St} {H H1 : Hp} {F F1 : List Addr} {β : Type}
theorem tO_run {K : PySem.W.Frag} {mg : Str → Option Value} {f : PM (Option Int)} {k : Option Int → Ev → Rs β} {Q' : β → Ev → Prop} {R : Option Int → Hp → Prop} {w1 : Ev} {ds : List D} {vs : List V}
    (hold : Hold K H1 w1 s ds vs F1) (st : Stp F H F1 H1) (h : Po K mg Eh H F s ((f w1).bind k) Q')
    (c : ∀ o w2 H2 F2, f w1 = .ok o w2 → Stp F H F2 H2 → Hold K H2 w2 s ds vs F2 → Po K mg Eh H F s (k o w2) Q' → R o H2) : tO K mg Eh f s H1 R := by
  obtain ⟨F0, h0, sub, fr⟩ := hold.frame
  refine ⟨w1, F0, h0, ?_⟩
  cases e : f w1 with
  | ok d w2 =>
    rw [e] at h
    intro H' F' st' h'
    obtain ⟨F2, h2, st2⟩ := fr st' h'
    rw [List.append_nil, List.append_nil] at h2
    exact c d w2 H' F2 e (st.trans st2) h2 h
  | ex cc fs w2 =>
    rw [e] at h
    intro cls od H' F' st' h' x
    exact h cls od H' F' (st.trans (st'.mono sub)) h' x
  | bad => rw [e] at h; exact h
theorem _root_.L2.PO.imp {X : Cx} {e : Option Expr} {t t' : TO} (h : PO X e t) (i : ∀ s H Q, t' s H Q → t s H Q) : PO X e t' := ⟨fun pins s σ H Q I q => h.run pins s σ H Q I (i _ _ _ q)⟩
theorem po_n : PO X none (tO X.K X.mg Eh bN) := po_none.imp fun s H Q ⟨w, F, hold, q⟩ => q H F (Stp.refl fun _ m => m) hold
theorem po_s {e : Expr} {f : PM D} (h : PE X e (tP X.K X.mg Eh f)) : PO X (some e) (tO X.K X.mg Eh (bS f)) := (po_some h).imp fun s H Q ⟨w, F, hold, q⟩ => by
  refine tP_run hold (Stp.refl fun _ m => m) q fun d w2 v H2 F2 e st h2 q2 => ?_
  cases ed : intD d with
  | none => rw [ed] at q2; exact q2.elim
  | some i =>
    rw [ed] at q2
    have e2 := intD_some ed
    subst e2
    obtain ⟨fx, rx, _⟩ := Hold.one h2
    obtain ⟨F3, h3, sub⟩ := h2.drop0
    exact ⟨i, rx.1, q2 H2 F3 (st.trans (Stp.refl sub)) h3⟩
theorem sl_g {e : Expr} {lo hi : Option Expr} {p2 pos : Pos} {f : PM D} {l u : PM (Option Int)} (he : PE X e (tP X.K X.mg Eh f)) (hl : PO X lo (tO X.K X.mg Eh l)) (hu : PO X hi (tO X.K X.mg Eh u)) : PE X (.Subscript e (.Slice lo hi none p2) pos) (tP X.K X.mg Eh (xSlg f l u)) :=
  (pe_slice sl_X he hl hu).imp fun s H Q ⟨w, F, hold, q⟩ => by
    refine tP_run hold (Stp.refl fun _ m => m) q fun d w2 v H2 F2 e st h2 q2 => ?_
    refine tO_run h2 st q2 fun lo w3 H3 F3 e3 st3 h3 q3 => ?_
    refine tO_run h3 st3 q3 fun hi w4 H4 F4 e4 st4 h4 q4 => ?_
    obtain ⟨z, hz, q5⟩ := back_po q4
    obtain ⟨fx, rx, _⟩ := Hold.one h4
    exact ro_sl rx hz fun v H' n => fin_new q5 st4 h4 n
theorem sl_v {e : Expr} {lo hi : Option Expr} {p2 pos : Pos} {j : Nat} {l u : PM (Option Int)} (he : PE X e (tV X.K j)) (hl : PO X lo (tO X.K X.mg Eh l)) (hu : PO X hi (tO X.K X.mg Eh u)) : PE X (.Subscript e (.Slice lo hi none p2) pos) (tP X.K X.mg Eh (xSlv j l u)) :=
  (pe_slice sl_X he hl hu).imp fun s H Q ⟨w, F, hold, q⟩ => by
    unfold xSlv at q
    cases e0 : slot w j with
    | none => rw [e0] at q; exact q.elim
    | some d0 =>
      rw [e0] at q
      refine tV_run hold e0 fun v f ej _ _ => ?_
      refine tO_run hold (Stp.refl fun _ m => m) q fun lo w3 H3 F3 e3 st3 h3 q3 => ?_
      refine tO_run h3 st3 q3 fun hi w4 H4 F4 e4 st4 h4 q4 => ?_
      obtain ⟨z, hz, q5⟩ := back_po q4
      obtain ⟨d, hd, hz⟩ := Option.bind_eq_some_iff.mp hz
      obtain ⟨v2, f2, ej2, r2, _⟩ := h4.atSlot hd
      rw [ej] at ej2
      cases ej2
      exact ro_sl r2 hz fun v H' n => fin_new q5 st4 h4 n

/-! ### list(range(..)), tuple(range(..)) -/
def dRng (n : D) : Option D := match n with
  | .int n => if rngC n = true ∧ n.toNat ≤ 16777216 then some (.own (rngD n.toNat)) else none
  | _ => none
def xRngL (f : PM D) : PM D := fun w => (f w).bind fun d w1 => back (dRng d) w1

/-! ### x op= e, ints -/
def sAug (i : Nat) (op : D → D → Option D) (f : PM D) : PM Fl := fun w => match slot w i with
  | some d0 => if pl d0 = true then (f w).bind fun d w1 => match op d0 d with
      | some z => backW (setE w1 i z)
      | none => .bad
    else .bad
  | none => .bad
theorem ss_aug {i : Nat} {x : Str} {e : Expr} {op : Operator} {ti : TIp} {dd : D → D → Option D} {f : PM D} {pos pos' : Pos} (ho : PIp X op ti) (hr : Ro2 X.K ti dd) (hN : X.N.Nodup) (hi : X.N[i]? = some x) (hx : Loc X.env.scope x) (he : PE X e (tP X.K X.mg Eh f)) (hf : X.fn x = true ∨ X.env.scope.names.lookup x = some .local := by first | exact .inl rfl | exact .inr rfl | assumption) :
    PS X (.AugAssign (.Name x pos') op e pos) (tS X.K X.mg Eh [i] (sAug i dd f)) := (ps_aug hN hi hx he ho hf).imp fun E s H ⟨w, F, hold, q⟩ => by
  unfold sAug at q
  cases e0 : slot w i with
  | none => rw [e0] at q; exact q.elim
  | some d0 =>
    rw [e0] at q
    by_cases p : pl d0 = true
    · dsimp only at q
      rw [if_pos p] at q
      obtain ⟨v0, f0, ej, r0, _⟩ := hold.atSlot e0
      refine ⟨v0, ej, ?_⟩
      have hold2 := hold.addP (r0.nil_of p)
      refine tP_runS hold2 (Stp.refl fun _ m => m) q fun d w2 v H2 F2 e st h2 q2 => ?_
      obtain ⟨fx, fy, rx, ry, _, _⟩ := Hold.two h2
      cases ez : dd d0 d with
      | none => rw [ez] at q2; exact q2.elim
      | some z =>
        rw [ez] at q2
        refine hr H2 v0 v d0 d fx fy z _ rx ry ez fun u H' n => ?_
        obtain ⟨k, fz, rz, ndz, fr⟩ := n
        obtain ⟨F3, h3, sub⟩ := h2.drop0
        have hm := h3.mut
        obtain ⟨ft, fe, k1, k2, pp, nd⟩ := h3
        have e1 : ft = [] := k1.2
        subst e1
        have hh : Hold X.K H' w2 s [z] [u] (fz ++ fe) := ⟨fz, fe, RVs.one rz, k2.kp k (fun _ z => nomatch z) (fun _ _ z => nomatch z), .refl _, List.nodup_append.mpr ⟨ndz, pp.nodup_iff.mp nd, fun a m b m2 e => by
          subst e
          have := hm a (pp.mem_iff.mpr m2)
          rw [fr a m] at this
          exact this⟩⟩
        exact set_po List.mem_cons_self (st.trans (F1 := F2) ⟨fun a o e n => k a o e (fun z => nomatch z), fun a m => (List.mem_append.mp m).elim (fun z => .inr (fr a z)) fun z => .inl (sub a (pp.mem_iff.mpr z))⟩) (.refl _ _) hh q2
    · dsimp only at q
      rw [if_neg p] at q; exact q.elim
theorem ro_ip {K : PySem.W.Frag} {g : Int → Int → Int} : Ro2 K (ipI g) (dI fun i j => some (.int (g i j))) := fun H x y dx dy fx fy z Q rx ry e q => by
  obtain ⟨i, j, rfl, rfl, e⟩ := dI_some e
  cases e
  exact ⟨i, j, rx.1, ry.1, q _ _ (.plain ⟨rfl, rfl⟩)⟩
end
end Pm

set_option autoImplicit false
namespace Pm
open PySem PySem.Spec L2
section
variable {K : PySem.W.Frag} {H : Hp}
theorem rvs_ints {H : Hp} (g : Nat → Int) : ∀ l : List Nat, RVs K H (l.map fun i => D.int (g i)) (l.map fun i => V.int (g i)) []
  | [] => ⟨rfl, rfl⟩
  | i :: l => ⟨.int (g i), _, [], [], rfl, ⟨rfl, rfl⟩, rvs_ints g l, rfl⟩
theorem rg_rv {n : Int} : RVs K H (rngD n.toNat) (rgV 0 n) [] := by
  unfold rngD rgV
  rw [Int.sub_zero]
  have e : (fun i : Nat => V.int (0 + (i : Int))) = fun i : Nat => V.int (i : Int) := by
    funext i; rw [Int.zero_add]
  rw [e]
  exact rvs_ints (fun i => (i : Int)) _
end
section
variable {X : Cx} {Eh : WX}
theorem pp_rngL {a : Expr} {p p2 pos pos2 : Pos} {f : PM D} (hc : X.calm = true) (hg : Gl X "list") (hm : X.mg "list" = none) (hg2 : Gl X "range") (hm2 : X.mg "range" = none) (ha : PE X a (tP X.K X.mg Eh f))
    (na : starEach [a] X.env = (false, eval a X.env) :: starEach [] X.env := by rfl) (nb : starEach [.Call (.Name "range" p2) [a] [] pos2] X.env = (false, eval (.Call (.Name "range" p2) [a] [] pos2) X.env) :: starEach [] X.env := by rfl) :
    PE X (.Call (.Name "list" p) [.Call (.Name "range" p2) [a] [] pos2] [] pos) (tP X.K X.mg Eh (xRngL f)) :=
  (pe_listRg hc hg hm (prg_1 hg2 hm2 ha na) nb).imp fun s H Q ⟨w, F, hold, q⟩ => by
    refine tP_run hold (Stp.refl fun _ m => m) q fun d w2 v H2 F2 e st h2 q2 => ?_
    obtain ⟨z, hz, q3⟩ := back_po q2
    obtain ⟨fx, rx, _⟩ := Hold.one h2
    cases d with
    | int n =>
      replace hz : (if rngC n = true ∧ n.toNat ≤ 16777216 then some (D.own (rngD n.toNat)) else none) = some z := hz
      by_cases c : rngC n = true ∧ n.toNat ≤ 16777216
      · rw [if_pos c] at hz
        cases hz
        have c1 : -(2 ^ 62) ≤ n ∧ n < 2 ^ 62 := of_decide_eq_true c.1
        exact ⟨n, rx.1, ⟨by omega, by omega, c1.1, c1.2, by rw [Int.sub_zero]; exact c.2⟩, fun q' n' => fin_new q3 st h2 (new_own rg_rv n')⟩
      · rw [if_neg c] at hz; cases hz
    | non => cases hz
    | bl b => cases hz
    | str b => cases hz
    | tup b => cases hz
    | lst b => cases hz
    | own b => cases hz
/-- an argument that a def changes: a slot's datum, taken once the arguments behind it are there -/
def xZ (j : Nat) (g : PM (List D)) : PM (List D) := fun w => match slot w j with
  | some _ => (g w).bind fun ds w1 => (xK j w1).bind fun d w2 => .ok (d :: ds) w2
  | none => .bad
theorem palz {e : Expr} {es : List Expr} {ks : List (Option Nat)} {j : Nat} {g : PM (List D)} (h : PE X e (tVar j)) (hr : PA X es (tAL X.K X.mg Eh ks g)) (hs : starEach (e :: es) X.env = (false, eval e X.env) :: starEach es X.env := by rfl) : PA X (e :: es) (tAL X.K X.mg Eh (some j :: ks) (xZ j g)) :=
  (pa_cons h hr hs).imp fun s H Q ⟨w, F, hold, q⟩ => by
    unfold xZ at q
    cases e0 : slot w j with
    | none => rw [e0] at q; exact q.elim
    | some d0 =>
      rw [e0] at q
      obtain ⟨v, f, ej, r, m⟩ := hold.atSlot e0
      refine ⟨v, ej, ?_⟩
      refine tAL_run hold (Stp.refl fun _ m => m) q fun ds w2 us H2 F2 e st h2 l q2 => ?_
      replace h2 : Hold X.K H2 w2 s ds us F2 := h2
      cases e1 : slot w2 j with
      | none => rw [show xK j w2 = .bad by unfold xK; rw [e1]] at q2; exact q2.elim
      | some d =>
        obtain ⟨v2, ej2, h3⟩ := h2.takeS e1
        rw [ej] at ej2
        cases ej2
        by_cases p : pl d = true
        · rw [show xK j w2 = .ok d w2 by unfold xK; rw [e1]; exact if_pos p] at q2
          obtain ⟨v3, f3, ej3, r3, _⟩ := h2.atSlot e1
          rw [ej] at ej3
          cases ej3
          exact q2 (v :: us) H2 F2 st (h2.addP (r3.nil_of p)) (lnk_cons (fun i z => by cases z; exact ej) l)
        · rw [show xK j w2 = .ok d (w2.set j none) by unfold xK; rw [e1]; exact if_neg p] at q2
          exact q2 (v :: us) H2 F2 st h3 (lnk_cons (fun i z => by cases z; exact ej) l)
/-! ### a def of the text, where it lies -/
structure Dn (K : PySem.W.Frag) (mg : Str → Option Value) (x : Str) (st : Stmt) (ps : List Str) where
  f : Addr
  fd : FuncData
  F : Fun K x x st f fd
  b : Binds K fd ps []
  g : mg x = some (.ref f)
end
end Pm

set_option autoImplicit false
namespace Pm
open PySem PySem.Spec L2
/-! ### sorted, over ints in a list or a tuple -/
def rSrt (K : PySem.W.Frag) : List V → Hp → VK → Prop := fun vs H Q => ∃ (a : Addr) (ns : List Int), vs = [V.ref a] ∧ (SqL K H a (ns.map V.int) ∨ SqT K H a (ns.map V.int)) ∧
  ∀ (ms : List Int) (p : Addr), ms.Perm ns → ms.Pairwise (· ≤ ·) → H p = none → Q (.ref p) (upd H p (.lst (ms.map V.int)))
theorem vints : ∀ {vs : List Value} {ns : List Int}, PyProof.Rows.IntsAre vs ns → Vals (ns.map V.int) vs
  | _, _, h => vals_of_ints h
theorem cr_srt {X : Cx} : CallR X (.builtin "sorted") (rSrt X.K) := by
  intro pins s σ H vs us Q I r ⟨a, ns, ev, hq, q⟩
  subst ev
  obtain ⟨u, eu, rx⟩ := vals1 r
  subst eu
  cases rx
  have main : ∀ (its : List Value) (T : String) (o : Obj) (n : Nat), (T = "list" ∨ T = "tuple") → Vals (ns.map V.int) its → (ns.map V.int).length ≤ sizeLine → s.heap.get? a = some o → o.cls = .type T → o.data = .seq its.toArray n →
      wpAny (model X.prog X.w) X.A (call (.builtin "sorted") [.ref a]) (EP X pins σ Q) X.xe s := fun its T o n hT rv hz ho hc hd => by
    have hi := rv.ints
    have hzl : its.length ≤ sizeLine := by rw [← rv.length]; exact hz
    refine Calls.call_function_entry PyProof.Rows.kind_sorted PyProof.Rows.plain_sorted PyProof.Rows.entry_sorted (PyProof.Rows.args_sorted1 _) ?entry
    unfold Builtin.«sorted»; refine wpAny_bind (m := checkCount "sorted" 1 1 _) (wpAny_pure ?kept)
    refine wpAny_bind (wpAny_collect_seq a hT ho hc hd (fun g kp => ?got) (by rw [List.size_toArray]; exact hzl))
    have I1 : Inv X pins σ H { s with heap := g } := I.kept (t' := s.toks) kp
    refine wpAny_bind (wpAny_newList ?laid hzl)
    have hoL : (g.push (PyProof.Rows.seqObj "list" its.toArray 0)).get? g.objs.size = some (PyProof.Rows.seqObj "list" its.toArray 0) := Heap.get?_push_size _ rfl
    show wpAny _ _ _ _ _ { s with heap := g.push (PyProof.Rows.seqObj "list" its.toArray 0) }
    refine wpAny_bind (wpAny_holding (wpAny_call_entry PyProof.Rows.slot_list_sort ⟨_, hoL, rfl⟩ PyProof.Rows.entry_list_sort
      (SrtO.list_sort_ord (s := { s with heap := g.push (PyProof.Rows.seqObj "list" its.toArray 0) }) SrtO.swo_int hoL hzl (fun h2 => SrtO.ints_sortable hi h2) fun out h1 h2 => ⟨_, rfl, ?sorted⟩) (PyProof.Rows.args_list_sort _)))
    obtain ⟨k1, k2, k3⟩ := SrtO.ints_out hi h1 h2
    obtain ⟨e1, he1⟩ := PyProof.Rows.sortedHeap_at (vs := its) (out := out.toArray) hoL
    have hlen : ((out.map SrtO.iv).map V.int).length ≤ sizeLine := by
      rw [List.length_map, k2.length_eq, ← List.length_map (f := V.int)]; exact hz
    refine wpAny_pure ⟨_, rfl, .ref g.objs.size, upd H g.objs.size (.lst ((out.map SrtO.iv).map V.int)), I1.laid (t' := s.toks) (fun b u e => ?_) (Nat.le_refl _) ⟨hlen, out, e1, vals_of_ints k1, he1⟩, rfl, q _ _ k2 k3 (I1.hok.fresh (Nat.le_refl _))⟩
    have hb : b < g.objs.size := Heap.lt_size e
    rw [PyProof.Rows.sortedHeap_old (Nat.ne_of_lt hb) (by rw [PyProof.Rows.size_push']; exact Nat.lt_succ_of_lt hb)]
    exact Heap.get?_push_of_some _ e
  rcases hq with hq | hq
  · obtain ⟨its, rv, hl, hz⟩ := I.list hq
    obtain ⟨o, ho, hc, n, hd⟩ := hl.isList
    exact main its "list" o n (.inl rfl) rv hz ho hc hd
  · obtain ⟨its, rv, hl, hz⟩ := I.tuple hq
    obtain ⟨o, ho, hc, n, hd⟩ := hl
    exact main its "tuple" o n (.inr rfl) rv hz ho hc hd
def sortI (ns : List Int) : List Int := ns.mergeSort fun a b => decide (a ≤ b)
theorem sortI_perm (ns : List Int) : (sortI ns).Perm ns := List.mergeSort_perm _ _
theorem sortI_pw (ns : List Int) : (sortI ns).Pairwise (· ≤ ·) := by
  have h := List.pairwise_mergeSort (le := fun a b : Int => decide (a ≤ b)) (fun a b c h1 h2 => by simp at h1 h2 ⊢; omega) (fun a b => by simp; omega) ns
  exact h.imp fun h => of_decide_eq_true h
theorem sortI_eq {ms ns : List Int} (h : ms.Perm ns) (h2 : ms.Pairwise (· ≤ ·)) : ms = sortI ns :=
  List.Perm.eq_of_pairwise (le := (· ≤ ·)) (fun a b _ _ x y => Int.le_antisymm x y) h2 (sortI_pw ns) (h.trans (sortI_perm ns).symm)
def intsD : List D → Option (List Int)
  | [] => some []
  | .int i :: r => (intsD r).map (i :: ·)
  | _ => none
theorem intsD_some : ∀ {ds : List D} {ns : List Int}, intsD ds = some ns → ds = ns.map .int
  | [], _, h => by cases h; rfl
  | .int i :: r, ns, h => by
    obtain ⟨ms, h1, h2⟩ := Option.map_eq_some_iff.mp (show (intsD r).map (i :: ·) = some ns from h)
    rw [← h2, intsD_some h1]; rfl
  | .non :: _, _, h => by cases h
  | .bl _ :: _, _, h => by cases h
  | .str _ :: _, _, h => by cases h
  | .tup _ :: _, _, h => by cases h
  | .lst _ :: _, _, h => by cases h
  | .own _ :: _, _, h => by cases h
@[simp] theorem intsD_ints : ∀ ns : List Int, intsD (ns.map .int) = some ns
  | [] => rfl
  | i :: ns => by
    show (intsD (ns.map .int)).map (i :: ·) = _
    rw [intsD_ints ns]; rfl
def dSorted (x : D) : Option D := (seqD x).bind fun xs => (intsD xs).map fun ns => .own ((sortI ns).map .int)
theorem rvs_intsV {K : PySem.W.Frag} {H : Hp} : ∀ {ns : List Int} {vs : List V} {f : List Addr}, RVs K H (ns.map .int) vs f → vs = ns.map V.int
  | [], vs, f, h => h.1
  | i :: ns, vs, f, h => by
    obtain ⟨v, r, f1, g, e, q, t, _⟩ := h
    subst e
    rw [q.1, rvs_intsV t]; rfl
theorem rvs_ofInts {K : PySem.W.Frag} {H : Hp} : ∀ ns : List Int, RVs K H (ns.map .int) (ns.map V.int) []
  | [] => ⟨rfl, rfl⟩
  | i :: ns => ⟨.int i, _, [], [], rfl, ⟨rfl, rfl⟩, rvs_ofInts ns, rfl⟩
theorem ro_sorted {K : PySem.W.Frag} : Ro1 K (r1' (rSrt K)) dSorted := fun H x dx fx z Q rx e q => by
  obtain ⟨xs, h1, h2⟩ := Option.bind_eq_some_iff.mp e
  obtain ⟨ns, h3, h4⟩ := Option.map_eq_some_iff.mp h2
  subst h4
  have e3 := intsD_some h3
  subst e3
  obtain ⟨a, vs, g, ea, qa, ra⟩ := seqD_rv rx h1
  subst ea
  have e4 := rvs_intsV ra
  subst e4
  refine ⟨a, ns, rfl, qa, fun ms p pm pw n => ?_⟩
  rw [sortI_eq pm pw]
  exact q _ _ (new_own (rvs_ofInts _) n)
section
variable {X : Cx} {Eh : WX}
def dRngT (d : D) : Option D := (dRng d).bind dTuple
theorem pp_rngT {a : Expr} {p p2 pos pos2 : Pos} {f : PM D} (hc : X.calm = true) (hg : Gl X "tuple") (hm : X.mg "tuple" = none) (hg2 : Gl X "range") (hm2 : X.mg "range" = none) (ha : PE X a (tP X.K X.mg Eh f))
    (na : starEach [a] X.env = (false, eval a X.env) :: starEach [] X.env := by rfl) (nb : starEach [.Call (.Name "range" p2) [a] [] pos2] X.env = (false, eval (.Call (.Name "range" p2) [a] [] pos2) X.env) :: starEach [] X.env := by rfl) :
    PE X (.Call (.Name "tuple" p) [.Call (.Name "range" p2) [a] [] pos2] [] pos) (tP X.K X.mg Eh (x1g dRngT f)) :=
  (pe_tupRg hc hg hm (prg_1 hg2 hm2 ha na) nb).imp fun s H Q ⟨w, F, hold, q⟩ => by
    refine tP_run hold (Stp.refl fun _ m => m) q fun d w2 v H2 F2 e st h2 q2 => ?_
    obtain ⟨z, hz, q3⟩ := back_po q2
    obtain ⟨fx, rx, _⟩ := Hold.one h2
    obtain ⟨y, hy, hz⟩ := Option.bind_eq_some_iff.mp hz
    cases d with
    | int n =>
      replace hy : (if rngC n = true ∧ n.toNat ≤ 16777216 then some (D.own (rngD n.toNat)) else none) = some y := hy
      by_cases c : rngC n = true ∧ n.toNat ≤ 16777216
      · rw [if_pos c] at hy
        cases hy
        replace hz : (if pls (rngD n.toNat) = true then some (D.tup (rngD n.toNat)) else none) = some z := hz
        by_cases c2 : pls (rngD n.toNat) = true
        · rw [if_pos c2] at hz
          cases hz
          have c1 : -(2 ^ 62) ≤ n ∧ n < 2 ^ 62 := of_decide_eq_true c.1
          exact ⟨n, rx.1, ⟨by omega, by omega, c1.1, c1.2, by rw [Int.sub_zero]; exact c.2⟩, fun q' n' => fin_new q3 st h2 (new_tup rg_rv n')⟩
        · rw [if_neg c2] at hz; cases hz
      · rw [if_neg c] at hy; cases hy
    | non => cases hy
    | bl b => cases hy
    | str b => cases hy
    | tup b => cases hy
    | lst b => cases hy
    | own b => cases hy
end
/-! ### calls, where what a changed parameter stands for may be no slot -/
def xCal (np : Nat) (js : List (Option Nat)) (m : List D → Rd) (f : PM (List D)) : PM D := fun w => (f w).bind fun ds w1 => if ds.length = np then match m ds with
    | .ok d outs => .ok d (putB js outs w1)
    | _ => .bad
  else .bad
section
variable {X : Cx} {Eh : WX}
theorem cal_imp {s : L2.St} {H : Hp} {K : PySem.W.Frag} {mg : Str → Option Value} {np : Nat} {io : List Nat} {js : List (Option Nat)} {ks : List (Option Nat)} {m : List D → Rd} {f : PM (List D)} {Q : VK} {E : XK} (X : Cx) (hK : X.K = K) (hM : X.mg = mg) (hks : js = io.map fun k => (ks[k]?).getD none) (hio : ∀ k ∈ io, k < np)
    (h : tP K mg Eh (xCal np js m f) s H Q) : tAL K mg Eh ks f s H fun vs H1 => spP K np io m (vs ++ []) H1 Q E := by
  subst hK; subst hM
  obtain ⟨w, F, hold, q⟩ := h
  unfold xCal at q
  refine tAL_run hold (Stp.refl fun _ m => m) q fun ds w2 us H2 F2 e st h2 l q2 => ?_
  replace h2 : Hold X.K H2 w2 s ds us F2 := h2
  by_cases c : ds.length = np
  · rw [if_pos c] at q2
    rw [List.append_nil]
    obtain ⟨ft, rt, nd, fr⟩ := h2.call
    refine ⟨by rw [← hold_len h2]; exact c, ds, ft, rt, nd, ?_⟩
    cases em : m ds with
    | bad => rw [em] at q2; exact q2
    | ex _ _ _ => rw [em] at q2; exact q2
    | ok d outs =>
      rw [em] at q2
      intro v H' F' st' r nd'
      obtain ⟨F3, h3, st3⟩ := fr st' r nd'
      have h4 := Hold.comm (ds := [d]) (vs := [v]) h3 rfl
      have hl : outs.length = (io.map fun k => us.getD k .non).length := by
        have := r.length
        simpa using this
      have lk : Lnk s js (io.map fun k => us.getD k .non) := fun i j u e1 e2 => by
        rw [hks, List.getElem?_map] at e1
        rw [List.getElem?_map] at e2
        obtain ⟨k, e3, e4⟩ := Option.map_eq_some_iff.mp e1
        rw [e3] at e2
        have e5 : us.getD k .non = u := by simpa using e2
        have e6 : ks[k]? = some (some j) := by
          cases z : ks[k]? with
          | none => rw [z] at e4; cases e4
          | some o => rw [z] at e4; exact congrArg some e4
        have hkl : k < us.length := by
          rw [← hold_len h2, c]
          exact hio k (List.mem_of_getElem? e3)
        exact l k j u e6 (by rw [← e5, List.getD_eq_getElem?_getD, List.getElem?_eq_getElem hkl]; rfl)
      obtain ⟨F5, h5, sub5⟩ := Hold.putL2 h4 hl lk
      exact q2 v H' F5 ((st.trans st3).trans (Stp.refl sub5)) h5
  · rw [if_neg c] at q2; exact q2.elim
theorem pp_cal {k : Nat} {f : Addr} {fd : FuncData} {ps : List Str} {io : List Nat} {js : List (Option Nat)} {ks : List (Option Nat)} {m : List D → Rd} {g : PM (List D)} {x : Str} {p pos : Pos} {e : Expr} {es : List Expr} (np : Nat) (F : FnOk X.prog X.w X.K X.mg X.base CX0 k f fd ps (spP X.K np io m)) (hr : Room k X.A) (hg : Gl X x) (hm : X.mg x = some (.ref f)) (hk : PySem.W.keepIn X.K (.ref f) = true) (hb : Binds X.K fd ps [])
    (ha : PA X (e :: es) (tAL X.K X.mg Eh ks g)) (hks : js = io.map fun k => (ks[k]?).getD none := by rfl) (hio : ∀ k ∈ io, k < np := by decide) (hdb : (x == ("__debug__" : Str)) = false := by decide) (he : starEach (e :: es) X.env = (false, eval e X.env) :: starEach es X.env := by rfl) (hpl : (backTo pos (starEach es X.env)).any (·.1) = false := by rfl) :
    PE X (.Call (.Name x p) (e :: es) [] pos) (tP X.K X.mg Eh (xCal np js m g)) :=
  (pe_call F hr hg hm hk hb .nil pass0 ha hdb he hpl).imp fun s H Q h => cal_imp X rfl rfl hks hio h
end
end Pm

set_option autoImplicit false
namespace Pm
open PySem PySem.Spec L2
/-! ### comprehensions of two clauses -/
def cmpL2 (tg : Tgt) (c : PM Bool) (ks1 : List (Option Nat)) (it1 : PM (List D × List D)) (tg1 : Tgt) (c1 : PM Bool) (elt : PM D) (vs vs1 : List Nat) : List D → List D → PM (List D)
  | [], acc => fun w => .ok acc w
  | d :: ds, acc => fun w => match setT tg d (wipeE w vs) with
    | some w1 => (c w1).bindN fun b w2 => if b = true then (it1 w2).bindN fun p w3 => (cmpL tg1 c1 elt vs1 p.1 acc w3).bindN fun acc2 w4 => cmpL2 tg c ks1 it1 tg1 c1 elt vs vs1 ds acc2 (putB ks1 p.2 (wipeE w4 vs1))
      else cmpL2 tg c ks1 it1 tg1 c1 elt vs vs1 ds acc w2
    | none => .bad
def xComp2 (ks : List (Option Nat)) (it : PM (List D × List D)) (tg : Tgt) (c : PM Bool) (ks1 : List (Option Nat)) (it1 : PM (List D × List D)) (tg1 : Tgt) (c1 : PM Bool) (elt : PM D) (vs vs1 : List Nat) : PM D := fun w => (it w).bind fun p w1 => (cmpL2 tg c ks1 it1 tg1 c1 elt vs vs1 p.1 [] w1).bindN fun acc w2 => Rs.ok (D.own acc) (putB ks p.2 (wipeE w2 vs))
section
variable {K : PySem.W.Frag} {mg : Str → Option Value} {s : L2.St} {H : Hp} {F : List Addr} {Eh : WX}
theorem tI_runN {f : PM (List D × List D)} {ks : List (Option Nat)} {R : It → Hp → Prop} {H1 : Hp} {F1 : List Addr} {w1 w2 : Ev} {p : List D × List D} {ds : List D} {vs : List V} (hold : Hold K H1 w1 s ds vs F1) (e : f w1 = .ok p w2)
    (c : ∀ J H2 F2 tvs, Stp F1 H1 F2 H2 → Hold K H2 w2 s (ds ++ p.2) (vs ++ tvs) F2 → Src K J p.1 p.2 tvs → Lnk s ks tvs → R J H2) : tI K mg Eh ks f s H1 R := by
  obtain ⟨F0, h0, sub, fr⟩ := hold.frame
  refine ⟨w1, F0, h0, ?_⟩
  rw [e]
  intro J H' F' tvs st' h' src l
  obtain ⟨F2, h2, st2⟩ := fr st' h'
  exact c J H' F2 tvs st2 h2 src l
theorem bindN_ok' {α β : Type} {r : Rs α} {k : α → Ev → Rs β} {b : β} {w : Ev} (h : r.bindN k = .ok b w) : ∃ a w1, r = .ok a w1 ∧ k a w1 = .ok b w := by
  cases r with
  | ok a w1 => exact ⟨a, w1, rfl, h⟩
  | ex _ _ _ => cases h
  | bad => cases h
/-- the inner loop, its list in place -/
theorem cmp_in {g : TG} {tg : Tgt} {c : PM Bool} {elt : PM D} {vs : List Nat} (hg : TgR K g tg) (hv : ∀ i ∈ wrT tg, i ∈ vs) {items tds : List D} {tvs : List V} {J : It} (src : Src K J items tds tvs)
    {Da : Addr} {acc acc2 es : List D} {us : List V} {w w2 : Ev} (hold : Hold K H w s (.own acc :: es) (.ref Da :: us) F) (hl : es.length = us.length) (rT : ∀ H' f, RVs K H' es us f → ∃ f', RVs K H' tds tvs f')
    (q : cmpL tg c elt vs items acc w = .ok acc2 w2) {Nx : Hp → Prop} (fin : ∀ H' F', Stp F H F' H' → Hold K H' (wipeE w2 vs) s (.own acc2 :: es) (.ref Da :: us) F' → Nx H') :
    ∃ W1 : Nat → Nat → Hp → Prop, (∃ m, W1 0 m H) ∧ ∀ j k H', W1 j k H' → (J.stop j H' ∧ Nx H') ∨ (J.go j H' ∧ ∃ Nx1 : Hp → Prop, (∀ H'', Nx1 H'' → ∃ k', k' < k ∧ W1 (j + 1) k' H'') ∧ ∀ x H'', J.yld j H' x H'' → g x (wipe s vs) H'' fun σ3 H5 => wipe σ3 vs = wipe s vs ∧ tT K mg EhN c σ3 H5 fun b H6 =>
      if b = true then tP K mg EhN elt σ3 H6 fun y H7 => ∃ acc, H7 Da = some (.lst acc) ∧ acc.length < sizeLine ∧ Nx1 (upd H7 Da (.lst (acc ++ [y]))) else Nx1 H6) := by
  refine ⟨fun j k H' => k + j = items.length ∧ j ≤ items.length ∧ ∃ w' s' F' a', Stp F H F' H' ∧ wipe s' vs = wipe s vs ∧ Hold K H' w' s' (.own a' :: es) (.ref Da :: us) F' ∧ cmpL tg c elt vs (items.drop j) a' w' = .ok acc2 w2,
    ⟨items.length, by omega, by omega, w, s, F, acc, Stp.refl fun _ m => m, rfl, hold, q⟩, ?_⟩
  rintro j k H' ⟨e1, e2, w', s', F', a', st', ag', h', q'⟩
  obtain ⟨ft, rt⟩ := h'.rvs
  obtain ⟨v0, r0, f0, ft2, e3, rD, rR, e4⟩ := rt
  injection e3 with e5 e6
  subst e5; subst e6
  obtain ⟨f9, r9⟩ := rT H' _ rR
  obtain ⟨F3, h3, h3s, sub3⟩ := h'.turn ag'
  by_cases hi : j < items.length
  · have hd : items[j]? = some items[j] := List.getElem?_eq_getElem hi
    have hdr : items.drop j = items[j] :: items.drop (j + 1) := List.drop_eq_getElem_cons hi
    rw [hdr] at q'
    refine .inr ⟨src.go H' _ j r9 hi, fun H'' => ∃ w3 s3 F4 a3, Stp F H F4 H'' ∧ wipe s3 vs = wipe s vs ∧ Hold K H'' w3 s3 (.own a3 :: es) (.ref Da :: us) F4 ∧ cmpL tg c elt vs (items.drop (j + 1)) a3 w3 = .ok acc2 w2,
      fun H'' hN => ⟨k - 1, by omega, by omega, hi, hN⟩, fun x H'' hy => ?_⟩
    obtain ⟨kp, rx⟩ := src.yld H' _ j _ x H'' r9 hd hy
    rw [cmpL_cons] at q'
    cases et : setT tg items[j] (wipeE w' vs) with
    | none => rw [et] at q'; cases q'
    | some w3 =>
      rw [et] at q'
      dsimp only at q'
      refine hg x (wipe s vs) H'' _ (wipeE w' vs) w3 F3 (.own a' :: es) (.ref Da :: us) items[j] rx (src.pl j _ hd) (hold_kp h3 kp) et fun s3 F4 ag3 sub4 h4 => ?_
      have ew : wipe s3 vs = wipe s vs := by
        refine wipe_ext (by rw [ag3.1, wipe_length]) fun i n => ?_
        rw [ag3.2 i (fun z => n (hv i z)), wipe_get n]
      refine ⟨ew, ?_⟩
      have st4 : Stp F H F4 H'' := ((st'.trans (Stp.refl sub3)).trans (stp_kp kp)).trans (Stp.refl sub4)
      obtain ⟨b, w4, ec, q4⟩ := bindN_ok' q'
      refine tT_runN h4 ec fun H5 F5 st5 h5 => ?_
      cases b with
      | false =>
        rw [if_neg Bool.false_ne_true]
        rw [if_neg Bool.false_ne_true] at q4
        exact ⟨w4, s3, F5, a', st4.trans st5, ew, h5, q4⟩
      | true =>
        rw [if_pos rfl]
        rw [if_pos rfl] at q4
        obtain ⟨d, w5, ee, q5⟩ := bindN_ok' q4
        refine tP_runN h5 ee fun y H6 F6 st6 h6 => ?_
        obtain ⟨us2, hu, hlu, F7, h7, sub7, st7⟩ := Hold.grow h6 hl
        by_cases cl : a'.length < sizeLine
        · rw [if_pos cl] at q5
          exact ⟨us2, hu, by rw [← hlu]; exact cl, w5, s3, F7, a' ++ [d], ((st4.trans st5).trans st6).trans st7, ew, h7, q5⟩
        · rw [if_neg cl] at q5; cases q5
  · have ei : j = items.length := by omega
    subst ei
    refine .inl ⟨src.stop H' _ r9, ?_⟩
    rw [List.drop_length, cmpL_nil] at q'
    cases q'
    exact fin H' F3 (st'.trans (Stp.refl sub3)) h3s
theorem comp2_imp {g g1 : TG} {tg tg1 : Tgt} {c c1 : PM Bool} {elt : PM D} {vs vs1 : List Nat} {ks ks1 : List (Option Nat)} {it it1 : PM (List D × List D)} (hg : TgR K g tg) (hg1 : TgR K g1 tg1) (hv : ∀ i ∈ wrT tg, i ∈ vs) (hv1 : ∀ i ∈ wrT tg1, i ∈ vs1) (hs : ∀ i ∈ vs1, i ∈ vs) {Q : VK}
    (h : tP K mg Eh (xComp2 ks it tg c ks1 it1 tg1 c1 elt vs vs1) s H Q) : tLc2 (tI K mg Eh ks it) g (tT K mg EhN c) (tI K mg EhN ks1 it1) g1 (tT K mg EhN c1) (tP K mg EhN elt) vs vs1 s H Q := by
  obtain ⟨w, F, hold, q⟩ := h
  unfold xComp2 at q
  refine ⟨w, F, hold, ?_⟩
  cases e : it w with
  | bad => rw [e] at q; exact q
  | ex cc fs w1 =>
    rw [e] at q
    exact q
  | ok p w1 =>
    rw [e] at q
    replace q : Po K mg Eh H F s ((cmpL2 tg c ks1 it1 tg1 c1 elt vs vs1 p.1 [] w1).bindN fun acc w2 => Rs.ok (D.own acc) (putB ks p.2 (wipeE w2 vs))) (fun d w' => ∀ v H' F', Stp F H F' H' → Hold K H' w' s [d] [v] F' → Q v H') := q
    intro J H1 F1 tvs st h1 src lnk Da nDa
    have hlen := hold_len h1
    have hnew : Hold K (upd H1 Da (.lst [])) w1 s (.own [] :: p.2) (.ref Da :: tvs) (Da :: F1) := by
      have hm := h1.mut
      obtain ⟨ft, fe, k1, k2, pp, nd⟩ := hold_upd (o := .lst []) h1 nDa
      refine ⟨Da :: ft, fe, ⟨.ref Da, tvs, [Da], ft, rfl, ⟨Da, [], [], rfl, upd_same, ⟨rfl, rfl⟩, rfl⟩, k1, rfl⟩, k2, pp.cons Da, List.nodup_cons.mpr ⟨fun m => ?_, nd⟩⟩
      have := hm Da m
      rw [nDa] at this
      exact this
    have ok : ∃ accE wE, cmpL2 tg c ks1 it1 tg1 c1 elt vs vs1 p.1 [] w1 = .ok accE wE := by
      cases e2 : cmpL2 tg c ks1 it1 tg1 c1 elt vs vs1 p.1 [] w1 with
      | ok a b => exact ⟨a, b, rfl⟩
      | ex _ _ _ => rw [e2] at q; exact q.elim
      | bad => rw [e2] at q; exact q.elim
    obtain ⟨accE, wE, eq⟩ := ok
    rw [eq, Rs.bindN_ok] at q
    replace q : ∀ v H' F', Stp F H F' H' → Hold K H' (putB ks p.2 (wipeE wE vs)) s [.own accE] [v] F' → Q v H' := q
    refine ⟨fun i m H2 => m + i = p.1.length ∧ i ≤ p.1.length ∧ ∃ w2 s2 F2 acc, Stp F H F2 H2 ∧ wipe s2 vs = wipe s vs ∧ Hold K H2 w2 s2 (.own acc :: p.2) (.ref Da :: tvs) F2 ∧ cmpL2 tg c ks1 it1 tg1 c1 elt vs vs1 (p.1.drop i) acc w2 = .ok accE wE,
      ⟨p.1.length, by omega, by omega, w1, s, Da :: F1, [], st.trans (stp_upd' nDa), rfl, hnew, eq⟩, ?_⟩
    rintro i m H2 ⟨e1, e2, w2, s2, F2, acc, st2, ag2, h2, q2⟩
    obtain ⟨ft, rt⟩ := h2.rvs
    obtain ⟨v0, r0, f0, ft2, e3, rD, rT, e4⟩ := rt
    injection e3 with e5 e6
    subst e5; subst e6
    obtain ⟨F3, h3, h3s, sub3⟩ := h2.turn ag2
    by_cases hi : i < p.1.length
    · have hd : p.1[i]? = some p.1[i] := List.getElem?_eq_getElem hi
      have hdr : p.1.drop i = p.1[i] :: p.1.drop (i + 1) := List.drop_eq_getElem_cons hi
      rw [hdr] at q2
      refine .inr ⟨src.go H2 _ i rT hi, fun H' => ∃ w2 s2 F2 acc, Stp F H F2 H' ∧ wipe s2 vs = wipe s vs ∧ Hold K H' w2 s2 (.own acc :: p.2) (.ref Da :: tvs) F2 ∧ cmpL2 tg c ks1 it1 tg1 c1 elt vs vs1 (p.1.drop (i + 1)) acc w2 = .ok accE wE,
        fun H' hN => ⟨m - 1, by omega, by omega, hi, hN⟩, fun x H' hy => ?_⟩
      obtain ⟨kp, rx⟩ := src.yld H2 _ i _ x H' rT hd hy
      unfold cmpL2 at q2
      cases et : setT tg p.1[i] (wipeE w2 vs) with
      | none => rw [et] at q2; cases q2
      | some w3 =>
        rw [et] at q2
        dsimp only at q2
        refine hg x (wipe s vs) H' _ (wipeE w2 vs) w3 F3 (.own acc :: p.2) (.ref Da :: tvs) p.1[i] rx (src.pl i _ hd) (hold_kp h3 kp) et fun s3 F4 ag3 sub4 h4 => ?_
        have ew : wipe s3 vs = wipe s vs := by
          refine wipe_ext (by rw [ag3.1, wipe_length]) fun k n => ?_
          rw [ag3.2 k (fun z => n (hv k z)), wipe_get n]
        refine ⟨ew, ?_⟩
        have st4 : Stp F H F4 H' := ((st2.trans (Stp.refl sub3)).trans (stp_kp kp)).trans (Stp.refl sub4)
        obtain ⟨b, w4, ec, q4⟩ := bindN_ok' q2
        refine tT_runN h4 ec fun H5 F5 st5 h5 => ?_
        cases b with
        | false =>
          rw [if_neg Bool.false_ne_true]
          rw [if_neg Bool.false_ne_true] at q4
          exact ⟨w4, s3, F5, acc, st4.trans st5, ew, h5, q4⟩
        | true =>
          rw [if_pos rfl]
          rw [if_pos rfl] at q4
          obtain ⟨p1, w5, ee, q5⟩ := bindN_ok' q4
          obtain ⟨acc2, w6, ec2, q6⟩ := bindN_ok' q5
          refine tI_runN h5 ee fun J1 H6 F6 tvs1 st6 h6 src1 lnk1 => ?_
          have hl5 := hold_len h5
          have hl6 := hold_len h6
          replace h6 : Hold K H6 w5 s3 (.own acc :: (p.2 ++ p1.2)) (.ref Da :: (tvs ++ tvs1)) F6 := h6
          have hlt : p1.2.length = tvs1.length := by
            have a1 : (D.own acc :: p.2).length = (V.ref Da :: tvs).length := hl5
            rw [List.length_append, List.length_append, a1] at hl6
            omega
          refine cmp_in hg1 hv1 src1 h6 (by rw [List.length_append, List.length_append, hlen, hlt]) (fun H' f r => ?_) ec2 fun H7 F7 st7 h7 => ?_
          · obtain ⟨v1, v2, f1, f2, ev, _, ra, rb⟩ := r.split
            have := ra.length
            obtain ⟨rfl, rfl⟩ := List.append_inj ev (by rw [← hlen, this])
            exact ⟨f2, rb⟩
          · have h8 := Hold.comm (ds := .own acc2 :: p.2) (vs := .ref Da :: tvs) (es := p1.2) (us := tvs1) h7 (by show p.2.length + 1 = tvs.length + 1; rw [hlen])
            obtain ⟨F9, h9, sub9⟩ := Hold.putL2 h8 hlt lnk1
            exact ⟨_, s3, F9, acc2, (((st4.trans st5).trans st6).trans st7).trans (Stp.refl sub9), ew, h9, q6⟩
    · have ei : i = p.1.length := by omega
      subst ei
      refine .inl ⟨src.stop H2 _ rT, ?_⟩
      rw [List.drop_length] at q2
      unfold cmpL2 at q2
      cases q2
      have h8 := Hold.comm (ds := [.own accE]) (vs := [.ref Da]) h3s rfl
      obtain ⟨F9, h9, sub9⟩ := Hold.putL2 h8 hlen lnk
      exact q _ H2 F9 ((st2.trans (Stp.refl sub3)).trans (Stp.refl sub9)) h9
end
section
variable {X : Cx} {Eh : WX}
theorem pp_comp2 {elt tgE iter tgE1 iter1 : Expr} {ifs ifs1 : List Expr} {scope : Scope} {own : List (Str × Nat)} {vs1 : List Nat} {pos : Pos} {g g1 : TG} {tg tg1 : Tgt} {c c1 : PM Bool} {el : PM D} {ks ks1 : List (Option Nat)} {it it1 : PM (List D × List D)} (hc : X.calm = true) (hN : X.N.Nodup)
    (hi : PI X tgE iter (tI X.K X.mg Eh ks it)) (ok : BlkOk X.N X.env.scope scope own) (hr : TgR X.K g tg) (hr1 : TgR X.K g1 tg1)
    (hg : ∀ (s : Shared) (H : Hp) (C : Addr) (cl : List (Str × Addr)) (fp : List Addr), PG (X.blk s H scope (compEnvC scope cl C X.env) fp) tgE g)
    (ht : ∀ (s : Shared) (H : Hp) (C : Addr) (cl : List (Str × Addr)) (fp : List Addr), PTs (X.blk s H scope (compEnvC scope cl C X.env) fp) ifs (tT X.K X.mg EhN c))
    (hi1 : ∀ (s : Shared) (H : Hp) (C : Addr) (cl : List (Str × Addr)) (fp : List Addr), PI (X.blk s H scope (compEnvC scope cl C X.env) fp) tgE1 iter1 (tI X.K X.mg EhN ks1 it1))
    (hg1 : ∀ (s : Shared) (H : Hp) (C : Addr) (cl : List (Str × Addr)) (fp : List Addr), PG (X.blk s H scope (compEnvC scope cl C X.env) fp) tgE1 g1)
    (ht1 : ∀ (s : Shared) (H : Hp) (C : Addr) (cl : List (Str × Addr)) (fp : List Addr), PTs (X.blk s H scope (compEnvC scope cl C X.env) fp) ifs1 (tT X.K X.mg EhN c1))
    (he : ∀ (s : Shared) (H : Hp) (C : Addr) (cl : List (Str × Addr)) (fp : List Addr), PE (X.blk s H scope (compEnvC scope cl C X.env) fp) elt (tP X.K X.mg EhN el))
    (hv : ∀ i ∈ wrT tg, i ∈ own.map (·.2) := by decide) (hv1 : ∀ i ∈ wrT tg1, i ∈ vs1 := by decide) (hvs : ∀ i ∈ vs1, i ∈ own.map (·.2) := by decide) (hs : ∀ x, foldedSetIterable iter X.env x = pure x := by intro _; rfl) (hs1 : ∀ env x, foldedSetIterable iter1 env x = pure x := by intro _ _; rfl) :
    PE X (.ListComp elt [⟨tgE, iter, ifs, 0⟩, ⟨tgE1, iter1, ifs1, 0⟩] scope pos) (tP X.K X.mg Eh (xComp2 ks it tg c ks1 it1 tg1 c1 el (own.map (·.2)) vs1)) :=
  (pe_lc2 hc hN hi ok hvs hg ht hi1 hg1 ht1 he hs hs1).imp fun s H Q h => comp2_imp hr hr1 hv hv1 hvs h
end
end Pm

set_option autoImplicit false
namespace Pm
open PySem PySem.Spec L2
/-! ### built-ins of two arguments -/
section
variable {X : Cx} {Eh : WX} {a b : Expr} {f g : PM D} {x id : Str} {pp pos : Pos} {rr : List V → Hp → VK → Prop} {d : D → D → Option D}
theorem bi2_gg {id : String} (hc : CallR X (.builtin id) rr) (hr : Ro2 X.K (fun u v H Q => rr [u, v] H Q) d) (hg : Gl X x) (hm : X.mg x = none) (hv : bootBuiltins x = some (.builtin id)) (ha : PE X a (tP X.K X.mg Eh f)) (hb : PE X b (tP X.K X.mg Eh g)) (hn : x ≠ "__name__" := by decide) (hdb : (x == ("__debug__" : Str)) = false := by decide)
    (he : starEach [a, b] X.env = (false, eval a X.env) :: starEach [b] X.env := by rfl) (he2 : starEach [b] X.env = (false, eval b X.env) :: starEach [] X.env := by rfl) (hpl : (backTo pos (starEach [b] X.env)).any (·.1) = false := by rfl) : PE X (.Call (.Name x pp) [a, b] [] pos) (tP X.K X.mg Eh (x2gg d f g)) :=
  (pe_callB hc hg hm hv (pa_cons ha (pa_cons hb pa_nil he2) he) hn hdb he hpl).imp fun _ _ _ h => imp2gg hr h
end
def dMin : D → D → Option D := dI fun i j => some (.int (if j < i then j else i))
def dMax : D → D → Option D := dI fun i j => some (.int (if j > i then j else i))
theorem ro_min {K : PySem.W.Frag} : Ro2 K (fun u v H Q => ∃ i j, [u, v] = [V.int i, V.int j] ∧ Q (.int (if j < i then j else i)) H) dMin := fun H x y dx dy fx fy z Q rx ry e q => by
  obtain ⟨i, j, rfl, rfl, e⟩ := dI_some e
  cases e
  exact ⟨i, j, by rw [rx.1, ry.1], q _ _ (.plain ⟨rfl, rfl⟩)⟩
theorem ro_max {K : PySem.W.Frag} : Ro2 K (fun u v H Q => ∃ i j, [u, v] = [V.int i, V.int j] ∧ Q (.int (if j > i then j else i)) H) dMax := fun H x y dx dy fx fy z Q rx ry e q => by
  obtain ⟨i, j, rfl, rfl, e⟩ := dI_some e
  cases e
  exact ⟨i, j, by rw [rx.1, ry.1], q _ _ (.plain ⟨rfl, rfl⟩)⟩
def dAbs : D → Option D
  | .int i => some (.int (if i < 0 then -i else i))
  | _ => none
theorem ro_abs {K : PySem.W.Frag} : Ro1 K (r1' fun xs H Q => ∃ i, xs = [V.int i] ∧ Q (.int (if i < 0 then -i else i)) H) dAbs := fun H x dx fx z Q rx e q => by
  cases dx with
  | int i => cases e; exact ⟨i, by rw [rx.1], q _ _ (.plain ⟨rfl, rfl⟩)⟩
  | non => cases e
  | bl b => cases e
  | str b => cases e
  | tup b => cases e
  | lst b => cases e
  | own b => cases e
end Pm

set_option autoImplicit false
namespace Pm
open PySem PySem.Spec L2
/-! ### a op b op' c -/
def x3c (op op' : D → D → Option D) (f g h : PM D) : PM D := fun w => (f w).bind fun x w1 => (g w1).bind fun y w2 => match op x y with
  | some (.bl true) => (h w2).bind fun z w3 => back (op' y z) w3
  | some (.bl false) => .ok (.bl false) w2
  | _ => .bad
section
variable {X : Cx} {Eh : WX} {s : L2.St} {H : Hp}
theorem imp3c {r r' : V → V → Hp → VK → Prop} {op op' : D → D → Option D} {f g h : PM D} (hr : Ro2 X.K r op) (hr' : Ro2 X.K r' op') {Q : VK} (hh : tP X.K X.mg Eh (x3c op op' f g h) s H Q) :
    tChain r r' (tP X.K X.mg Eh f) (tP X.K X.mg Eh g) (tP X.K X.mg Eh h) s H Q := by
  obtain ⟨w, F, hold, q⟩ := hh
  refine tP_run hold (Stp.refl fun _ m => m) q fun dx w1 vx H1 F1 e1 st1 h1 q1 => ?_
  refine tP_run h1 st1 q1 fun dy w2 vy H2 F2 e2 st2 h2 q2 => ?_
  replace h2 : Hold X.K H2 w2 s [dx, dy] [vx, vy] F2 := h2
  obtain ⟨fx, fy, rx, ry, _, _⟩ := Hold.two h2
  have bad : ∀ {R : D → Ev → Prop}, Po X.K X.mg Eh H F s (.bad : Rs D) R → False := fun z => z
  cases eo : op dx dy with
  | none => rw [eo] at q2; exact (bad q2).elim
  | some z =>
    rw [eo] at q2
    cases z with
    | bl b =>
      refine hr H2 vx vy dx dy fx fy (.bl b) _ rx ry eo fun v H' n => ?_
      obtain ⟨k, f0, r0, _, _⟩ := n
      obtain ⟨F3, h3, sub3⟩ := Hold.drop (ds := [dx]) (vs := [vx]) (ds' := [dy]) (vs' := [vy]) (hold_kp h2 k) rfl
      have st3 : Stp F H F3 H' := (st2.trans (stp_kp k)).trans (Stp.refl sub3)
      refine ⟨b, r0.1, ?_⟩
      cases b with
      | true =>
        rw [if_pos rfl]
        refine tP_run h3 st3 q2 fun dz w3 vz H4 F4 e4 st4 h4 q4 => ?_
        replace h4 : Hold X.K H4 w3 s [dy, dz] [vy, vz] F4 := h4
        obtain ⟨gy, gz, ry2, rz, _, _⟩ := Hold.two h4
        obtain ⟨z, hz, q5⟩ := back_po q4
        exact hr' H4 vy vz dy dz gy gz z _ ry2 rz hz fun v' H5 n5 => fin_new q5 st4 h4 n5
      | false =>
        rw [if_neg Bool.false_ne_true]
        obtain ⟨F5, h5, sub5⟩ := h3.drop0
        exact q2 (.bl false) H' F5 (st3.trans (Stp.refl sub5)) (h5.addP ⟨rfl, rfl⟩)
    | _ => exact (bad q2).elim
variable {a b c : Expr} {pos : Pos} {o1 o2 : CmpOp} {r r' : R2} {d d' : D → D → Option D} {f g h : PM D}
theorem cmp3_ggg (ho : OpR X (compareOp o1) r) (hr : Ro2 X.K r d) (ho' : OpR X (compareOp o2) r') (hr' : Ro2 X.K r' d') (ha : PE X a (tP X.K X.mg Eh f)) (hb : PE X b (tP X.K X.mg Eh g)) (hc : PE X c (tP X.K X.mg Eh h)) (hm : lastMarks [o1, o2] [b, c] = false := by with_unfolding_all rfl) : PE X (.Compare a [o1, o2] [b, c] pos) (tP X.K X.mg Eh (x3c d d' f g h)) :=
  (pe_chain ho ho' ha hb hc hm).imp fun _ _ _ q => imp3c hr hr' q
theorem pt3_ggg (ho : OpR X (compareOp o1) r) (hr : Ro2 X.K r d) (ho' : OpR X (compareOp o2) r') (hr' : Ro2 X.K r' d') (ha : PE X a (tP X.K X.mg Eh f)) (hb : PE X b (tP X.K X.mg Eh g)) (hc : PE X c (tP X.K X.mg Eh h)) (hm : lastMarks [o1, o2] [b, c] = false := by with_unfolding_all rfl) : PT X (.Compare a [o1, o2] [b, c] pos) (tT X.K X.mg Eh (tBl (x3c d d' f g h))) :=
  (pt_chain ho ho' ha hb hc hm).imp fun _ _ _ q => imp3c hr hr' (tBl_imp q)
end
/-! ### a, b = e -/
def sSetT (tg : Tgt) (f : PM D) : PM Fl := fun w => (f w).bind fun d w1 => if pl d = true then backW (setT tg d w1) else .bad
section
variable {X : Cx} {Eh : WX}
theorem ss_setT {tgE e : Expr} {pos : Pos} {g : TG} {tg : Tgt} {f : PM D} (he : PE X e (tP X.K X.mg Eh f)) (hg : PG X tgE g) (hr : TgR X.K g tg) (hs : swapsWithSole [tgE] e pos.line X.env = pure false := by rfl) (hw : swappedStores [tgE] e X.env = pure none := by rfl)
    (h1 : (assignEach [tgE] X.env).map (·.2) = [assign tgE X.env] := by rfl) : PS X (.Assign [tgE] e pos) (tS X.K X.mg Eh (wrT tg) (sSetT tg f)) :=
  (ps_asg he hg hs hw h1).imp fun E s H ⟨w, F, hold, q⟩ => by
    refine tP_runS hold (Stp.refl fun _ m => m) q fun d w1 v H1 F1 e st h1 q1 => ?_
    by_cases p : pl d = true
    · rw [if_pos p] at q1
      cases et : setT tg d w1 with
      | none => rw [et] at q1; exact q1.elim
      | some w2 =>
        rw [et] at q1
        obtain ⟨fx, rx, _⟩ := Hold.one h1
        obtain ⟨F3, h3, sub3⟩ := h1.drop0
        have r0 : RV X.K H1 d v [] := by
          have := rv_pl d v fx p rx
          subst this; exact rx
        exact hr v s H1 _ w1 w2 F3 [] [] d r0 p h3 et fun s' F' ag sub h' => q1 s' H1 F' (st.trans (Stp.refl fun a m => sub3 a (sub a m))) ag h'
    · rw [if_neg p] at q1; exact q1.elim
end
end Pm

set_option autoImplicit false
namespace Pm
open PySem PySem.Spec L2 PyProof.Rows
/-! ### str of an int -/
def strC (i : Int) : Bool := decide (i.natAbs.log2 < 1920)
def dStr : D → Option D
  | .int i => if strC i = true then some (.str (toString i)) else none
  | _ => none
theorem ro_str {K : PySem.W.Frag} : Ro1 K (r1' fun xs H Q => ∃ i : Int, xs = [V.int i] ∧ i.natAbs.log2 < 1920 ∧ Q (.str (toString i)) H) dStr := fun H x dx fx z Q rx e q => by
  cases dx with
  | int i =>
    replace e : (if strC i = true then some (D.str (toString i)) else none) = some z := e
    by_cases c : strC i = true
    · rw [if_pos c] at e
      cases e
      exact ⟨i, by rw [rx.1], of_decide_eq_true c, q _ _ (.plain ⟨rfl, rfl⟩)⟩
    · rw [if_neg c] at e; cases e
  | non => cases e
  | bl b => cases e
  | str b => cases e
  | tup b => cases e
  | lst b => cases e
  | own b => cases e
/-! ### list(range(a, b, c)) -/
section
variable {X : Cx} {Eh : WX} {a b c : Expr} {ta : TA} {p pos p2 pos2 : Pos}
theorem prg_3 (hgR : Gl X "range") (hmR : X.mg "range" = none) (ha : PA X [a, b, c] ta) (hs : starEach [a, b, c] X.env = (false, eval a X.env) :: starEach [b, c] X.env := by rfl) (hpl : (backTo pos2 (starEach [b, c] X.env)).any (·.1) = false := by rfl)
    {pins : List (Addr × Obj)} {s0 : Shared} {σ : L2.St} {H : Hp} {R : Int → Int → Int → Nat → Hp → Prop} (I0 : Inv X pins σ H s0) (h : ta σ H fun vs H1 => ∃ (i j k : Int) (n : Nat), vs = [.int i, .int j, .int k] ∧ RgC i j k n ∧ R i j k n H1) :
    wpAny (model X.prog X.w) X.A (eval (.Call (.Name "range" p2) [a, b, c] [] pos2) X.env) (fun x s' => ∃ r i j k n t u v H', x = .ref r ∧ IsRange s'.heap r i j k t u v ∧ RgC i j k n ∧ Inv X pins σ H' s' ∧ R i j k n H') X.xe s0 := by
  refine Call_ (ld_blt I0 hgR hmR PyProof.Rows.boot_range (PyProof.Rows.callWith_type1 (thn (ha.run pos2 pins s0 σ H _ I0 h) fun us s9 ⟨vs, H1, I9, r9, q9⟩ => ?_) hs hpl))
  obtain ⟨i, j, k, n, e, rg, q⟩ := q9
  subst e
  cases r9 with
  | cons y1 z1 =>
    cases z1 with
    | cons y2 z2 =>
      cases z2 with
      | cons y3 z3 =>
        cases z3
        obtain ⟨t1, rfl⟩ := y1
        obtain ⟨t2, rfl⟩ := y2
        obtain ⟨t3, rfl⟩ := y3
        refine call_range_3 rg.1 ?_ (.inl (PyProof.noPylong_small rg.2.1))
        exact ⟨_, i, j, k, n, _, _, _, H1, rfl, IsRange.new _ _ _ _ _ _ _, rg, I9.kept (t' := s9.toks) fun b o e => Heap.get?_push_of_some _ e, q⟩
def rg3 (i j k : Int) : Bool := decide (k = -1) && rngC i && rngC j && decide ((i - j).toNat ≤ 16777216)
def dRng3 : List D → Option D
  | [.int i, .int j, .int k] => if rg3 i j k = true then some (.own ((List.range (i - j).toNat).map fun (m : Nat) => D.int (i + (m : Int) * k))) else none
  | _ => none
theorem dRng3_some {ds : List D} {z : D} (h : dRng3 ds = some z) : ∃ i j k, ds = [.int i, .int j, .int k] ∧ rg3 i j k = true ∧ z = .own ((List.range (i - j).toNat).map fun (m : Nat) => D.int (i + (m : Int) * k)) := by
  unfold dRng3 at h
  split at h
  · rename_i i j k
    by_cases c : rg3 i j k = true
    · rw [if_pos c] at h; cases h; exact ⟨i, j, k, rfl, c, rfl⟩
    · rw [if_neg c] at h; cases h
  · cases h
def xRngL3 (f : PM (List D)) : PM D := fun w => (f w).bind fun ds w1 => back (dRng3 ds) w1
theorem pp_rngL3 {f : PM (List D)} (hc : X.calm = true) (hg : Gl X "list") (hm : X.mg "list" = none) (hg2 : Gl X "range") (hm2 : X.mg "range" = none) (ha : PA X [a, b, c] (tA X.K X.mg Eh f))
    (hs : starEach [a, b, c] X.env = (false, eval a X.env) :: starEach [b, c] X.env := by rfl) (hpl : (backTo pos2 (starEach [b, c] X.env)).any (·.1) = false := by rfl) (nb : starEach [.Call (.Name "range" p2) [a, b, c] [] pos2] X.env = (false, eval (.Call (.Name "range" p2) [a, b, c] [] pos2) X.env) :: starEach [] X.env := by rfl) :
    PE X (.Call (.Name "list" p) [.Call (.Name "range" p2) [a, b, c] [] pos2] [] pos) (tP X.K X.mg Eh (xRngL3 f)) := by
  refine ⟨fun pins s0 σ H Q I0 h0 => ?_⟩
  have pre : tA X.K X.mg Eh f σ H fun vs H1 => ∃ (i j k : Int) (n : Nat), vs = [.int i, .int j, .int k] ∧ RgC i j k n ∧ n ≤ 2 ^ 24 ∧ ∀ q, H1 q = none → Q (.ref q) (upd H1 q (.lst ((List.range n).map fun (m : Nat) => V.int (i + (m : Int) * k)))) := by
    obtain ⟨w, F, hold, q⟩ := h0
    refine tA_run hold (Stp.refl fun _ m => m) q fun ds w2 us H2 F2 e st h2 q2 => ?_
    replace h2 : Hold X.K H2 w2 σ ds us F2 := h2
    obtain ⟨z, hz, q3⟩ := back_po q2
    obtain ⟨i, j, k, ed, cc, ez⟩ := dRng3_some hz
    subst ed; subst ez
    obtain ⟨ft, rt⟩ := h2.rvs
    obtain ⟨v1, r1, f1, g1, e1, p1, t1, _⟩ := rt
    obtain ⟨v2, r2, f2, g2, e2, p2', t2, _⟩ := t1
    obtain ⟨v3, r3, f3, g3, e3, p3, t3, _⟩ := t2
    obtain ⟨e4, _⟩ := t3
    unfold rg3 at cc
    simp only [Bool.and_eq_true, decide_eq_true_eq] at cc
    obtain ⟨⟨⟨c1, c2⟩, c3⟩, c4⟩ := cc
    subst c1
    have b1 : -(2 ^ 62) ≤ i ∧ i < 2 ^ 62 := of_decide_eq_true c2
    have b2 : -(2 ^ 62) ≤ j ∧ j < 2 ^ 62 := of_decide_eq_true c3
    refine ⟨i, j, -1, (i - j).toNat, ?_, RgC.neg b1.1 b1.2 b2.1 b2.2, c4, fun q' n' => fin_new q3 st h2 (new_own (rvs_ints (fun m => i + (m : Int) * -1) _) n')⟩
    rw [e1, e2, e3, e4, p1.1, p2'.1, p3.1]
  refine Call_ (ld_blt I0 hg hm PyProof.Rows.boot_list (PyProof.Rows.callWith_type1 (args_cons (thn (prg_3 hg2 hm2 ha hs hpl I0 pre) fun x s9 ⟨r, i, j, k, n, t, u, v, H1, ex, hr, rg, I9, le, qq⟩ => args_nil ?_) nb) nb))
  subst ex
  refine call_list_range (n := n) (I9.ok.hd hc) hr rg.2.2.1 rg.2.2.2 le fun g9 tk acc c9 hk e9 hi => ?_
  have hl : acc.toList.length = n := by rw [Array.length_toList]; exact hi.1
  have vv : Vals ((List.range n).map fun (m : Nat) => V.int (i + (m : Int) * k)) acc.toList := by
    rw [← hl]
    refine vals_of_get acc.toList _ fun m u hm => ?_
    exact hi.2 m u (by rw [← hm, Array.getElem?_toList])
  refine ⟨.ref s9.heap.objs.size, upd H1 s9.heap.objs.size (.lst ((List.range n).map fun (m : Nat) => V.int (i + (m : Int) * k))), I9.laid hk (Nat.le_refl _) (show ObjOk X.prog X.w _ _ _ (.lst _) from ⟨?_, acc.toList, c9, vv, ?_⟩), rfl, qq _ (I9.hok.fresh (Nat.le_refl _))⟩
  · rw [List.length_map, List.length_range, sizeLine_eq]; omega
  · rw [Array.toArray_toList]; exact e9
end
end Pm

set_option autoImplicit false
namespace Pm
open PySem PySem.Spec L2
/-! ### a new list freezes at once -/
def iceD : D → Option D
  | .own xs => if pls xs = true then some (.lst xs) else none
  | d => some d
def xIg (f : PM D) : PM D := fun w => (f w).bind fun d w1 => back (iceD d) w1
section
variable {X : Cx} {Eh : WX} {s : L2.St} {H : Hp} {F : List Addr}
theorem hold_iceT {K : PySem.W.Frag} {w : Ev} {xs : List D} {v : V} (h : Hold K H w s [.own xs] [v] F) (p : pls xs = true) :
    ∃ a us, v = .ref a ∧ H a = some (.lst us) ∧ ∀ od, ∃ F', Hold K (upd H a (.frz od (.lst us))) w s [.lst xs] [.ref a] F' ∧ Stp F H F' (upd H a (.frz od (.lst us))) := by
  obtain ⟨ft0, fe, k1, k2, pp, nd⟩ := h
  obtain ⟨v', r, f0, ft, e1, q, q2, e2⟩ := k1
  injection e1 with e3 e4
  subst e3; subst e4; subst e2
  obtain ⟨e9, e10⟩ := q2
  subst e10
  obtain ⟨a, us, f, e5, q5, r5, e6⟩ := q
  subst e5; subst e6
  have r6 := r5.nil_of p
  have ef : f = [] := rvs_pl xs us f p r5
  subst ef
  refine ⟨a, us, rfl, q5, fun od => ?_⟩
  have k : Kp [a] H (upd H a (.frz od (.lst us))) := fun b o e n => by rw [upd_ne (fun z => n (by rw [z]; exact List.mem_cons_self))]; exact e
  have mk : ∀ b ∈ [a], Mut (H b) := fun b m => by
    have e : b = a := by simpa using m
    rw [e, q5]; trivial
  have n0 : (a :: fe).Nodup := pp.nodup_iff.mp nd
  obtain ⟨na, n1⟩ := List.nodup_cons.mp n0
  have r4 := k2.kp k mk fun b mb z => by
    have e : b = a := by simpa using z
    exact na (e ▸ mb)
  have r7 := RVs.kp k mk xs us [] (fun _ z => nomatch z) r6
  have rl : RV K (upd H a (.frz od (.lst us))) (.lst xs) (.ref a) [] := ⟨a, us, rfl, .inl ⟨od, upd_same⟩, r7, rfl⟩
  have hh : Hold K (upd H a (.frz od (.lst us))) w s [] [] fe := ⟨[], fe, ⟨rfl, rfl⟩, r4, .refl _, n1⟩
  refine ⟨fe, hh.addP rl, fun b o e n => k b o e fun z => n ?_, fun b m => .inl (pp.mem_iff.mpr (List.mem_cons_of_mem _ m))⟩
  have e : b = a := by simpa using z
  rw [e]
  exact pp.mem_iff.mpr List.mem_cons_self
theorem pp_iceg {e : Expr} {f : PM D} (h : PE X e (tP X.K X.mg Eh f)) : PE X e (tP X.K X.mg Eh (xIg f)) := (pe_ice h).imp fun s H Q ⟨w, F, hold, q⟩ => by
  refine tP_run hold (Stp.refl fun _ m => m) q fun d w2 v H2 F2 e st h2 q2 => ?_
  replace h2 : Hold X.K H2 w2 s [d] [v] F2 := h2
  obtain ⟨z, hz, q3⟩ := back_po q2
  cases d with
  | own xs =>
    replace hz : (if pls xs = true then some (D.lst xs) else none) = some z := hz
    by_cases c : pls xs = true
    · rw [if_pos c] at hz
      cases hz
      obtain ⟨a, us, ev, ha, hx⟩ := hold_iceT h2 c
      subst ev
      refine .inr ⟨a, _, ha, trivial, fun od => ?_⟩
      obtain ⟨F', h', st'⟩ := hx od
      exact q3 _ _ F' (st.trans st') h'
    · rw [if_neg c] at hz; cases hz
  | non => cases hz; exact .inl (q3 v H2 F2 st h2)
  | bl b => cases hz; exact .inl (q3 v H2 F2 st h2)
  | int b => cases hz; exact .inl (q3 v H2 F2 st h2)
  | str b => cases hz; exact .inl (q3 v H2 F2 st h2)
  | tup b => cases hz; exact .inl (q3 v H2 F2 st h2)
  | lst b => cases hz; exact .inl (q3 v H2 F2 st h2)
end
end Pm

set_option autoImplicit true
namespace Pm
open PySem PySem.Spec L2
/-! ### is, of None and of bools -/
def dIsX (neg : Bool) : D → D → Option D
  | x, .non => some (.bl (if neg = true then !isN x else isN x))
  | .bl a, .bl b => some (.bl (if neg = true then !decide (a = b) else decide (a = b)))
  | _, _ => none
def rIsX (neg : Bool) : R2 := fun x y H Q => (y = .non ∧ Q (.bl (if neg = true then !decide (x = .non) else decide (x = .non))) H) ∨ ∃ a b, x = .bl a ∧ y = .bl b ∧ Q (.bl (if neg = true then !decide (a = b) else decide (a = b))) H
theorem op_isX {X : Cx} : OpR X (compareOp .Is) (rIsX false) := op_isN.or op_is_bl
theorem op_isnotX {X : Cx} : OpR X (compareOp .IsNot) (rIsX true) := op_notN.or op_isnot_bl
theorem ro_isX {K : PySem.W.Frag} (neg : Bool) : Ro2 K (rIsX neg) (dIsX neg) := fun H x y dx dy fx fy z Q rx ry e q => by
  cases dy with
  | non =>
    have e2 : some (D.bl (if neg = true then !isN dx else isN dx)) = some z := by
      rw [← e]; unfold dIsX; cases dx <;> rfl
    cases e2
    refine .inl ⟨ry.1, ?_⟩
    rw [isN_rv rx]
    exact q _ _ (.plain ⟨rfl, rfl⟩)
  | bl b =>
    cases dx with
    | bl a => cases e; exact .inr ⟨a, b, rx.1, ry.1, q _ _ (.plain ⟨rfl, rfl⟩)⟩
    | _ => cases e
  | _ => cases dx <;> cases e
@[simp] theorem dIsX_non {neg : Bool} {x : D} : dIsX neg x .non = some (.bl (if neg = true then !isN x else isN x)) := by unfold dIsX; cases x <;> rfl
@[simp] theorem dIsX_bl {neg a b : Bool} : dIsX neg (.bl a) (.bl b) = some (.bl (if neg = true then !decide (a = b) else decide (a = b))) := rfl
end Pm

set_option autoImplicit false
namespace Pm
open PySem PySem.Spec L2
/-! ### reading a mirror: weakest preconditions -/
def Wp {α : Type} (r : Rs α) (Q : α → Ev → Prop) : Prop := ∃ a w, r = .ok a w ∧ Q a w
def WpR (r : Rd) (Q : D → List D → Prop) : Prop := ∃ d os, r = .ok d os ∧ Q d os
theorem Wp.mono {α : Type} {r : Rs α} {Q Q' : α → Ev → Prop} (h : Wp r Q) (i : ∀ a w, Q a w → Q' a w) : Wp r Q' := by
  obtain ⟨a, w, e, q⟩ := h; exact ⟨a, w, e, i a w q⟩
theorem WpR.mono {r : Rd} {Q Q' : D → List D → Prop} (h : WpR r Q) (i : ∀ a w, Q a w → Q' a w) : WpR r Q' := by
  obtain ⟨a, w, e, q⟩ := h; exact ⟨a, w, e, i a w q⟩
@[simp] theorem wp_ok {α : Type} {a : α} {w : Ev} {Q : α → Ev → Prop} : Wp (.ok a w) Q ↔ Q a w := ⟨fun ⟨_, _, e, q⟩ => by cases e; exact q, fun q => ⟨a, w, rfl, q⟩⟩
@[simp] theorem wp_bad {α : Type} {Q : α → Ev → Prop} : Wp (.bad : Rs α) Q ↔ False := ⟨fun ⟨_, _, e, q⟩ => (by cases e), fun h => h.elim⟩
theorem wp_bind {α β : Type} {r : Rs α} {k : α → Ev → Rs β} {Q : β → Ev → Prop} : Wp (r.bind k) Q ↔ Wp r fun a w => Wp (k a w) Q := by
  cases r with
  | ok a w => exact ⟨fun h => ⟨a, w, rfl, h⟩, fun ⟨_, _, e, q⟩ => by cases e; exact q⟩
  | ex c fs w => exact ⟨fun ⟨_, _, e, _⟩ => (by cases e), fun ⟨_, _, e, _⟩ => (by cases e)⟩
  | bad => exact ⟨fun ⟨_, _, e, _⟩ => (by cases e), fun ⟨_, _, e, _⟩ => (by cases e)⟩
theorem wp_bindN {α β : Type} {r : Rs α} {k : α → Ev → Rs β} {Q : β → Ev → Prop} : Wp (r.bindN k) Q ↔ Wp r fun a w => Wp (k a w) Q := by
  cases r with
  | ok a w => exact ⟨fun h => ⟨a, w, rfl, h⟩, fun ⟨_, _, e, q⟩ => by cases e; exact q⟩
  | ex c fs w => exact ⟨fun ⟨_, _, e, _⟩ => (by cases e), fun ⟨_, _, e, _⟩ => (by cases e)⟩
  | bad => exact ⟨fun ⟨_, _, e, _⟩ => (by cases e), fun ⟨_, _, e, _⟩ => (by cases e)⟩
section
variable {w : Ev} {Q : D → Ev → Prop} {QL : List D → Ev → Prop} {QB : Bool → Ev → Prop} {QS : Fl → Ev → Prop}
@[local simp] theorem wp_back {o : Option D} : Wp (back o w) Q ↔ ∃ z, o = some z ∧ Q z w := by
  cases o <;> simp
@[local simp] theorem wp_backB {o : Option Bool} : Wp (backB o w) QB ↔ ∃ z, o = some z ∧ QB z w := by
  cases o <;> simp
/-! slots -/
@[simp] theorem slot_zero {d : D} {l : Ev} : slot (some d :: l) 0 = some d := rfl
@[simp] theorem slot_zeroN {l : Ev} : slot (none :: l) 0 = none := rfl
@[simp] theorem slot_succ {x : Option D} {l : Ev} {n : Nat} : slot (x :: l) (n + 1) = slot l n := by unfold slot; rw [List.getElem?_cons_succ]
@[simp] theorem qV_eq {j : Nat} : qV j w = slot w j := rfl
@[simp] theorem wp_C {d : D} : Wp (xC d w) Q ↔ Q d w := by unfold xC; simp
@[local simp] theorem wp_P {q : Ev → Option D} : Wp (xP q w) Q ↔ ∃ d, q w = some d ∧ pl d = true ∧ Q d w := by
  unfold xP
  cases e : q w with
  | none => simp
  | some d => by_cases c : pl d = true <;> simp [c]
@[local simp] theorem wp_T {j : Nat} : Wp (xT j w) Q ↔ ∃ d, slot w j = some d ∧ Q d (w.set j none) := by
  unfold xT
  cases e : slot w j <;> simp
def iceQ (Q : D → Ev → Prop) (j : Nat) (w : Ev) : D → Prop
  | .own xs => pls xs = true ∧ Q (.lst xs) (w.set j (some (.lst xs)))
  | .tup xs => pls xs = true ∧ Q (.tup xs) w
  | d => Q d w
@[simp] theorem iceQ_own {j : Nat} {xs : List D} : iceQ Q j w (.own xs) ↔ pls xs = true ∧ Q (.lst xs) (w.set j (some (.lst xs))) := .rfl
@[simp] theorem iceQ_tup {j : Nat} {xs : List D} : iceQ Q j w (.tup xs) ↔ pls xs = true ∧ Q (.tup xs) w := .rfl
@[simp] theorem iceQ_int {j : Nat} {i : Int} : iceQ Q j w (.int i) ↔ Q (.int i) w := .rfl
@[simp] theorem iceQ_bl {j : Nat} {i : Bool} : iceQ Q j w (.bl i) ↔ Q (.bl i) w := .rfl
@[simp] theorem iceQ_str {j : Nat} {i : Str} : iceQ Q j w (.str i) ↔ Q (.str i) w := .rfl
@[simp] theorem iceQ_lst {j : Nat} {i : List D} : iceQ Q j w (.lst i) ↔ Q (.lst i) w := .rfl
@[simp] theorem iceQ_non {j : Nat} : iceQ Q j w .non ↔ Q .non w := .rfl
@[simp] theorem pl_int {i : Int} : pl (.int i) = true := rfl
@[simp] theorem pl_bl {i : Bool} : pl (.bl i) = true := rfl
@[simp] theorem pl_str {i : Str} : pl (.str i) = true := rfl
@[simp] theorem pl_lst {i : List D} : pl (.lst i) = true := rfl
@[simp] theorem pl_non : pl .non = true := rfl
@[simp] theorem pl_tup {i : List D} : pl (.tup i) = pls i := rfl
@[simp] theorem pl_own {i : List D} : pl (.own i) = false := rfl
@[simp] theorem pls_nil : pls [] = true := rfl
@[simp] theorem pls_cons {d : D} {ds : List D} : pls (d :: ds) = (pl d && pls ds) := rfl
theorem pls_all' {ds : List D} : pls ds = true ↔ ∀ d ∈ ds, pl d = true := by
  induction ds with
  | nil => simp
  | cons d ds ih => simp [ih]
theorem pls_map {α : Type} {f : α → D} (h : ∀ a, pl (f a) = true) (l : List α) : pls (l.map f) = true := pls_all'.mpr fun d m => by
  obtain ⟨a, _, e⟩ := List.mem_map.mp m
  rw [← e]; exact h a
@[simp] theorem pls_ints {l : List Int} : pls (l.map D.int) = true := pls_map (fun _ => rfl) l
@[simp] theorem pls_rows {l : List (List Int)} : pls (l.map fun r => D.tup (r.map D.int)) = true := pls_map (fun a => by rw [pl_tup]; exact pls_ints) l
@[simp] theorem pls_app {a b : List D} : pls (a ++ b) = (pls a && pls b) := by
  induction a with
  | nil => simp
  | cons d ds ih => simp [ih, Bool.and_assoc]
@[local simp] theorem wp_I {j : Nat} : Wp (xI j w) Q ↔ ∃ d, slot w j = some d ∧ iceQ Q j w d := by
  unfold xI
  cases e : slot w j with
  | none => simp
  | some d => cases d with
    | own xs => by_cases c : pls xs = true <;> simp [c, ownD]
    | tup xs => by_cases c : pls xs = true <;> simp [c, ownD]
    | non => simp
    | bl b => simp
    | int b => simp
    | str b => simp
    | lst b => simp
def kQ (Q : D → Ev → Prop) (j : Nat) (w : Ev) (d : D) : Prop := if pl d = true then Q d w else Q d (w.set j none)
@[simp] theorem kQ_own {j : Nat} {xs : List D} : kQ Q j w (.own xs) ↔ Q (.own xs) (w.set j none) := by simp [kQ]
@[simp] theorem kQ_lst {j : Nat} {xs : List D} : kQ Q j w (.lst xs) ↔ Q (.lst xs) w := by simp [kQ]
@[simp] theorem kQ_tup {j : Nat} {xs : List D} : kQ Q j w (.tup xs) ↔ if pls xs = true then Q (.tup xs) w else Q (.tup xs) (w.set j none) := .rfl
@[local simp] theorem wp_K {j : Nat} : Wp (xK j w) Q ↔ ∃ d, slot w j = some d ∧ kQ Q j w d := by
  unfold xK
  cases e : slot w j with
  | none => simp
  | some d => by_cases c : pl d = true <;> simp [c, kQ]
/-! operations -/
@[local simp] theorem wp_1g {op : D → Option D} {f : PM D} : Wp (x1g op f w) Q ↔ Wp (f w) fun x w1 => ∃ z, op x = some z ∧ Q z w1 := by unfold x1g; simp [wp_bind]
@[local simp] theorem wp_1p {op : D → Option D} {q : Ev → Option D} : Wp (x1p op q w) Q ↔ ∃ x, q w = some x ∧ ∃ z, op x = some z ∧ Q z w := by
  unfold x1p; cases e : q w <;> simp
@[local simp] theorem wp_2gg {op : D → D → Option D} {f g : PM D} : Wp (x2gg op f g w) Q ↔ Wp (f w) fun x w1 => Wp (g w1) fun y w2 => ∃ z, op x y = some z ∧ Q z w2 := by unfold x2gg; simp [wp_bind]
@[local simp] theorem wp_2gp {op : D → D → Option D} {f : PM D} {q : Ev → Option D} : Wp (x2gp op f q w) Q ↔ Wp (f w) fun x w1 => ∃ y, q w1 = some y ∧ ∃ z, op x y = some z ∧ Q z w1 := by
  unfold x2gp; simp only [wp_bind, wp_back]
  refine ⟨fun h => h.mono fun a w h => ?_, fun h => h.mono fun a w h => ?_⟩
  · obtain ⟨z, h1, h2⟩ := h; obtain ⟨y, h3, h4⟩ := Option.bind_eq_some_iff.mp h1; exact ⟨y, h3, z, h4, h2⟩
  · obtain ⟨y, h3, z, h4, h2⟩ := h; exact ⟨z, by rw [h3]; exact h4, h2⟩
@[local simp] theorem wp_2vg {op : D → D → Option D} {j : Nat} {g : PM D} : Wp (x2vg op j g w) Q ↔ (∃ x0, slot w j = some x0) ∧ Wp (g w) fun y w2 => ∃ x, slot w2 j = some x ∧ ∃ z, op x y = some z ∧ Q z w2 := by
  unfold x2vg
  cases e : slot w j with
  | none => simp
  | some d =>
    simp only [wp_bind, wp_back, Option.some.injEq, exists_eq', true_and]
    refine ⟨fun h => h.mono fun a w h => ?_, fun h => h.mono fun a w h => ?_⟩
    · obtain ⟨z, h1, h2⟩ := h; obtain ⟨y, h3, h4⟩ := Option.bind_eq_some_iff.mp h1; exact ⟨y, h3, z, h4, h2⟩
    · obtain ⟨y, h3, z, h4, h2⟩ := h; exact ⟨z, by rw [h3]; exact h4, h2⟩
@[local simp] theorem wp_2pp {op : D → D → Option D} {q1 q2 : Ev → Option D} : Wp (x2pp op q1 q2 w) Q ↔ ∃ x, q1 w = some x ∧ ∃ y, q2 w = some y ∧ ∃ z, op x y = some z ∧ Q z w := by
  unfold x2pp; cases e : q1 w <;> cases e2 : q2 w <;> simp [e2]
@[simp] theorem wp_nil : Wp (xNil w) QL ↔ QL [] w := by unfold xNil; simp
@[simp] theorem wp_cons {f : PM D} {g : PM (List D)} : Wp (xCons f g w) QL ↔ Wp (f w) fun d w1 => Wp (g w1) fun ds w2 => QL (d :: ds) w2 := by unfold xCons; simp [wp_bind]
@[local simp] theorem wp_tup {f : PM (List D)} : Wp (xTup f w) Q ↔ Wp (f w) fun ds w1 => ∃ z, mkTup ds = some z ∧ Q z w1 := by unfold xTup; simp [wp_bind]
@[local simp] theorem wp_own {f : PM (List D)} : Wp (xOwn f w) Q ↔ Wp (f w) fun ds w1 => ∃ z, mkOwn ds = some z ∧ Q z w1 := by unfold xOwn; simp [wp_bind]
theorem big : (1000000 : Nat) ≤ sizeLine := by decide
@[local simp] theorem wp_Bl {f : PM D} : Wp (tBl f w) QB ↔ Wp (f w) fun d w1 => ∃ b, d = .bl b ∧ QB b w1 := by
  unfold tBl
  simp only [wp_bind, wp_backB]
  have e : ∀ (d : D) (b : Bool), blD d = some b ↔ d = .bl b := fun d b => by cases d <;> simp [blD]
  simp [e]
@[local simp] theorem wp_Tru {f : PM D} : Wp (tTru f w) QB ↔ Wp (f w) fun d w1 => ∃ b, truD d = some b ∧ QB b w1 := by unfold tTru; simp [wp_bind]
@[local simp] theorem wp_TruP {q : Ev → Option D} : Wp (tTruP q w) QB ↔ ∃ d, q w = some d ∧ ∃ b, truD d = some b ∧ QB b w := by unfold tTruP; cases e : q w <;> simp
@[simp] theorem wp_NotF {t : PM Bool} : Wp (tNotF t w) QB ↔ Wp (t w) fun b w1 => QB (!b) w1 := by unfold tNotF; simp [wp_bind]
@[local simp] theorem wp_AndF {t u : PM Bool} : Wp (tAndF t u w) QB ↔ Wp (t w) fun b w1 => if b = true then Wp (u w1) QB else QB false w1 := by
  unfold tAndF; simp only [wp_bind]
  refine ⟨fun h => h.mono fun b w h => ?_, fun h => h.mono fun b w h => ?_⟩ <;> cases b <;> simpa using h
@[local simp] theorem wp_OrF {t u : PM Bool} : Wp (tOrF t u w) QB ↔ Wp (t w) fun b w1 => if b = true then QB true w1 else Wp (u w1) QB := by
  unfold tOrF; simp only [wp_bind]
  refine ⟨fun h => h.mono fun b w h => ?_, fun h => h.mono fun b w h => ?_⟩ <;> cases b <;> simpa using h
@[local simp] theorem wp_xAnd {f g : PM D} : Wp (xAnd f g w) Q ↔ Wp (f w) fun d w1 => ∃ b, d = .bl b ∧ if b = true then Wp (g w1) Q else Q (.bl false) w1 := by
  unfold xAnd; simp only [wp_bind]
  refine ⟨fun h => h.mono fun d w h => ?_, fun h => h.mono fun d w h => ?_⟩
  · cases d with
    | bl b => exact ⟨b, rfl, by cases b <;> simpa [blD] using h⟩
    | _ => simp [blD] at h
  · obtain ⟨b, e, h⟩ := h; subst e; cases b <;> simpa [blD] using h
@[local simp] theorem wp_xOr {f g : PM D} : Wp (xOr f g w) Q ↔ Wp (f w) fun d w1 => ∃ b, d = .bl b ∧ if b = true then Q (.bl true) w1 else Wp (g w1) Q := by
  unfold xOr; simp only [wp_bind]
  refine ⟨fun h => h.mono fun d w h => ?_, fun h => h.mono fun d w h => ?_⟩
  · cases d with
    | bl b => exact ⟨b, rfl, by cases b <;> simpa [blD] using h⟩
    | _ => simp [blD] at h
  · obtain ⟨b, e, h⟩ := h; subst e; cases b <;> simpa [blD] using h
@[local simp] theorem wp_xIf {t : PM Bool} {f g : PM D} : Wp (xIf t f g w) Q ↔ Wp (t w) fun b w1 => if b = true then Wp (f w1) Q else Wp (g w1) Q := by
  unfold xIf; simp only [wp_bind]
  refine ⟨fun h => h.mono fun b w h => ?_, fun h => h.mono fun b w h => ?_⟩ <;> cases b <;> simpa using h
@[local simp] theorem wp_App {j : Nat} {f : PM D} : Wp (xApp j f w) Q ↔ (∃ xs0, slot w j = some (.own xs0)) ∧ Wp (f w) fun d w1 => ∃ xs, slot w1 j = some (.own xs) ∧ xs.length < sizeLine ∧ Q .non (w1.set j (some (.own (xs ++ [d])))) := by
  have e : ∀ (w : Ev) (xs : List D), (slot w j).bind ownD = some xs ↔ slot w j = some (.own xs) := fun w xs => by
    cases z : slot w j with
    | none => simp
    | some d => cases d <;> simp [ownD]
  unfold xApp
  cases c : (slot w j).bind ownD with
  | none =>
    have : ∀ xs, slot w j ≠ some (.own xs) := fun xs z => by rw [(e w xs).mpr z] at c; cases c
    simp [this]
  | some xs =>
    have h1 := (e w xs).mp c
    simp only [wp_bind, h1, Option.some.injEq, D.own.injEq, exists_eq', true_and]
    refine ⟨fun h => h.mono fun d w1 h => ?_, fun h => h.mono fun d w1 h => ?_⟩
    · cases c2 : (slot w1 j).bind ownD with
      | none => rw [c2] at h; simp at h
      | some ys =>
        rw [c2] at h
        by_cases l : ys.length < sizeLine
        · exact ⟨ys, (e w1 ys).mp c2, l, by simpa [l] using h⟩
        · simp [l] at h
    · obtain ⟨ys, h2, l, h3⟩ := h
      rw [(e w1 ys).mpr h2]
      simpa [l] using h3
@[local simp] theorem wp_PopAt {j : Nat} {f : PM D} : Wp (xPopAt j f w) Q ↔ (∃ xs0, slot w j = some (.own xs0)) ∧ Wp (f w) fun d w1 => ∃ xs i k y, slot w1 j = some (.own xs) ∧ d = .int i ∧ ixN xs.length i = some k ∧ xs[k]? = some y ∧ xs.length ≤ sizeLine ∧ Q y (w1.set j (some (.own (xs.eraseIdx k)))) := by
  have e : ∀ (w : Ev) (xs : List D), (slot w j).bind ownD = some xs ↔ slot w j = some (.own xs) := fun w xs => by
    cases z : slot w j with
    | none => simp
    | some d => cases d <;> simp [ownD]
  unfold xPopAt
  cases c : (slot w j).bind ownD with
  | none =>
    have : ∀ xs, slot w j ≠ some (.own xs) := fun xs z => by rw [(e w xs).mpr z] at c; cases c
    simp [this]
  | some xs =>
    have h1 := (e w xs).mp c
    simp only [wp_bind, h1, Option.some.injEq, D.own.injEq, exists_eq', true_and]
    refine ⟨fun h => h.mono fun d w1 h => ?_, fun h => h.mono fun d w1 h => ?_⟩
    · cases c2 : (slot w1 j).bind ownD with
      | none => rw [c2] at h; simp at h
      | some ys =>
        rw [c2] at h
        cases d with
        | int i =>
          cases c3 : ixN ys.length i with
          | none => simp [c3] at h
          | some k =>
            cases c4 : ys[k]? with
            | none => simp [c3, c4] at h
            | some y =>
              by_cases l : ys.length ≤ sizeLine
              · exact ⟨ys, i, k, y, (e w1 ys).mp c2, rfl, c3, c4, l, by simpa [c3, c4, l] using h⟩
              · simp [c3, c4, l] at h
        | _ => simp at h
    · obtain ⟨ys, i, k, y, h2, h3, h4, h5, l, h6⟩ := h
      subst h3
      rw [(e w1 ys).mpr h2]
      simpa [h4, h5, l] using h6
@[local simp] theorem wp_RngL {f : PM D} : Wp (xRngL f w) Q ↔ Wp (f w) fun d w1 => ∃ z, dRng d = some z ∧ Q z w1 := by unfold xRngL; simp [wp_bind]
@[simp] theorem wp_bN {QO : Option Int → Ev → Prop} : Wp (bN w) QO ↔ QO none w := by unfold bN; simp
@[local simp] theorem wp_bS {f : PM D} {QO : Option Int → Ev → Prop} : Wp (bS f w) QO ↔ Wp (f w) fun d w1 => ∃ i, d = .int i ∧ QO (some i) w1 := by
  unfold bS; simp only [wp_bind]
  refine ⟨fun h => h.mono fun d w h => ?_, fun h => h.mono fun d w h => ?_⟩
  · cases d with
    | int i => exact ⟨i, rfl, by simpa [intD] using h⟩
    | _ => simp [intD] at h
  · obtain ⟨i, e, h⟩ := h; subst e; simpa [intD] using h
@[local simp] theorem wp_Slg {f : PM D} {l u : PM (Option Int)} : Wp (xSlg f l u w) Q ↔ Wp (f w) fun d w1 => Wp (l w1) fun lo w2 => Wp (u w2) fun hi w3 => ∃ z, dSl d lo hi = some z ∧ Q z w3 := by unfold xSlg; simp [wp_bind]
@[local simp] theorem wp_Slv {j : Nat} {l u : PM (Option Int)} : Wp (xSlv j l u w) Q ↔ (∃ x0, slot w j = some x0) ∧ Wp (l w) fun lo w2 => Wp (u w2) fun hi w3 => ∃ d, slot w3 j = some d ∧ ∃ z, dSl d lo hi = some z ∧ Q z w3 := by
  unfold xSlv
  cases e : slot w j with
  | none => simp
  | some d =>
    simp only [wp_bind, wp_back, Option.some.injEq, exists_eq', true_and]
    refine ⟨fun h => h.mono fun a w h => h.mono fun b w h => ?_, fun h => h.mono fun a w h => h.mono fun b w h => ?_⟩
    · obtain ⟨z, h1, h2⟩ := h; obtain ⟨y, h3, h4⟩ := Option.bind_eq_some_iff.mp h1; exact ⟨y, h3, z, h4, h2⟩
    · obtain ⟨y, h3, z, h4, h2⟩ := h; exact ⟨z, by rw [h3]; exact h4, h2⟩
/-! calls -/
@[simp] theorem wp_Call {np : Nat} {js : List Nat} {m : List D → Rd} {f : PM (List D)} : Wp (xCall np js m f w) Q ↔ Wp (f w) fun ds w1 => ds.length = np ∧ WpR (m ds) fun d outs => Q d (putB (js.map some) outs w1) := by
  unfold xCall; simp only [wp_bind]
  refine ⟨fun h => h.mono fun ds w h => ?_, fun h => h.mono fun ds w h => ?_⟩
  · by_cases c : ds.length = np
    · rw [if_pos c] at h
      cases e : m ds with
      | ok d os => rw [e] at h; exact ⟨c, d, os, rfl, by simpa using h⟩
      | ex _ _ _ => rw [e] at h; simp at h
      | bad => rw [e] at h; simp at h
    · rw [if_neg c] at h; simp at h
  · obtain ⟨c, d, os, e, h⟩ := h
    rw [if_pos c, e]; simpa using h
@[simp] theorem putB_nil {ds : List D} : putB [] ds w = w := by unfold putB; rfl
@[simp] theorem putB_some {j : Nat} {ks : List (Option Nat)} {d : D} {ds : List D} : putB (some j :: ks) (d :: ds) w = putB ks ds (w.set j (some d)) := rfl
@[simp] theorem putB_none {ks : List (Option Nat)} {d : D} {ds : List D} : putB (none :: ks) (d :: ds) w = putB ks ds w := rfl
@[simp] theorem putB_nil2 {ks : List (Option Nat)} : putB ks [] w = w := by
  cases ks with
  | nil => rfl
  | cons k ks => cases k <;> rfl
def endQ (io : List Nat) (Q : D → List D → Prop) : Fl → Ev → Prop
  | .rt d, w => ∃ os, outsOf io w = some os ∧ Q d os
  | .nx, w => ∃ os, outsOf io w = some os ∧ Q .non os
  | _, _ => False
@[local simp] theorem endQ_rt {io : List Nat} {QR : D → List D → Prop} {d : D} : endQ io QR (.rt d) w ↔ ∃ os, outsOf io w = some os ∧ QR d os := .rfl
@[local simp] theorem endQ_nx {io : List Nat} {QR : D → List D → Prop} : endQ io QR .nx w ↔ ∃ os, outsOf io w = some os ∧ QR .non os := .rfl
@[simp] theorem outsOf_nil : outsOf [] w = some [] := rfl
@[local simp] theorem outsOf_cons' {k : Nat} {io : List Nat} {os : List D} : outsOf (k :: io) w = some os ↔ ∃ d, slot w k = some d ∧ ∃ ds, outsOf io w = some ds ∧ os = d :: ds := by
  conv => lhs; unfold outsOf
  cases slot w k <;> cases outsOf io w <;> simp [eq_comm]
theorem wpr_mk {N np : Nat} {io : List Nat} {body : PM Fl} {ds : List D} {QR : D → List D → Prop} (h1 : ds.length = np) (h : Wp (body (startE N ds)) (endQ io QR)) : WpR (mkDef N np io body ds) QR := by
  obtain ⟨fl, w', e, q⟩ := h
  unfold mkDef
  rw [if_pos h1, e]
  cases fl with
  | rt d =>
    obtain ⟨os, e1, q⟩ := q
    show WpR (endD d (outsOf io w')) QR
    rw [e1]; exact ⟨d, os, rfl, q⟩
  | nx =>
    obtain ⟨os, e1, q⟩ := q
    show WpR (endD .non (outsOf io w')) QR
    rw [e1]; exact ⟨.non, os, rfl, q⟩
  | bk => exact q.elim
  | ct => exact q.elim
/-! statements -/
def seqQ (g : PM Fl) (Q : Fl → Ev → Prop) : Fl → Ev → Prop
  | .nx, w => Wp (g w) Q
  | fl, w => Q fl w
@[simp] theorem seqQ_nx {g : PM Fl} : seqQ g QS .nx w ↔ Wp (g w) QS := .rfl
@[simp] theorem seqQ_rt {g : PM Fl} {d : D} : seqQ g QS (.rt d) w ↔ QS (.rt d) w := .rfl
@[simp] theorem seqQ_bk {g : PM Fl} : seqQ g QS .bk w ↔ QS .bk w := .rfl
@[simp] theorem seqQ_ct {g : PM Fl} : seqQ g QS .ct w ↔ QS .ct w := .rfl
@[simp] theorem wp_Nx : Wp (sNx w) QS ↔ QS .nx w := by unfold sNx; simp
@[simp] theorem wp_Bk : Wp (sBk w) QS ↔ QS .bk w := by unfold sBk; simp
@[simp] theorem wp_Ct : Wp (sCt w) QS ↔ QS .ct w := by unfold sCt; simp
@[simp] theorem wp_Seq {f g : PM Fl} : Wp (sSeq f g w) QS ↔ Wp (f w) (seqQ g QS) := by
  unfold sSeq; simp only [wp_bind]
  refine ⟨fun h => h.mono fun fl w h => ?_, fun h => h.mono fun fl w h => ?_⟩ <;> cases fl <;> simpa using h
@[local simp] theorem wp_If {t : PM Bool} {f g : PM Fl} : Wp (sIf t f g w) QS ↔ Wp (t w) fun b w1 => if b = true then Wp (f w1) QS else Wp (g w1) QS := by
  unfold sIf; simp only [wp_bind]
  refine ⟨fun h => h.mono fun b w h => ?_, fun h => h.mono fun b w h => ?_⟩ <;> cases b <;> simpa using h
@[simp] theorem wp_Ret {f : PM D} : Wp (sRet f w) QS ↔ Wp (f w) fun d w1 => QS (.rt d) w1 := by unfold sRet; simp [wp_bind]
@[simp] theorem wp_Expr {f : PM D} : Wp (sExpr f w) QS ↔ Wp (f w) fun _ w1 => QS .nx w1 := by unfold sExpr; simp [wp_bind]
@[local simp] theorem wp_backW {o : Option Ev} : Wp (backW o) QS ↔ ∃ w1, o = some w1 ∧ QS .nx w1 := by cases o <;> simp
@[local simp] theorem setE_some {i : Nat} {d : D} {w1 : Ev} : setE w i d = some w1 ↔ i < w.length ∧ w1 = w.set i (some d) := by
  unfold setE
  by_cases c : i < w.length <;> simp [c, eq_comm]
@[local simp] theorem wp_Set {i : Nat} {f : PM D} : Wp (sSet i f w) QS ↔ Wp (f w) fun d w1 => i < w1.length ∧ QS .nx (w1.set i (some d)) := by
  unfold sSet; simp [wp_bind, and_assoc]
@[local simp] theorem wp_Aug {i : Nat} {op : D → D → Option D} {f : PM D} : Wp (sAug i op f w) QS ↔ ∃ d0, slot w i = some d0 ∧ pl d0 = true ∧ Wp (f w) fun d w1 => ∃ z, op d0 d = some z ∧ i < w1.length ∧ QS .nx (w1.set i (some z)) := by
  unfold sAug
  cases e : slot w i with
  | none => simp
  | some d0 =>
    by_cases c : pl d0 = true
    · simp only [c, if_true, wp_bind, Option.some.injEq, exists_eq_left', true_and]
      refine ⟨fun h => h.mono fun d w h => ?_, fun h => h.mono fun d w h => ?_⟩
      · cases ez : op d0 d with
        | none => rw [ez] at h; simp at h
        | some z => rw [ez] at h; exact ⟨z, rfl, by simpa [and_assoc] using h⟩
      · obtain ⟨z, ez, h⟩ := h; rw [ez]; simpa [and_assoc] using h
    · simp [c]
@[local simp] theorem wp_SetI {j : Nat} {f g : PM D} : Wp (sSetI j f g w) QS ↔ Wp (f w) fun d w1 => (∃ x0, slot w1 j = some x0) ∧ Wp (g w1) fun i w2 => ∃ xs n k, slot w2 j = some (.own xs) ∧ i = .int n ∧ ixN xs.length n = some k ∧ QS .nx (w2.set j (some (.own (xs.set k d)))) := by
  have e : ∀ (w : Ev) (xs : List D), (slot w j).bind ownD = some xs ↔ slot w j = some (.own xs) := fun w xs => by
    cases z : slot w j with
    | none => simp
    | some d => cases d <;> simp [ownD]
  unfold sSetI; simp only [wp_bind]
  refine ⟨fun h => h.mono fun d w h => ?_, fun h => h.mono fun d w h => ?_⟩
  · cases c : slot w j with
    | none => rw [c] at h; simp at h
    | some x =>
      rw [c] at h
      refine ⟨⟨x, rfl⟩, ?_⟩
      simp only [wp_bind] at h
      refine h.mono fun i w2 h => ?_
      cases c2 : (slot w2 j).bind ownD with
      | none => rw [c2] at h; simp at h
      | some ys =>
        rw [c2] at h
        cases i with
        | int n =>
          cases c3 : ixN ys.length n with
          | none => simp [c3] at h
          | some k => exact ⟨ys, n, k, (e w2 ys).mp c2, rfl, c3, by simpa [c3] using h⟩
        | _ => simp at h
  · obtain ⟨⟨x, c⟩, h⟩ := h
    rw [c]
    simp only [wp_bind]
    refine h.mono fun i w2 h => ?_
    obtain ⟨ys, n, k, h1, h2, h3, h4⟩ := h
    subst h2
    rw [(e w2 ys).mpr h1]
    simpa [h3] using h4
/-! loops -/
@[local simp] theorem wp_iW {k : List D → Option (List D × List D)} {f : PM (List D)} {QP : List D × List D → Ev → Prop} : Wp (iW k f w) QP ↔ Wp (f w) fun ds w1 => ∃ p, k ds = some p ∧ QP p w1 := by
  unfold iW; simp only [wp_bind]
  refine ⟨fun h => h.mono fun d w h => ?_, fun h => h.mono fun d w h => ?_⟩
  · cases e : k d with
    | none => rw [e] at h; simp at h
    | some p => rw [e] at h; exact ⟨p, rfl, by simpa using h⟩
  · obtain ⟨p, e, h⟩ := h; rw [e]; simpa using h
@[simp] theorem wp_For {ks : List (Option Nat)} {it : PM (List D × List D)} {tg : Tgt} {body : PM Fl} : Wp (sFor ks it tg body w) QS ↔ Wp (it w) fun p w1 => Wp (forL tg body p.1 w1) fun fl w2 => QS fl (putB ks p.2 w2) := by
  unfold sFor; simp only [wp_bind]
  refine ⟨fun h => h.mono fun p w h => ?_, fun h => h.mono fun p w h => ?_⟩
  · cases e : forL tg body p.1 w with
    | ok fl w2 => rw [e] at h; unfold putR at h; simpa using h
    | ex _ _ _ => rw [e] at h; obtain ⟨_, _, z, _⟩ := h; cases z
    | bad => rw [e] at h; obtain ⟨_, _, z, _⟩ := h; cases z
  · obtain ⟨fl, w2, e, q⟩ := h
    rw [e]; unfold putR; simpa using q
def loopQ (J : Ev → Prop) (Q : Fl → Ev → Prop) : Fl → Ev → Prop
  | .nx, w => J w
  | .ct, w => J w
  | .bk, w => Q .nx w
  | .rt d, w => Q (.rt d) w
@[simp] theorem loopQ_nx {J : Ev → Prop} : loopQ J QS .nx w ↔ J w := .rfl
@[simp] theorem loopQ_ct {J : Ev → Prop} : loopQ J QS .ct w ↔ J w := .rfl
@[simp] theorem loopQ_bk {J : Ev → Prop} : loopQ J QS .bk w ↔ QS .nx w := .rfl
@[simp] theorem loopQ_rt {J : Ev → Prop} {d : D} : loopQ J QS (.rt d) w ↔ QS (.rt d) w := .rfl
theorem wp_for {tg : Tgt} {body : PM Fl} (I : Nat → Ev → Prop) : ∀ {items : List D} {n : Nat} {w : Ev}, I n w → (∀ w, I (n + items.length) w → QS .nx w) →
    (∀ i d w, items[i]? = some d → I (n + i) w → ∃ w1, setT tg d w = some w1 ∧ Wp (body w1) (loopQ (I (n + i + 1)) QS)) → Wp (forL tg body items w) QS
  | [], n, w, h0, he, hs => by
    rw [forL_nil, wp_ok]; exact he w h0
  | d :: ds, n, w, h0, he, hs => by
    obtain ⟨w1, e1, h1⟩ := hs 0 d w rfl h0
    rw [forL_cons, e1]
    simp only [wp_bind]
    refine h1.mono fun fl w2 h2 => ?_
    have rcd : I (n + 1) w2 → Wp (forL tg body ds w2) QS := fun h => wp_for I h (fun w hw => he w (by rw [List.length_cons]; rw [show n + (ds.length + 1) = n + 1 + ds.length by omega]; exact hw)) fun i d' w' hi hw => by
      have := hs (i + 1) d' w' (by rw [List.getElem?_cons_succ]; exact hi) (by rw [show n + (i + 1) = n + 1 + i by omega]; exact hw)
      rw [show n + (i + 1) + 1 = n + 1 + i + 1 by omega] at this
      exact this
    cases fl with
    | nx => exact rcd h2
    | ct => exact rcd h2
    | bk => exact wp_ok.mpr h2
    | rt v => exact wp_ok.mpr h2
theorem wp_for0 {tg : Tgt} {body : PM Fl} {items : List D} (I : Nat → Ev → Prop) (h0 : I 0 w) (he : ∀ w, I items.length w → QS .nx w)
    (hs : ∀ i d w, items[i]? = some d → I i w → ∃ w1, setT tg d w = some w1 ∧ Wp (body w1) (loopQ (I (i + 1)) QS)) : Wp (forL tg body items w) QS :=
  wp_for I h0 (fun w h => he w (by rw [Nat.zero_add] at h; exact h)) fun i d w hi h => by
    rw [Nat.zero_add] at h ⊢; exact hs i d w hi h
@[simp] theorem setT_nm {i : Nat} {d : D} : setT (.nm i) d w = setE w i d := rfl
@[simp] theorem setT_tp {is : List Nat} {xs : List D} : setT (.tp is) (.tup xs) w = setA is xs w := rfl
@[local simp] theorem setA_cons {i : Nat} {is : List Nat} {d : D} {ds : List D} {w2 : Ev} : setA (i :: is) (d :: ds) w = some w2 ↔ i < w.length ∧ setA is ds (w.set i (some d)) = some w2 := by
  show (setE w i d).bind (setA is ds) = some w2 ↔ _
  unfold setE
  by_cases c : i < w.length <;> simp [c]
@[simp] theorem setA_nil : setA [] [] w = some w := rfl
@[simp] theorem wp_Comp {ks : List (Option Nat)} {it : PM (List D × List D)} {tg : Tgt} {c : PM Bool} {elt : PM D} {vs : List Nat} : Wp (xComp ks it tg c elt vs w) Q ↔ Wp (it w) fun p w1 => Wp (cmpL tg c elt vs p.1 [] w1) fun acc w2 => Q (.own acc) (putB ks p.2 (wipeE w2 vs)) := by
  unfold xComp; simp [wp_bind, wp_bindN]
@[simp] theorem wp_Yes : Wp (tYesF w) QB ↔ QB true w := by unfold tYesF; simp
@[simp] theorem wipeE_nil : wipeE w [] = w := rfl
@[simp] theorem wipeE_cons {v : Nat} {vs : List Nat} : wipeE w (v :: vs) = (wipeE w vs).set v none := rfl
theorem wp_cmp {tg : Tgt} {c : PM Bool} {elt : PM D} {vs : List Nat} (I : Nat → List D → Ev → Prop) : ∀ {items acc : List D} {n : Nat} {w : Ev}, I n acc w → (∀ acc w, I (n + items.length) acc w → QL acc w) →
    (∀ i d acc w, items[i]? = some d → I (n + i) acc w → ∃ w1, setT tg d (wipeE w vs) = some w1 ∧ Wp (c w1) fun b w2 => if b = true then Wp (elt w2) fun e w3 => acc.length < sizeLine ∧ I (n + i + 1) (acc ++ [e]) w3 else I (n + i + 1) acc w2) → Wp (cmpL tg c elt vs items acc w) QL
  | [], acc, n, w, h0, he, hs => by
    rw [cmpL_nil, wp_ok]; exact he acc w h0
  | d :: ds, acc, n, w, h0, he, hs => by
    obtain ⟨w1, e1, h1⟩ := hs 0 d acc w rfl h0
    rw [cmpL_cons, e1]
    simp only [wp_bindN]
    refine h1.mono fun b w2 h2 => ?_
    have rcd : ∀ {acc w2}, I (n + 1) acc w2 → Wp (cmpL tg c elt vs ds acc w2) QL := fun {acc w2} h => wp_cmp I h (fun acc w hw => he acc w (by rw [List.length_cons]; rw [show n + (ds.length + 1) = n + 1 + ds.length by omega]; exact hw)) fun i d' acc w' hi hw => by
      have := hs (i + 1) d' acc w' (by rw [List.getElem?_cons_succ]; exact hi) (by rw [show n + (i + 1) = n + 1 + i by omega]; exact hw)
      rw [show n + (i + 1) + 1 = n + 1 + i + 1 by omega] at this
      exact this
    cases b with
    | false => rw [if_neg (by decide)] at h2 ⊢; exact rcd h2
    | true =>
      rw [if_pos rfl] at h2 ⊢
      rw [wp_bindN]
      refine h2.mono fun e w3 h3 => ?_
      rw [if_pos h3.1]
      exact rcd h3.2
theorem wp_cmp0 {tg : Tgt} {c : PM Bool} {elt : PM D} {vs : List Nat} {items : List D} (I : Nat → List D → Ev → Prop) (h0 : I 0 [] w) (he : ∀ acc w, I items.length acc w → QL acc w)
    (hs : ∀ i d acc w, items[i]? = some d → I i acc w → ∃ w1, setT tg d (wipeE w vs) = some w1 ∧ Wp (c w1) fun b w2 => if b = true then Wp (elt w2) fun e w3 => acc.length < sizeLine ∧ I (i + 1) (acc ++ [e]) w3 else I (i + 1) acc w2) : Wp (cmpL tg c elt vs items [] w) QL :=
  wp_cmp I h0 (fun acc w h => he acc w (by rw [Nat.zero_add] at h; exact h)) fun i d acc w hi h => by
    rw [Nat.zero_add] at h ⊢; exact hs i d acc w hi h
/-! sources -/
@[simp] theorem seqP_tup {xs : List D} : seqP (.tup xs) = if pls xs = true then some xs else none := rfl
@[simp] theorem seqP_lst {xs : List D} : seqP (.lst xs) = if pls xs = true then some xs else none := rfl
@[simp] theorem seqP_own {xs : List D} : seqP (.own xs) = if pls xs = true then some xs else none := rfl
@[local simp] theorem qG_eq {d : D} {p : List D × List D} : qG [d] = some p ↔ ∃ xs, seqP d = some xs ∧ p = (xs, [d]) := by
  show (seqP d).map _ = some p ↔ _
  cases seqP d <;> simp [eq_comm]
@[local simp] theorem qEn_eq {d : D} {p : List D × List D} : qEn [d] = some p ↔ ∃ xs, seqP d = some xs ∧ p = (enumD xs, [d]) := by
  show (seqP d).map _ = some p ↔ _
  cases seqP d <;> simp [eq_comm]
@[local simp] theorem qR1_eq {n : Int} {p : List D × List D} : qR1 [.int n] = some p ↔ rngC n = true ∧ p = (rngD n.toNat, []) := by
  show (if rngC n = true then some (rngD n.toNat, []) else none) = some p ↔ _
  by_cases c : rngC n = true <;> simp [c, eq_comm]
@[local simp] theorem qR2_eq {lo hi : Int} {p : List D × List D} : qR2 [.int lo, .int hi] = some p ↔ (rngC lo = true ∧ rngC hi = true) ∧ p = (rngD2 lo (hi - lo).toNat, []) := by
  show (if rngC lo = true ∧ rngC hi = true then some (rngD2 lo (hi - lo).toNat, []) else none) = some p ↔ _
  by_cases c : rngC lo = true ∧ rngC hi = true
  · rw [if_pos c]
    constructor
    · intro h; exact ⟨c, (Option.some.inj h).symm⟩
    · intro h; rw [h.2]
  · rw [if_neg c]
    constructor
    · intro h; cases h
    · intro h; exact absurd h.1 c
@[local simp] theorem qZp_eqT {xs ys : List D} {p : List D × List D} : qZp [.tup xs, .tup ys] = some p ↔ pls xs = true ∧ pls ys = true ∧ p = (zipD xs ys, [.tup xs, .tup ys]) := by
  show (if sameK (.tup xs) (.tup ys) = true then (seqP (.tup xs)).bind fun xs' => (seqP (.tup ys)).map fun ys' => (zipD xs' ys', [D.tup xs, D.tup ys]) else none) = some p ↔ _
  rw [if_pos (by rfl)]
  rw [seqP_tup, seqP_tup]
  by_cases c : pls xs = true
  · by_cases c2 : pls ys = true
    · rw [if_pos c, if_pos c2]
      constructor
      · intro h; exact ⟨c, c2, (Option.some.inj h).symm⟩
      · intro h; rw [h.2.2]; rfl
    · rw [if_pos c, if_neg c2]
      constructor
      · intro h; cases h
      · intro h; exact absurd h.2.1 c2
  · rw [if_neg c]
    constructor
    · intro h; cases h
    · intro h; exact absurd h.1 c
theorem rngC_of {n : Int} (h : 0 ≤ n) (h2 : n ≤ 1000000000) : rngC n = true := by
  unfold rngC; rw [decide_eq_true_iff]; omega
/-! operations on data -/
@[simp] theorem dAdd_int {i j : Int} : dAdd (.int i) (.int j) = some (.int (i + j)) := rfl
@[simp] theorem dAdd_own {xs ys : List D} : dAdd (.own xs) (.own ys) = if pls xs = true ∧ pls ys = true ∧ xs.length + ys.length ≤ sizeLine then some (.own (xs ++ ys)) else none := rfl
@[simp] theorem dAdd_tup {xs ys : List D} : dAdd (.tup xs) (.tup ys) = if pls xs = true ∧ pls ys = true ∧ xs.length + ys.length ≤ sizeLine then some (.tup (xs ++ ys)) else none := rfl
@[simp] theorem dSub_int {i j : Int} : dSub (.int i) (.int j) = some (.int (i - j)) := rfl
@[simp] theorem dMul_int {i j : Int} : dMul (.int i) (.int j) = if mulC i j = true then some (.int (i * j)) else none := rfl
@[simp] theorem dDiv_int {i j : Int} : dDiv (.int i) (.int j) = if divC i j = true then some (.int (i / j)) else none := rfl
@[simp] theorem dMod_int {i j : Int} : dMod (.int i) (.int j) = if modC i j = true then some (.int (i % j)) else none := rfl
@[simp] theorem dPow_int {i j : Int} : dPow (.int i) (.int j) = if powC i j = true then some (.int (i ^ j.toNat)) else none := rfl
@[simp] theorem dNeg_int {i : Int} : dNeg (.int i) = some (.int (-i)) := rfl
@[simp] theorem dLt_int {i j : Int} : dLt (.int i) (.int j) = some (.bl (decide (i < j))) := rfl
@[simp] theorem dLe_int {i j : Int} : dLe (.int i) (.int j) = some (.bl (decide (i ≤ j))) := rfl
@[simp] theorem dGt_int {i j : Int} : dGt (.int i) (.int j) = some (.bl (decide (j < i))) := rfl
@[simp] theorem dGe_int {i j : Int} : dGe (.int i) (.int j) = some (.bl (decide (j ≤ i))) := rfl
@[simp] theorem dInt_int {i : Int} : dInt (.int i) = some (.int i) := rfl
@[simp] theorem dInt_bl {b : Bool} : dInt (.bl b) = some (.int (if b = true then 1 else 0)) := rfl
@[simp] theorem dLen_tup {xs : List D} : dLen (.tup xs) = some (.int xs.length) := rfl
@[simp] theorem dLen_lst {xs : List D} : dLen (.lst xs) = some (.int xs.length) := rfl
@[simp] theorem dLen_own {xs : List D} : dLen (.own xs) = some (.int xs.length) := rfl
@[simp] theorem dTuple_tup {xs : List D} : dTuple (.tup xs) = if pls xs = true then some (.tup xs) else none := rfl
@[simp] theorem dTuple_lst {xs : List D} : dTuple (.lst xs) = if pls xs = true then some (.tup xs) else none := rfl
@[simp] theorem dTuple_own {xs : List D} : dTuple (.own xs) = if pls xs = true then some (.tup xs) else none := rfl
@[simp] theorem dNot_bl {b : Bool} : dNot (.bl b) = some (.bl (!b)) := rfl
@[simp] theorem dIs_non {x : D} : dIs x .non = some (.bl (isN x)) := rfl
@[simp] theorem dIsNot_non {x : D} : dIsNot x .non = some (.bl (!isN x)) := rfl
@[simp] theorem isN_non : isN .non = true := rfl
@[simp] theorem isN_int {i : Int} : isN (.int i) = false := rfl
@[simp] theorem isN_bl {i : Bool} : isN (.bl i) = false := rfl
@[simp] theorem isN_tup {i : List D} : isN (.tup i) = false := rfl
@[simp] theorem isN_lst {i : List D} : isN (.lst i) = false := rfl
@[simp] theorem isN_own {i : List D} : isN (.own i) = false := rfl
@[simp] theorem isN_str {i : Str} : isN (.str i) = false := rfl
@[simp] theorem truD_bl {b : Bool} : truD (.bl b) = some b := rfl
@[simp] theorem truD_int {i : Int} : truD (.int i) = some (i != 0) := rfl
@[simp] theorem truD_non : truD .non = some false := rfl
@[simp] theorem truD_tup {xs : List D} : truD (.tup xs) = some (!xs.isEmpty) := rfl
@[simp] theorem truD_lst {xs : List D} : truD (.lst xs) = some (!xs.isEmpty) := rfl
@[simp] theorem truD_own {xs : List D} : truD (.own xs) = some (!xs.isEmpty) := rfl
@[simp] theorem dIsi_bb {b : Bool} : dIsi "bool" (.bl b) = some (.bl true) := congrArg (Option.map D.bl) (show kitB "bool" "bool" = some true by decide +kernel)
@[simp] theorem dIsi_bi {i : Int} : dIsi "bool" (.int i) = some (.bl false) := congrArg (Option.map D.bl) (show kitB "int" "bool" = some false by decide +kernel)
@[simp] theorem dIsi_bt {xs : List D} : dIsi "bool" (.tup xs) = some (.bl false) := congrArg (Option.map D.bl) (show kitB "tuple" "bool" = some false by decide +kernel)
@[simp] theorem dIsi_bn : dIsi "bool" .non = some (.bl false) := congrArg (Option.map D.bl) (show kitB (tyD .non) "bool" = some false by decide +kernel)
@[simp] theorem dIsi_ii {i : Int} : dIsi "int" (.int i) = some (.bl true) := congrArg (Option.map D.bl) (show kitB "int" "int" = some true by decide +kernel)
@[simp] theorem dIsi_ib {b : Bool} : dIsi "int" (.bl b) = some (.bl true) := congrArg (Option.map D.bl) (show kitB "bool" "int" = some true by decide +kernel)
@[simp] theorem dIsi_it {xs : List D} : dIsi "int" (.tup xs) = some (.bl false) := congrArg (Option.map D.bl) (show kitB "tuple" "int" = some false by decide +kernel)
@[simp] theorem dIsi_in : dIsi "int" .non = some (.bl false) := congrArg (Option.map D.bl) (show kitB (tyD .non) "int" = some false by decide +kernel)
@[simp] theorem dIsi_tt {xs : List D} : dIsi "tuple" (.tup xs) = some (.bl true) := congrArg (Option.map D.bl) (show kitB "tuple" "tuple" = some true by decide +kernel)
@[simp] theorem dIsi_ti {i : Int} : dIsi "tuple" (.int i) = some (.bl false) := congrArg (Option.map D.bl) (show kitB "int" "tuple" = some false by decide +kernel)
@[simp] theorem dRng_int {n : Int} : dRng (.int n) = if rngC n = true ∧ n.toNat ≤ 16777216 then some (.own (rngD n.toNat)) else none := rfl
def seqIx (xs : List D) (i : Int) : Option D := match atI xs i with
  | some d => if pl d = true then some d else none
  | none => none
@[simp] theorem dIx_tup {xs : List D} {i : Int} : dIx (.tup xs) (.int i) = seqIx xs i := rfl
@[simp] theorem dIx_lst {xs : List D} {i : Int} : dIx (.lst xs) (.int i) = seqIx xs i := rfl
@[simp] theorem dIx_own {xs : List D} {i : Int} : dIx (.own xs) (.int i) = seqIx xs i := rfl
theorem seqIx_nat {xs : List D} {i : Nat} {d : D} (h : xs[i]? = some d) (p : pl d = true) : seqIx xs (i : Int) = some d := by
  unfold seqIx; rw [atI_nat h]; exact if_pos p
theorem seqIx_ints {l : List Int} {i : Nat} {v : Int} (h : l[i]? = some v) : seqIx (l.map D.int) (i : Int) = some (.int v) := seqIx_nat (by rw [List.getElem?_map, h]; rfl) rfl
end
/-! ### the same, lazily: a step is read only once its value is known -/
def ob {α : Type} (o : Option α) (P : α → Prop) : Prop := ∃ a, o = some a ∧ P a
@[simp] theorem ob_some {α : Type} {a : α} {P : α → Prop} : ob (some a) P ↔ P a := by unfold ob; simp
@[simp] theorem ob_none {α : Type} {P : α → Prop} : ob none P ↔ False := by unfold ob; simp
@[simp] theorem ob_ite {α : Type} {c : Prop} [Decidable c] {a : α} {P : α → Prop} : ob (if c then some a else none) P ↔ c ∧ P a := by
  by_cases h : c <;> simp [h]
@[simp] theorem ob_map {α β : Type} {o : Option α} {f : α → β} {P : β → Prop} : ob (o.map f) P ↔ ob o fun a => P (f a) := by
  cases o <;> simp
theorem ob_congr {α : Type} {o o' : Option α} {P : α → Prop} (h : o = o') : ob o P = ob o' P := by rw [h]
theorem Wp_congr {α : Type} {o o' : Rs α} {P : α → Ev → Prop} (h : o = o') : Wp o P = Wp o' P := by rw [h]
theorem WpR_congr {o o' : Rd} {P : D → List D → Prop} (h : o = o') : WpR o P = WpR o' P := by rw [h]
theorem kQ_congr {Q : D → Ev → Prop} {j : Nat} {w w' : Ev} {d d' : D} (h : w = w') (h2 : d = d') : kQ Q j w d = kQ Q j w' d' := by rw [h, h2]
theorem iceQ_congr {Q : D → Ev → Prop} {j : Nat} {w w' : Ev} {d d' : D} (h : w = w') (h2 : d = d') : iceQ Q j w d = iceQ Q j w' d' := by rw [h, h2]
theorem seqQ_congr {g : PM Fl} {Q : Fl → Ev → Prop} {w w' : Ev} {d d' : Fl} (h : d = d') (h2 : w = w') : seqQ g Q d w = seqQ g Q d' w' := by rw [h, h2]
theorem loopQ_congr {J : Ev → Prop} {Q : Fl → Ev → Prop} {w w' : Ev} {d d' : Fl} (h : d = d') (h2 : w = w') : loopQ J Q d w = loopQ J Q d' w' := by rw [h, h2]
@[simp] theorem blD_bl {b : Bool} : blD (.bl b) = some b := rfl
theorem ob_bl {d : D} {P : Bool → Prop} : (∃ b, d = .bl b ∧ P b) ↔ ob (blD d) P := by
  cases d <;> simp [ob, blD]
def brQ (b : Bool) (A B : Prop) : Prop := if b = true then A else B
@[simp] theorem brQ_t {A B : Prop} : brQ true A B ↔ A := by simp [brQ]
@[simp] theorem brQ_f {A B : Prop} : brQ false A B ↔ B := by simp [brQ]
theorem brQ_congr {b b' : Bool} {A B : Prop} (h : b = b') : brQ b A B = brQ b' A B := by rw [h]
theorem brQ_of {b : Bool} {A B : Prop} (h1 : b = true → A) (h2 : b = false → B) : brQ b A B := by cases b <;> simp [h1, h2]
section
variable {w : Ev} {Q : D → Ev → Prop} {QL : List D → Ev → Prop} {QB : Bool → Ev → Prop} {QS : Fl → Ev → Prop}
@[simp] theorem lz_P {q : Ev → Option D} : Wp (xP q w) Q ↔ ob (q w) fun d => pl d = true ∧ Q d w := wp_P
@[simp] theorem lz_T {j : Nat} : Wp (xT j w) Q ↔ ob (slot w j) fun d => Q d (w.set j none) := wp_T
@[simp] theorem lz_I {j : Nat} : Wp (xI j w) Q ↔ ob (slot w j) fun d => iceQ Q j w d := wp_I
@[simp] theorem lz_K {j : Nat} : Wp (xK j w) Q ↔ ob (slot w j) fun d => kQ Q j w d := wp_K
@[simp] theorem lz_Z {j : Nat} {g : PM (List D)} : Wp (xZ j g w) QL ↔ ob (slot w j) fun _ => Wp (g w) fun ds w1 => ob (slot w1 j) fun d => kQ (fun d w2 => QL (d :: ds) w2) j w1 d := by
  unfold xZ
  cases e : slot w j with
  | none => simp
  | some d0 => simp [wp_bind, ob]
@[simp] theorem lz_1g {op : D → Option D} {f : PM D} : Wp (x1g op f w) Q ↔ Wp (f w) fun x w1 => ob (op x) fun z => Q z w1 := wp_1g
@[simp] theorem lz_1p {op : D → Option D} {q : Ev → Option D} : Wp (x1p op q w) Q ↔ ob (q w) fun x => ob (op x) fun z => Q z w := wp_1p
@[simp] theorem lz_2gg {op : D → D → Option D} {f g : PM D} : Wp (x2gg op f g w) Q ↔ Wp (f w) fun x w1 => Wp (g w1) fun y w2 => ob (op x y) fun z => Q z w2 := wp_2gg
@[simp] theorem lz_2gp {op : D → D → Option D} {f : PM D} {q : Ev → Option D} : Wp (x2gp op f q w) Q ↔ Wp (f w) fun x w1 => ob (q w1) fun y => ob (op x y) fun z => Q z w1 := wp_2gp
@[simp] theorem lz_2vg {op : D → D → Option D} {j : Nat} {g : PM D} : Wp (x2vg op j g w) Q ↔ ob (slot w j) fun _ => Wp (g w) fun y w2 => ob (slot w2 j) fun x => ob (op x y) fun z => Q z w2 := by
  rw [wp_2vg]; unfold ob
  exact ⟨fun ⟨⟨x, h⟩, h2⟩ => ⟨x, h, h2⟩, fun ⟨x, h, h2⟩ => ⟨⟨x, h⟩, h2⟩⟩
@[simp] theorem lz_2pp {op : D → D → Option D} {q1 q2 : Ev → Option D} : Wp (x2pp op q1 q2 w) Q ↔ ob (q1 w) fun x => ob (q2 w) fun y => ob (op x y) fun z => Q z w := wp_2pp
@[simp] theorem lz_tup {f : PM (List D)} : Wp (xTup f w) Q ↔ Wp (f w) fun ds w1 => ds.length ≤ sizeLine ∧ Q (.tup ds) w1 := by
  rw [wp_tup]
  refine ⟨fun h => h.mono fun ds w h => ?_, fun h => h.mono fun ds w h => ?_⟩
  · obtain ⟨z, e, q⟩ := h
    unfold mkTup at e
    by_cases c : ds.length ≤ sizeLine
    · rw [if_pos c] at e; cases e; exact ⟨c, q⟩
    · rw [if_neg c] at e; cases e
  · exact ⟨_, if_pos h.1, h.2⟩
@[simp] theorem lz_own {f : PM (List D)} : Wp (xOwn f w) Q ↔ Wp (f w) fun ds w1 => ds.length ≤ sizeLine ∧ Q (.own ds) w1 := by
  rw [wp_own]
  refine ⟨fun h => h.mono fun ds w h => ?_, fun h => h.mono fun ds w h => ?_⟩
  · obtain ⟨z, e, q⟩ := h
    unfold mkOwn at e
    by_cases c : ds.length ≤ sizeLine
    · rw [if_pos c] at e; cases e; exact ⟨c, q⟩
    · rw [if_neg c] at e; cases e
  · exact ⟨_, if_pos h.1, h.2⟩
@[simp] theorem line0 : (0 : Nat) ≤ sizeLine := Nat.zero_le _
@[simp] theorem line1 : (1 : Nat) ≤ sizeLine := Nat.le_trans (by decide) big
@[simp] theorem line2 : (2 : Nat) ≤ sizeLine := Nat.le_trans (by decide) big
@[simp] theorem line3 : (3 : Nat) ≤ sizeLine := Nat.le_trans (by decide) big
@[simp] theorem line4 : (4 : Nat) ≤ sizeLine := Nat.le_trans (by decide) big
@[simp] theorem lz_Bl {f : PM D} : Wp (tBl f w) QB ↔ Wp (f w) fun d w1 => ob (blD d) fun b => QB b w1 := by
  rw [wp_Bl]; simp only [ob_bl]
@[simp] theorem lz_Tru {f : PM D} : Wp (tTru f w) QB ↔ Wp (f w) fun d w1 => ob (truD d) fun b => QB b w1 := wp_Tru
@[simp] theorem lz_TruP {q : Ev → Option D} : Wp (tTruP q w) QB ↔ ob (q w) fun d => ob (truD d) fun b => QB b w := wp_TruP
@[simp] theorem lz_xAnd {f g : PM D} : Wp (xAnd f g w) Q ↔ Wp (f w) fun d w1 => ob (blD d) fun b => brQ b (Wp (g w1) Q) (Q (.bl false) w1) := by
  rw [wp_xAnd]; simp only [ob_bl]; rfl
@[simp] theorem lz_xOr {f g : PM D} : Wp (xOr f g w) Q ↔ Wp (f w) fun d w1 => ob (blD d) fun b => brQ b (Q (.bl true) w1) (Wp (g w1) Q) := by
  rw [wp_xOr]; simp only [ob_bl]; rfl
@[simp] theorem lz_xIf {t : PM Bool} {f g : PM D} : Wp (xIf t f g w) Q ↔ Wp (t w) fun b w1 => brQ b (Wp (f w1) Q) (Wp (g w1) Q) := wp_xIf
@[simp] theorem lz_AndF {t u : PM Bool} : Wp (tAndF t u w) QB ↔ Wp (t w) fun b w1 => brQ b (Wp (u w1) QB) (QB false w1) := wp_AndF
@[simp] theorem lz_OrF {t u : PM Bool} : Wp (tOrF t u w) QB ↔ Wp (t w) fun b w1 => brQ b (QB true w1) (Wp (u w1) QB) := wp_OrF
@[simp] theorem lz_If {t : PM Bool} {f g : PM Fl} : Wp (sIf t f g w) QS ↔ Wp (t w) fun b w1 => brQ b (Wp (f w1) QS) (Wp (g w1) QS) := wp_If
@[simp] theorem ownD_own {xs : List D} : ownD (.own xs) = some xs := rfl
theorem ob_own {o : Option D} {P : List D → Prop} : (∃ xs, o = some (.own xs) ∧ P xs) ↔ ob o fun d => ob (ownD d) P := by
  unfold ob
  constructor
  · rintro ⟨xs, h, p⟩; exact ⟨_, h, xs, rfl, p⟩
  · rintro ⟨d, h, xs, h2, p⟩; exact ⟨xs, by rw [h, ownD_some h2], p⟩
@[simp] theorem lz_App {j : Nat} {f : PM D} : Wp (xApp j f w) Q ↔ (ob (slot w j) fun d0 => ob (ownD d0) fun _ => Wp (f w) fun d w1 => ob (slot w1 j) fun x => ob (ownD x) fun xs => xs.length < sizeLine ∧ Q .non (w1.set j (some (.own (xs ++ [d]))))) := by
  rw [wp_App]; simp only [ob_own]
  rw [← ob_own]
  exact ⟨fun ⟨⟨x, h⟩, h2⟩ => ⟨x, h, h2⟩, fun ⟨x, h, h2⟩ => ⟨⟨x, h⟩, h2⟩⟩
@[simp] theorem intD_int {i : Int} : intD (.int i) = some i := rfl
theorem ob_int {d : D} {P : Int → Prop} : (∃ i, d = .int i ∧ P i) ↔ ob (intD d) P := by
  cases d <;> simp [ob, intD]
@[simp] theorem lz_PopAt {j : Nat} {f : PM D} : Wp (xPopAt j f w) Q ↔ (ob (slot w j) fun d0 => ob (ownD d0) fun _ => Wp (f w) fun d w1 => ob (slot w1 j) fun x => ob (ownD x) fun xs => ob (intD d) fun i => ob (ixN xs.length i) fun k => ob xs[k]? fun y => xs.length ≤ sizeLine ∧ Q y (w1.set j (some (.own (xs.eraseIdx k))))) := by
  rw [wp_PopAt]
  have e : (∃ xs0, slot w j = some (.own xs0)) ↔ ∃ xs0, slot w j = some (.own xs0) ∧ True := by simp
  rw [← ob_own]
  refine ⟨fun ⟨⟨x, h⟩, h2⟩ => ⟨x, h, h2.mono ?_⟩, fun ⟨x, h, h2⟩ => ⟨⟨x, h⟩, h2.mono ?_⟩⟩
  · rintro d w1 ⟨xs, i, k, y, a1, rfl, a3, a4, a5⟩
    rw [← ob_own]
    exact ⟨xs, a1, i, rfl, k, a3, y, a4, a5⟩
  · intro d w1 hh
    rw [← ob_own] at hh
    obtain ⟨xs, a1, i, a2, k, a3, y, a4, a5⟩ := hh
    exact ⟨xs, i, k, y, a1, intD_some a2, a3, a4, a5⟩
@[simp] theorem lz_RngL {f : PM D} : Wp (xRngL f w) Q ↔ Wp (f w) fun d w1 => ob (dRng d) fun z => Q z w1 := wp_RngL
@[simp] theorem lz_bS {f : PM D} {QO : Option Int → Ev → Prop} : Wp (bS f w) QO ↔ Wp (f w) fun d w1 => ob (intD d) fun i => QO (some i) w1 := by
  rw [wp_bS]; simp only [ob_int]
@[simp] theorem lz_Slg {f : PM D} {l u : PM (Option Int)} : Wp (xSlg f l u w) Q ↔ Wp (f w) fun d w1 => Wp (l w1) fun lo w2 => Wp (u w2) fun hi w3 => ob (dSl d lo hi) fun z => Q z w3 := wp_Slg
@[simp] theorem lz_Slv {j : Nat} {l u : PM (Option Int)} : Wp (xSlv j l u w) Q ↔ ob (slot w j) fun _ => Wp (l w) fun lo w2 => Wp (u w2) fun hi w3 => ob (slot w3 j) fun d => ob (dSl d lo hi) fun z => Q z w3 := by
  rw [wp_Slv]; unfold ob
  exact ⟨fun ⟨⟨x, h⟩, h2⟩ => ⟨x, h, h2⟩, fun ⟨x, h, h2⟩ => ⟨⟨x, h⟩, h2⟩⟩
@[simp] theorem lz_rt {io : List Nat} {QR : D → List D → Prop} {d : D} : endQ io QR (.rt d) w ↔ ob (outsOf io w) fun os => QR d os := .rfl
@[simp] theorem lz_nx {io : List Nat} {QR : D → List D → Prop} : endQ io QR .nx w ↔ ob (outsOf io w) fun os => QR .non os := .rfl
@[simp] theorem lz_outs {k : Nat} {io : List Nat} {P : List D → Prop} : ob (outsOf (k :: io) w) P ↔ ob (slot w k) fun d => ob (outsOf io w) fun ds => P (d :: ds) := by
  unfold ob
  simp only [outsOf_cons']
  constructor
  · rintro ⟨a, ⟨d, h, ds, h2, rfl⟩, p⟩; exact ⟨d, h, ds, h2, p⟩
  · rintro ⟨d, h, ds, h2, p⟩; exact ⟨_, ⟨d, h, ds, h2, rfl⟩, p⟩
@[simp] theorem lz_Set {i : Nat} {f : PM D} : Wp (sSet i f w) QS ↔ Wp (f w) fun d w1 => i < w1.length ∧ QS .nx (w1.set i (some d)) := wp_Set
@[simp] theorem lz_Aug {i : Nat} {op : D → D → Option D} {f : PM D} : Wp (sAug i op f w) QS ↔ ob (slot w i) fun d0 => pl d0 = true ∧ Wp (f w) fun d w1 => ob (op d0 d) fun z => i < w1.length ∧ QS .nx (w1.set i (some z)) := wp_Aug
@[simp] theorem lz_SetI {j : Nat} {f g : PM D} : Wp (sSetI j f g w) QS ↔ Wp (f w) fun d w1 => ob (slot w1 j) fun _ => Wp (g w1) fun i w2 => ob (slot w2 j) fun x => ob (ownD x) fun xs => ob (intD i) fun n => ob (ixN xs.length n) fun k => QS .nx (w2.set j (some (.own (xs.set k d)))) := by
  rw [wp_SetI]
  refine ⟨fun h => h.mono ?_, fun h => h.mono ?_⟩
  · rintro d w1 ⟨⟨x, h⟩, h2⟩
    refine ⟨x, h, h2.mono ?_⟩
    rintro i w2 ⟨xs, n, k, a1, rfl, a3, a4⟩
    rw [← ob_own]
    exact ⟨xs, a1, n, rfl, k, a3, a4⟩
  · rintro d w1 ⟨x, h, h2⟩
    refine ⟨⟨x, h⟩, h2.mono ?_⟩
    intro i w2 hh
    rw [← ob_own] at hh
    obtain ⟨xs, a1, n, a2, k, a3, a4⟩ := hh
    exact ⟨xs, n, k, a1, intD_some a2, a3, a4⟩
@[simp] theorem lz_iW {k : List D → Option (List D × List D)} {f : PM (List D)} {QP : List D × List D → Ev → Prop} : Wp (iW k f w) QP ↔ Wp (f w) fun ds w1 => ob (k ds) fun p => QP p w1 := wp_iW
@[simp] theorem lz_qG {d : D} {P : List D × List D → Prop} : ob (qG [d]) P ↔ ob (seqP d) fun xs => P (xs, [d]) := by
  show ob ((seqP d).map _) P ↔ _; simp
@[simp] theorem lz_qEn {d : D} {P : List D × List D → Prop} : ob (qEn [d]) P ↔ ob (seqP d) fun xs => P (enumD xs, [d]) := by
  show ob ((seqP d).map _) P ↔ _; simp
@[simp] theorem lz_qR1 {n : Int} {P : List D × List D → Prop} : ob (qR1 [.int n]) P ↔ rngC n = true ∧ P (rngD n.toNat, []) := by
  show ob (if rngC n = true then some (rngD n.toNat, []) else none) P ↔ _; simp
@[simp] theorem lz_qR2 {lo hi : Int} {P : List D × List D → Prop} : ob (qR2 [.int lo, .int hi]) P ↔ (rngC lo = true ∧ rngC hi = true) ∧ P (rngD2 lo (hi - lo).toNat, []) := by
  show ob (if rngC lo = true ∧ rngC hi = true then some (rngD2 lo (hi - lo).toNat, []) else none) P ↔ _; simp
@[simp] theorem lz_qZpT {xs ys : List D} {P : List D × List D → Prop} : ob (qZp [.tup xs, .tup ys]) P ↔ pls xs = true ∧ pls ys = true ∧ P (zipD xs ys, [.tup xs, .tup ys]) := by
  unfold ob
  constructor
  · rintro ⟨a, h, p⟩
    obtain ⟨h1, h2, rfl⟩ := qZp_eqT.mp h
    exact ⟨h1, h2, p⟩
  · rintro ⟨h1, h2, p⟩
    exact ⟨_, qZp_eqT.mpr ⟨h1, h2, rfl⟩, p⟩
/-- a loop's target -/
@[simp] theorem beq_dec {i j : Int} : (i == j) = decide (i = j) := by
  by_cases h : i = j <;> simp [h]
@[simp] theorem lz_sE {i : Nat} {d : D} {P : Ev → Prop} : ob (setE w i d) P ↔ i < w.length ∧ P (w.set i (some d)) := by
  unfold setE; simp
@[simp] theorem lz_nm {i : Nat} {d : D} {P : Ev → Prop} : ob (setT (.nm i) d w) P ↔ i < w.length ∧ P (w.set i (some d)) := by
  show ob (setE w i d) P ↔ _
  unfold setE; simp
@[simp] theorem lz_tp {is : List Nat} {xs : List D} {P : Ev → Prop} : ob (setT (.tp is) (.tup xs) w) P ↔ ob (setA is xs w) P := .rfl
@[simp] theorem lz_sA {i : Nat} {is : List Nat} {d : D} {ds : List D} {P : Ev → Prop} : ob (setA (i :: is) (d :: ds) w) P ↔ i < w.length ∧ ob (setA is ds (w.set i (some d))) P := by
  show ob ((setE w i d).bind (setA is ds)) P ↔ _
  unfold setE
  by_cases c : i < w.length <;> simp [c]
theorem lz_for {tg : Tgt} {body : PM Fl} {items : List D} (I : Nat → Ev → Prop) (h0 : I 0 w) (he : ∀ w, I items.length w → QS .nx w)
    (hs : ∀ i d w, items[i]? = some d → I i w → ob (setT tg d w) fun w1 => Wp (body w1) (loopQ (I (i + 1)) QS)) : Wp (forL tg body items w) QS := wp_for0 I h0 he hs
theorem lz_cmp {tg : Tgt} {c : PM Bool} {elt : PM D} {vs : List Nat} {items : List D} (I : Nat → List D → Ev → Prop) (h0 : I 0 [] w) (he : ∀ acc w, I items.length acc w → QL acc w)
    (hs : ∀ i d acc w, items[i]? = some d → I i acc w → ob (setT tg d (wipeE w vs)) fun w1 => Wp (c w1) fun b w2 => brQ b (Wp (elt w2) fun e w3 => acc.length < sizeLine ∧ I (i + 1) (acc ++ [e]) w3) (I (i + 1) acc w2)) : Wp (cmpL tg c elt vs items [] w) QL := wp_cmp0 I h0 he hs
end
end Pm

set_option autoImplicit false
namespace Pm
open PySem PySem.Spec L2
section
variable {w : Ev} {Q : D → Ev → Prop} {QL : List D → Ev → Prop} {QB : Bool → Ev → Prop} {QS : Fl → Ev → Prop}
@[simp] theorem lz_Cal {np : Nat} {js : List (Option Nat)} {m : List D → Rd} {f : PM (List D)} : Wp (xCal np js m f w) Q ↔ Wp (f w) fun ds w1 => ds.length = np ∧ WpR (m ds) fun d outs => Q d (putB js outs w1) := by
  unfold xCal; simp only [wp_bind]
  refine ⟨fun h => h.mono fun ds w h => ?_, fun h => h.mono fun ds w h => ?_⟩
  · by_cases c : ds.length = np
    · rw [if_pos c] at h
      cases e : m ds with
      | ok d os => rw [e] at h; exact ⟨c, d, os, rfl, by simpa using h⟩
      | ex _ _ _ => rw [e] at h; simp at h
      | bad => rw [e] at h; simp at h
    · rw [if_neg c] at h; simp at h
  · obtain ⟨c, d, os, e, h⟩ := h
    rw [if_pos c, e]; simpa using h
@[simp] theorem lz_Comp2 {ks ks1 : List (Option Nat)} {it it1 : PM (List D × List D)} {tg tg1 : Tgt} {c c1 : PM Bool} {elt : PM D} {vs vs1 : List Nat} : Wp (xComp2 ks it tg c ks1 it1 tg1 c1 elt vs vs1 w) Q ↔ Wp (it w) fun p w1 => Wp (cmpL2 tg c ks1 it1 tg1 c1 elt vs vs1 p.1 [] w1) fun acc w2 => Q (.own acc) (putB ks p.2 (wipeE w2 vs)) := by
  unfold xComp2; simp [wp_bind, wp_bindN]
theorem wp_cmp2 {tg tg1 : Tgt} {c c1 : PM Bool} {ks1 : List (Option Nat)} {it1 : PM (List D × List D)} {elt : PM D} {vs vs1 : List Nat} (I : Nat → List D → Ev → Prop) : ∀ {items acc : List D} {n : Nat} {w : Ev}, I n acc w → (∀ acc w, I (n + items.length) acc w → QL acc w) →
    (∀ i d acc w, items[i]? = some d → I (n + i) acc w → ob (setT tg d (wipeE w vs)) fun w1 => Wp (c w1) fun b w2 => brQ b (Wp (it1 w2) fun p w3 => Wp (cmpL tg1 c1 elt vs1 p.1 acc w3) fun acc2 w4 => I (n + i + 1) acc2 (putB ks1 p.2 (wipeE w4 vs1))) (I (n + i + 1) acc w2)) → Wp (cmpL2 tg c ks1 it1 tg1 c1 elt vs vs1 items acc w) QL
  | [], acc, n, w, h0, he, hs => by
    unfold cmpL2; rw [wp_ok]; exact he acc w h0
  | d :: ds, acc, n, w, h0, he, hs => by
    obtain ⟨w1, e1, h1⟩ := hs 0 d acc w rfl h0
    unfold cmpL2
    rw [e1]
    simp only [wp_bindN]
    refine h1.mono fun b w2 h2 => ?_
    have rcd : ∀ {acc w2}, I (n + 1) acc w2 → Wp (cmpL2 tg c ks1 it1 tg1 c1 elt vs vs1 ds acc w2) QL := fun {acc w2} h => wp_cmp2 I h (fun acc w hw => he acc w (by rw [List.length_cons]; rw [show n + (ds.length + 1) = n + 1 + ds.length by omega]; exact hw)) fun i d' acc w' hi hw => by
      have := hs (i + 1) d' acc w' (by rw [List.getElem?_cons_succ]; exact hi) (by rw [show n + (i + 1) = n + 1 + i by omega]; exact hw)
      rw [show n + (i + 1) + 1 = n + 1 + i + 1 by omega] at this
      exact this
    cases b with
    | false => rw [if_neg (by decide)]; exact rcd (by simpa using h2)
    | true =>
      rw [if_pos rfl]
      simp only [wp_bindN]
      have h3 := brQ_t.mp h2
      refine h3.mono fun p w3 h4 => h4.mono fun acc2 w4 h5 => rcd h5
theorem lz_cmp2 {tg tg1 : Tgt} {c c1 : PM Bool} {ks1 : List (Option Nat)} {it1 : PM (List D × List D)} {elt : PM D} {vs vs1 : List Nat} {items : List D} (I : Nat → List D → Ev → Prop) (h0 : I 0 [] w) (he : ∀ acc w, I items.length acc w → QL acc w)
    (hs : ∀ i d acc w, items[i]? = some d → I i acc w → ob (setT tg d (wipeE w vs)) fun w1 => Wp (c w1) fun b w2 => brQ b (Wp (it1 w2) fun p w3 => Wp (cmpL tg1 c1 elt vs1 p.1 acc w3) fun acc2 w4 => I (i + 1) acc2 (putB ks1 p.2 (wipeE w4 vs1))) (I (i + 1) acc w2)) : Wp (cmpL2 tg c ks1 it1 tg1 c1 elt vs vs1 items [] w) QL :=
  wp_cmp2 I h0 (fun acc w h => he acc w (by rw [Nat.zero_add] at h; exact h)) fun i d acc w hi h => by
    rw [Nat.zero_add] at h ⊢; exact hs i d acc w hi h
/-- a comprehension that starts with something in its list -/
theorem lz_cmpA {tg : Tgt} {c : PM Bool} {elt : PM D} {vs : List Nat} {items acc0 : List D} (I : Nat → List D → Ev → Prop) (h0 : I 0 acc0 w) (he : ∀ acc w, I items.length acc w → QL acc w)
    (hs : ∀ i d acc w, items[i]? = some d → I i acc w → ob (setT tg d (wipeE w vs)) fun w1 => Wp (c w1) fun b w2 => brQ b (Wp (elt w2) fun e w3 => acc.length < sizeLine ∧ I (i + 1) (acc ++ [e]) w3) (I (i + 1) acc w2)) : Wp (cmpL tg c elt vs items acc0 w) QL :=
  wp_cmp I h0 (fun acc w h => he acc w (by rw [Nat.zero_add] at h; exact h)) fun i d acc w hi h => by
    rw [Nat.zero_add] at h ⊢; exact hs i d acc w hi h
/-- while: a number that gets smaller -/
theorem lz_while {t : PM Bool} {body : PM Fl} (I : Nat → Ev → Prop) {n : Nat} (h0 : I n w)
    (hs : ∀ n w, I n w → Wp (t w) fun b w1 => brQ b (Wp (body w1) (loopQ (fun w2 => ∃ m, m < n ∧ I m w2) QS)) (QS .nx w1)) : Wp (sWh t body w) QS := by
  have key : ∀ (n : Nat) (w : Ev), I n w → ∃ k, Wp (whL t body k w) QS := fun n => by
    induction n using Nat.strongRecOn with
    | ind n ih =>
      intro w h
      obtain ⟨b, w1, e1, h1⟩ := hs n w h
      cases b with
      | false => exact ⟨1, by unfold whL; rw [e1]; simpa using h1⟩
      | true =>
        obtain ⟨fl, w2, e2, h2⟩ := brQ_t.mp h1
        have fin : ∀ k, whL t body (k + 1) w = ((body w1).bind fun fl w2 => match fl with
            | .nx => whL t body k w2
            | .ct => whL t body k w2
            | .bk => .ok .nx w2
            | .rt v => .ok (.rt v) w2) := fun k => by
          conv => lhs; unfold whL
          rw [e1, Rs.bind_ok, if_pos rfl]
          all_goals (generalize body w1 = r; rcases r with ⟨fl, w3⟩ | _ | _ <;> first | rfl | (cases fl <;> rfl))
        cases fl with
        | nx =>
          obtain ⟨m, hm, hi⟩ := h2
          obtain ⟨k, hk⟩ := ih m hm w2 hi
          exact ⟨k + 1, by rw [fin k, e2]; exact hk⟩
        | ct =>
          obtain ⟨m, hm, hi⟩ := h2
          obtain ⟨k, hk⟩ := ih m hm w2 hi
          exact ⟨k + 1, by rw [fin k, e2]; exact hk⟩
        | bk => exact ⟨1, by rw [fin 0, e2]; exact wp_ok.mpr h2⟩
        | rt v => exact ⟨1, by rw [fin 0, e2]; exact wp_ok.mpr h2⟩
  obtain ⟨k, hk⟩ := key n w h0
  have nb : whL t body k w ≠ .bad := fun e => by rw [e] at hk; simp at hk
  rw [sWh_eq k nb]; exact hk
@[simp] theorem dSorted_tup {ns : List Int} : dSorted (.tup (ns.map .int)) = some (.own ((sortI ns).map .int)) := by
  show (some (ns.map D.int)).bind _ = _
  rw [Option.bind_some, intsD_ints]; rfl
@[simp] theorem dSorted_lst {ns : List Int} : dSorted (.lst (ns.map .int)) = some (.own ((sortI ns).map .int)) := dSorted_tup
@[simp] theorem dSorted_own {ns : List Int} : dSorted (.own (ns.map .int)) = some (.own ((sortI ns).map .int)) := dSorted_tup
end
end Pm

set_option autoImplicit false
namespace Pm
open PySem PySem.Spec L2
section
variable {w : Ev} {Q : D → Ev → Prop} {QS : Fl → Ev → Prop}
@[simp] theorem lz_3c {op op' : D → D → Option D} {f g h : PM D} : Wp (x3c op op' f g h w) Q ↔ Wp (f w) fun x w1 => Wp (g w1) fun y w2 => ob (op x y) fun k => ob (blD k) fun b => brQ b (Wp (h w2) fun z w3 => ob (op' y z) fun r => Q r w3) (Q (.bl false) w2) := by
  unfold x3c; simp only [wp_bind]
  refine ⟨fun q => q.mono fun x w1 q => q.mono fun y w2 q => ?_, fun q => q.mono fun x w1 q => q.mono fun y w2 q => ?_⟩
  · cases e : op x y with
    | none => rw [e] at q; simp at q
    | some k =>
      rw [e] at q
      cases k with
      | bl b => cases b <;> simpa [wp_bind, wp_back, ob] using q
      | _ => simp at q
  · cases e : op x y with
    | none => rw [e] at q; simp at q
    | some k =>
      rw [e] at q
      cases k with
      | bl b => cases b <;> simpa [wp_bind, wp_back, ob] using q
      | _ => simp [blD] at q
@[simp] theorem lz_SetT {tg : Tgt} {f : PM D} : Wp (sSetT tg f w) QS ↔ Wp (f w) fun d w1 => pl d = true ∧ ob (setT tg d w1) fun w2 => QS .nx w2 := by
  unfold sSetT; simp only [wp_bind]
  refine ⟨fun q => q.mono fun d w1 q => ?_, fun q => q.mono fun d w1 q => ?_⟩
  · by_cases p : pl d = true
    · rw [if_pos p] at q
      cases e : setT tg d w1 with
      | none => rw [e] at q; simp at q
      | some w2 => rw [e] at q; exact ⟨p, by simpa using q⟩
    · rw [if_neg p] at q; simp at q
  · rw [if_pos q.1]
    obtain ⟨w2, e, q2⟩ := q.2
    rw [e]; simpa using q2
@[simp] theorem lz_RngL3 {f : PM (List D)} : Wp (xRngL3 f w) Q ↔ Wp (f w) fun ds w1 => ob (dRng3 ds) fun z => Q z w1 := by
  unfold xRngL3; simp [wp_bind, wp_back, ob]
@[simp] theorem lz_Ig {f : PM D} : Wp (xIg f w) Q ↔ Wp (f w) fun d w1 => ob (iceD d) fun z => Q z w1 := by
  unfold xIg; simp [wp_bind, wp_back, ob]
@[simp] theorem iceD_own {xs : List D} : iceD (.own xs) = if pls xs = true then some (.lst xs) else none := rfl
@[simp] theorem iceD_lst {xs : List D} : iceD (.lst xs) = some (.lst xs) := rfl
@[simp] theorem iceD_tup {xs : List D} : iceD (.tup xs) = some (.tup xs) := rfl
@[simp] theorem iceD_int {i : Int} : iceD (.int i) = some (.int i) := rfl
@[simp] theorem iceD_str {i : Str} : iceD (.str i) = some (.str i) := rfl
@[simp] theorem iceD_bl {i : Bool} : iceD (.bl i) = some (.bl i) := rfl
@[simp] theorem iceD_non : iceD .non = some .non := rfl
@[simp] theorem dStr_int {i : Int} : dStr (.int i) = if strC i = true then some (.str (toString i)) else none := rfl
@[simp] theorem dRng3_ints {i j k : Int} : dRng3 [.int i, .int j, .int k] = if rg3 i j k = true then some (.own ((List.range (i - j).toNat).map fun (m : Nat) => D.int (i + (m : Int) * k))) else none := rfl
@[simp] theorem dMin_int {i j : Int} : dMin (.int i) (.int j) = some (.int (if j < i then j else i)) := rfl
@[simp] theorem dMax_int {i j : Int} : dMax (.int i) (.int j) = some (.int (if j > i then j else i)) := rfl
@[simp] theorem dAbs_int {i : Int} : dAbs (.int i) = some (.int (if i < 0 then -i else i)) := rfl
end
end Pm

set_option autoImplicit false
namespace Pm
open PySem PySem.Spec L2
@[simp] theorem seqIx_0 {a : D} {l : List D} : seqIx (a :: l) 0 = if pl a = true then some a else none := by
  unfold seqIx; rw [show atI (a :: l) 0 = some a from atI_nat (j := 0) rfl]
@[simp] theorem seqIx_1 {a b : D} {l : List D} : seqIx (a :: b :: l) 1 = if pl b = true then some b else none := by
  unfold seqIx; rw [show atI (a :: b :: l) 1 = some b from atI_nat (j := 1) rfl]
@[simp] theorem seqIx_2 {a b c : D} {l : List D} : seqIx (a :: b :: c :: l) 2 = if pl c = true then some c else none := by
  unfold seqIx; rw [show atI (a :: b :: c :: l) 2 = some c from atI_nat (j := 2) rfl]
@[simp] theorem seqIx_3 {a b c d : D} {l : List D} : seqIx (a :: b :: c :: d :: l) 3 = if pl d = true then some d else none := by
  unfold seqIx; rw [show atI (a :: b :: c :: d :: l) 3 = some d from atI_nat (j := 3) rfl]
@[simp] theorem ixN_40 : ixN 4 0 = some 0 := rfl
@[simp] theorem ixN_41 : ixN 4 1 = some 1 := rfl
@[simp] theorem ixN_42 : ixN 4 2 = some 2 := rfl
@[simp] theorem ixN_43 : ixN 4 3 = some 3 := rfl
@[simp] theorem ixN_20 : ixN 2 0 = some 0 := rfl
@[simp] theorem ixN_21 : ixN 2 1 = some 1 := rfl
theorem mulC_of {i j : Int} (h : i.natAbs < 2 ^ 4000) (h2 : j.natAbs < 2 ^ 4000) : mulC i j = true := by
  unfold mulC
  rw [decide_eq_true_iff]
  have a : ∀ n : Nat, n < 2 ^ 4000 → n.log2 < 4000 := fun n hn => by
    by_cases z : n = 0
    · subst z; decide
    · exact (Nat.log2_lt z).mpr hn
  have := a _ h
  have := a _ h2
  omega
theorem p4000 : (1000000000000000000000 : Nat) < 2 ^ 4000 := by decide +kernel
theorem mulC_s {i j : Int} (h : -1000000000000000000 ≤ i) (h' : i ≤ 1000000000000000000) (h2 : -1000000000000000000 ≤ j) (h2' : j ≤ 1000000000000000000) : mulC i j = true :=
  mulC_of (Nat.lt_trans (by omega) p4000) (Nat.lt_trans (by omega) p4000)
theorem pow18 : powC 10 18 = true := by decide +kernel
theorem pow60 : powC 10 60 = true := by decide +kernel
theorem pow600 : powC (10 ^ 60) 10 = true := by decide +kernel
theorem pow6 : powC 10 6 = true := by decide +kernel
@[simp] theorem modC_eq {i j : Int} : modC i j = true ↔ 0 < j := by unfold modC; simp
@[simp] theorem divC_eq {i j : Int} : divC i j = true ↔ 0 < j ∧ j < 1073741824 := by unfold divC; simp
def Fd (d : D) : Prop := ∃ (ns : List Int) (p : Nat) (b s : Int), d = .own [.lst (ns.map .int), .int p, .int b, .int s] ∧ 0 ≤ b ∧ 0 ≤ s ∧ s < 2147483647
theorem Fd.mk {ns : List Int} {p : Nat} {b s : Int} (h1 : 0 ≤ b) (h2 : 0 ≤ s) (h3 : s < 2147483647) : Fd (.own [.lst (ns.map .int), .int p, .int b, .int s]) := ⟨ns, p, b, s, rfl, h1, h2, h3⟩
def DrawQ (m : Int) : D → List D → Prop := fun d os => ∃ v f', d = .int v ∧ os = [f'] ∧ 0 ≤ v ∧ v < m ∧ Fd f'
theorem p600 : (0 : Int) < (10 ^ 60) ^ 10 := by decide +kernel
theorem p18 : (10 : Int) ^ 18 = 1000000000000000000 := by decide +kernel
@[simp] theorem kQ_fd {f : D} {Q : D → Ev → Prop} {j : Nat} {w : Ev} (h : Fd f) : kQ Q j w f ↔ Q f (w.set j none) := by
  obtain ⟨ns, p, b, s, rfl, _⟩ := h; exact kQ_own
def SizeQ : D → List D → Prop := fun d os => ∃ v f', d = .int v ∧ os = [f'] ∧ 1 ≤ v ∧ v ≤ 1000000 ∧ Fd f'
theorem toNat_range {n : Int} (i : Nat) {d : D} (h : (rngD n.toNat)[i]? = some d) : d = .int i ∧ (i : Int) < n := by
  have e := rngD_get h
  have l : i < (rngD n.toNat).length := by
    rw [List.getElem?_eq_some_iff] at h; exact h.1
  rw [rngD_len] at l
  exact ⟨by rw [e, Int.zero_add], by omega⟩
theorem line {n : Nat} (h : n ≤ 1000000) : n ≤ sizeLine := Nat.le_trans h big
theorem line' {n : Nat} (h : n < 1000000) : n < sizeLine := Nat.lt_of_lt_of_le h big
def RowQ (n : Int) : D → List D → Prop := fun d os => ∃ (r : List Int) (f' : D), d = .tup (r.map .int) ∧ os = [f'] ∧ (r.length : Int) = n ∧ Fd f'
def intsTo (n : Nat) : List Int := (List.range n).map fun (i : Nat) => (i : Int)
theorem rngD_ints (n : Nat) : rngD n = (intsTo n).map D.int := by unfold rngD intsTo; rw [List.map_map]; rfl
theorem intsTo_len (n : Nat) : (intsTo n).length = n := by unfold intsTo; simp
theorem intsTo_mem {n : Nat} {i : Int} : i ∈ intsTo n ↔ 0 ≤ i ∧ i < n := by
  unfold intsTo
  simp only [List.mem_map, List.mem_range]
  constructor
  · rintro ⟨a, h, rfl⟩; omega
  · intro h; exact ⟨i.toNat, by omega, by omega⟩
theorem intsTo_nd (n : Nat) : (intsTo n).Nodup := by
  unfold intsTo
  unfold List.Nodup
  rw [List.pairwise_map]
  exact List.Pairwise.imp (fun h e => h (by omega)) (List.nodup_range (n := n))
def IsOrd (n : Nat) (o : List Int) : Prop := o.Nodup ∧ o.length = n ∧ ∀ i ∈ o, 0 ≤ i ∧ i < (n : Int)
theorem isOrd_of {n : Nat} {o : List Int} (h : o.Perm (intsTo n)) : IsOrd n o := ⟨h.nodup_iff.mpr (intsTo_nd n), by rw [h.length_eq, intsTo_len], fun i m => intsTo_mem.mp (h.mem_iff.mp m)⟩
theorem ixN_at {n : Nat} {i : Int} (h : 0 ≤ i) (h2 : i < n) : ixN n i = some i.toNat := by
  unfold ixN; rw [if_pos h, if_pos h2]
theorem ints_get {l : List Int} {k : Nat} (h : k < l.length) : (l.map D.int)[k]? = some (.int l[k]) := by
  rw [List.getElem?_map, List.getElem?_eq_getElem h]; rfl
theorem get_erase {α : Type} : ∀ {l : List α} {k : Nat} (hk : k < l.length), (l[k] :: l.eraseIdx k).Perm l
  | [], k, hk => absurd hk (Nat.not_lt_zero _)
  | a :: l, 0, hk => List.Perm.refl _
  | a :: l, k + 1, hk => by
    have hk' : k < l.length := Nat.lt_of_succ_lt_succ hk
    have ih := get_erase hk'
    show (l[k] :: a :: l.eraseIdx k).Perm (a :: l)
    exact (List.Perm.swap a _ _).trans (List.Perm.cons a ih)
theorem perm_pop {o l : List Int} {k : Nat} {z : List Int} (hk : k < l.length) (h : (o ++ l).Perm z) : ((o ++ [l[k]]) ++ l.eraseIdx k).Perm z := by
  refine List.Perm.trans ?_ h
  rw [List.append_assoc]
  refine List.Perm.append_left o ?_
  exact get_erase hk
theorem map_erase {l : List Int} {k : Nat} : (l.map D.int).eraseIdx k = (l.eraseIdx k).map D.int := by
  induction l generalizing k with
  | nil => rfl
  | cons a l ih =>
    cases k with
    | zero => rfl
    | succ k => show D.int a :: (l.map D.int).eraseIdx k = D.int a :: (l.eraseIdx k).map D.int; rw [ih]
def OrdQ (n : Nat) : D → List D → Prop := fun d os => ∃ (o : List Int) (f' : D), d = .tup (o.map .int) ∧ os = [f'] ∧ IsOrd n o ∧ Fd f'
def atR (r : List Int) (i : Int) : Int := r.getD i.toNat 0
def bel (r : List Int) : List Int → Bool
  | [] => false
  | i :: o => if atR r i = 0 then bel r o else decide (atR r i < 0)
theorem seqIx_at {r : List Int} {i : Int} (h : 0 ≤ i) (h2 : i < r.length) : seqIx (r.map D.int) i = some (.int (atR r i)) := by
  have e : i = ((i.toNat : Nat) : Int) := by omega
  have hk : i.toNat < r.length := by omega
  rw [show seqIx (r.map D.int) i = seqIx (r.map D.int) ((i.toNat : Nat) : Int) by rw [← e]]
  rw [seqIx_ints (List.getElem?_eq_getElem hk)]
  unfold atR
  rw [List.getD_eq_getElem?_getD, List.getElem?_eq_getElem hk]; rfl
def BlQ (b : Bool) : D → List D → Prop := fun d os => d = .bl b ∧ os = []
theorem ints_at {o : List Int} {i : Nat} {d : D} (h : (o.map D.int)[i]? = some d) : ∃ hi : i < o.length, d = .int o[i] := by
  rw [List.getElem?_map] at h
  obtain ⟨a, h1, h2⟩ := Option.map_eq_some_iff.mp h
  obtain ⟨hi, e⟩ := List.getElem?_eq_some_iff.mp h1
  exact ⟨hi, by rw [← h2, e]⟩
theorem bel_drop {r o : List Int} {i : Nat} (hi : i < o.length) : bel r (o.drop i) = if atR r o[i] = 0 then bel r (o.drop (i + 1)) else decide (atR r o[i] < 0) := by
  rw [List.drop_eq_getElem_cons hi]; rfl
@[simp] theorem dSl_tup {xs : List D} {lo hi : Option Int} : dSl (.tup xs) lo hi = if pls xs = true then some (.tup (cutD xs lo hi)) else none := rfl
@[simp] theorem dSl_lst {xs : List D} {lo hi : Option Int} : dSl (.lst xs) lo hi = if pls xs = true then some (.own (cutD xs lo hi)) else none := rfl
@[simp] theorem dSl_own {xs : List D} {lo hi : Option Int} : dSl (.own xs) lo hi = if pls xs = true then some (.own (cutD xs lo hi)) else none := rfl
theorem cutD_from {xs : List D} (k : Nat) : cutD xs (some (k : Int)) none = xs.drop k := by
  unfold cutD
  rw [show HT.sIx xs.length 0 (some (k : Int)) = min k xs.length from HT.sIx_nat xs.length 0 k, HT.sIx_none]
  by_cases h : k ≤ xs.length
  · rw [Nat.min_eq_left h, List.take_of_length_le (by rw [List.length_drop]; omega)]
  · rw [Nat.min_eq_right (by omega), List.drop_eq_nil_of_le (show xs.length ≤ k by omega)]; simp
theorem cutD_to {xs : List D} (k : Nat) : cutD xs none (some (k : Int)) = xs.take k := by
  unfold cutD
  rw [show HT.sIx xs.length xs.length (some (k : Int)) = min k xs.length from HT.sIx_nat xs.length xs.length k, HT.sIx_none]
  simp
theorem wp_mid {f g : PM Fl} {w : Ev} {QS : Fl → Ev → Prop} (M : Ev → Prop) (h1 : Wp (f w) fun fl w => fl = .nx ∧ M w) (h2 : ∀ w, M w → Wp (g w) QS) : Wp (sSeq f g w) QS := by
  rw [wp_Seq]
  refine h1.mono ?_
  rintro fl w ⟨rfl, m⟩
  exact h2 w m
theorem cmp_const {c : D} {j : Nat} {items : List D} {w : Ev} {QL : List D → Ev → Prop} (hj : j < w.length) (hl : items.length ≤ 1000000) (h : ∀ w2, w2.set j none = w.set j none → QL (items.map fun _ => c) w2) :
    Wp (cmpL (.nm j) tYesF (xC c) [j] items [] w) QL := by
  refine lz_cmp (fun i acc w2 => w2.set j none = w.set j none ∧ w2.length = w.length ∧ acc = List.replicate i c) ⟨rfl, rfl, rfl⟩ ?_ ?_
  · rintro acc w2 ⟨h1, _, h2⟩
    have := h w2 h1
    rw [List.map_const'] at this
    rw [h2]; exact this
  · rintro i d acc w2 hi ⟨h1, h2, h3⟩
    have il : i < items.length := (List.getElem?_eq_some_iff.mp hi).1
    simp [h2, hj, h3]
    exact ⟨Nat.lt_of_lt_of_le (by omega) big, h1, by rw [List.replicate_succ']⟩
def rowsD (rows : List (List Int)) : List D := rows.map fun r => D.tup (r.map D.int)
@[simp] theorem pls_rowsD {rows : List (List Int)} : pls (rowsD rows) = true := pls_rows
@[simp] theorem rowsD_len {rows : List (List Int)} : (rowsD rows).length = rows.length := by unfold rowsD; simp
theorem rowsD_at {rows : List (List Int)} {i : Nat} {d : D} (h : (rowsD rows)[i]? = some d) : ∃ hi : i < rows.length, d = .tup (rows[i].map .int) := by
  unfold rowsD at h
  rw [List.getElem?_map] at h
  obtain ⟨a, h1, h2⟩ := Option.map_eq_some_iff.mp h
  obtain ⟨hi, e⟩ := List.getElem?_eq_some_iff.mp h1
  exact ⟨hi, by rw [← h2, e]⟩
theorem rowsD_ix {rows : List (List Int)} {i : Nat} (h : i < rows.length) : seqIx (rowsD rows) (i : Int) = some (.tup (rows[i].map .int)) := seqIx_nat (by unfold rowsD; rw [List.getElem?_map, List.getElem?_eq_getElem h]; rfl) (by simp)
def InR (o r : List Int) : Prop := ∀ i ∈ o, 0 ≤ i ∧ i < (r.length : Int)
def DQ (d0 : D) : D → List D → Prop := fun d os => d = d0 ∧ os = []
theorem bel_zero {r : List Int} : ∀ {o : List Int}, (∀ i ∈ o, atR r i = 0) → bel r o = false
  | [], _ => rfl
  | i :: o, h => by
    show (if atR r i = 0 then bel r o else decide (atR r i < 0)) = false
    rw [if_pos (h i List.mem_cons_self)]
    exact bel_zero fun j m => h j (List.mem_cons_of_mem _ m)
theorem bel_lead {r : List Int} {v : Int} (hv : v ≠ 0) : ∀ {o : List Int} {p : Nat} (hp : p < o.length), (∀ q (hq : q < o.length), q < p → atR r o[q] = 0) → atR r o[p] = v → bel r o = decide (v < 0)
  | [], p, hp, _, _ => absurd hp (Nat.not_lt_zero _)
  | i :: o, 0, hp, h, e => by
    show (if atR r i = 0 then bel r o else decide (atR r i < 0)) = _
    have e' : atR r i = v := e
    rw [if_neg (by rw [e']; exact hv), e']
  | i :: o, p + 1, hp, h, e => by
    show (if atR r i = 0 then bel r o else decide (atR r i < 0)) = _
    have e0 : atR r i = 0 := h 0 (by simp) (by omega)
    rw [if_pos e0]
    exact bel_lead hv (p := p) (Nat.lt_of_succ_lt_succ hp) (fun q hq l => h (q + 1) (Nat.succ_lt_succ hq) (by omega)) e
theorem atR_set {r : List Int} {i j v : Int} (hi : 0 ≤ i) (hj : 0 ≤ j) : atR (r.set i.toNat v) j = if i = j ∧ i < r.length then v else atR r j := by
  unfold atR
  rw [List.getD_eq_getElem?_getD, List.getD_eq_getElem?_getD, List.getElem?_set]
  by_cases e : i = j
  · subst e
    by_cases l : i < r.length
    · rw [if_pos rfl, if_pos (by omega), if_pos ⟨rfl, l⟩]; rfl
    · rw [if_pos rfl, if_neg (by omega), if_neg (fun z => l z.2), List.getElem?_eq_none (by omega)]
  · rw [if_neg (by omega), if_neg (fun z => e z.1)]
theorem ints_set {r : List Int} {k : Nat} {v : Int} : (r.map D.int).set k (.int v) = (r.set k v).map D.int := by
  rw [List.map_set]
theorem ord_get {n : Nat} {o : List Int} (ho : IsOrd n o) {q : Nat} (hq : q < o.length) : 0 ≤ o[q] ∧ o[q] < (n : Int) := ho.2.2 _ (List.getElem_mem hq)
theorem ord_ne {n : Nat} {o : List Int} (ho : IsOrd n o) {p q : Nat} (hp : p < o.length) (hq : q < o.length) (h : p ≠ q) : o[p] ≠ o[q] := fun e => h ((List.getElem_inj ho.1).mp e)
theorem cmp_rng {e : PM D} {j : Nat} {n : Nat} {w : Ev} {QL : List D → Ev → Prop} (g : Nat → Int) (hj : j < w.length) (hl : n ≤ 1000000) (he : ∀ (i : Nat), i < n → Wp (e (w.set j (some (.int (i : Nat))))) fun d w3 => d = .int (g i) ∧ w3 = w.set j (some (.int (i : Nat)))) (h : ∀ (w2 : Ev), w2.set j none = w.set j none → w2.length = w.length → QL (((List.range n).map g).map D.int) w2) :
    Wp (cmpL (.nm j) tYesF e [j] (rngD n) [] w) QL := by
  refine lz_cmp (fun i acc w2 => w2.set j none = w.set j none ∧ w2.length = w.length ∧ acc = ((List.range i).map g).map D.int) ⟨rfl, rfl, rfl⟩ ?_ ?_
  · rintro acc w2 ⟨h1, h2, h3⟩
    rw [rngD_len] at h3
    rw [h3]; exact h w2 h1 h2
  · rintro i d acc w2 hi ⟨h1, h2, h3⟩
    have il : i < n := by have := (List.getElem?_eq_some_iff.mp hi).1; rw [rngD_len] at this; exact this
    have ed := rngD_get hi
    rw [Int.zero_add] at ed
    subst ed
    simp [h2, hj]
    have e1 : w2.set j (some (D.int (i : Nat))) = w.set j (some (D.int (i : Nat))) := by
      have := congrArg (fun z : Ev => z.set j (some (D.int (i : Nat)))) h1
      simpa using this
    rw [e1]
    refine Wp.mono (he i il) ?_
    rintro d w3 ⟨rfl, rfl⟩
    refine ⟨Nat.lt_of_lt_of_le (by rw [h3]; simp; omega) big, by simp, by simp, ?_⟩
    rw [h3, List.range_succ]; simp
theorem ord_in {n : Nat} {o r : List Int} (ho : IsOrd n o) (hr : r.length = n) : InR o r := fun i m => by
  have := ho.2.2 i m
  rw [hr]; exact this
def TruQ : D → List D → Prop := fun d os => ∃ f', d = .bl true ∧ os = [f'] ∧ Fd f'
theorem rowsD_app {a b : List (List Int)} : rowsD a ++ rowsD b = rowsD (a ++ b) := by unfold rowsD; rw [List.map_append]
theorem rowsD_one {a : List (List Int)} {r : List Int} : rowsD a ++ [.tup (r.map .int)] = rowsD (a ++ [r]) := by unfold rowsD; rw [List.map_append]; rfl
theorem rowsD_take {a : List (List Int)} {k : Nat} : (rowsD a).take k = rowsD (a.take k) := by unfold rowsD; rw [List.map_take]
theorem rowsD_drop {a : List (List Int)} {k : Nat} : (rowsD a).drop k = rowsD (a.drop k) := by unfold rowsD; rw [List.map_drop]
theorem ints_rv {K : PySem.W.Frag} {H : Hp} : ∀ ns : List Int, RVs K H (ns.map .int) (ns.map V.int) []
  | [] => ⟨rfl, rfl⟩
  | i :: ns => ⟨.int i, _, [], [], rfl, ⟨rfl, rfl⟩, ints_rv ns, rfl⟩
theorem fz_of {K : PySem.W.Frag} {H : Hp} {a : Addr} {vs : List V} (ho : Only H) (h : SqL K H a vs) : Fz K H a vs := by
  rcases h with (h | h) | h
  · rcases ho a with e | ⟨o, ys, e⟩
    · rw [h] at e; cases e
    · rw [h] at e; cases e
  · exact .inl h
  · exact .inr h
end Pm

set_option autoImplicit false
namespace Pm
open PySem PySem.Spec L2 
/-! ### shorter roads: continuations, pure comprehensions -/
theorem WpR.draw {r : Rd} {m : Int} {Q : D → List D → Prop} (h : WpR r (DrawQ m)) (k : ∀ v f', 0 ≤ v → v < m → Fd f' → Q (.int v) [f']) : WpR r Q := h.mono fun d os ⟨v, f', e, e2, h0, h1, hf⟩ => by subst e; subst e2; exact k v f' h0 h1 hf
theorem WpR.size {r : Rd} {Q : D → List D → Prop} (h : WpR r SizeQ) (k : ∀ v f', 1 ≤ v → v ≤ 1000000 → Fd f' → Q (.int v) [f']) : WpR r Q := h.mono fun d os ⟨v, f', e, e2, h0, h1, hf⟩ => by subst e; subst e2; exact k v f' h0 h1 hf
theorem WpR.dq {r : Rd} {d : D} {Q : D → List D → Prop} (h : WpR r (DQ d)) (k : Q d []) : WpR r Q := h.mono fun d' os ⟨e, e2⟩ => by subst e; subst e2; exact k
theorem WpR.bq {r : Rd} {b : Bool} {Q : D → List D → Prop} (h : WpR r (BlQ b)) (k : Q (.bl b) []) : WpR r Q := h.mono fun d' os ⟨e, e2⟩ => by subst e; subst e2; exact k
theorem wipe_len {w : Ev} : ∀ {vs : List Nat}, (wipeE w vs).length = w.length
  | [] => rfl
  | v :: vs => by rw [wipeE_cons, List.length_set, wipe_len]
theorem cmp_pure {α : Type} (g h : α → D) (xs : List α) (p : α → Bool) (W : α → Ev) {tg : Tgt} {c : PM Bool} {elt : PM D} {vs : List Nat} {w : Ev} {QL : List D → Ev → Prop} (hl : xs.length ≤ 100000)
    (ht : ∀ x ∈ xs, setT tg (g x) (wipeE w vs) = some (W x)) (hw : ∀ x ∈ xs, wipeE (W x) vs = wipeE w vs)
    (hc : ∀ x ∈ xs, Wp (c (W x)) fun b w3 => b = p x ∧ w3 = W x) (he : ∀ x ∈ xs, p x = true → Wp (elt (W x)) fun d w3 => d = h x ∧ w3 = W x)
    (hq : ∀ (w2 : Ev), wipeE w2 vs = wipeE w vs → w2.length = w.length → QL ((xs.filter p).map h) w2) : Wp (cmpL tg c elt vs (xs.map g) [] w) QL := by
  refine lz_cmp (fun i acc w2 => wipeE w2 vs = wipeE w vs ∧ w2.length = w.length ∧ acc = ((xs.take i).filter p).map h) ⟨rfl, rfl, rfl⟩ ?_ ?_
  · rintro acc w2 ⟨h1, h2, h3⟩
    rw [List.length_map, List.take_length] at h3
    rw [h3]; exact hq w2 h1 h2
  · rintro i d acc w2 hi ⟨h1, h2, h3⟩
    rw [List.getElem?_map] at hi
    obtain ⟨x, e1, e2⟩ := Option.map_eq_some_iff.mp hi
    have hx : x ∈ xs := List.mem_of_getElem? e1
    subst e2
    have il : i < xs.length := (List.getElem?_eq_some_iff.mp e1).1
    have hwl : (W x).length = w.length := by
      have := congrArg List.length (hw x hx)
      rw [wipe_len, wipe_len] at this; exact this
    rw [h1, ht x hx]
    refine ⟨_, rfl, ?_⟩
    refine Wp.mono (hc x hx) ?_
    rintro b w3 ⟨rfl, rfl⟩
    refine brQ_of (fun hp => ?_) fun hp => ?_
    · refine Wp.mono (he x hx hp) ?_
      rintro d w4 ⟨rfl, rfl⟩
      refine ⟨Nat.lt_of_lt_of_le (by rw [h3, List.length_map]; have := List.length_filter_le p (xs.take i); rw [List.length_take] at this; omega) big, hw x hx, hwl, ?_⟩
      rw [h3, List.take_add_one, e1]; simp [hp]
    · refine ⟨hw x hx, hwl, ?_⟩
      rw [h3, List.take_add_one, e1]; simp [hp]
/-- a comprehension without a test -/
theorem cmp_map {α : Type} (g h : α → D) (xs : List α) (W : α → Ev) {tg : Tgt} {elt : PM D} {vs : List Nat} {w : Ev} {QL : List D → Ev → Prop} (hl : xs.length ≤ 100000)
    (ht : ∀ x ∈ xs, setT tg (g x) (wipeE w vs) = some (W x)) (hw : ∀ x ∈ xs, wipeE (W x) vs = wipeE w vs)
    (he : ∀ x ∈ xs, Wp (elt (W x)) fun d w3 => d = h x ∧ w3 = W x)
    (hq : ∀ (w2 : Ev), wipeE w2 vs = wipeE w vs → w2.length = w.length → QL (xs.map h) w2) : Wp (cmpL tg tYesF elt vs (xs.map g) [] w) QL :=
  cmp_pure g h xs (fun _ => true) W hl ht hw (fun x m => by simp) (fun x m _ => he x m) fun w2 e el => by
    have : xs.filter (fun _ => true) = xs := List.filter_eq_self.mpr fun _ _ => rfl
    rw [this]; exact hq w2 e el
theorem enumD_map {α : Type} (g : α → D) (xs : List α) : enumD (xs.map g) = xs.zipIdx.map fun p => D.tup [.int (p.2 : Nat), g p.1] := by
  unfold enumD
  rw [List.zipIdx_map, List.map_map]; rfl
theorem enumD_rows (rows : List (List Int)) : enumD (rowsD rows) = rows.zipIdx.map fun p => D.tup [.int (p.2 : Nat), .tup (p.1.map D.int)] := enumD_map (fun r : List Int => D.tup (r.map D.int)) rows
/-- a loop that looks for the first item that fails -/
theorem lz_scan {tg : Tgt} {body : PM Fl} {items : List D} {w : Ev} {QS : Fl → Ev → Prop} (p : D → Bool) (J : Ev → Prop) (h0 : J w) (he : items.all p = true → ∀ w, J w → QS .nx w)
    (hs : ∀ d ∈ items, ∀ w, J w → ob (setT tg d w) fun w1 => Wp (body w1) (loopQ (fun w2 => p d = true ∧ J w2) (fun fl w2 => p d = false ∧ (items.all p = false → QS fl w2)))) : Wp (forL tg body items w) QS := by
  refine lz_for (fun i w => (items.take i).all p = true ∧ J w) ⟨rfl, h0⟩ ?_ ?_
  · rintro w ⟨h1, h2⟩
    rw [List.take_length] at h1
    exact he h1 w h2
  · rintro i d w hi ⟨h1, h2⟩
    have md : d ∈ items := List.mem_of_getElem? hi
    obtain ⟨w1, e1, h3⟩ := hs d md w h2
    refine ⟨w1, e1, h3.mono fun fl w2 h4 => ?_⟩
    have go : p d = true ∧ J w2 → (items.take (i + 1)).all p = true ∧ J w2 := fun ⟨a, b⟩ => ⟨by rw [List.take_add_one, hi, List.all_append, h1]; simp [a], b⟩
    have no : ∀ {fl : Fl}, p d = false ∧ (items.all p = false → QS fl w2) → QS fl w2 := fun ⟨a, b⟩ => b (List.all_eq_false.mpr ⟨d, md, by simp [a]⟩)
    cases fl with
    | nx => exact go h4
    | ct => exact go h4
    | bk => exact no h4
    | rt v => exact no h4
/-- data that own nothing are handed out as they are -/
theorem ice_pl {d : D} (p : pl d = true) {Q : D → Ev → Prop} {j : Nat} {w : Ev} : iceQ Q j w d ↔ Q d w := by
  cases d with
  | own xs => cases p
  | tup xs => rw [iceQ_tup, show pls xs = true from p]; simp
  | _ => exact .rfl
theorem kQ_pl {d : D} (p : pl d = true) {Q : D → Ev → Prop} {j : Nat} {w : Ev} : kQ Q j w d ↔ Q d w := by unfold kQ; rw [if_pos p]
/-- as lz_scan, with a test that simp leaves alone -/
def scanB (items : List D) (p : D → Bool) : Bool := items.all p
theorem scanB_no {items : List D} {p : D → Bool} {d : D} (m : d ∈ items) (h : p d = false) : scanB items p = false := List.all_eq_false.mpr ⟨d, m, by simp [h]⟩
theorem lz_scan' {tg : Tgt} {body : PM Fl} {items : List D} {w : Ev} {QS : Fl → Ev → Prop} (p : D → Bool) (J : Ev → Prop) (h0 : J w) (he : scanB items p = true → ∀ w, J w → QS .nx w)
    (hs : ∀ d ∈ items, ∀ w, J w → ob (setT tg d w) fun w1 => Wp (body w1) (loopQ (fun w2 => p d = true ∧ J w2) (fun fl w2 => p d = false ∧ (scanB items p = false → QS fl w2)))) : Wp (forL tg body items w) QS := lz_scan p J h0 he hs
/-! equality of lists of ints -/
theorem py_lay : ∀ l : List Int, PyData.canLayAll0 (toPys (l.map .int)) = true
  | [] => rfl
  | i :: l => by
    show (PyData.canLay0 (PyData.int i) && PyData.canLayAll0 (toPys (l.map .int))) = true
    rw [py_lay l]; rfl
theorem py_depth : ∀ l : List Int, PyData.depthAll (toPys (l.map .int)) = 0
  | [] => rfl
  | i :: l => by
    show max (PyData.depth (PyData.int i)) (PyData.depthAll (toPys (l.map .int))) = 0
    rw [py_depth l]; rfl
theorem py_eqv : ∀ l m : List Int, PyData.eqvAll (toPys (l.map .int)) (toPys (m.map .int)) = decide (l = m)
  | [], [] => rfl
  | [], j :: m => by rw [decide_eq_false (by simp)]; rfl
  | i :: l, [] => by rw [decide_eq_false (by simp)]; rfl
  | i :: l, j :: m => by
    show (PyData.eqv (PyData.int i) (PyData.int j) && PyData.eqvAll (toPys (l.map .int)) (toPys (m.map .int))) = _
    rw [py_eqv l m]
    show ((i == j) && _) = _
    by_cases h : i = j
    · by_cases h2 : l = m
      · simp [h, h2]
      · simp [h2]
    · simp [h]
theorem shaped_tup (l : List Int) : SeqAt.shaped (toPy (.tup (l.map .int))) = true := by
  show (PyData.canLayAll0 (toPys (l.map .int)) && decide (PyData.depthAll (toPys (l.map .int)) + 1 ≤ 64)) = true
  rw [py_lay, py_depth]; rfl
theorem shaped_own (l : List Int) : SeqAt.shaped (toPy (.own (l.map .int))) = true := shaped_tup l
theorem shaped_lst (l : List Int) : SeqAt.shaped (toPy (.lst (l.map .int))) = true := shaped_tup l
theorem dEq_tup (l m : List Int) : dEq (.tup (l.map .int)) (.tup (m.map .int)) = some (.bl (decide (l = m))) := by
  have e : PyData.eqv (toPy (.tup (l.map .int))) (toPy (.tup (m.map .int))) = decide (l = m) := py_eqv l m
  unfold dEq
  rw [if_pos ⟨shaped_tup l, shaped_tup m⟩, e]
theorem dNe_tup (l m : List Int) : dNe (.tup (l.map .int)) (.tup (m.map .int)) = some (.bl (!decide (l = m))) := by
  have e : PyData.eqv (toPy (.tup (l.map .int))) (toPy (.tup (m.map .int))) = decide (l = m) := py_eqv l m
  unfold dNe
  rw [if_pos ⟨shaped_tup l, shaped_tup m⟩, e]
theorem dEq_own (l m : List Int) : dEq (.own (l.map .int)) (.own (m.map .int)) = some (.bl (decide (l = m))) := by
  have e : PyData.eqv (toPy (.own (l.map .int))) (toPy (.own (m.map .int))) = decide (l = m) := py_eqv l m
  unfold dEq
  rw [if_pos ⟨shaped_own l, shaped_own m⟩, e]
theorem dNe_own (l m : List Int) : dNe (.own (l.map .int)) (.own (m.map .int)) = some (.bl (!decide (l = m))) := by
  have e : PyData.eqv (toPy (.own (l.map .int))) (toPy (.own (m.map .int))) = decide (l = m) := py_eqv l m
  unfold dNe
  rw [if_pos ⟨shaped_own l, shaped_own m⟩, e]
theorem seqIx_last {l : List Int} {v : Int} (h : l.getLast? = some v) : seqIx (l.map D.int) (-1) = some (.int v) := by
  have hl : 0 < l.length := by cases l with
    | nil => cases h
    | cons a l => simp
  have e : ixN (l.map D.int).length (-1) = some (l.length - 1) := by
    rw [List.length_map]
    unfold ixN
    rw [if_neg (by omega)]
    first
      | (rw [if_pos (by omega)]; congr 1; omega)
      | (rw [if_neg (by omega)]; congr 1; omega)
  have : atI (l.map D.int) (-1) = some (.int v) := by
    unfold atI
    rw [e, Option.bind_some, List.getElem?_map]
    rw [List.getLast?_eq_getElem?] at h
    rw [h]; rfl
  unfold seqIx
  rw [this]; rfl
theorem zip_snoc {α β : Type} : ∀ {a : List α} {b : List β} {v : β} (h : b.length < a.length), a.zip (b ++ [v]) = a.zip b ++ [(a[b.length], v)]
  | [], b, v, h => absurd h (Nat.not_lt_zero _)
  | x :: a, [], v, h => by simp
  | x :: a, y :: b, v, h => by
    have h' : b.length < a.length := by simpa using h
    have ih := zip_snoc (v := v) h'
    simp [ih]
/-- a comprehension whose elements are drawn -/
theorem cmp_draw {α : Type} (g : α → D) (P : Nat → α → Prop) (S : D → Ev) {tg : Tgt} {elt : PM D} {vs : List Nat} {items : List D} {w : Ev} {QL : List D → Ev → Prop} {f : D} (hf : Fd f) (hw : wipeE w vs = S f) (hl : items.length ≤ 100000)
    (hs : ∀ i d f, items[i]? = some d → Fd f → ob (setT tg d (S f)) fun w1 => Wp (elt w1) fun e w3 => ∃ a f', e = g a ∧ P i a ∧ Fd f' ∧ wipeE w3 vs = S f')
    (hq : ∀ (l : List α) f' w2, l.length = items.length → (∀ i (h : i < l.length), P i l[i]) → Fd f' → wipeE w2 vs = S f' → w2.length = (S f').length → QL (l.map g) w2) : Wp (cmpL tg tYesF elt vs items [] w) QL := by
  refine lz_cmp (fun i acc w2 => ∃ (l : List α) (f' : D), acc = l.map g ∧ l.length = i ∧ (∀ k (h : k < l.length), P k l[k]) ∧ Fd f' ∧ wipeE w2 vs = S f') ⟨[], f, rfl, rfl, (fun k h => absurd h (Nat.not_lt_zero _)), hf, hw⟩ ?_ ?_
  · rintro acc w2 ⟨l, f', rfl, h1, h2, h3, h4⟩
    exact hq l f' w2 h1 h2 h3 h4 (by have := congrArg List.length h4; rw [wipe_len] at this; exact this)
  · rintro i d acc w2 hi ⟨l, f', rfl, h1, h2, h3, h4⟩
    rw [h4]
    obtain ⟨w1, e1, h5⟩ := hs i d f' hi h3
    refine ⟨w1, e1, ?_⟩
    simp only [wp_Yes, brQ_t]
    refine h5.mono ?_
    rintro e w3 ⟨a, f2, rfl, hP, hf2, hw3⟩
    have il : i < items.length := (List.getElem?_eq_some_iff.mp hi).1
    refine ⟨Nat.lt_of_lt_of_le (by rw [List.length_map]; omega) big, l ++ [a], f2, by simp, by simp [h1], fun k hk => ?_, hf2, hw3⟩
    by_cases c : k < l.length
    · rw [List.getElem_append_left c]; exact h2 k c
    · have : k = l.length := by rw [List.length_append] at hk; simp at hk; omega
      subst this
      rw [List.getElem_append_right (by omega)]
      simp [h1, hP]
/-- what holds between two statements, kept whole -/
def Mid (M : Ev → Prop) (w : Ev) : Prop := M w
theorem Mid.mk {M : Ev → Prop} {w : Ev} (h : M w) : Mid M w := h
theorem wp_to {f g : PM Fl} {w : Ev} {QS : Fl → Ev → Prop} (M : Ev → Prop) (h1 : Wp (f w) fun fl w => fl = .nx ∧ Mid M w) (h2 : ∀ w, M w → Wp (g w) QS) : Wp (sSeq f g w) QS := wp_mid M h1 h2
theorem lz_forM {tg : Tgt} {body : PM Fl} {items : List D} {w : Ev} {QS : Fl → Ev → Prop} (M : Nat → Ev → Prop) (h0 : M 0 w) (he : ∀ w, M items.length w → QS .nx w)
    (hs : ∀ i d w, items[i]? = some d → M i w → ob (setT tg d w) fun w1 => Wp (body w1) (loopQ (Mid (M (i + 1))) QS)) : Wp (forL tg body items w) QS := lz_for M h0 he hs
end Pm

set_option autoImplicit false
namespace K18
open PySem PySem.Spec L2 Pm
def topS (i : Nat) : Stmt := PySem.Challenge.pw_nowhereworse_k18_row_bars.main.body.getD i (.Pass ⟨0, 0, 0, 0⟩)
abbrev s_is_nought : Stmt := topS 1
abbrev s_is_integer : Stmt := topS 4
abbrev s_is_nowhere_worse : Stmt := topS 13
abbrev s_law_feed : Stmt := topS 17
abbrev s_law_draw : Stmt := topS 18
abbrev s_law_reach : Stmt := topS 25
abbrev s_law_integers : Stmt := topS 27
abbrev s_law_is_bar_row : Stmt := topS 28
abbrev s_law_put : Stmt := topS 33
abbrev s_law_without : Stmt := topS 34
abbrev s_free_rules : Stmt := topS 2
abbrev s_integer_within : Stmt := topS 5
abbrev s_law_shuffled : Stmt := topS 19
abbrev s_law_size : Stmt := topS 20
abbrev s_law_due : Stmt := topS 26
abbrev s_law_judge : Stmt := topS 29
abbrev s_law_same_bar : Stmt := topS 30
abbrev s_law_bent : Stmt := topS 35
abbrev s_law_others : Stmt := topS 36
abbrev s_law_odd : Stmt := topS 37
abbrev s_law_last_rows : Stmt := topS 39
abbrev s_are_ascending : Stmt := topS 6
abbrev s_strata_of : Stmt := topS 8
abbrev s_are_row_papers : Stmt := topS 14
abbrev s_law_lead : Stmt := topS 21
abbrev s_law_plain : Stmt := topS 22
abbrev s_law_bar_row : Stmt := topS 23
abbrev s_reach_of : Stmt := topS 9
abbrev s_is_row_bar : Stmt := topS 15
abbrev s_law_world : Stmt := topS 24
abbrev s_law_scene : Stmt := topS 32
abbrev s_rest_of : Stmt := topS 10
abbrev s_law_says : Stmt := topS 31
abbrev s_row_bar : Stmt := topS 12
abbrev s_law_true_for_one : Stmt := topS 38
abbrev s_law_papers : Stmt := topS 40
abbrev s_law : Stmt := topS 41
theorem sc_is_nought : FnScope ["row", "some", "rule"] ["row", "some"] (defScope s_is_nought) := ⟨rfl, rfl, rfl, by decide +kernel, rfl, by decide +kernel, by decide +kernel⟩
theorem sc_is_integer : FnScope ["thing"] ["thing"] (defScope s_is_integer) := ⟨rfl, rfl, rfl, by decide +kernel, rfl, by decide +kernel, by decide +kernel⟩
theorem sc_is_nowhere_worse : FnScope ["row", "rule", "inside", "other", "number"] ["row", "rule", "inside"] (defScope s_is_nowhere_worse) := ⟨rfl, rfl, rfl, by decide +kernel, rfl, by decide +kernel, by decide +kernel⟩
theorem sc_law_feed : FnScope ["script", "cells", "cell"] ["script"] (defScope s_law_feed) := ⟨rfl, rfl, rfl, by decide +kernel, rfl, by decide +kernel, by decide +kernel⟩
theorem sc_law_draw : FnScope ["feed", "many", "cell", "pick"] ["feed", "many"] (defScope s_law_draw) := ⟨rfl, rfl, rfl, by decide +kernel, rfl, by decide +kernel, by decide +kernel⟩
theorem sc_law_reach : FnScope ["many", "rows", "ahead", "lap", "barred", "row", "more", "rule"] ["many", "rows"] (defScope s_law_reach) := ⟨rfl, rfl, rfl, by decide +kernel, rfl, by decide +kernel, by decide +kernel⟩
theorem sc_law_integers : FnScope ["thing", "most", "one"] ["thing", "most"] (defScope s_law_integers) := ⟨rfl, rfl, rfl, by decide +kernel, rfl, by decide +kernel, by decide +kernel⟩
theorem sc_law_is_bar_row : FnScope ["row", "rules", "rule", "other"] ["row", "rules", "rule"] (defScope s_law_is_bar_row) := ⟨rfl, rfl, rfl, by decide +kernel, rfl, by decide +kernel, by decide +kernel⟩
theorem sc_law_put : FnScope ["things", "place", "thing"] ["things", "place", "thing"] (defScope s_law_put) := ⟨rfl, rfl, rfl, by decide +kernel, rfl, by decide +kernel, by decide +kernel⟩
theorem sc_law_without : FnScope ["things", "place"] ["things", "place"] (defScope s_law_without) := ⟨rfl, rfl, rfl, by decide +kernel, rfl, by decide +kernel, by decide +kernel⟩
theorem sc_free_rules : FnScope ["many", "rows", "some", "tied", "told", "rule", "row"] ["many", "rows", "some"] (defScope s_free_rules) := ⟨rfl, rfl, rfl, by decide +kernel, rfl, by decide +kernel, by decide +kernel⟩
theorem sc_integer_within : FnScope ["thing", "low", "high"] ["thing", "low", "high"] (defScope s_integer_within) := ⟨rfl, rfl, rfl, by decide +kernel, rfl, by decide +kernel, by decide +kernel⟩
theorem sc_law_shuffled : FnScope ["feed", "things", "left", "out", "place"] ["feed", "things"] (defScope s_law_shuffled) := ⟨rfl, rfl, rfl, by decide +kernel, rfl, by decide +kernel, by decide +kernel⟩
theorem sc_law_size : FnScope ["feed", "kind"] ["feed"] (defScope s_law_size) := ⟨rfl, rfl, rfl, by decide +kernel, rfl, by decide +kernel, by decide +kernel⟩
theorem sc_law_due : FnScope ["many", "rows", "reach", "rest", "numbers", "rule", "number", "row", "other"] ["many", "rows"] (defScope s_law_due) := ⟨rfl, rfl, rfl, by decide +kernel, rfl, by decide +kernel, by decide +kernel⟩
theorem sc_law_judge : FnScope ["many", "rows", "thing", "rules", "place"] ["many", "rows", "thing"] (defScope s_law_judge) := ⟨rfl, rfl, rfl, by decide +kernel, rfl, by decide +kernel, by decide +kernel⟩
theorem sc_law_same_bar : FnScope ["told", "due"] ["told", "due"] (defScope s_law_same_bar) := ⟨rfl, rfl, rfl, by decide +kernel, rfl, by decide +kernel, by decide +kernel⟩
theorem sc_law_bent : FnScope ["feed", "many", "rows", "some", "base", "marks", "spots", "spot", "back", "bent", "place"] ["feed", "many", "rows", "some", "base", "marks", "spots"] (defScope s_law_bent) := ⟨rfl, rfl, rfl, by decide +kernel, rfl, by decide +kernel, by decide +kernel⟩
theorem sc_law_others : FnScope ["feed", "many", "rows", "some", "base", "spot", "others", "bits", "drawn", "more", "rule"] ["feed", "many", "rows", "some", "base"] (defScope s_law_others) := ⟨rfl, rfl, rfl, by decide +kernel, rfl, by decide +kernel, by decide +kernel⟩
theorem sc_law_odd : FnScope ["feed", "deep", "lap", "odd"] ["feed"] (defScope s_law_odd) := ⟨rfl, rfl, rfl, by decide +kernel, rfl, by decide +kernel, by decide +kernel⟩
theorem sc_law_last_rows : FnScope ["many", "rows", "reach", "rest", "numbers", "rule", "found", "number"] ["many", "rows"] (defScope s_law_last_rows) := ⟨rfl, rfl, rfl, by decide +kernel, rfl, by decide +kernel, by decide +kernel⟩
theorem sc_are_ascending : FnScope ["thing", "most", "ahead", "number"] ["thing", "most"] (defScope s_are_ascending) := ⟨rfl, rfl, rfl, by decide +kernel, rfl, by decide +kernel, by decide +kernel⟩
theorem sc_strata_of : FnScope ["many", "rows", "some", "told", "free"] ["many", "rows"] (defScope s_strata_of) := ⟨rfl, rfl, rfl, by decide +kernel, rfl, by decide +kernel, by decide +kernel⟩
theorem sc_are_row_papers : FnScope ["rows", "rules", "inside", "thing", "rule", "number"] ["rows", "rules", "inside", "thing"] (defScope s_are_row_papers) := ⟨rfl, rfl, rfl, by decide +kernel, rfl, by decide +kernel, by decide +kernel⟩
theorem sc_law_lead : FnScope ["feed", "order", "place", "row", "rule"] ["feed", "order", "place"] (defScope s_law_lead) := ⟨rfl, rfl, rfl, by decide +kernel, rfl, by decide +kernel, by decide +kernel⟩
theorem sc_law_plain : FnScope ["feed", "many", "place"] ["feed", "many"] (defScope s_law_plain) := ⟨rfl, rfl, rfl, by decide +kernel, rfl, by decide +kernel, by decide +kernel⟩
theorem sc_law_bar_row : FnScope ["feed", "order", "top", "rule", "row", "other"] ["feed", "order", "top", "rule"] (defScope s_law_bar_row) := ⟨rfl, rfl, rfl, by decide +kernel, rfl, by decide +kernel, by decide +kernel⟩
theorem sc_reach_of : FnScope ["many", "rows", "stratum", "rule"] ["many", "rows"] (defScope s_reach_of) := ⟨rfl, rfl, rfl, by decide +kernel, rfl, by decide +kernel, by decide +kernel⟩
theorem sc_is_row_bar : FnScope ["many", "rows", "thing", "rules", "numbers"] ["many", "rows", "thing"] (defScope s_is_row_bar) := ⟨rfl, rfl, rfl, by decide +kernel, rfl, by decide +kernel, by decide +kernel⟩
theorem sc_law_world : FnScope ["feed", "order", "top", "wide", "core", "rule", "ahead", "lap"] ["feed", "order", "top", "wide"] (defScope s_law_world) := ⟨rfl, rfl, rfl, by decide +kernel, rfl, by decide +kernel, by decide +kernel⟩
theorem sc_law_scene : FnScope ["feed", "many", "some", "wide", "spots", "tagged", "tag", "row", "lap", "ahead", "numbers", "place", "rule", "other", "outside", "one"] ["feed", "many", "some", "wide"] (defScope s_law_scene) := ⟨rfl, rfl, rfl, by decide +kernel, rfl, by decide +kernel, by decide +kernel⟩
theorem sc_rest_of : FnScope ["many", "rows", "reach", "rule"] ["many", "rows"] (defScope s_rest_of) := ⟨rfl, rfl, rfl, by decide +kernel, rfl, by decide +kernel, by decide +kernel⟩
theorem sc_law_says : FnScope ["many", "rows", "thing", "due", "counts", "told"] ["many", "rows", "thing", "due", "counts"] (defScope s_law_says) := ⟨rfl, rfl, rfl, by decide +kernel, rfl, by decide +kernel, by decide +kernel⟩
theorem sc_row_bar : FnScope ["many", "rows", "rest", "reach", "numbers", "rule", "at", "row"] ["many", "rows"] (defScope s_row_bar) := ⟨rfl, rfl, rfl, by decide +kernel, rfl, by decide +kernel, by decide +kernel⟩
theorem sc_law_true_for_one : FnScope ["feed", "rows", "counts", "thing"] ["feed"] (defScope s_law_true_for_one) := ⟨rfl, rfl, rfl, by decide +kernel, rfl, by decide +kernel, by decide +kernel⟩
theorem sc_law_papers : FnScope ["feed", "many", "wide", "mixed", "some", "base", "marks", "counts", "right", "thing", "rows", "numbers", "spots", "rule"] ["feed", "many", "wide"] (defScope s_law_papers) := ⟨rfl, rfl, rfl, by decide +kernel, rfl, by decide +kernel, by decide +kernel⟩
theorem sc_law : FnScope ["script", "feed", "many", "wide", "order", "rows", "drawn", "top", "due", "rule"] ["script"] (defScope s_law) := ⟨rfl, rfl, rfl, by decide +kernel, rfl, by decide +kernel, by decide +kernel⟩
noncomputable abbrev b_is_nought : PM Fl := (sSeq (sFor [some 1] (iW qG (xCons (xK 1) xNil)) (.nm 2) (sIf (tBl (x2gg dNe (x2pp dIx (qV 0) (qV 2)) (xC (.int 0)))) (sRet (xC (.bl false))) sNx)) (sRet (xC (.bl true))))
noncomputable def m_is_nought : List D → Rd := mkDef 3 2 [] b_is_nought
noncomputable abbrev b_is_integer : PM Fl := (sRet (xAnd (x1p (dIsi "int") (qV 0)) (x1g dNot (x1p (dIsi "bool") (qV 0)))))
noncomputable def m_is_integer : List D → Rd := mkDef 1 1 [] b_is_integer
noncomputable abbrev b_is_nowhere_worse : PM Fl := (sSeq (sIf (tBl (x2gg dGe (x2pp dIx (qV 0) (qV 1)) (xC (.int 0)))) (sRet (xC (.bl false))) sNx) (sSeq (sFor [some 0] (iW qEn (xCons (xK 0) xNil)) (.tp [3, 4]) (sIf (tAndF (tBl (x2vg dGt 4 (xC (.int 0)))) (tBl (x2pp (dIn true) (qV 3) (qV 2)))) (sRet (xC (.bl false))) sNx)) (sRet (xC (.bl true)))))
noncomputable def m_is_nowhere_worse : List D → Rd := mkDef 5 3 [] b_is_nowhere_worse
noncomputable abbrev b_law_feed : PM Fl := (sSeq (sSet 1 (xComp [none] (iW qG (xCons (xSlv 0 bN (bS (xC (.int 63)))) xNil)) (.nm 2) tYesF (x1p dInt (qV 2)) [2])) (sRet (xOwn (xCons (xI 1) (xCons (xC (.int 0)) (xCons (xC (.int 0)) (xCons (x2gg dMod (x1g dInt (x2gg dAdd (x2gg dMul (x1p dLen (qV 1)) (xC (.int 4603))) (xC (.int 977)))) (xC (.int 2147483579))) xNil)))))))
noncomputable def m_law_feed : List D → Rd := mkDef 3 1 [] b_law_feed
noncomputable abbrev b_law_draw : PM Fl := (sSeq (sIf (tAndF (tBl (x2gg dEq (x2vg dIx 0 (xC (.int 2))) (xC (.int 0)))) (tBl (x2gg dLt (x2vg dIx 0 (xC (.int 1))) (x1g dLen (x2vg dIx 0 (xC (.int 0))))))) (sSeq (sSet 2 (x2gg dIx (x2vg dIx 0 (xC (.int 0))) (x2vg dIx 0 (xC (.int 1))))) (sSeq (sSetI 0 (x2gg dAdd (x2vg dIx 0 (xC (.int 1))) (xC (.int 1))) (xC (.int 1))) (sSeq (sIf (tBl (x2vg dLt 2 (xC (.int 0)))) (sSet 2 (x1g dNeg (xP (qV 2)))) sNx) (sIf (tBl (x2vg dLt 2 (x2gg dPow (xC (.int 10)) (xC (.int 18))))) (sSetI 0 (x2gg dMod (x1g dInt (x2gg dAdd (x2gg dAdd (x2gg dMul (x2vg dIx 0 (xC (.int 3))) (xC (.int 46303))) (x2vg dMul 2 (xC (.int 43)))) (xC (.int 7)))) (xC (.int 2147483579))) (xC (.int 3))) (sSetI 0 (x2gg dMod (x1p dInt (qV 2)) (x2gg dPow (x2gg dPow (xC (.int 10)) (xC (.int 60))) (xC (.int 10)))) (xC (.int 2))))))) sNx) (sSeq (sIf (tBl (x2gg dGt (x2vg dIx 0 (xC (.int 2))) (xC (.int 0)))) (sSeq (sSet 3 (x2gp dMod (x1g dInt (x2vg dIx 0 (xC (.int 2)))) (qV 1))) (sSeq (sSetI 0 (x2gp dDiv (x1g dInt (x2vg dIx 0 (xC (.int 2)))) (qV 1)) (xC (.int 2))) (sRet (xT 3)))) sNx) (sSeq (sSetI 0 (x2gg dMod (x1g dInt (x2gg dAdd (x2gg dMul (x2vg dIx 0 (xC (.int 3))) (xC (.int 41546))) (xC (.int 29)))) (xC (.int 2147483579))) (xC (.int 3))) (sRet (x2gp dMod (x1g dInt (x2gg dDiv (x2vg dIx 0 (xC (.int 3))) (xC (.int 16)))) (qV 1))))))
noncomputable def m_law_draw : List D → Rd := mkDef 4 2 [0] b_law_draw
noncomputable abbrev b_law_reach : PM Fl := (sSeq (sSet 2 (xOwn xNil)) (sSeq (sFor [none] (iW qR1 (xCons (xP (qV 0)) xNil)) (.nm 3) (sSeq (sSet 4 (xComp [none] (iW qR1 (xCons (xP (qV 0)) xNil)) (.nm 7) tYesF (xC (.bl false)) [7])) (sSeq (sFor [some 1] (iW qG (xCons (xK 1) xNil)) (.nm 5) (sIf (tBl (x2gg dEq (x1g dLen (xComp [some 2] (iW qG (xCons (xK 2) xNil)) (.nm 7) (tBl (x2gg dNe (x2pp dIx (qV 5) (qV 7)) (xC (.int 0)))) (xI 7) [7])) (xC (.int 0)))) (sSet 4 (xComp [none] (iW qR1 (xCons (xP (qV 0)) xNil)) (.nm 7) tYesF (xOr (x2pp dIx (qV 4) (qV 7)) (x2gg dLt (x2pp dIx (qV 5) (qV 7)) (xC (.int 0)))) [7])) sNx)) (sSeq (sSet 6 (xComp [none] (iW qR1 (xCons (xP (qV 0)) xNil)) (.nm 7) (tAndF (tNotF (tTru (x2pp dIx (qV 4) (qV 7)))) (tBl (x2pp (dIn true) (qV 7) (qV 2)))) (xI 7) [7])) (sSeq (sIf (tBl (x2gg dEq (x1p dLen (qV 6)) (xC (.int 0)))) sBk sNx) (sSet 2 (x2pp dAdd (qV 2) (qV 6)))))))) (sRet (xT 2))))
noncomputable def m_law_reach : List D → Rd := mkDef 8 2 [] b_law_reach
noncomputable abbrev b_law_integers : PM Fl := (sSeq (sIf (tNotF (tTru (x1p (dIsi "tuple") (qV 0)))) (sRet (xC (.bl false))) sNx) (sSeq (sFor [some 0] (iW qG (xCons (xK 0) xNil)) (.nm 2) (sIf (tOrF (tNotF (tTru (x1p (dIsi "int") (qV 2)))) (tOrF (tTru (x1p (dIsi "bool") (qV 2))) (tOrF (tBl (x2vg dLt 2 (xC (.int 0)))) (tBl (x2pp dGt (qV 2) (qV 1)))))) (sRet (xC (.bl false))) sNx)) (sRet (xC (.bl true)))))
noncomputable def m_law_integers : List D → Rd := mkDef 3 2 [] b_law_integers
noncomputable abbrev b_law_is_bar_row : PM Fl := (sRet (xAnd (x2gg dLt (x2pp dIx (qV 0) (qV 2)) (xC (.int 0))) (x2gg dEq (x1g dLen (xComp [none] (iW qR1 (xCons (x1p dLen (qV 0)) xNil)) (.nm 3) (tAndF (tBl (x2pp (dIn true) (qV 3) (qV 1))) (tBl (x2gg dGt (x2pp dIx (qV 0) (qV 3)) (xC (.int 0))))) (xI 3) [3])) (xC (.int 0)))))
noncomputable def m_law_is_bar_row : List D → Rd := mkDef 4 3 [] b_law_is_bar_row
noncomputable abbrev b_law_put : PM Fl := (sRet (x1g dTuple (x2gg dAdd (x2gg dAdd (x1g dList (xSlv 0 bN (bS (xP (qV 1))))) (xOwn (xCons (xI 2) xNil))) (x1g dList (xSlv 0 (bS (x2vg dAdd 1 (xC (.int 1)))) bN)))))
noncomputable def m_law_put : List D → Rd := mkDef 3 3 [] b_law_put
noncomputable abbrev b_law_without : PM Fl := (sRet (x1g dTuple (x2gg dAdd (x1g dList (xSlv 0 bN (bS (xP (qV 1))))) (x1g dList (xSlv 0 (bS (x2vg dAdd 1 (xC (.int 1)))) bN)))))
noncomputable def m_law_without : List D → Rd := mkDef 2 2 [] b_law_without
noncomputable abbrev b_free_rules : PM Fl := (sSeq (sSet 3 (xComp [some 1] (iW qG (xCons (xK 1) xNil)) (.nm 6) (tTru (xCal 2 [] m_is_nought (xCons (xI 6) (xCons (xI 2) xNil)))) (xI 6) [6])) (sSeq (sSet 4 (xOwn xNil)) (sSeq (sFor [none] (iW qR1 (xCons (xP (qV 0)) xNil)) (.nm 5) (sIf (tAndF (tBl (x2pp (dIn true) (qV 5) (qV 2))) (tNotF (tTru (xComp [some 3] (iW qG (xCons (xK 3) xNil)) (.nm 6) (tBl (x2gg dLt (x2pp dIx (qV 6) (qV 5)) (xC (.int 0)))) (xI 6) [6])))) (sExpr (xApp 4 (xI 5))) sNx)) (sRet (x1p dTuple (qV 4))))))
noncomputable def m_free_rules : List D → Rd := mkDef 7 3 [] b_free_rules
noncomputable abbrev b_integer_within : PM Fl := (sRet (xAnd (xCal 1 [] m_is_integer (xCons (xI 0) xNil)) (x3c dLe dLe (xP (qV 1)) (xP (qV 0)) (xP (qV 2)))))
noncomputable def m_integer_within : List D → Rd := mkDef 3 3 [] b_integer_within
noncomputable abbrev b_law_shuffled : PM Fl := (sSeq (sSet 2 (x1p dList (qV 1))) (sSeq (sSet 3 (xOwn xNil)) (sSeq (sFor [none] (iW qR1 (xCons (x1p dLen (qV 1)) xNil)) (.nm 4) (sExpr (xApp 3 (xPopAt 2 (xCal 2 [some 0] m_law_draw (xZ 0 (xCons (x1p dLen (qV 2)) xNil))))))) (sRet (xT 3)))))
noncomputable def m_law_shuffled : List D → Rd := mkDef 5 2 [0] b_law_shuffled
noncomputable abbrev b_law_size : PM Fl := (sSeq (sSet 1 (xCal 2 [some 0] m_law_draw (xZ 0 (xCons (xC (.int 5)) xNil)))) (sSeq (sIf (tBl (x2vg dLt 1 (xC (.int 2)))) (sRet (x2gp dAdd (xC (.int 1)) (qV 1))) sNx) (sSeq (sIf (tBl (x2vg dEq 1 (xC (.int 2)))) (sRet (x2gg dAdd (xC (.int 2)) (xCal 2 [some 0] m_law_draw (xZ 0 (xCons (xC (.int 90)) xNil))))) sNx) (sSeq (sIf (tBl (x2vg dEq 1 (xC (.int 3)))) (sRet (x2gg dSub (x2gg dPow (xC (.int 10)) (xC (.int 6))) (xCal 2 [some 0] m_law_draw (xZ 0 (xCons (xC (.int 5)) xNil))))) sNx) (sRet (x2gg dAdd (xC (.int 1)) (xCal 2 [some 0] m_law_draw (xZ 0 (xCons (x2gg dPow (xC (.int 10)) (xC (.int 6))) xNil)))))))))
noncomputable def m_law_size : List D → Rd := mkDef 2 1 [0] b_law_size
noncomputable abbrev b_law_due : PM Fl := (sSeq (sSet 2 (xCal 2 [] m_law_reach (xCons (xI 0) (xCons (xI 1) xNil)))) (sSeq (sSet 3 (xComp [none] (iW qR1 (xCons (xP (qV 0)) xNil)) (.nm 5) (tBl (x2pp (dIn true) (qV 5) (qV 2))) (xI 5) [5])) (sSeq (sIf (tBl (x2gg dEq (x1p dLen (qV 3)) (xC (.int 0)))) (sRet (xC .non)) sNx) (sSeq (sSet 4 (xOwn xNil)) (sSeq (sFor [some 3] (iW qG (xCons (xK 3) xNil)) (.nm 5) (sFor [none] (iW qR1 (xCons (x1p dLen (qV 1)) xNil)) (.nm 6) (sSeq (sSet 7 (x2pp dIx (qV 1) (qV 6))) (sIf (tAndF (tBl (x2gg dLt (x2pp dIx (qV 7) (qV 5)) (xC (.int 0)))) (tBl (x2gg dEq (x1g dLen (xComp [some 2] (iW qG (xCons (xK 2) xNil)) (.nm 8) (tBl (x2gg dNe (x2pp dIx (qV 7) (qV 8)) (xC (.int 0)))) (xI 8) [8])) (xC (.int 0))))) (sSeq (sExpr (xApp 4 (xI 6))) sBk) sNx)))) (sRet (xTup (xCons (x1p dTuple (qV 3)) (xCons (x1p dTuple (qV 4)) xNil)))))))))
noncomputable def m_law_due : List D → Rd := mkDef 9 2 [] b_law_due
noncomputable abbrev b_law_judge : PM Fl := (sSeq (sIf (tOrF (tNotF (tTru (x1p (dIsi "tuple") (qV 2)))) (tBl (x2gg dNe (x1p dLen (qV 2)) (xC (.int 2))))) (sRet (xC (.bl false))) sNx) (sSeq (sIf (tOrF (tNotF (tTru (xCal 2 [] m_law_integers (xCons (x2vg dIx 2 (xC (.int 0))) (xCons (x2vg dSub 0 (xC (.int 1))) xNil))))) (tNotF (tTru (xCal 2 [] m_law_integers (xCons (x2vg dIx 2 (xC (.int 1))) (xCons (x2gg dSub (x1p dLen (qV 1)) (xC (.int 1))) xNil)))))) (sRet (xC (.bl false))) sNx) (sSeq (sSet 3 (x2vg dIx 2 (xC (.int 0)))) (sSeq (sIf (tOrF (tBl (x2gg dEq (x1p dLen (qV 3)) (xC (.int 0)))) (tBl (x2gg dNe (x1p dLen (qV 3)) (x1g dLen (x2vg dIx 2 (xC (.int 1))))))) (sRet (xC (.bl false))) sNx) (sSeq (sFor [none] (iW qR1 (xCons (x1p dLen (qV 3)) xNil)) (.nm 4) (sSeq (sIf (tAndF (tBl (x2vg dGt 4 (xC (.int 0)))) (tBl (x2gg dLe (x2pp dIx (qV 3) (qV 4)) (x2vg dIx 3 (x2vg dSub 4 (xC (.int 1))))))) (sRet (xC (.bl false))) sNx) (sIf (tNotF (tTru (xCal 3 [] m_law_is_bar_row (xCons (x2vg dIx 1 (x2gp dIx (x2vg dIx 2 (xC (.int 1))) (qV 4))) (xCons (xI 3) (xCons (x2pp dIx (qV 3) (qV 4)) xNil)))))) (sRet (xC (.bl false))) sNx))) (sRet (xC (.bl true))))))))
noncomputable def m_law_judge : List D → Rd := mkDef 5 3 [] b_law_judge
noncomputable abbrev b_law_same_bar : PM Fl := (sSeq (sIf (tBl (x2vg (dIsX false) 1 (xC .non))) (sRet (x2vg (dIsX false) 0 (xC .non))) sNx) (sSeq (sIf (tOrF (tNotF (tTru (x1p (dIsi "tuple") (qV 0)))) (tBl (x2gg dNe (x1p dLen (qV 0)) (xC (.int 2))))) (sRet (xC (.bl false))) sNx) (sRet (xAnd (xCal 2 [] m_law_integers (xCons (x2vg dIx 0 (xC (.int 0))) (xCons (xC (.int 5)) xNil))) (xAnd (xCal 2 [] m_law_integers (xCons (x2vg dIx 0 (xC (.int 1))) (xCons (xC (.int 199)) xNil))) (xAnd (x2gg dEq (x2vg dIx 0 (xC (.int 0))) (x2vg dIx 1 (xC (.int 0)))) (x2gg dEq (x2vg dIx 0 (xC (.int 1))) (x2vg dIx 1 (xC (.int 1))))))))))
noncomputable def m_law_same_bar : List D → Rd := mkDef 2 2 [] b_law_same_bar
noncomputable abbrev b_law_bent : PM Fl := (sSeq (sSet 7 (xCal 2 [some 0] m_law_draw (xZ 0 (xCons (x1p dLen (qV 3)) xNil)))) (sSeq (sSet 8 (xRngL3 (xCons (x2gg dSub (x1p dLen (qV 3)) (xC (.int 1))) (xCons (x1g dNeg (xC (.int 1))) (xCons (x1g dNeg (xC (.int 1))) xNil))))) (sSeq (sSet 9 (xOwn (xCons (xTup (xCons (xI 3) (xCons (xCal 3 [] m_law_put (xCons (xI 4) (xCons (xI 7) (xCons (x2vg dIx 5 (xC (.int 2))) xNil)))) xNil))) (xCons (xTup (xCons (xI 3) (xCons (x2vg dAdd 4 (xTup (xCons (x2vg dIx 5 (xC (.int 2))) xNil))) xNil))) (xCons (xTup (xCons (xI 3) (xCons (xCal 2 [] m_law_without (xCons (xI 4) (xCons (xI 7) xNil))) xNil))) xNil))))) (sSeq (sExpr (xApp 9 (xTup (xCons (xCal 2 [] m_law_without (xCons (xI 3) (xCons (xI 7) xNil))) (xCons (xI 4) xNil))))) (sSeq (sExpr (xApp 9 (xTup (xCons (xI 3) (xCons (xCal 3 [] m_law_put (xCons (xI 4) (xCons (xI 7) (xCons (x2gg dSub (x2pp dIx (qV 4) (qV 7)) (x1p dLen (qV 2))) xNil)))) xNil))))) (sSeq (sExpr (xApp 9 (xTup (xCons (xI 3) (xCons (xCal 3 [] m_law_put (xCons (xI 4) (xCons (xI 7) (xCons (x1p dLen (qV 2)) xNil)))) xNil))))) (sSeq (sExpr (xApp 9 (xTup (xCons (xCal 3 [] m_law_put (xCons (xI 3) (xCons (xC (.int 0)) (xCons (x2gp dSub (x2vg dIx 3 (xC (.int 0))) (qV 1)) xNil)))) (xCons (xI 4) xNil))))) (sSeq (sExpr (xApp 9 (xTup (xCons (x2vg dAdd 3 (xTup (xCons (xI 1) xNil))) (xCons (x2vg dAdd 4 (xTup (xCons (x2pp dIx (qV 4) (qV 7)) xNil))) xNil))))) (sSeq (sExpr (xApp 9 (xTup (xCons (x2vg dAdd 3 (xTup (xCons (x2vg dIx 3 (x1g dNeg (xC (.int 1)))) xNil))) (xCons (x2vg dAdd 4 (xTup (xCons (x2vg dIx 4 (x1g dNeg (xC (.int 1)))) xNil))) xNil))))) (sSeq (sExpr (xApp 9 (xTup (xCons (xTup xNil) (xCons (xTup xNil) xNil))))) (sSeq (sExpr (xApp 9 (xTup (xCons (xI 3) (xCons (xI 4) (xCons (xTup xNil) xNil)))))) (sSeq (sExpr (xApp 9 (xTup (xCons (xI 3) xNil)))) (sSeq (sExpr (xApp 9 (xTup (xCons (xIg (x1p dList (qV 3))) (xCons (xI 4) xNil))))) (sSeq (sExpr (xApp 9 (xTup (xCons (xI 3) (xCons (xIg (x1p dList (qV 4))) xNil))))) (sSeq (sExpr (xApp 9 (xIg (xOwn (xCons (xI 3) (xCons (xI 4) xNil)))))) (sSeq (sExpr (xApp 9 (xTup (xCons (xI 4) (xCons (xI 3) (xCons (xI 4) (xCons (xI 3) xNil))))))) (sSeq (sExpr (xApp 9 (xTup (xCons (xI 3) (xCons (xCal 3 [] m_law_put (xCons (xI 4) (xCons (xI 7) (xCons (x1g dStr (x2pp dIx (qV 4) (qV 7))) xNil)))) xNil))))) (sSeq (sExpr (xApp 9 (xTup (xCons (xI 3) (xCons (xCal 3 [] m_law_put (xCons (xI 4) (xCons (xI 7) (xCons (xC .non) xNil)))) xNil))))) (sSeq (sExpr (xApp 9 (xTup (xCons (xI 3) (xCons (xCal 3 [] m_law_put (xCons (xI 4) (xCons (xI 7) (xCons (xTup (xCons (x2pp dIx (qV 4) (qV 7)) xNil)) xNil)))) xNil))))) (sSeq (sExpr (xApp 9 (xTup (xCons (xCal 3 [] m_law_put (xCons (xI 3) (xCons (xI 7) (xCons (x1g dStr (x2pp dIx (qV 3) (qV 7))) xNil)))) (xCons (xI 4) xNil))))) (sSeq (sExpr (xApp 9 (xTup (xCons (xI 3) (xCons (xCal 3 [] m_law_put (xCons (xI 4) (xCons (xI 7) (xCons (x2gg dAdd (x2gg dPow (xC (.int 10)) (xC (.int 59))) (x2pp dIx (qV 4) (qV 7))) xNil)))) xNil))))) (sSeq (sIf (tBl (x2gg dGt (x1p dLen (qV 3)) (xC (.int 1)))) (sExpr (xApp 9 (xTup (xCons (x1g dTuple (xComp [some 8] (iW qG (xCons (xK 8) xNil)) (.nm 10) tYesF (x2pp dIx (qV 3) (qV 10)) [10])) (xCons (x1g dTuple (xComp [some 8] (iW qG (xCons (xK 8) xNil)) (.nm 10) tYesF (x2pp dIx (qV 4) (qV 10)) [10])) xNil))))) sNx) (sSeq (sIf (tBl (x2gp dLt (x1p dLen (qV 3)) (qV 1))) (sExpr (xApp 9 (xTup (xCons (xI 3) (xCons (xCal 3 [] m_law_put (xCons (xI 4) (xCons (x2vg dIx 6 (xC (.int 1))) (xCons (x2vg dIx 5 (xC (.int 1))) xNil)))) xNil))))) sNx) (sRet (xT 9)))))))))))))))))))))))))
noncomputable def m_law_bent : List D → Rd := mkDef 11 7 [0] b_law_bent
noncomputable abbrev b_law_others : PM Fl := (sSeq (sSet 5 (xCal 2 [some 0] m_law_draw (xZ 0 (xCons (x1p dLen (qV 3)) xNil)))) (sSeq (sSet 6 (xOwn (xCons (xTup (xCons (xCal 2 [] m_law_without (xCons (xI 3) (xCons (xI 5) xNil))) (xCons (xCal 2 [] m_law_without (xCons (xI 4) (xCons (xI 5) xNil))) xNil))) xNil))) (sSeq (sExpr (xApp 6 (xTup (xCons (xI 3) (xCons (xCal 3 [] m_law_put (xCons (xI 4) (xCons (xI 5) (xCons (xCal 2 [some 0] m_law_draw (xZ 0 (xCons (x1p dLen (qV 2)) xNil))) xNil)))) xNil))))) (sSeq (sSet 7 (xComp [none] (iW qR1 (xCons (xP (qV 1)) xNil)) (.nm 10) tYesF (xCal 2 [some 0] m_law_draw (xZ 0 (xCons (xC (.int 2)) xNil))) [10])) (sSeq (sSet 8 (x1g dTuple (xComp [none] (iW qR1 (xCons (xP (qV 1)) xNil)) (.nm 10) (tBl (x2gg dEq (x2pp dIx (qV 7) (qV 10)) (xC (.int 1)))) (xI 10) [10]))) (sSeq (sExpr (xApp 6 (xTup (xCons (xI 8) (xCons (x1g dTuple (xComp [some 8] (iW qG (xCons (xK 8) xNil)) (.nm 10) tYesF (xCal 2 [some 0] m_law_draw (xZ 0 (xCons (x1p dLen (qV 2)) xNil))) [10])) xNil))))) (sSeq (sSet 9 (x1g dRngT (xP (qV 1)))) (sSeq (sExpr (xApp 6 (xTup (xCons (xI 9) (xCons (x1g dTuple (xComp [some 9] (iW qG (xCons (xK 9) xNil)) (.nm 10) tYesF (xCal 2 [some 0] m_law_draw (xZ 0 (xCons (x1p dLen (qV 2)) xNil))) [10])) xNil))))) (sRet (xT 6))))))))))
noncomputable def m_law_others : List D → Rd := mkDef 11 5 [0] b_law_others
noncomputable abbrev b_law_odd : PM Fl := (sSeq (sSet 1 (xTup xNil)) (sSeq (sFor [none] (iW qR1 (xCons (x2gg dAdd (xC (.int 40)) (xCal 2 [some 0] m_law_draw (xZ 0 (xCons (xC (.int 50)) xNil)))) xNil)) (.nm 2) (sSet 1 (xTup (xCons (xI 1) (xCons (xC (.int 0)) xNil))))) (sSeq (sSet 3 (xOwn (xCons (xC .non) (xCons (xC (.bl true)) (xCons (xC (.bl false)) (xCons (xC (.int 0)) (xCons (x1g dNeg (xC (.int 1))) (xCons (xC (.str "")) (xCons (xC (.str "01")) (xCons (xTup xNil) (xCons (xIg (xOwn xNil)) (xCons (xI 1) (xCons (xTup (xCons (xTup xNil) (xCons (xC .non) xNil))) (xCons (xTup (xCons (xC (.int 0)) (xCons (xC (.int 0)) xNil))) (xCons (xTup (xCons (xC (.str "0")) (xCons (xC (.str "0")) xNil))) (xCons (xTup (xCons (xC .non) (xCons (xC .non) xNil))) xNil)))))))))))))))) (sSeq (sExpr (xApp 3 (xTup (xCons (x1g dRngT (xC (.int 3000))) (xCons (x1g dRngT (xC (.int 3000))) xNil))))) (sRet (xT 3))))))
noncomputable def m_law_odd : List D → Rd := mkDef 4 1 [0] b_law_odd
noncomputable abbrev b_law_last_rows : PM Fl := (sSeq (sSet 2 (xCal 2 [] m_law_reach (xCons (xI 0) (xCons (xI 1) xNil)))) (sSeq (sSet 3 (x1g dTuple (xComp [none] (iW qR1 (xCons (xP (qV 0)) xNil)) (.nm 5) (tBl (x2pp (dIn true) (qV 5) (qV 2))) (xI 5) [5]))) (sSeq (sSet 4 (xOwn xNil)) (sSeq (sFor [some 3] (iW qG (xCons (xK 3) xNil)) (.nm 5) (sSeq (sSet 6 (xComp [none] (iW qR1 (xCons (x1p dLen (qV 1)) xNil)) (.nm 7) (tTru (xCal 3 [] m_law_is_bar_row (xCons (x2pp dIx (qV 1) (qV 7)) (xCons (xI 3) (xCons (xI 5) xNil))))) (xI 7) [7])) (sExpr (xApp 4 (x2vg dIx 6 (x1g dNeg (xC (.int 1)))))))) (sRet (xTup (xCons (xI 3) (xCons (x1p dTuple (qV 4)) xNil))))))))
noncomputable def m_law_last_rows : List D → Rd := mkDef 8 2 [] b_law_last_rows
noncomputable abbrev b_are_ascending : PM Fl := (sSeq (sIf (tNotF (tTru (x1p (dIsi "tuple") (qV 0)))) (sRet (xC (.bl false))) sNx) (sSeq (sSet 2 (x1g dNeg (xC (.int 1)))) (sSeq (sFor [some 0] (iW qG (xCons (xK 0) xNil)) (.nm 3) (sSeq (sIf (tNotF (tTru (xCal 3 [] m_integer_within (xCons (xI 3) (xCons (x2vg dAdd 2 (xC (.int 1))) (xCons (xI 1) xNil)))))) (sRet (xC (.bl false))) sNx) (sSet 2 (xI 3)))) (sRet (xC (.bl true))))))
noncomputable def m_are_ascending : List D → Rd := mkDef 4 2 [] b_are_ascending
noncomputable abbrev b_strata_of : PM Fl := (sSeq (sSet 2 (xTup xNil)) (sSeq (sSet 3 (xOwn xNil)) (sSeq (sSet 4 (xCal 3 [] m_free_rules (xCons (xI 0) (xCons (xI 1) (xCons (xI 2) xNil))))) (sSeq (sWh (tTruP (qV 4)) (sSeq (sExpr (xApp 3 (xI 4))) (sSeq (sSet 2 (x1g dTuple (x1g dSorted (x2pp dAdd (qV 2) (qV 4))))) (sSet 4 (xCal 3 [] m_free_rules (xCons (xI 0) (xCons (xI 1) (xCons (xI 2) xNil)))))))) (sRet (x1p dTuple (qV 3)))))))
noncomputable def m_strata_of : List D → Rd := mkDef 5 2 [] b_strata_of
noncomputable abbrev b_are_row_papers : PM Fl := (sSeq (sIf (tOrF (tNotF (tTru (x1p (dIsi "tuple") (qV 3)))) (tBl (x2gg dNe (x1p dLen (qV 3)) (x1p dLen (qV 1))))) (sRet (xC (.bl false))) sNx) (sSeq (sFor [some 1, some 3] (iW qZp (xCons (xK 1) (xCons (xK 3) xNil))) (.tp [4, 5]) (sIf (tOrF (tNotF (tTru (xCal 3 [] m_integer_within (xCons (xI 5) (xCons (xC (.int 0)) (xCons (x2gg dSub (x1p dLen (qV 0)) (xC (.int 1))) xNil)))))) (tNotF (tTru (xCal 3 [] m_is_nowhere_worse (xCons (x2pp dIx (qV 0) (qV 5)) (xCons (xI 4) (xCons (xI 2) xNil))))))) (sRet (xC (.bl false))) sNx)) (sRet (xC (.bl true)))))
noncomputable def m_are_row_papers : List D → Rd := mkDef 6 4 [] b_are_row_papers
noncomputable abbrev b_law_lead : PM Fl := (sSeq (sSet 3 (xComp [some 1] (iW qG (xCons (xK 1) xNil)) (.nm 4) tYesF (xC (.int 0)) [4])) (sSeq (sSetI 3 (xCal 1 [some 0] m_law_size (xZ 0 xNil)) (x2pp dIx (qV 1) (qV 2))) (sSeq (sFor [none] (iW qG (xCons (xSlv 1 (bS (x2vg dAdd 2 (xC (.int 1)))) bN) xNil)) (.nm 4) (sSetI 3 (x2gg dMul (x2gg dSub (xCal 2 [some 0] m_law_draw (xZ 0 (xCons (xC (.int 3)) xNil))) (xC (.int 1))) (xCal 1 [some 0] m_law_size (xZ 0 xNil))) (xP (qV 4)))) (sRet (x1p dTuple (qV 3))))))
noncomputable def m_law_lead : List D → Rd := mkDef 5 3 [0] b_law_lead
noncomputable abbrev b_law_plain : PM Fl := (sRet (x1g dTuple (xComp [none] (iW qR1 (xCons (xP (qV 1)) xNil)) (.nm 2) tYesF (x2gg dMul (xCal 2 [some 0] m_law_draw (xZ 0 (xCons (xC (.int 2)) xNil))) (xCal 1 [some 0] m_law_size (xZ 0 xNil))) [2])))
noncomputable def m_law_plain : List D → Rd := mkDef 3 2 [0] b_law_plain
noncomputable abbrev b_law_bar_row : PM Fl := (sSeq (sSet 4 (xComp [some 1] (iW qG (xCons (xK 1) xNil)) (.nm 5) tYesF (xC (.int 0)) [5])) (sSeq (sFor [none] (iW qG (xCons (xSlv 1 (bS (xP (qV 2))) bN) xNil)) (.nm 5) (sSetI 4 (x2gg dMul (x2gg dSub (xCal 2 [some 0] m_law_draw (xZ 0 (xCons (xC (.int 3)) xNil))) (xC (.int 1))) (xCal 1 [some 0] m_law_size (xZ 0 xNil))) (xP (qV 5)))) (sSeq (sSetI 4 (x1g dNeg (xCal 1 [some 0] m_law_size (xZ 0 xNil))) (xP (qV 3))) (sRet (x1p dTuple (qV 4))))))
noncomputable def m_law_bar_row : List D → Rd := mkDef 6 4 [0] b_law_bar_row
noncomputable abbrev b_reach_of : PM Fl := (sRet (x1g dTuple (x1g dSorted (xComp2 [none] (iW qG (xCons (xCal 2 [] m_strata_of (xCons (xI 0) (xCons (xI 1) xNil))) xNil)) (.nm 2) tYesF [some 2] (iW qG (xCons (xK 2) xNil)) (.nm 3) tYesF (xI 3) [2, 3] [3]))))
noncomputable def m_reach_of : List D → Rd := mkDef 4 2 [] b_reach_of
noncomputable abbrev b_is_row_bar : PM Fl := (sSeq (sIf (tOrF (tNotF (tTru (x1p (dIsi "tuple") (qV 2)))) (tBl (x2gg dNe (x1p dLen (qV 2)) (xC (.int 2))))) (sRet (xC (.bl false))) sNx) (sSeq (sSetT (.tp [3, 4]) (xI 2)) (sSeq (sIf (tOrF (tNotF (tTru (xCal 2 [] m_are_ascending (xCons (xI 3) (xCons (x2vg dSub 0 (xC (.int 1))) xNil))))) (tNotF (tTruP (qV 3)))) (sRet (xC (.bl false))) sNx) (sRet (xCal 4 [] m_are_row_papers (xCons (xI 1) (xCons (xI 3) (xCons (xI 3) (xCons (xI 4) xNil)))))))))
noncomputable def m_is_row_bar : List D → Rd := mkDef 5 3 [] b_is_row_bar
noncomputable abbrev b_law_world : PM Fl := (sSeq (sSet 4 (xOwn xNil)) (sSeq (sIf (tBl (x2vg dGt 2 (xC (.int 0)))) (sSet 4 (xComp [none] (iW qR1 (xCons (x2gg dAdd (xC (.int 2)) (xCal 2 [some 0] m_law_draw (xZ 0 (xCons (xC (.int 5)) xNil)))) xNil)) (.nm 7) tYesF (xCal 3 [some 0] m_law_lead (xZ 0 (xCons (xI 1) (xCons (xCal 2 [some 0] m_law_draw (xZ 0 (xCons (xI 2) xNil))) xNil)))) [7])) sNx) (sSeq (sFor [none] (iW qG (xCons (xSlv 1 (bS (xP (qV 2))) bN) xNil)) (.nm 5) (sFor [none] (iW qR1 (xCons (x2gg dAdd (xC (.int 1)) (xCal 2 [some 0] m_law_draw (xZ 0 (xCons (xC (.int 2)) xNil)))) xNil)) (.nm 7) (sExpr (xApp 4 (xCal 4 [some 0] m_law_bar_row (xZ 0 (xCons (xI 1) (xCons (xI 2) (xCons (xI 5) xNil))))))))) (sSeq (sIf (tNotF (tTruP (qV 3))) (sRet (x1g dTuple (xCal 2 [some 0] m_law_shuffled (xZ 0 (xCons (x2vg dAdd 4 (xOwn (xCons (xCal 2 [some 0] m_law_plain (xZ 0 (xCons (x1p dLen (qV 1)) xNil))) xNil))) xNil))))) sNx) (sSeq (sSet 6 (xComp [none] (iW qR1 (xCons (x2gg dSub (x2gg dSub (xC (.int 200)) (x1p dLen (qV 4))) (xCal 2 [some 0] m_law_draw (xZ 0 (xCons (xC (.int 3)) xNil)))) xNil)) (.nm 7) tYesF (xCal 2 [some 0] m_law_plain (xZ 0 (xCons (x1p dLen (qV 1)) xNil))) [7])) (sRet (x1g dTuple (x2vg dAdd 6 (xCal 2 [some 0] m_law_shuffled (xZ 0 (xCons (xI 4) xNil)))))))))))
noncomputable def m_law_world : List D → Rd := mkDef 8 4 [0] b_law_world
noncomputable abbrev b_law_scene : PM Fl := (sSeq (sSet 4 (xOwn (xCons (xCal 2 [some 0] m_law_draw (xZ 0 (xCons (x1p dLen (qV 2)) xNil))) (xCons (xCal 2 [some 0] m_law_draw (xZ 0 (xCons (x1p dLen (qV 2)) xNil))) xNil)))) (sSeq (sSet 5 (xOwn xNil)) (sSeq (sFor [none] (iW qR1 (xCons (x2gg dAdd (x1p dLen (qV 2)) (xC (.int 2))) xNil)) (.nm 6) (sSeq (sSet 12 (xIf (tBl (x2vg dEq 6 (x1p dLen (qV 2)))) (x2vg dIx 2 (x2vg dIx 4 (xC (.int 0)))) (xIf (tBl (x2vg dGt 6 (x1p dLen (qV 2)))) (x2vg dIx 2 (x2vg dIx 4 (xC (.int 1)))) (x2pp dIx (qV 2) (qV 6))))) (sSeq (sSet 7 (xComp [none] (iW qR1 (xCons (xP (qV 1)) xNil)) (.nm 13) tYesF (x2gg dMul (x1g dNeg (xCal 1 [some 0] m_law_size (xZ 0 xNil))) (xCal 2 [some 0] m_law_draw (xZ 0 (xCons (xC (.int 2)) xNil)))) [13])) (sSeq (sFor [some 2] (iW qG (xCons (xK 2) xNil)) (.nm 13) (sSetI 7 (x2gg dMul (x2gg dSub (xCal 2 [some 0] m_law_draw (xZ 0 (xCons (xC (.int 3)) xNil))) (xC (.int 1))) (xCal 1 [some 0] m_law_size (xZ 0 xNil))) (xP (qV 13)))) (sSeq (sSetI 7 (x1g dNeg (xCal 1 [some 0] m_law_size (xZ 0 xNil))) (xP (qV 12))) (sSeq (sSet 14 (xComp [none] (iW qR1 (xCons (xP (qV 1)) xNil)) (.nm 13) (tBl (x2pp (dIn true) (qV 13) (qV 2))) (xI 13) [13])) (sSeq (sIf (tAndF (tBl (x2vg dGt 6 (x1p dLen (qV 2)))) (tBl (x2gg dGt (x1p dLen (qV 14)) (xC (.int 0))))) (sSetI 7 (xCal 1 [some 0] m_law_size (xZ 0 xNil)) (x2vg dIx 14 (xCal 2 [some 0] m_law_draw (xZ 0 (xCons (x1p dLen (qV 14)) xNil))))) sNx) (sExpr (xApp 5 (xTup (xCons (xI 6) (xCons (x1p dTuple (qV 7)) xNil)))))))))))) (sSeq (sExpr (xApp 5 (xTup (xCons (x2gg dAdd (x1p dLen (qV 2)) (xC (.int 2))) (xCons (x1g dTuple (xComp [none] (iW qR1 (xCons (xP (qV 1)) xNil)) (.nm 12) tYesF (xC (.int 0)) [12])) xNil))))) (sSeq (sSet 7 (xComp [none] (iW qR1 (xCons (xP (qV 1)) xNil)) (.nm 12) tYesF (x2gg dMul (x1g dNeg (xCal 1 [some 0] m_law_size (xZ 0 xNil))) (x2gg dMax (x1g dInt (x2pp (dIn false) (qV 12) (qV 2))) (xCal 2 [some 0] m_law_draw (xZ 0 (xCons (xC (.int 2)) xNil))))) [12])) (sSeq (sExpr (xApp 5 (xTup (xCons (x2gg dAdd (x1p dLen (qV 2)) (xC (.int 4))) (xCons (x1p dTuple (qV 7)) xNil))))) (sSeq (sFor [none] (iW qR1 (xCons (xCal 2 [some 0] m_law_draw (xZ 0 (xCons (xC (.int 4)) xNil))) xNil)) (.nm 8) (sSeq (sSet 7 (x1g dTuple (xComp [none] (iW qR1 (xCons (xP (qV 1)) xNil)) (.nm 12) tYesF (x2gg dMul (x2gg dSub (xCal 2 [some 0] m_law_draw (xZ 0 (xCons (xC (.int 3)) xNil))) (xC (.int 1))) (xCal 1 [some 0] m_law_size (xZ 0 xNil))) [12]))) (sExpr (xApp 5 (xTup (xCons (x2gg dAdd (x1p dLen (qV 2)) (xC (.int 3))) (xCons (xI 7) xNil))))))) (sSeq (sSet 5 (xCal 2 [some 0] m_law_shuffled (xZ 0 (xCons (xI 5) xNil)))) (sSeq (sSet 9 (xOwn xNil)) (sSeq (sIf (tTruP (qV 3)) (sSet 9 (xComp [none] (iW qR1 (xCons (x2gg dSub (x2gg dSub (xC (.int 200)) (x1p dLen (qV 5))) (xCal 2 [some 0] m_law_draw (xZ 0 (xCons (xC (.int 2)) xNil)))) xNil)) (.nm 8) tYesF (xCal 2 [some 0] m_law_plain (xZ 0 (xCons (xI 1) xNil))) [8])) sNx) (sSeq (sSet 10 (xComp [none] (iW qR1 (xCons (x2gg dAdd (x1p dLen (qV 2)) (xC (.int 5))) xNil)) (.nm 6) tYesF (xC (.int 0)) [6])) (sSeq (sFor [none] (iW qR1 (xCons (x1p dLen (qV 5)) xNil)) (.nm 11) (sSetI 10 (x2gp dAdd (x1p dLen (qV 9)) (qV 11)) (x2gg dIx (x2pp dIx (qV 5) (qV 11)) (xC (.int 0))))) (sRet (xTup (xCons (x1g dTuple (x2vg dAdd 9 (xComp [some 5] (iW qG (xCons (xK 5) xNil)) (.nm 15) tYesF (x2vg dIx 15 (xC (.int 1))) [15]))) (xCons (xI 10) (xCons (xI 4) xNil)))))))))))))))))
noncomputable def m_law_scene : List D → Rd := mkDef 16 4 [0] b_law_scene
noncomputable abbrev b_rest_of : PM Fl := (sSeq (sSet 2 (xCal 2 [] m_reach_of (xCons (xI 0) (xCons (xI 1) xNil)))) (sRet (x1g dTuple (xComp [none] (iW qR1 (xCons (xP (qV 0)) xNil)) (.nm 3) (tBl (x2pp (dIn true) (qV 3) (qV 2))) (xI 3) [3]))))
noncomputable def m_rest_of : List D → Rd := mkDef 4 2 [] b_rest_of
noncomputable abbrev b_law_says : PM Fl := (sSeq (sSetI 4 (x2gg dAdd (x2vg dIx 4 (x1p dInt (qV 3))) (xC (.int 1))) (x1p dInt (qV 3))) (sSeq (sSet 5 (xCal 3 [] m_is_row_bar (xCons (xI 0) (xCons (xI 1) (xCons (xI 2) xNil))))) (sRet (xAnd (x1p (dIsi "bool") (qV 5)) (xAnd (x2pp dEq (qV 5) (qV 3)) (x2gp dEq (xCal 3 [] m_law_judge (xCons (xI 0) (xCons (xI 1) (xCons (xI 2) xNil)))) (qV 3)))))))
noncomputable def m_law_says : List D → Rd := mkDef 6 5 [4] b_law_says
noncomputable abbrev b_row_bar : PM Fl := (sSeq (sSet 2 (xCal 2 [] m_rest_of (xCons (xI 0) (xCons (xI 1) xNil)))) (sSeq (sIf (tNotF (tTruP (qV 2))) (sRet (xC .non)) sNx) (sSeq (sSet 3 (xCal 2 [] m_reach_of (xCons (xI 0) (xCons (xI 1) xNil)))) (sSeq (sSet 4 (xOwn xNil)) (sSeq (sFor [some 2] (iW qG (xCons (xK 2) xNil)) (.nm 5) (sExpr (xApp 4 (x2gg dIx (xComp [some 1] (iW qEn (xCons (xK 1) xNil)) (.tp [6, 7]) (tAndF (tTru (xCal 2 [] m_is_nought (xCons (xI 7) (xCons (xI 3) xNil)))) (tBl (x2gg dLt (x2pp dIx (qV 7) (qV 5)) (xC (.int 0))))) (xI 6) [6, 7]) (xC (.int 0)))))) (sRet (xTup (xCons (xI 2) (xCons (x1p dTuple (qV 4)) xNil)))))))))
noncomputable def m_row_bar : List D → Rd := mkDef 8 2 [] b_row_bar
noncomputable abbrev b_law_true_for_one : PM Fl := (sSeq (sSet 1 (xTup (xCons (xTup (xCons (x1g dNeg (xCal 1 [some 0] m_law_size (xZ 0 xNil))) (xCons (xCal 2 [some 0] m_law_draw (xZ 0 (xCons (xC (.int 2)) xNil))) xNil))) (xCons (xTup (xCons (xC (.int 0)) (xCons (x1g dNeg (xCal 1 [some 0] m_law_size (xZ 0 xNil))) xNil))) xNil)))) (sSeq (sSet 2 (xOwn (xCons (xC (.int 0)) (xCons (xC (.int 0)) xNil)))) (sSeq (sIf (tOrF (tNotF (tTru (xCal 5 [some 2] m_law_says (xCons (xC (.int 2)) (xCons (xI 1) (xCons (xTup (xCons (xTup (xCons (xC (.int 0)) (xCons (xC (.int 1)) xNil))) (xCons (xTup (xCons (xC (.int 0)) (xCons (xC (.int 1)) xNil))) xNil))) (xCons (xC (.bl true)) (xZ 2 xNil)))))))) (tNotF (tTru (xCal 5 [some 2] m_law_says (xCons (xC (.int 2)) (xCons (xI 1) (xCons (xTup (xCons (xTup (xCons (xC (.int 1)) xNil)) (xCons (xTup (xCons (xC (.int 1)) xNil)) xNil))) (xCons (xC (.bl true)) (xZ 2 xNil))))))))) (sRet (xC (.bl false))) sNx) (sSeq (sFor [none] (iW qG (xCons (xOwn (xCons (xTup (xCons (xTup (xCons (xC (.bl false)) (xCons (xC (.int 1)) xNil))) (xCons (xTup (xCons (xC (.int 0)) (xCons (xC (.int 1)) xNil))) xNil))) (xCons (xTup (xCons (xTup (xCons (xC (.int 0)) (xCons (xC (.bl true)) xNil))) (xCons (xTup (xCons (xC (.int 0)) (xCons (xC (.int 1)) xNil))) xNil))) (xCons (xTup (xCons (xTup (xCons (xC (.int 0)) (xCons (xC (.int 1)) xNil))) (xCons (xTup (xCons (xC (.bl false)) (xCons (xC (.int 1)) xNil))) xNil))) (xCons (xTup (xCons (xTup (xCons (xC (.int 0)) (xCons (xC (.int 1)) xNil))) (xCons (xTup (xCons (xC (.int 0)) (xCons (xC (.bl true)) xNil))) xNil))) xNil))))) xNil)) (.nm 3) (sIf (tNotF (tTru (xCal 5 [some 2] m_law_says (xCons (xC (.int 2)) (xCons (xI 1) (xCons (xI 3) (xCons (xC (.bl false)) (xZ 2 xNil)))))))) (sRet (xC (.bl false))) sNx)) (sSeq (sSet 1 (xTup (xCons (xTup (xCons (x1g dNeg (xCal 1 [some 0] m_law_size (xZ 0 xNil))) (xCons (x1g dNeg (xCal 1 [some 0] m_law_size (xZ 0 xNil))) xNil))) xNil))) (sSeq (sFor [none] (iW qG (xCons (xOwn (xCons (xTup (xCons (xTup (xCons (xC (.int 0)) xNil)) (xCons (xTup (xCons (xC (.int 0)) xNil)) xNil))) (xCons (xTup (xCons (xTup (xCons (xC (.int 1)) xNil)) (xCons (xTup (xCons (xC (.int 0)) xNil)) xNil))) (xCons (xTup (xCons (xTup (xCons (xC (.int 0)) (xCons (xC (.int 1)) xNil))) (xCons (xTup (xCons (xC (.int 0)) (xCons (xC (.int 0)) xNil))) xNil))) xNil)))) xNil)) (.nm 3) (sIf (tNotF (tTru (xCal 5 [some 2] m_law_says (xCons (xC (.int 2)) (xCons (xI 1) (xCons (xI 3) (xCons (xC (.bl true)) (xZ 2 xNil)))))))) (sRet (xC (.bl false))) sNx)) (sRet (xC (.bl true)))))))))
noncomputable def m_law_true_for_one : List D → Rd := mkDef 4 1 [0] b_law_true_for_one
noncomputable abbrev b_law_papers : PM Fl := (sSeq (sSet 3 (xCal 2 [some 0] m_law_shuffled (xZ 0 (xCons (xRngL (xP (qV 1))) xNil)))) (sSeq (sSet 4 (x1g dTuple (x1g dSorted (xSlv 3 bN (bS (x2gg dAdd (xC (.int 1)) (xCal 2 [some 0] m_law_draw (xZ 0 (xCons (xI 1) xNil))))))))) (sSeq (sSetT (.tp [10, 11, 12]) (xCal 4 [some 0] m_law_scene (xZ 0 (xCons (xI 1) (xCons (xI 4) (xCons (xI 2) xNil)))))) (sSeq (sSet 5 (x1g dTuple (xSlv 11 bN (bS (x1p dLen (qV 4)))))) (sSeq (sSet 6 (xSlv 11 (bS (x1p dLen (qV 4))) bN)) (sSeq (sSet 7 (xOwn (xCons (xC (.int 0)) (xCons (xC (.int 0)) xNil)))) (sSeq (sSet 8 (xOwn (xCons (xTup (xCons (xI 4) (xCons (xI 5) xNil))) (xCons (xTup (xCons (xI 4) (xCons (xCal 3 [] m_law_put (xCons (xI 5) (xCons (x2vg dIx 12 (xC (.int 0))) (xCons (x2vg dIx 6 (xC (.int 0))) xNil)))) xNil))) (xCons (xTup (xCons (xI 4) (xCons (x1g dTuple (xComp [some 4] (iW qG (xCons (xK 4) xNil)) (.nm 13) tYesF (x2vg dIx 6 (xC (.int 4))) [13])) xNil))) xNil))))) (sSeq (sFor [none] (iW qG (xCons (x2vg dAdd 8 (xOwn (xCons (xCal 2 [] m_law_last_rows (xCons (xI 1) (xCons (xI 10) xNil))) xNil))) xNil)) (.nm 9) (sIf (tNotF (tTru (xCal 5 [some 7] m_law_says (xCons (xI 1) (xCons (xI 10) (xCons (xI 9) (xCons (xC (.bl true)) (xZ 7 xNil)))))))) (sRet (xC (.bl false))) sNx)) (sSeq (sFor [none] (iW qG (xCons (x2gg dAdd (xCal 7 [some 0] m_law_bent (xZ 0 (xCons (xI 1) (xCons (xI 10) (xCons (xI 4) (xCons (xI 5) (xCons (xI 6) (xCons (xI 12) xNil)))))))) (xCal 1 [some 0] m_law_odd (xZ 0 xNil))) xNil)) (.nm 9) (sIf (tNotF (tTru (xCal 5 [some 7] m_law_says (xCons (xI 1) (xCons (xI 10) (xCons (xI 9) (xCons (xC (.bl false)) (xZ 7 xNil)))))))) (sRet (xC (.bl false))) sNx)) (sSeq (sFor [none] (iW qG (xCons (xCal 5 [some 0] m_law_others (xZ 0 (xCons (xI 1) (xCons (xI 10) (xCons (xI 4) (xCons (xI 5) xNil)))))) xNil)) (.nm 9) (sIf (tNotF (tTru (xCal 5 [some 7] m_law_says (xCons (xI 1) (xCons (xI 10) (xCons (xI 9) (xCons (xCal 3 [] m_law_judge (xCons (xI 1) (xCons (xI 10) (xCons (xI 9) xNil)))) (xZ 7 xNil)))))))) (sRet (xC (.bl false))) sNx)) (sRet (xAnd (x2gg dGt (x2vg dIx 7 (xC (.int 0))) (xC (.int 30))) (xAnd (x2gg dGt (x2vg dIx 7 (xC (.int 1))) (xC (.int 2))) (xCal 2 [] m_law_same_bar (xCons (xCal 2 [] m_row_bar (xCons (xI 1) (xCons (xI 10) xNil))) (xCons (xCal 2 [] m_law_due (xCons (xI 1) (xCons (xI 10) xNil))) xNil))))))))))))))))
noncomputable def m_law_papers : List D → Rd := mkDef 14 3 [0] b_law_papers
noncomputable abbrev b_law : PM Fl := (sSeq (sSet 1 (xCal 1 [] m_law_feed (xCons (xI 0) xNil))) (sSeq (sSet 2 (x2gg dAdd (xC (.int 1)) (xCal 2 [some 1] m_law_draw (xZ 1 (xCons (xC (.int 6)) xNil))))) (sSeq (sSet 3 (x2gg dEq (xCal 2 [some 1] m_law_draw (xZ 1 (xCons (xC (.int 7)) xNil))) (xC (.int 5)))) (sSeq (sSet 4 (xCal 2 [some 1] m_law_shuffled (xZ 1 (xCons (xRngL (xP (qV 2))) xNil)))) (sSeq (sSet 5 (xCal 4 [some 1] m_law_world (xZ 1 (xCons (xI 4) (xCons (xI 2) (xCons (xI 3) xNil)))))) (sSeq (sIf (tOrF (tBl (x2gg (dIsX true) (xCal 2 [] m_row_bar (xCons (xI 2) (xCons (xI 5) xNil))) (xC .non))) (tBl (x2gg (dIsX true) (xCal 2 [] m_row_bar (xCons (xI 2) (xCons (xTup xNil) xNil))) (xC .non)))) (sRet (xC (.bl false))) sNx) (sSeq (sSet 6 (xTup (xCons (x1g dRngT (xP (qV 2))) (xCons (x1g dTuple (xComp [none] (iW qR1 (xCons (xP (qV 2)) xNil)) (.nm 9) tYesF (xCal 2 [some 1] m_law_draw (xZ 1 (xCons (x1p dLen (qV 5)) xNil))) [9])) xNil)))) (sSeq (sIf (tOrF (tBl (x2gg (dIsX true) (xCal 3 [] m_is_row_bar (xCons (xI 2) (xCons (xI 5) (xCons (xI 6) xNil)))) (xC (.bl false)))) (tBl (x2gg (dIsX true) (xCal 3 [] m_is_row_bar (xCons (xI 2) (xCons (xTup xNil) (xCons (xTup (xCons (xTup (xCons (xC (.int 0)) xNil)) (xCons (xTup (xCons (xC (.int 0)) xNil)) xNil))) xNil)))) (xC (.bl false))))) (sRet (xC (.bl false))) sNx) (sSeq (sSet 7 (xCal 2 [some 1] m_law_draw (xZ 1 (xCons (xI 2) xNil)))) (sSeq (sSet 5 (xCal 4 [some 1] m_law_world (xZ 1 (xCons (xI 4) (xCons (xI 7) (xCons (xI 3) xNil)))))) (sSeq (sSet 8 (xCal 2 [] m_law_due (xCons (xI 2) (xCons (xI 5) xNil)))) (sSeq (sIf (tOrF (tBl (x2vg (dIsX false) 8 (xC .non))) (tOrF (tBl (x2gg dNe (x2vg dIx 8 (xC (.int 0))) (x1g dTuple (x1g dSorted (xSlv 4 (bS (xP (qV 7))) bN))))) (tNotF (tTru (xCal 2 [] m_law_same_bar (xCons (xCal 2 [] m_row_bar (xCons (xI 2) (xCons (xI 5) xNil))) (xCons (xI 8) xNil))))))) (sRet (xC (.bl false))) sNx) (sSeq (sIf (tBl (x2gg (dIsX true) (xCal 3 [] m_is_row_bar (xCons (xI 2) (xCons (xI 5) (xCons (xI 8) xNil)))) (xC (.bl true)))) (sRet (xC (.bl false))) sNx) (sRet (xAnd (xCal 3 [some 1] m_law_papers (xZ 1 (xCons (xI 2) (xCons (xI 3) xNil)))) (xCal 1 [some 1] m_law_true_for_one (xZ 1 xNil)))))))))))))))))
noncomputable def m_law : List D → Rd := mkDef 10 1 [] b_law
structure Top (K : PySem.W.Frag) (mg : Str → Option Value) where
  d_is_nought : Dn K mg "is_nought" s_is_nought ["row", "some"]
  d_is_integer : Dn K mg "is_integer" s_is_integer ["thing"]
  d_is_nowhere_worse : Dn K mg "is_nowhere_worse" s_is_nowhere_worse ["row", "rule", "inside"]
  d_law_feed : Dn K mg "_law_feed" s_law_feed ["script"]
  d_law_draw : Dn K mg "_law_draw" s_law_draw ["feed", "many"]
  d_law_reach : Dn K mg "_law_reach" s_law_reach ["many", "rows"]
  d_law_integers : Dn K mg "_law_integers" s_law_integers ["thing", "most"]
  d_law_is_bar_row : Dn K mg "_law_is_bar_row" s_law_is_bar_row ["row", "rules", "rule"]
  d_law_put : Dn K mg "_law_put" s_law_put ["things", "place", "thing"]
  d_law_without : Dn K mg "_law_without" s_law_without ["things", "place"]
  d_free_rules : Dn K mg "free_rules" s_free_rules ["many", "rows", "some"]
  d_integer_within : Dn K mg "integer_within" s_integer_within ["thing", "low", "high"]
  d_law_shuffled : Dn K mg "_law_shuffled" s_law_shuffled ["feed", "things"]
  d_law_size : Dn K mg "_law_size" s_law_size ["feed"]
  d_law_due : Dn K mg "_law_due" s_law_due ["many", "rows"]
  d_law_judge : Dn K mg "_law_judge" s_law_judge ["many", "rows", "thing"]
  d_law_same_bar : Dn K mg "_law_same_bar" s_law_same_bar ["told", "due"]
  d_law_bent : Dn K mg "_law_bent" s_law_bent ["feed", "many", "rows", "some", "base", "marks", "spots"]
  d_law_others : Dn K mg "_law_others" s_law_others ["feed", "many", "rows", "some", "base"]
  d_law_odd : Dn K mg "_law_odd" s_law_odd ["feed"]
  d_law_last_rows : Dn K mg "_law_last_rows" s_law_last_rows ["many", "rows"]
  d_are_ascending : Dn K mg "are_ascending" s_are_ascending ["thing", "most"]
  d_strata_of : Dn K mg "strata_of" s_strata_of ["many", "rows"]
  d_are_row_papers : Dn K mg "are_row_papers" s_are_row_papers ["rows", "rules", "inside", "thing"]
  d_law_lead : Dn K mg "_law_lead" s_law_lead ["feed", "order", "place"]
  d_law_plain : Dn K mg "_law_plain" s_law_plain ["feed", "many"]
  d_law_bar_row : Dn K mg "_law_bar_row" s_law_bar_row ["feed", "order", "top", "rule"]
  d_reach_of : Dn K mg "reach_of" s_reach_of ["many", "rows"]
  d_is_row_bar : Dn K mg "is_row_bar" s_is_row_bar ["many", "rows", "thing"]
  d_law_world : Dn K mg "_law_world" s_law_world ["feed", "order", "top", "wide"]
  d_law_scene : Dn K mg "_law_scene" s_law_scene ["feed", "many", "some", "wide"]
  d_rest_of : Dn K mg "rest_of" s_rest_of ["many", "rows"]
  d_law_says : Dn K mg "_law_says" s_law_says ["many", "rows", "thing", "due", "counts"]
  d_row_bar : Dn K mg "row_bar" s_row_bar ["many", "rows"]
  d_law_true_for_one : Dn K mg "_law_true_for_one" s_law_true_for_one ["feed"]
  d_law_papers : Dn K mg "_law_papers" s_law_papers ["feed", "many", "wide"]
  d_law : Dn K mg "law" s_law ["script"]
  m_bool : mg "bool" = none
  m_enumerate : mg "enumerate" = none
  m_int : mg "int" = none
  m_isinstance : mg "isinstance" = none
  m_len : mg "len" = none
  m_list : mg "list" = none
  m_max : mg "max" = none
  m_range : mg "range" = none
  m_sorted : mg "sorted" = none
  m_str : mg "str" = none
  m_tuple : mg "tuple" = none
  m_zip : mg "zip" = none
section
variable {P : Program} {w : World} {K : PySem.W.Frag} {mg : Str → Option Value} {base : Heap}
theorem ok_is_nought (T : Top K mg) (k : Nat) : FnOk P w K mg base CX0 (k + 1) T.d_is_nought.f T.d_is_nought.fd ["row", "some"] (spP K 2 [] m_is_nought) :=
 fn_p (N := ["row", "some", "rule"]) (ps := ["row", "some"]) (io := []) (k := k + 0) (body := b_is_nought) T.d_is_nought.F sc_is_nought (fun cdv A outer s H E hr =>
 (ss_cons (ss_for PassesOwn.never rfl (it_v (pv 1)) (pg_name (i := 2) sc_is_nought.nd rfl (by first | exact Or.inl rfl | exact Or.inr rfl)) (tgr_name 2)
 (ss_one (ss_if (pt_gg (op_neD hr.units) ro_ne (ix_pp (pb_var (pv 0)) (pb_var (pv 2)) (fun _ _ => rfl)) pp_int (nomark _))
 (ss_one (ss_ret pp_bl))
 ss_nil)))
 (ss_one (ss_ret pp_bl))))
theorem ok_is_integer (T : Top K mg) (k : Nat) : FnOk P w K mg base CX0 (k + 1) T.d_is_integer.f T.d_is_integer.fd ["thing"] (spP K 1 [] m_is_integer) :=
 fn_p (N := ["thing"]) (ps := ["thing"]) (io := []) (k := k + 0) (body := b_is_integer) T.d_is_integer.F sc_is_integer (fun cdv A outer s H E hr =>
 (ss_one (ss_ret (pp_and (isi_p (by rfl) T.m_isinstance (by rfl) T.m_int PyProof.Rows.boot_int (pb_var (pv 0))) (pe_one (pp_not (isi_p (by rfl) T.m_isinstance (by rfl) T.m_bool PyProof.Rows.boot_bool (pb_var (pv 0)))))))))
theorem ok_is_nowhere_worse (T : Top K mg) (k : Nat) : FnOk P w K mg base CX0 (k + 1) T.d_is_nowhere_worse.f T.d_is_nowhere_worse.fd ["row", "rule", "inside"] (spP K 3 [] m_is_nowhere_worse) :=
 fn_p (N := ["row", "rule", "inside", "other", "number"]) (ps := ["row", "rule", "inside"]) (io := []) (k := k + 0) (body := b_is_nowhere_worse) T.d_is_nowhere_worse.F sc_is_nowhere_worse (fun cdv A outer s H E hr =>
 (ss_cons (ss_if (pt_gg op_ge ro_ge (ix_pp (pb_var (pv 0)) (pb_var (pv 1)) (fun _ _ => rfl)) pp_int (nomark _))
 (ss_one (ss_ret pp_bl))
 ss_nil)
 (ss_cons (ss_for PassesOwn.never rfl (it_en (by rfl) T.m_enumerate (palk (pv 0) pal0)) (pg_tup rfl (pgs_cons (pg_name (i := 3) sc_is_nowhere_worse.nd rfl (by first | exact Or.inl rfl | exact Or.inr rfl)) (pgs_cons (pg_name (i := 4) sc_is_nowhere_worse.nd rfl (by first | exact Or.inl rfl | exact Or.inr rfl)) pgs_nil))) (tgr_tup (tgs_cons (tgs_cons tgs_nil)))
 (ss_one (ss_if (PW.pt (pw_an (pt_vg op_gt ro_gt (pv_var (pv 4)) pp_int (nomark _)) (pw_and1 (pt_pp op_notIn_seq (ro_in true) (pb_var (pv 3)) (pb_var (pv 2)) (by rfl)))))
 (ss_one (ss_ret pp_bl))
 ss_nil)))
 (ss_one (ss_ret pp_bl)))))
theorem ok_law_feed (T : Top K mg) (k : Nat) : FnOk P w K mg base CX0 (k + 1) T.d_law_feed.f T.d_law_feed.fd ["script"] (spP K 1 [] m_law_feed) :=
 fn_p (N := ["script", "cells", "cell"]) (ps := ["script"]) (io := []) (k := k + 0) (body := b_law_feed) T.d_law_feed.F sc_law_feed (fun cdv A outer s H E hr =>
 (ss_cons (ss_setLc (i := 1) (own := [("cell", 2)]) rfl sc_law_feed.nd rfl rfl (by rfl) (it_g (sl_v (pv_var (pv 0)) po_n (po_s pp_int))) (blkOk_by (own := [("cell", 2)]) (N := ["script", "cells", "cell"]) (sc := defScope s_law_feed) (by decide +kernel)) (tgr_name 2) (fun _ _ _ _ _ => (pg_name (i := 2) sc_law_feed.nd rfl (by first | exact Or.inl rfl | exact Or.inr rfl))) (fun _ _ _ _ _ => pts0) (fun _ _ _ _ _ => (bt_p call_int1 ro_int (by rfl) T.m_int PyProof.Rows.boot_int (pb_var (pv 2)))))
 (ss_one (ss_ret (pp_own (pa1 (pp_ice (pv 1)) (pa1 pp_int (pa1 pp_int (pa1 (bin_gg op_mod ro_mod (bt_g call_int1 ro_int (by rfl) T.m_int PyProof.Rows.boot_int (bin_gg op_add' ro_add (bin_gg op_mulW ro_mul (bi_p call_len ro_len (by rfl) T.m_len boot_len (pb_var (pv 1))) pp_int) pp_int)) pp_int) pa0)))))))))
theorem ok_law_draw (T : Top K mg) (k : Nat) : FnOk P w K mg base CX0 (k + 1) T.d_law_draw.f T.d_law_draw.fd ["feed", "many"] (spP K 2 [0] m_law_draw) :=
 fn_p (N := ["feed", "many", "cell", "pick"]) (ps := ["feed", "many"]) (io := [0]) (k := k + 0) (body := b_law_draw) T.d_law_draw.F sc_law_draw (fun cdv A outer s H E hr =>
 (ss_cons (ss_if (PW.pt (pw_an (pt_gg (op_eqD hr.units) ro_eq (ix_vg (pv_var (pv 0)) pp_int (fun _ _ => rfl)) pp_int (nomark _)) (pw_and1 (pt_gg op_lt ro_lt (ix_vg (pv_var (pv 0)) pp_int (fun _ _ => rfl)) (bi_g call_len ro_len (by rfl) T.m_len boot_len (ix_vg (pv_var (pv 0)) pp_int (fun _ _ => rfl))) (nomark _)))))
 (ss_cons (ss_set (i := 2) sc_law_draw.nd rfl (by first | exact Or.inl rfl | exact Or.inr rfl) (ix_gg (ix_vg (pv_var (pv 0)) pp_int (fun _ _ => rfl)) (ix_vg (pv_var (pv 0)) pp_int (fun _ _ => rfl)) (fun _ _ => rfl)))
 (ss_cons (ss_setI (bin_gg op_add' ro_add (ix_vg (pv_var (pv 0)) pp_int (fun _ _ => rfl)) pp_int) (pv_var (pv 0)) pp_int)
 (ss_cons (ss_if (pt_vg op_lt ro_lt (pv_var (pv 2)) pp_int (nomark _))
 (ss_one (ss_set (i := 2) sc_law_draw.nd rfl (by first | exact Or.inl rfl | exact Or.inr rfl) (neg_g (pp_place (pb_var (pv 2))))))
 ss_nil)
 (ss_one (ss_if (pt_vg op_lt ro_lt (pv_var (pv 2)) (bin_gg op_powW ro_pow pp_int pp_int) (nomark _))
 (ss_one (ss_setI (bin_gg op_mod ro_mod (bt_g call_int1 ro_int (by rfl) T.m_int PyProof.Rows.boot_int (bin_gg op_add' ro_add (bin_gg op_add' ro_add (bin_gg op_mulW ro_mul (ix_vg (pv_var (pv 0)) pp_int (fun _ _ => rfl)) pp_int) (bin_vg op_mulW ro_mul (pv_var (pv 2)) pp_int)) pp_int)) pp_int) (pv_var (pv 0)) pp_int))
 (ss_one (ss_setI (bin_gg op_mod ro_mod (bt_p call_int1 ro_int (by rfl) T.m_int PyProof.Rows.boot_int (pb_var (pv 2))) (bin_gg op_powW ro_pow (bin_gg op_powW ro_pow pp_int pp_int) pp_int)) (pv_var (pv 0)) pp_int)))))))
 ss_nil)
 (ss_cons (ss_if (pt_gg op_gt ro_gt (ix_vg (pv_var (pv 0)) pp_int (fun _ _ => rfl)) pp_int (nomark _))
 (ss_cons (ss_set (i := 3) sc_law_draw.nd rfl (by first | exact Or.inl rfl | exact Or.inr rfl) (bin_gp op_mod ro_mod (bt_g call_int1 ro_int (by rfl) T.m_int PyProof.Rows.boot_int (ix_vg (pv_var (pv 0)) pp_int (fun _ _ => rfl))) (pb_var (pv 1))))
 (ss_cons (ss_setI (bin_gp op_fdiv ro_div (bt_g call_int1 ro_int (by rfl) T.m_int PyProof.Rows.boot_int (ix_vg (pv_var (pv 0)) pp_int (fun _ _ => rfl))) (pb_var (pv 1))) (pv_var (pv 0)) pp_int)
 (ss_one (ss_ret (pp_take (pv 3))))))
 ss_nil)
 (ss_cons (ss_setI (bin_gg op_mod ro_mod (bt_g call_int1 ro_int (by rfl) T.m_int PyProof.Rows.boot_int (bin_gg op_add' ro_add (bin_gg op_mulW ro_mul (ix_vg (pv_var (pv 0)) pp_int (fun _ _ => rfl)) pp_int) pp_int)) pp_int) (pv_var (pv 0)) pp_int)
 (ss_one (ss_ret (bin_gp op_mod ro_mod (bt_g call_int1 ro_int (by rfl) T.m_int PyProof.Rows.boot_int (bin_gg op_fdiv ro_div (ix_vg (pv_var (pv 0)) pp_int (fun _ _ => rfl)) pp_int)) (pb_var (pv 1)))))))))
theorem ok_law_reach (T : Top K mg) (k : Nat) : FnOk P w K mg base CX0 (k + 1) T.d_law_reach.f T.d_law_reach.fd ["many", "rows"] (spP K 2 [] m_law_reach) :=
 fn_p (N := ["many", "rows", "ahead", "lap", "barred", "row", "more", "rule"]) (ps := ["many", "rows"]) (io := []) (k := k + 0) (body := b_law_reach) T.d_law_reach.F sc_law_reach (fun cdv A outer s H E hr =>
 (ss_cons (ss_set (i := 2) sc_law_reach.nd rfl (by first | exact Or.inl rfl | exact Or.inr rfl) (pp_own pa0))
 (ss_cons (ss_for PassesOwn.never rfl (it_r1 (by rfl) T.m_range (pal1 (pp_place (pb_var (pv 0))) pal0)) (pg_name (i := 3) sc_law_reach.nd rfl (by first | exact Or.inl rfl | exact Or.inr rfl)) (tgr_name 3)
 (ss_cons (ss_set (i := 4) sc_law_reach.nd rfl (by first | exact Or.inl rfl | exact Or.inr rfl) (pp_comp (own := [("rule", 7)]) rfl sc_law_reach.nd (it_r1 (by rfl) T.m_range (pal1 (pp_place (pb_var (pv 0))) pal0)) (blkOk_by (own := [("rule", 7)]) (N := ["many", "rows", "ahead", "lap", "barred", "row", "more", "rule"]) (sc := defScope s_law_reach) (by decide +kernel)) (tgr_name 7) (fun _ _ _ _ _ => (pg_name (i := 7) sc_law_reach.nd rfl (by first | exact Or.inl rfl | exact Or.inr rfl))) (fun _ _ _ _ _ => pts0) (fun _ _ _ _ _ => pp_bl)))
 (ss_cons (ss_for PassesOwn.never rfl (it_v (pv 1)) (pg_name (i := 5) sc_law_reach.nd rfl (by first | exact Or.inl rfl | exact Or.inr rfl)) (tgr_name 5)
 (ss_one (ss_if (pt_gg (op_eqD hr.units) ro_eq (bi_g call_len ro_len (by rfl) T.m_len boot_len (pp_comp (own := [("rule", 7)]) rfl sc_law_reach.nd (it_v (pv 2)) (blkOk_by (own := [("rule", 7)]) (N := ["many", "rows", "ahead", "lap", "barred", "row", "more", "rule"]) (sc := defScope s_law_reach) (by decide +kernel)) (tgr_name 7) (fun _ _ _ _ _ => (pg_name (i := 7) sc_law_reach.nd rfl (by first | exact Or.inl rfl | exact Or.inr rfl))) (fun _ _ _ _ _ => (pts1 (pt_gg (op_neD hr.units) ro_ne (ix_pp (pb_var (pv 5)) (pb_var (pv 7)) (fun _ _ => rfl)) pp_int (nomark _)))) (fun _ _ _ _ _ => (pp_ice (pv 7))))) pp_int (nomark _))
 (ss_one (ss_set (i := 4) sc_law_reach.nd rfl (by first | exact Or.inl rfl | exact Or.inr rfl) (pp_comp (own := [("rule", 7)]) rfl sc_law_reach.nd (it_r1 (by rfl) T.m_range (pal1 (pp_place (pb_var (pv 0))) pal0)) (blkOk_by (own := [("rule", 7)]) (N := ["many", "rows", "ahead", "lap", "barred", "row", "more", "rule"]) (sc := defScope s_law_reach) (by decide +kernel)) (tgr_name 7) (fun _ _ _ _ _ => (pg_name (i := 7) sc_law_reach.nd rfl (by first | exact Or.inl rfl | exact Or.inr rfl))) (fun _ _ _ _ _ => pts0) (fun _ _ _ _ _ => (pp_or (ix_pp (pb_var (pv 4)) (pb_var (pv 7)) (fun _ _ => rfl)) (pe_one (cmp_gg op_lt ro_lt (ix_pp (pb_var (pv 5)) (pb_var (pv 7)) (fun _ _ => rfl)) pp_int (nomark _))))))))
 ss_nil)))
 (ss_cons (ss_setLc (i := 6) (own := [("rule", 7)]) rfl sc_law_reach.nd rfl rfl (by rfl) (it_r1 (by rfl) T.m_range (pal1 (pp_place (pb_var (pv 0))) pal0)) (blkOk_by (own := [("rule", 7)]) (N := ["many", "rows", "ahead", "lap", "barred", "row", "more", "rule"]) (sc := defScope s_law_reach) (by decide +kernel)) (tgr_name 7) (fun _ _ _ _ _ => (pg_name (i := 7) sc_law_reach.nd rfl (by first | exact Or.inl rfl | exact Or.inr rfl))) (fun _ _ _ _ _ => (pts1 (PW.pt (pw_an (pt_no (pt_tru (ix_pp (pb_var (pv 4)) (pb_var (pv 7)) (fun _ _ => rfl)))) (pw_and1 (pt_pp op_notIn_seq (ro_in true) (pb_var (pv 7)) (pb_var (pv 2)) (by rfl))))))) (fun _ _ _ _ _ => (pp_ice (pv 7))))
 (ss_cons (ss_if (pt_gg (op_eqD hr.units) ro_eq (bi_p call_len ro_len (by rfl) T.m_len boot_len (pb_var (pv 6))) pp_int (nomark _))
 (ss_one ss_break)
 ss_nil)
 (ss_one (ss_set (i := 2) sc_law_reach.nd rfl (by first | exact Or.inl rfl | exact Or.inr rfl) (bin_pp op_add' ro_add (pb_var (pv 2)) (pb_var (pv 6))))))))))
 (ss_one (ss_ret (pp_take (pv 2)))))))
theorem ok_law_integers (T : Top K mg) (k : Nat) : FnOk P w K mg base CX0 (k + 1) T.d_law_integers.f T.d_law_integers.fd ["thing", "most"] (spP K 2 [] m_law_integers) :=
 fn_p (N := ["thing", "most", "one"]) (ps := ["thing", "most"]) (io := []) (k := k + 0) (body := b_law_integers) T.d_law_integers.F sc_law_integers (fun cdv A outer s H E hr =>
 (ss_cons (ss_if (pt_no (pt_tru (isi_p (by rfl) T.m_isinstance (by rfl) T.m_tuple PyProof.Rows.boot_tuple (pb_var (pv 0)))))
 (ss_one (ss_ret pp_bl))
 ss_nil)
 (ss_cons (ss_for PassesOwn.never rfl (it_v (pv 0)) (pg_name (i := 2) sc_law_integers.nd rfl (by first | exact Or.inl rfl | exact Or.inr rfl)) (tgr_name 2)
 (ss_one (ss_if (PW.pt (pw_orr (pt_no (pt_tru (isi_p (by rfl) T.m_isinstance (by rfl) T.m_int PyProof.Rows.boot_int (pb_var (pv 2))))) (pw_orr (pt_tru (isi_p (by rfl) T.m_isinstance (by rfl) T.m_bool PyProof.Rows.boot_bool (pb_var (pv 2)))) (pw_orr (pt_vg op_lt ro_lt (pv_var (pv 2)) pp_int (nomark _)) (pw_or1 (pt_pp op_gt ro_gt (pb_var (pv 2)) (pb_var (pv 1)) (nomark _)))))))
 (ss_one (ss_ret pp_bl))
 ss_nil)))
 (ss_one (ss_ret pp_bl)))))
theorem ok_law_is_bar_row (T : Top K mg) (k : Nat) : FnOk P w K mg base CX0 (k + 1) T.d_law_is_bar_row.f T.d_law_is_bar_row.fd ["row", "rules", "rule"] (spP K 3 [] m_law_is_bar_row) :=
 fn_p (N := ["row", "rules", "rule", "other"]) (ps := ["row", "rules", "rule"]) (io := []) (k := k + 0) (body := b_law_is_bar_row) T.d_law_is_bar_row.F sc_law_is_bar_row (fun cdv A outer s H E hr =>
 (ss_one (ss_ret (pp_and (cmp_gg op_lt ro_lt (ix_pp (pb_var (pv 0)) (pb_var (pv 2)) (fun _ _ => rfl)) pp_int (nomark _)) (pe_one (cmp_gg (op_eqD hr.units) ro_eq (bi_g call_len ro_len (by rfl) T.m_len boot_len (pp_comp (own := [("other", 3)]) rfl sc_law_is_bar_row.nd (it_r1 (by rfl) T.m_range (pal1 (bi_p call_len ro_len (by rfl) T.m_len boot_len (pb_var (pv 0))) pal0)) (blkOk_by (own := [("other", 3)]) (N := ["row", "rules", "rule", "other"]) (sc := defScope s_law_is_bar_row) (by decide +kernel)) (tgr_name 3) (fun _ _ _ _ _ => (pg_name (i := 3) sc_law_is_bar_row.nd rfl (by first | exact Or.inl rfl | exact Or.inr rfl))) (fun _ _ _ _ _ => (pts1 (PW.pt (pw_an (pt_pp op_notIn_seq (ro_in true) (pb_var (pv 3)) (pb_var (pv 1)) (by rfl)) (pw_and1 (pt_gg op_gt ro_gt (ix_pp (pb_var (pv 0)) (pb_var (pv 3)) (fun _ _ => rfl)) pp_int (nomark _))))))) (fun _ _ _ _ _ => (pp_ice (pv 3))))) pp_int (nomark _)))))))
theorem ok_law_put (T : Top K mg) (k : Nat) : FnOk P w K mg base CX0 (k + 1) T.d_law_put.f T.d_law_put.fd ["things", "place", "thing"] (spP K 3 [] m_law_put) :=
 fn_p (N := ["things", "place", "thing"]) (ps := ["things", "place", "thing"]) (io := []) (k := k + 0) (body := b_law_put) T.d_law_put.F sc_law_put (fun cdv A outer s H E hr =>
 (ss_one (ss_ret (bt_g call_tuple_of ro_tuple (by rfl) T.m_tuple PyProof.Rows.boot_tuple (bin_gg op_add' ro_add (bin_gg op_add' ro_add (bt_g call_list_of ro_list (by rfl) T.m_list PyProof.Rows.boot_list (sl_v (pv_var (pv 0)) po_n (po_s (pp_place (pb_var (pv 1)))))) (pp_own (pa1 (pp_ice (pv 2)) pa0))) (bt_g call_list_of ro_list (by rfl) T.m_list PyProof.Rows.boot_list (sl_v (pv_var (pv 0)) (po_s (bin_vg op_add' ro_add (pv_var (pv 1)) pp_int)) po_n)))))))
theorem ok_law_without (T : Top K mg) (k : Nat) : FnOk P w K mg base CX0 (k + 1) T.d_law_without.f T.d_law_without.fd ["things", "place"] (spP K 2 [] m_law_without) :=
 fn_p (N := ["things", "place"]) (ps := ["things", "place"]) (io := []) (k := k + 0) (body := b_law_without) T.d_law_without.F sc_law_without (fun cdv A outer s H E hr =>
 (ss_one (ss_ret (bt_g call_tuple_of ro_tuple (by rfl) T.m_tuple PyProof.Rows.boot_tuple (bin_gg op_add' ro_add (bt_g call_list_of ro_list (by rfl) T.m_list PyProof.Rows.boot_list (sl_v (pv_var (pv 0)) po_n (po_s (pp_place (pb_var (pv 1)))))) (bt_g call_list_of ro_list (by rfl) T.m_list PyProof.Rows.boot_list (sl_v (pv_var (pv 0)) (po_s (bin_vg op_add' ro_add (pv_var (pv 1)) pp_int)) po_n)))))))
theorem ok_free_rules (T : Top K mg) (k : Nat) : FnOk P w K mg base CX0 (k + 2) T.d_free_rules.f T.d_free_rules.fd ["many", "rows", "some"] (spP K 3 [] m_free_rules) :=
 fn_p (N := ["many", "rows", "some", "tied", "told", "rule", "row"]) (ps := ["many", "rows", "some"]) (io := []) (k := k + 1) (body := b_free_rules) T.d_free_rules.F sc_free_rules (fun cdv A outer s H E hr =>
 (ss_cons (ss_setLc (i := 3) (own := [("row", 6)]) rfl sc_free_rules.nd rfl rfl (by rfl) (it_v (pv 1)) (blkOk_by (own := [("row", 6)]) (N := ["many", "rows", "some", "tied", "told", "rule", "row"]) (sc := defScope s_free_rules) (by decide +kernel)) (tgr_name 6) (fun _ _ _ _ _ => (pg_name (i := 6) sc_free_rules.nd rfl (by first | exact Or.inl rfl | exact Or.inr rfl))) (fun _ _ _ _ _ => (pts1 (pt_tru (pp_cal (js := []) 2 (ok_is_nought T (k + 0)) hr (by rfl) T.d_is_nought.g T.d_is_nought.F.kp T.d_is_nought.b (pal1 (pp_ice (pv 6)) (pal1 (pp_ice (pv 2)) pal0)))))) (fun _ _ _ _ _ => (pp_ice (pv 6))))
 (ss_cons (ss_set (i := 4) sc_free_rules.nd rfl (by first | exact Or.inl rfl | exact Or.inr rfl) (pp_own pa0))
 (ss_cons (ss_for PassesOwn.never rfl (it_r1 (by rfl) T.m_range (pal1 (pp_place (pb_var (pv 0))) pal0)) (pg_name (i := 5) sc_free_rules.nd rfl (by first | exact Or.inl rfl | exact Or.inr rfl)) (tgr_name 5)
 (ss_one (ss_if (PW.pt (pw_an (pt_pp op_notIn_seq (ro_in true) (pb_var (pv 5)) (pb_var (pv 2)) (by rfl)) (pw_and1 (pt_no (pt_tru (pp_comp (own := [("row", 6)]) rfl sc_free_rules.nd (it_v (pv 3)) (blkOk_by (own := [("row", 6)]) (N := ["many", "rows", "some", "tied", "told", "rule", "row"]) (sc := defScope s_free_rules) (by decide +kernel)) (tgr_name 6) (fun _ _ _ _ _ => (pg_name (i := 6) sc_free_rules.nd rfl (by first | exact Or.inl rfl | exact Or.inr rfl))) (fun _ _ _ _ _ => (pts1 (pt_gg op_lt ro_lt (ix_pp (pb_var (pv 6)) (pb_var (pv 5)) (fun _ _ => rfl)) pp_int (nomark _)))) (fun _ _ _ _ _ => (pp_ice (pv 6)))))))))
 (ss_one (ss_expr (pp_app (pv_var (pv 4)) (pp_ice (pv 5)))))
 ss_nil)))
 (ss_one (ss_ret (bt_p call_tuple_of ro_tuple (by rfl) T.m_tuple PyProof.Rows.boot_tuple (pb_var (pv 4)))))))))
theorem ok_integer_within (T : Top K mg) (k : Nat) : FnOk P w K mg base CX0 (k + 2) T.d_integer_within.f T.d_integer_within.fd ["thing", "low", "high"] (spP K 3 [] m_integer_within) :=
 fn_p (N := ["thing", "low", "high"]) (ps := ["thing", "low", "high"]) (io := []) (k := k + 1) (body := b_integer_within) T.d_integer_within.F sc_integer_within (fun cdv A outer s H E hr =>
 (ss_one (ss_ret (pp_and (pp_cal (js := []) 1 (ok_is_integer T (k + 0)) hr (by rfl) T.d_is_integer.g T.d_is_integer.F.kp T.d_is_integer.b (pal1 (pp_ice (pv 0)) pal0)) (pe_one (cmp3_ggg op_le ro_le op_le ro_le (pp_place (pb_var (pv 1))) (pp_place (pb_var (pv 0))) (pp_place (pb_var (pv 2)))))))))
theorem ok_law_shuffled (T : Top K mg) (k : Nat) : FnOk P w K mg base CX0 (k + 2) T.d_law_shuffled.f T.d_law_shuffled.fd ["feed", "things"] (spP K 2 [0] m_law_shuffled) :=
 fn_p (N := ["feed", "things", "left", "out", "place"]) (ps := ["feed", "things"]) (io := [0]) (k := k + 1) (body := b_law_shuffled) T.d_law_shuffled.F sc_law_shuffled (fun cdv A outer s H E hr =>
 (ss_cons (ss_set (i := 2) sc_law_shuffled.nd rfl (by first | exact Or.inl rfl | exact Or.inr rfl) (bt_p call_list_of ro_list (by rfl) T.m_list PyProof.Rows.boot_list (pb_var (pv 1))))
 (ss_cons (ss_set (i := 3) sc_law_shuffled.nd rfl (by first | exact Or.inl rfl | exact Or.inr rfl) (pp_own pa0))
 (ss_cons (ss_for PassesOwn.never rfl (it_r1 (by rfl) T.m_range (pal1 (bi_p call_len ro_len (by rfl) T.m_len boot_len (pb_var (pv 1))) pal0)) (pg_name (i := 4) sc_law_shuffled.nd rfl (by first | exact Or.inl rfl | exact Or.inr rfl)) (tgr_name 4)
 (ss_one (ss_expr (pp_app (pv_var (pv 3)) (pp_popAt (pv_var (pv 2)) (pp_cal (js := [some 0]) 2 (ok_law_draw T (k + 0)) hr (by rfl) T.d_law_draw.g T.d_law_draw.F.kp T.d_law_draw.b (palz (pv 0) (pal1 (bi_p call_len ro_len (by rfl) T.m_len boot_len (pb_var (pv 2))) pal0))))))))
 (ss_one (ss_ret (pp_take (pv 3))))))))
theorem ok_law_size (T : Top K mg) (k : Nat) : FnOk P w K mg base CX0 (k + 2) T.d_law_size.f T.d_law_size.fd ["feed"] (spP K 1 [0] m_law_size) :=
 fn_p (N := ["feed", "kind"]) (ps := ["feed"]) (io := [0]) (k := k + 1) (body := b_law_size) T.d_law_size.F sc_law_size (fun cdv A outer s H E hr =>
 (ss_cons (ss_set (i := 1) sc_law_size.nd rfl (by first | exact Or.inl rfl | exact Or.inr rfl) (pp_cal (js := [some 0]) 2 (ok_law_draw T (k + 0)) hr (by rfl) T.d_law_draw.g T.d_law_draw.F.kp T.d_law_draw.b (palz (pv 0) (pal1 pp_int pal0))))
 (ss_cons (ss_if (pt_vg op_lt ro_lt (pv_var (pv 1)) pp_int (nomark _))
 (ss_one (ss_ret (bin_gp op_add' ro_add pp_int (pb_var (pv 1)))))
 ss_nil)
 (ss_cons (ss_if (pt_vg (op_eqD hr.units) ro_eq (pv_var (pv 1)) pp_int (nomark _))
 (ss_one (ss_ret (bin_gg op_add' ro_add pp_int (pp_cal (js := [some 0]) 2 (ok_law_draw T (k + 0)) hr (by rfl) T.d_law_draw.g T.d_law_draw.F.kp T.d_law_draw.b (palz (pv 0) (pal1 pp_int pal0))))))
 ss_nil)
 (ss_cons (ss_if (pt_vg (op_eqD hr.units) ro_eq (pv_var (pv 1)) pp_int (nomark _))
 (ss_one (ss_ret (bin_gg op_sub ro_sub (bin_gg op_powW ro_pow pp_int pp_int) (pp_cal (js := [some 0]) 2 (ok_law_draw T (k + 0)) hr (by rfl) T.d_law_draw.g T.d_law_draw.F.kp T.d_law_draw.b (palz (pv 0) (pal1 pp_int pal0))))))
 ss_nil)
 (ss_one (ss_ret (bin_gg op_add' ro_add pp_int (pp_cal (js := [some 0]) 2 (ok_law_draw T (k + 0)) hr (by rfl) T.d_law_draw.g T.d_law_draw.F.kp T.d_law_draw.b (palz (pv 0) (pal1 (bin_gg op_powW ro_pow pp_int pp_int) pal0)))))))))))
theorem ok_law_due (T : Top K mg) (k : Nat) : FnOk P w K mg base CX0 (k + 2) T.d_law_due.f T.d_law_due.fd ["many", "rows"] (spP K 2 [] m_law_due) :=
 fn_p (N := ["many", "rows", "reach", "rest", "numbers", "rule", "number", "row", "other"]) (ps := ["many", "rows"]) (io := []) (k := k + 1) (body := b_law_due) T.d_law_due.F sc_law_due (fun cdv A outer s H E hr =>
 (ss_cons (ss_set (i := 2) sc_law_due.nd rfl (by first | exact Or.inl rfl | exact Or.inr rfl) (pp_cal (js := []) 2 (ok_law_reach T (k + 0)) hr (by rfl) T.d_law_reach.g T.d_law_reach.F.kp T.d_law_reach.b (pal1 (pp_ice (pv 0)) (pal1 (pp_ice (pv 1)) pal0))))
 (ss_cons (ss_setLc (i := 3) (own := [("rule", 5)]) rfl sc_law_due.nd rfl rfl (by rfl) (it_r1 (by rfl) T.m_range (pal1 (pp_place (pb_var (pv 0))) pal0)) (blkOk_by (own := [("rule", 5)]) (N := ["many", "rows", "reach", "rest", "numbers", "rule", "number", "row", "other"]) (sc := defScope s_law_due) (by decide +kernel)) (tgr_name 5) (fun _ _ _ _ _ => (pg_name (i := 5) sc_law_due.nd rfl (by first | exact Or.inl rfl | exact Or.inr rfl))) (fun _ _ _ _ _ => (pts1 (pt_pp op_notIn_seq (ro_in true) (pb_var (pv 5)) (pb_var (pv 2)) (by rfl)))) (fun _ _ _ _ _ => (pp_ice (pv 5))))
 (ss_cons (ss_if (pt_gg (op_eqD hr.units) ro_eq (bi_p call_len ro_len (by rfl) T.m_len boot_len (pb_var (pv 3))) pp_int (nomark _))
 (ss_one (ss_ret pp_non))
 ss_nil)
 (ss_cons (ss_set (i := 4) sc_law_due.nd rfl (by first | exact Or.inl rfl | exact Or.inr rfl) (pp_own pa0))
 (ss_cons (ss_for PassesOwn.never rfl (it_v (pv 3)) (pg_name (i := 5) sc_law_due.nd rfl (by first | exact Or.inl rfl | exact Or.inr rfl)) (tgr_name 5)
 (ss_one (ss_for PassesOwn.never rfl (it_r1 (by rfl) T.m_range (pal1 (bi_p call_len ro_len (by rfl) T.m_len boot_len (pb_var (pv 1))) pal0)) (pg_name (i := 6) sc_law_due.nd rfl (by first | exact Or.inl rfl | exact Or.inr rfl)) (tgr_name 6)
 (ss_cons (ss_set (i := 7) sc_law_due.nd rfl (by first | exact Or.inl rfl | exact Or.inr rfl) (ix_pp (pb_var (pv 1)) (pb_var (pv 6)) (fun _ _ => rfl)))
 (ss_one (ss_if (PW.pt (pw_an (pt_gg op_lt ro_lt (ix_pp (pb_var (pv 7)) (pb_var (pv 5)) (fun _ _ => rfl)) pp_int (nomark _)) (pw_and1 (pt_gg (op_eqD hr.units) ro_eq (bi_g call_len ro_len (by rfl) T.m_len boot_len (pp_comp (own := [("other", 8)]) rfl sc_law_due.nd (it_v (pv 2)) (blkOk_by (own := [("other", 8)]) (N := ["many", "rows", "reach", "rest", "numbers", "rule", "number", "row", "other"]) (sc := defScope s_law_due) (by decide +kernel)) (tgr_name 8) (fun _ _ _ _ _ => (pg_name (i := 8) sc_law_due.nd rfl (by first | exact Or.inl rfl | exact Or.inr rfl))) (fun _ _ _ _ _ => (pts1 (pt_gg (op_neD hr.units) ro_ne (ix_pp (pb_var (pv 7)) (pb_var (pv 8)) (fun _ _ => rfl)) pp_int (nomark _)))) (fun _ _ _ _ _ => (pp_ice (pv 8))))) pp_int (nomark _)))))
 (ss_cons (ss_expr (pp_app (pv_var (pv 4)) (pp_ice (pv 6))))
 (ss_one ss_break))
 ss_nil))))))
 (ss_one (ss_ret (pp_tup (pa1 (bt_p call_tuple_of ro_tuple (by rfl) T.m_tuple PyProof.Rows.boot_tuple (pb_var (pv 3))) (pa1 (bt_p call_tuple_of ro_tuple (by rfl) T.m_tuple PyProof.Rows.boot_tuple (pb_var (pv 4))) pa0)))))))))))
theorem ok_law_judge (T : Top K mg) (k : Nat) : FnOk P w K mg base CX0 (k + 2) T.d_law_judge.f T.d_law_judge.fd ["many", "rows", "thing"] (spP K 3 [] m_law_judge) :=
 fn_p (N := ["many", "rows", "thing", "rules", "place"]) (ps := ["many", "rows", "thing"]) (io := []) (k := k + 1) (body := b_law_judge) T.d_law_judge.F sc_law_judge (fun cdv A outer s H E hr =>
 (ss_cons (ss_if (PW.pt (pw_orr (pt_no (pt_tru (isi_p (by rfl) T.m_isinstance (by rfl) T.m_tuple PyProof.Rows.boot_tuple (pb_var (pv 2))))) (pw_or1 (pt_gg (op_neD hr.units) ro_ne (bi_p call_len ro_len (by rfl) T.m_len boot_len (pb_var (pv 2))) pp_int (nomark _)))))
 (ss_one (ss_ret pp_bl))
 ss_nil)
 (ss_cons (ss_if (PW.pt (pw_orr (pt_no (pt_tru (pp_cal (js := []) 2 (ok_law_integers T (k + 0)) hr (by rfl) T.d_law_integers.g T.d_law_integers.F.kp T.d_law_integers.b (pal1 (ix_vg (pv_var (pv 2)) pp_int (fun _ _ => rfl)) (pal1 (bin_vg op_sub ro_sub (pv_var (pv 0)) pp_int) pal0))))) (pw_or1 (pt_no (pt_tru (pp_cal (js := []) 2 (ok_law_integers T (k + 0)) hr (by rfl) T.d_law_integers.g T.d_law_integers.F.kp T.d_law_integers.b (pal1 (ix_vg (pv_var (pv 2)) pp_int (fun _ _ => rfl)) (pal1 (bin_gg op_sub ro_sub (bi_p call_len ro_len (by rfl) T.m_len boot_len (pb_var (pv 1))) pp_int) pal0))))))))
 (ss_one (ss_ret pp_bl))
 ss_nil)
 (ss_cons (ss_set (i := 3) sc_law_judge.nd rfl (by first | exact Or.inl rfl | exact Or.inr rfl) (ix_vg (pv_var (pv 2)) pp_int (fun _ _ => rfl)))
 (ss_cons (ss_if (PW.pt (pw_orr (pt_gg (op_eqD hr.units) ro_eq (bi_p call_len ro_len (by rfl) T.m_len boot_len (pb_var (pv 3))) pp_int (nomark _)) (pw_or1 (pt_gg (op_neD hr.units) ro_ne (bi_p call_len ro_len (by rfl) T.m_len boot_len (pb_var (pv 3))) (bi_g call_len ro_len (by rfl) T.m_len boot_len (ix_vg (pv_var (pv 2)) pp_int (fun _ _ => rfl))) (nomark _)))))
 (ss_one (ss_ret pp_bl))
 ss_nil)
 (ss_cons (ss_for PassesOwn.never rfl (it_r1 (by rfl) T.m_range (pal1 (bi_p call_len ro_len (by rfl) T.m_len boot_len (pb_var (pv 3))) pal0)) (pg_name (i := 4) sc_law_judge.nd rfl (by first | exact Or.inl rfl | exact Or.inr rfl)) (tgr_name 4)
 (ss_cons (ss_if (PW.pt (pw_an (pt_vg op_gt ro_gt (pv_var (pv 4)) pp_int (nomark _)) (pw_and1 (pt_gg op_le ro_le (ix_pp (pb_var (pv 3)) (pb_var (pv 4)) (fun _ _ => rfl)) (ix_vg (pv_var (pv 3)) (bin_vg op_sub ro_sub (pv_var (pv 4)) pp_int) (fun _ _ => rfl)) (nomark _)))))
 (ss_one (ss_ret pp_bl))
 ss_nil)
 (ss_one (ss_if (pt_no (pt_tru (pp_cal (js := []) 3 (ok_law_is_bar_row T (k + 0)) hr (by rfl) T.d_law_is_bar_row.g T.d_law_is_bar_row.F.kp T.d_law_is_bar_row.b (pal1 (ix_vg (pv_var (pv 1)) (ix_gp (ix_vg (pv_var (pv 2)) pp_int (fun _ _ => rfl)) (pb_var (pv 4)) (fun _ _ => rfl)) (fun _ _ => rfl)) (pal1 (pp_ice (pv 3)) (pal1 (ix_pp (pb_var (pv 3)) (pb_var (pv 4)) (fun _ _ => rfl)) pal0))))))
 (ss_one (ss_ret pp_bl))
 ss_nil))))
 (ss_one (ss_ret pp_bl))))))))
theorem ok_law_same_bar (T : Top K mg) (k : Nat) : FnOk P w K mg base CX0 (k + 2) T.d_law_same_bar.f T.d_law_same_bar.fd ["told", "due"] (spP K 2 [] m_law_same_bar) :=
 fn_p (N := ["told", "due"]) (ps := ["told", "due"]) (io := []) (k := k + 1) (body := b_law_same_bar) T.d_law_same_bar.F sc_law_same_bar (fun cdv A outer s H E hr =>
 (ss_cons (ss_if (pt_vg op_isX (ro_isX false) (pv_var (pv 1)) pp_non (nomark _))
 (ss_one (ss_ret (cmp_vg op_isX (ro_isX false) (pv_var (pv 0)) pp_non (nomark _))))
 ss_nil)
 (ss_cons (ss_if (PW.pt (pw_orr (pt_no (pt_tru (isi_p (by rfl) T.m_isinstance (by rfl) T.m_tuple PyProof.Rows.boot_tuple (pb_var (pv 0))))) (pw_or1 (pt_gg (op_neD hr.units) ro_ne (bi_p call_len ro_len (by rfl) T.m_len boot_len (pb_var (pv 0))) pp_int (nomark _)))))
 (ss_one (ss_ret pp_bl))
 ss_nil)
 (ss_one (ss_ret (pp_and (pp_cal (js := []) 2 (ok_law_integers T (k + 0)) hr (by rfl) T.d_law_integers.g T.d_law_integers.F.kp T.d_law_integers.b (pal1 (ix_vg (pv_var (pv 0)) pp_int (fun _ _ => rfl)) (pal1 pp_int pal0))) (pp_and (pp_cal (js := []) 2 (ok_law_integers T (k + 0)) hr (by rfl) T.d_law_integers.g T.d_law_integers.F.kp T.d_law_integers.b (pal1 (ix_vg (pv_var (pv 0)) pp_int (fun _ _ => rfl)) (pal1 pp_int pal0))) (pp_and (cmp_gg (op_eqD hr.units) ro_eq (ix_vg (pv_var (pv 0)) pp_int (fun _ _ => rfl)) (ix_vg (pv_var (pv 1)) pp_int (fun _ _ => rfl)) (nomark _)) (pe_one (cmp_gg (op_eqD hr.units) ro_eq (ix_vg (pv_var (pv 0)) pp_int (fun _ _ => rfl)) (ix_vg (pv_var (pv 1)) pp_int (fun _ _ => rfl)) (nomark _)))))))))))
theorem ok_law_bent (T : Top K mg) (k : Nat) : FnOk P w K mg base CX0 (k + 2) T.d_law_bent.f T.d_law_bent.fd ["feed", "many", "rows", "some", "base", "marks", "spots"] (spP K 7 [0] m_law_bent) :=
 fn_p (N := ["feed", "many", "rows", "some", "base", "marks", "spots", "spot", "back", "bent", "place"]) (ps := ["feed", "many", "rows", "some", "base", "marks", "spots"]) (io := [0]) (k := k + 1) (body := b_law_bent) T.d_law_bent.F sc_law_bent (fun cdv A outer s H E hr =>
 (ss_cons (ss_set (i := 7) sc_law_bent.nd rfl (by first | exact Or.inl rfl | exact Or.inr rfl) (pp_cal (js := [some 0]) 2 (ok_law_draw T (k + 0)) hr (by rfl) T.d_law_draw.g T.d_law_draw.F.kp T.d_law_draw.b (palz (pv 0) (pal1 (bi_p call_len ro_len (by rfl) T.m_len boot_len (pb_var (pv 3))) pal0))))
 (ss_cons (ss_set (i := 8) sc_law_bent.nd rfl (by first | exact Or.inl rfl | exact Or.inr rfl) (pp_rngL3 rfl (by rfl) T.m_list (by rfl) T.m_range (pa1 (bin_gg op_sub ro_sub (bi_p call_len ro_len (by rfl) T.m_len boot_len (pb_var (pv 3))) pp_int) (pa1 (neg_g pp_int) (pa1 (neg_g pp_int) pa0)))))
 (ss_cons (ss_set (i := 9) sc_law_bent.nd rfl (by first | exact Or.inl rfl | exact Or.inr rfl) (pp_own (pa1 (pp_tup (pa1 (pp_ice (pv 3)) (pa1 (pp_cal (js := []) 3 (ok_law_put T (k + 0)) hr (by rfl) T.d_law_put.g T.d_law_put.F.kp T.d_law_put.b (pal1 (pp_ice (pv 4)) (pal1 (pp_ice (pv 7)) (pal1 (ix_vg (pv_var (pv 5)) pp_int (fun _ _ => rfl)) pal0)))) pa0))) (pa1 (pp_tup (pa1 (pp_ice (pv 3)) (pa1 (bin_vg op_add' ro_add (pv_var (pv 4)) (pp_tup (pa1 (ix_vg (pv_var (pv 5)) pp_int (fun _ _ => rfl)) pa0))) pa0))) (pa1 (pp_tup (pa1 (pp_ice (pv 3)) (pa1 (pp_cal (js := []) 2 (ok_law_without T (k + 0)) hr (by rfl) T.d_law_without.g T.d_law_without.F.kp T.d_law_without.b (pal1 (pp_ice (pv 4)) (pal1 (pp_ice (pv 7)) pal0))) pa0))) pa0)))))
 (ss_cons (ss_expr (pp_app (pv_var (pv 9)) (pp_tup (pa1 (pp_cal (js := []) 2 (ok_law_without T (k + 0)) hr (by rfl) T.d_law_without.g T.d_law_without.F.kp T.d_law_without.b (pal1 (pp_ice (pv 3)) (pal1 (pp_ice (pv 7)) pal0))) (pa1 (pp_ice (pv 4)) pa0)))))
 (ss_cons (ss_expr (pp_app (pv_var (pv 9)) (pp_tup (pa1 (pp_ice (pv 3)) (pa1 (pp_cal (js := []) 3 (ok_law_put T (k + 0)) hr (by rfl) T.d_law_put.g T.d_law_put.F.kp T.d_law_put.b (pal1 (pp_ice (pv 4)) (pal1 (pp_ice (pv 7)) (pal1 (bin_gg op_sub ro_sub (ix_pp (pb_var (pv 4)) (pb_var (pv 7)) (fun _ _ => rfl)) (bi_p call_len ro_len (by rfl) T.m_len boot_len (pb_var (pv 2)))) pal0)))) pa0)))))
 (ss_cons (ss_expr (pp_app (pv_var (pv 9)) (pp_tup (pa1 (pp_ice (pv 3)) (pa1 (pp_cal (js := []) 3 (ok_law_put T (k + 0)) hr (by rfl) T.d_law_put.g T.d_law_put.F.kp T.d_law_put.b (pal1 (pp_ice (pv 4)) (pal1 (pp_ice (pv 7)) (pal1 (bi_p call_len ro_len (by rfl) T.m_len boot_len (pb_var (pv 2))) pal0)))) pa0)))))
 (ss_cons (ss_expr (pp_app (pv_var (pv 9)) (pp_tup (pa1 (pp_cal (js := []) 3 (ok_law_put T (k + 0)) hr (by rfl) T.d_law_put.g T.d_law_put.F.kp T.d_law_put.b (pal1 (pp_ice (pv 3)) (pal1 pp_int (pal1 (bin_gp op_sub ro_sub (ix_vg (pv_var (pv 3)) pp_int (fun _ _ => rfl)) (pb_var (pv 1))) pal0)))) (pa1 (pp_ice (pv 4)) pa0)))))
 (ss_cons (ss_expr (pp_app (pv_var (pv 9)) (pp_tup (pa1 (bin_vg op_add' ro_add (pv_var (pv 3)) (pp_tup (pa1 (pp_ice (pv 1)) pa0))) (pa1 (bin_vg op_add' ro_add (pv_var (pv 4)) (pp_tup (pa1 (ix_pp (pb_var (pv 4)) (pb_var (pv 7)) (fun _ _ => rfl)) pa0))) pa0)))))
 (ss_cons (ss_expr (pp_app (pv_var (pv 9)) (pp_tup (pa1 (bin_vg op_add' ro_add (pv_var (pv 3)) (pp_tup (pa1 (ix_vg (pv_var (pv 3)) (neg_g pp_int) (fun _ _ => rfl)) pa0))) (pa1 (bin_vg op_add' ro_add (pv_var (pv 4)) (pp_tup (pa1 (ix_vg (pv_var (pv 4)) (neg_g pp_int) (fun _ _ => rfl)) pa0))) pa0)))))
 (ss_cons (ss_expr (pp_app (pv_var (pv 9)) (pp_tup (pa1 (pp_tup pa0) (pa1 (pp_tup pa0) pa0)))))
 (ss_cons (ss_expr (pp_app (pv_var (pv 9)) (pp_tup (pa1 (pp_ice (pv 3)) (pa1 (pp_ice (pv 4)) (pa1 (pp_tup pa0) pa0))))))
 (ss_cons (ss_expr (pp_app (pv_var (pv 9)) (pp_tup (pa1 (pp_ice (pv 3)) pa0))))
 (ss_cons (ss_expr (pp_app (pv_var (pv 9)) (pp_tup (pa1 (pp_iceg (bt_p call_list_of ro_list (by rfl) T.m_list PyProof.Rows.boot_list (pb_var (pv 3)))) (pa1 (pp_ice (pv 4)) pa0)))))
 (ss_cons (ss_expr (pp_app (pv_var (pv 9)) (pp_tup (pa1 (pp_ice (pv 3)) (pa1 (pp_iceg (bt_p call_list_of ro_list (by rfl) T.m_list PyProof.Rows.boot_list (pb_var (pv 4)))) pa0)))))
 (ss_cons (ss_expr (pp_app (pv_var (pv 9)) (pp_iceg (pp_own (pa1 (pp_ice (pv 3)) (pa1 (pp_ice (pv 4)) pa0))))))
 (ss_cons (ss_expr (pp_app (pv_var (pv 9)) (pp_tup (pa1 (pp_ice (pv 4)) (pa1 (pp_ice (pv 3)) (pa1 (pp_ice (pv 4)) (pa1 (pp_ice (pv 3)) pa0)))))))
 (ss_cons (ss_expr (pp_app (pv_var (pv 9)) (pp_tup (pa1 (pp_ice (pv 3)) (pa1 (pp_cal (js := []) 3 (ok_law_put T (k + 0)) hr (by rfl) T.d_law_put.g T.d_law_put.F.kp T.d_law_put.b (pal1 (pp_ice (pv 4)) (pal1 (pp_ice (pv 7)) (pal1 (bt_g call_str_int ro_str (by rfl) T.m_str PyProof.Rows.boot_str (ix_pp (pb_var (pv 4)) (pb_var (pv 7)) (fun _ _ => rfl))) pal0)))) pa0)))))
 (ss_cons (ss_expr (pp_app (pv_var (pv 9)) (pp_tup (pa1 (pp_ice (pv 3)) (pa1 (pp_cal (js := []) 3 (ok_law_put T (k + 0)) hr (by rfl) T.d_law_put.g T.d_law_put.F.kp T.d_law_put.b (pal1 (pp_ice (pv 4)) (pal1 (pp_ice (pv 7)) (pal1 pp_non pal0)))) pa0)))))
 (ss_cons (ss_expr (pp_app (pv_var (pv 9)) (pp_tup (pa1 (pp_ice (pv 3)) (pa1 (pp_cal (js := []) 3 (ok_law_put T (k + 0)) hr (by rfl) T.d_law_put.g T.d_law_put.F.kp T.d_law_put.b (pal1 (pp_ice (pv 4)) (pal1 (pp_ice (pv 7)) (pal1 (pp_tup (pa1 (ix_pp (pb_var (pv 4)) (pb_var (pv 7)) (fun _ _ => rfl)) pa0)) pal0)))) pa0)))))
 (ss_cons (ss_expr (pp_app (pv_var (pv 9)) (pp_tup (pa1 (pp_cal (js := []) 3 (ok_law_put T (k + 0)) hr (by rfl) T.d_law_put.g T.d_law_put.F.kp T.d_law_put.b (pal1 (pp_ice (pv 3)) (pal1 (pp_ice (pv 7)) (pal1 (bt_g call_str_int ro_str (by rfl) T.m_str PyProof.Rows.boot_str (ix_pp (pb_var (pv 3)) (pb_var (pv 7)) (fun _ _ => rfl))) pal0)))) (pa1 (pp_ice (pv 4)) pa0)))))
 (ss_cons (ss_expr (pp_app (pv_var (pv 9)) (pp_tup (pa1 (pp_ice (pv 3)) (pa1 (pp_cal (js := []) 3 (ok_law_put T (k + 0)) hr (by rfl) T.d_law_put.g T.d_law_put.F.kp T.d_law_put.b (pal1 (pp_ice (pv 4)) (pal1 (pp_ice (pv 7)) (pal1 (bin_gg op_add' ro_add (bin_gg op_powW ro_pow pp_int pp_int) (ix_pp (pb_var (pv 4)) (pb_var (pv 7)) (fun _ _ => rfl))) pal0)))) pa0)))))
 (ss_cons (ss_if (pt_gg op_gt ro_gt (bi_p call_len ro_len (by rfl) T.m_len boot_len (pb_var (pv 3))) pp_int (nomark _))
 (ss_one (ss_expr (pp_app (pv_var (pv 9)) (pp_tup (pa1 (bt_g call_tuple_of ro_tuple (by rfl) T.m_tuple PyProof.Rows.boot_tuple (pp_comp (own := [("place", 10)]) rfl sc_law_bent.nd (it_v (pv 8)) (blkOk_by (own := [("place", 10)]) (N := ["feed", "many", "rows", "some", "base", "marks", "spots", "spot", "back", "bent", "place"]) (sc := defScope s_law_bent) (by decide +kernel)) (tgr_name 10) (fun _ _ _ _ _ => (pg_name (i := 10) sc_law_bent.nd rfl (by first | exact Or.inl rfl | exact Or.inr rfl))) (fun _ _ _ _ _ => pts0) (fun _ _ _ _ _ => (ix_pp (pb_var (pv 3)) (pb_var (pv 10)) (fun _ _ => rfl))))) (pa1 (bt_g call_tuple_of ro_tuple (by rfl) T.m_tuple PyProof.Rows.boot_tuple (pp_comp (own := [("place", 10)]) rfl sc_law_bent.nd (it_v (pv 8)) (blkOk_by (own := [("place", 10)]) (N := ["feed", "many", "rows", "some", "base", "marks", "spots", "spot", "back", "bent", "place"]) (sc := defScope s_law_bent) (by decide +kernel)) (tgr_name 10) (fun _ _ _ _ _ => (pg_name (i := 10) sc_law_bent.nd rfl (by first | exact Or.inl rfl | exact Or.inr rfl))) (fun _ _ _ _ _ => pts0) (fun _ _ _ _ _ => (ix_pp (pb_var (pv 4)) (pb_var (pv 10)) (fun _ _ => rfl))))) pa0))))))
 ss_nil)
 (ss_cons (ss_if (pt_gp op_lt ro_lt (bi_p call_len ro_len (by rfl) T.m_len boot_len (pb_var (pv 3))) (pb_var (pv 1)) (nomark _))
 (ss_one (ss_expr (pp_app (pv_var (pv 9)) (pp_tup (pa1 (pp_ice (pv 3)) (pa1 (pp_cal (js := []) 3 (ok_law_put T (k + 0)) hr (by rfl) T.d_law_put.g T.d_law_put.F.kp T.d_law_put.b (pal1 (pp_ice (pv 4)) (pal1 (ix_vg (pv_var (pv 6)) pp_int (fun _ _ => rfl)) (pal1 (ix_vg (pv_var (pv 5)) pp_int (fun _ _ => rfl)) pal0)))) pa0))))))
 ss_nil)
 (ss_one (ss_ret (pp_take (pv 9))))))))))))))))))))))))))))
theorem ok_law_others (T : Top K mg) (k : Nat) : FnOk P w K mg base CX0 (k + 2) T.d_law_others.f T.d_law_others.fd ["feed", "many", "rows", "some", "base"] (spP K 5 [0] m_law_others) :=
 fn_p (N := ["feed", "many", "rows", "some", "base", "spot", "others", "bits", "drawn", "more", "rule"]) (ps := ["feed", "many", "rows", "some", "base"]) (io := [0]) (k := k + 1) (body := b_law_others) T.d_law_others.F sc_law_others (fun cdv A outer s H E hr =>
 (ss_cons (ss_set (i := 5) sc_law_others.nd rfl (by first | exact Or.inl rfl | exact Or.inr rfl) (pp_cal (js := [some 0]) 2 (ok_law_draw T (k + 0)) hr (by rfl) T.d_law_draw.g T.d_law_draw.F.kp T.d_law_draw.b (palz (pv 0) (pal1 (bi_p call_len ro_len (by rfl) T.m_len boot_len (pb_var (pv 3))) pal0))))
 (ss_cons (ss_set (i := 6) sc_law_others.nd rfl (by first | exact Or.inl rfl | exact Or.inr rfl) (pp_own (pa1 (pp_tup (pa1 (pp_cal (js := []) 2 (ok_law_without T (k + 0)) hr (by rfl) T.d_law_without.g T.d_law_without.F.kp T.d_law_without.b (pal1 (pp_ice (pv 3)) (pal1 (pp_ice (pv 5)) pal0))) (pa1 (pp_cal (js := []) 2 (ok_law_without T (k + 0)) hr (by rfl) T.d_law_without.g T.d_law_without.F.kp T.d_law_without.b (pal1 (pp_ice (pv 4)) (pal1 (pp_ice (pv 5)) pal0))) pa0))) pa0)))
 (ss_cons (ss_expr (pp_app (pv_var (pv 6)) (pp_tup (pa1 (pp_ice (pv 3)) (pa1 (pp_cal (js := []) 3 (ok_law_put T (k + 0)) hr (by rfl) T.d_law_put.g T.d_law_put.F.kp T.d_law_put.b (pal1 (pp_ice (pv 4)) (pal1 (pp_ice (pv 5)) (pal1 (pp_cal (js := [some 0]) 2 (ok_law_draw T (k + 0)) hr (by rfl) T.d_law_draw.g T.d_law_draw.F.kp T.d_law_draw.b (palz (pv 0) (pal1 (bi_p call_len ro_len (by rfl) T.m_len boot_len (pb_var (pv 2))) pal0))) pal0)))) pa0)))))
 (ss_cons (ss_set (i := 7) sc_law_others.nd rfl (by first | exact Or.inl rfl | exact Or.inr rfl) (pp_comp (own := [("rule", 10)]) rfl sc_law_others.nd (it_r1 (by rfl) T.m_range (pal1 (pp_place (pb_var (pv 1))) pal0)) (blkOk_by (own := [("rule", 10)]) (N := ["feed", "many", "rows", "some", "base", "spot", "others", "bits", "drawn", "more", "rule"]) (sc := defScope s_law_others) (by decide +kernel)) (tgr_name 10) (fun _ _ _ _ _ => (pg_name (i := 10) sc_law_others.nd rfl (by first | exact Or.inl rfl | exact Or.inr rfl))) (fun _ _ _ _ _ => pts0) (fun _ _ _ _ _ => (pp_cal (js := [some 0]) 2 (ok_law_draw T (k + 0)) hr (by rfl) T.d_law_draw.g T.d_law_draw.F.kp T.d_law_draw.b (palz (pv 0) (pal1 pp_int pal0))))))
 (ss_cons (ss_set (i := 8) sc_law_others.nd rfl (by first | exact Or.inl rfl | exact Or.inr rfl) (bt_g call_tuple_of ro_tuple (by rfl) T.m_tuple PyProof.Rows.boot_tuple (pp_comp (own := [("rule", 10)]) rfl sc_law_others.nd (it_r1 (by rfl) T.m_range (pal1 (pp_place (pb_var (pv 1))) pal0)) (blkOk_by (own := [("rule", 10)]) (N := ["feed", "many", "rows", "some", "base", "spot", "others", "bits", "drawn", "more", "rule"]) (sc := defScope s_law_others) (by decide +kernel)) (tgr_name 10) (fun _ _ _ _ _ => (pg_name (i := 10) sc_law_others.nd rfl (by first | exact Or.inl rfl | exact Or.inr rfl))) (fun _ _ _ _ _ => (pts1 (pt_gg (op_eqD hr.units) ro_eq (ix_pp (pb_var (pv 7)) (pb_var (pv 10)) (fun _ _ => rfl)) pp_int (nomark _)))) (fun _ _ _ _ _ => (pp_ice (pv 10))))))
 (ss_cons (ss_expr (pp_app (pv_var (pv 6)) (pp_tup (pa1 (pp_ice (pv 8)) (pa1 (bt_g call_tuple_of ro_tuple (by rfl) T.m_tuple PyProof.Rows.boot_tuple (pp_comp (own := [("rule", 10)]) rfl sc_law_others.nd (it_v (pv 8)) (blkOk_by (own := [("rule", 10)]) (N := ["feed", "many", "rows", "some", "base", "spot", "others", "bits", "drawn", "more", "rule"]) (sc := defScope s_law_others) (by decide +kernel)) (tgr_name 10) (fun _ _ _ _ _ => (pg_name (i := 10) sc_law_others.nd rfl (by first | exact Or.inl rfl | exact Or.inr rfl))) (fun _ _ _ _ _ => pts0) (fun _ _ _ _ _ => (pp_cal (js := [some 0]) 2 (ok_law_draw T (k + 0)) hr (by rfl) T.d_law_draw.g T.d_law_draw.F.kp T.d_law_draw.b (palz (pv 0) (pal1 (bi_p call_len ro_len (by rfl) T.m_len boot_len (pb_var (pv 2))) pal0)))))) pa0)))))
 (ss_cons (ss_set (i := 9) sc_law_others.nd rfl (by first | exact Or.inl rfl | exact Or.inr rfl) (pp_rngT rfl (by rfl) T.m_tuple (by rfl) T.m_range (pp_place (pb_var (pv 1)))))
 (ss_cons (ss_expr (pp_app (pv_var (pv 6)) (pp_tup (pa1 (pp_ice (pv 9)) (pa1 (bt_g call_tuple_of ro_tuple (by rfl) T.m_tuple PyProof.Rows.boot_tuple (pp_comp (own := [("rule", 10)]) rfl sc_law_others.nd (it_v (pv 9)) (blkOk_by (own := [("rule", 10)]) (N := ["feed", "many", "rows", "some", "base", "spot", "others", "bits", "drawn", "more", "rule"]) (sc := defScope s_law_others) (by decide +kernel)) (tgr_name 10) (fun _ _ _ _ _ => (pg_name (i := 10) sc_law_others.nd rfl (by first | exact Or.inl rfl | exact Or.inr rfl))) (fun _ _ _ _ _ => pts0) (fun _ _ _ _ _ => (pp_cal (js := [some 0]) 2 (ok_law_draw T (k + 0)) hr (by rfl) T.d_law_draw.g T.d_law_draw.F.kp T.d_law_draw.b (palz (pv 0) (pal1 (bi_p call_len ro_len (by rfl) T.m_len boot_len (pb_var (pv 2))) pal0)))))) pa0)))))
 (ss_one (ss_ret (pp_take (pv 6)))))))))))))
theorem ok_law_odd (T : Top K mg) (k : Nat) : FnOk P w K mg base CX0 (k + 2) T.d_law_odd.f T.d_law_odd.fd ["feed"] (spP K 1 [0] m_law_odd) :=
 fn_p (N := ["feed", "deep", "lap", "odd"]) (ps := ["feed"]) (io := [0]) (k := k + 1) (body := b_law_odd) T.d_law_odd.F sc_law_odd (fun cdv A outer s H E hr =>
 (ss_cons (ss_set (i := 1) sc_law_odd.nd rfl (by first | exact Or.inl rfl | exact Or.inr rfl) (pp_tup pa0))
 (ss_cons (ss_for PassesOwn.never rfl (it_r1 (by rfl) T.m_range (pal1 (bin_gg op_add' ro_add pp_int (pp_cal (js := [some 0]) 2 (ok_law_draw T (k + 0)) hr (by rfl) T.d_law_draw.g T.d_law_draw.F.kp T.d_law_draw.b (palz (pv 0) (pal1 pp_int pal0)))) pal0)) (pg_name (i := 2) sc_law_odd.nd rfl (by first | exact Or.inl rfl | exact Or.inr rfl)) (tgr_name 2)
 (ss_one (ss_set (i := 1) sc_law_odd.nd rfl (by first | exact Or.inl rfl | exact Or.inr rfl) (pp_tup (pa1 (pp_ice (pv 1)) (pa1 pp_int pa0))))))
 (ss_cons (ss_set (i := 3) sc_law_odd.nd rfl (by first | exact Or.inl rfl | exact Or.inr rfl) (pp_own (pa1 pp_non (pa1 pp_bl (pa1 pp_bl (pa1 pp_int (pa1 (neg_g pp_int) (pa1 pp_str (pa1 pp_str (pa1 (pp_tup pa0) (pa1 (pp_iceg (pp_own pa0)) (pa1 (pp_ice (pv 1)) (pa1 (pp_tup (pa1 (pp_tup pa0) (pa1 pp_non pa0))) (pa1 (pp_tup (pa1 pp_int (pa1 pp_int pa0))) (pa1 (pp_tup (pa1 pp_str (pa1 pp_str pa0))) (pa1 (pp_tup (pa1 pp_non (pa1 pp_non pa0))) pa0))))))))))))))))
 (ss_cons (ss_expr (pp_app (pv_var (pv 3)) (pp_tup (pa1 (pp_rngT rfl (by rfl) T.m_tuple (by rfl) T.m_range pp_int) (pa1 (pp_rngT rfl (by rfl) T.m_tuple (by rfl) T.m_range pp_int) pa0)))))
 (ss_one (ss_ret (pp_take (pv 3)))))))))
theorem ok_law_last_rows (T : Top K mg) (k : Nat) : FnOk P w K mg base CX0 (k + 2) T.d_law_last_rows.f T.d_law_last_rows.fd ["many", "rows"] (spP K 2 [] m_law_last_rows) :=
 fn_p (N := ["many", "rows", "reach", "rest", "numbers", "rule", "found", "number"]) (ps := ["many", "rows"]) (io := []) (k := k + 1) (body := b_law_last_rows) T.d_law_last_rows.F sc_law_last_rows (fun cdv A outer s H E hr =>
 (ss_cons (ss_set (i := 2) sc_law_last_rows.nd rfl (by first | exact Or.inl rfl | exact Or.inr rfl) (pp_cal (js := []) 2 (ok_law_reach T (k + 0)) hr (by rfl) T.d_law_reach.g T.d_law_reach.F.kp T.d_law_reach.b (pal1 (pp_ice (pv 0)) (pal1 (pp_ice (pv 1)) pal0))))
 (ss_cons (ss_set (i := 3) sc_law_last_rows.nd rfl (by first | exact Or.inl rfl | exact Or.inr rfl) (bt_g call_tuple_of ro_tuple (by rfl) T.m_tuple PyProof.Rows.boot_tuple (pp_comp (own := [("rule", 5)]) rfl sc_law_last_rows.nd (it_r1 (by rfl) T.m_range (pal1 (pp_place (pb_var (pv 0))) pal0)) (blkOk_by (own := [("rule", 5)]) (N := ["many", "rows", "reach", "rest", "numbers", "rule", "found", "number"]) (sc := defScope s_law_last_rows) (by decide +kernel)) (tgr_name 5) (fun _ _ _ _ _ => (pg_name (i := 5) sc_law_last_rows.nd rfl (by first | exact Or.inl rfl | exact Or.inr rfl))) (fun _ _ _ _ _ => (pts1 (pt_pp op_notIn_seq (ro_in true) (pb_var (pv 5)) (pb_var (pv 2)) (by rfl)))) (fun _ _ _ _ _ => (pp_ice (pv 5))))))
 (ss_cons (ss_set (i := 4) sc_law_last_rows.nd rfl (by first | exact Or.inl rfl | exact Or.inr rfl) (pp_own pa0))
 (ss_cons (ss_for PassesOwn.never rfl (it_v (pv 3)) (pg_name (i := 5) sc_law_last_rows.nd rfl (by first | exact Or.inl rfl | exact Or.inr rfl)) (tgr_name 5)
 (ss_cons (ss_setLc (i := 6) (own := [("number", 7)]) rfl sc_law_last_rows.nd rfl rfl (by rfl) (it_r1 (by rfl) T.m_range (pal1 (bi_p call_len ro_len (by rfl) T.m_len boot_len (pb_var (pv 1))) pal0)) (blkOk_by (own := [("number", 7)]) (N := ["many", "rows", "reach", "rest", "numbers", "rule", "found", "number"]) (sc := defScope s_law_last_rows) (by decide +kernel)) (tgr_name 7) (fun _ _ _ _ _ => (pg_name (i := 7) sc_law_last_rows.nd rfl (by first | exact Or.inl rfl | exact Or.inr rfl))) (fun _ _ _ _ _ => (pts1 (pt_tru (pp_cal (js := []) 3 (ok_law_is_bar_row T (k + 0)) hr (by rfl) T.d_law_is_bar_row.g T.d_law_is_bar_row.F.kp T.d_law_is_bar_row.b (pal1 (ix_pp (pb_var (pv 1)) (pb_var (pv 7)) (fun _ _ => rfl)) (pal1 (pp_ice (pv 3)) (pal1 (pp_ice (pv 5)) pal0))))))) (fun _ _ _ _ _ => (pp_ice (pv 7))))
 (ss_one (ss_expr (pp_app (pv_var (pv 4)) (ix_vg (pv_var (pv 6)) (neg_g pp_int) (fun _ _ => rfl)))))))
 (ss_one (ss_ret (pp_tup (pa1 (pp_ice (pv 3)) (pa1 (bt_p call_tuple_of ro_tuple (by rfl) T.m_tuple PyProof.Rows.boot_tuple (pb_var (pv 4))) pa0))))))))))
theorem ok_are_ascending (T : Top K mg) (k : Nat) : FnOk P w K mg base CX0 (k + 3) T.d_are_ascending.f T.d_are_ascending.fd ["thing", "most"] (spP K 2 [] m_are_ascending) :=
 fn_p (N := ["thing", "most", "ahead", "number"]) (ps := ["thing", "most"]) (io := []) (k := k + 2) (body := b_are_ascending) T.d_are_ascending.F sc_are_ascending (fun cdv A outer s H E hr =>
 (ss_cons (ss_if (pt_no (pt_tru (isi_p (by rfl) T.m_isinstance (by rfl) T.m_tuple PyProof.Rows.boot_tuple (pb_var (pv 0)))))
 (ss_one (ss_ret pp_bl))
 ss_nil)
 (ss_cons (ss_set (i := 2) sc_are_ascending.nd rfl (by first | exact Or.inl rfl | exact Or.inr rfl) (neg_g pp_int))
 (ss_cons (ss_for PassesOwn.never rfl (it_v (pv 0)) (pg_name (i := 3) sc_are_ascending.nd rfl (by first | exact Or.inl rfl | exact Or.inr rfl)) (tgr_name 3)
 (ss_cons (ss_if (pt_no (pt_tru (pp_cal (js := []) 3 (ok_integer_within T (k + 0)) hr (by rfl) T.d_integer_within.g T.d_integer_within.F.kp T.d_integer_within.b (pal1 (pp_ice (pv 3)) (pal1 (bin_vg op_add' ro_add (pv_var (pv 2)) pp_int) (pal1 (pp_ice (pv 1)) pal0))))))
 (ss_one (ss_ret pp_bl))
 ss_nil)
 (ss_one (ss_set (i := 2) sc_are_ascending.nd rfl (by first | exact Or.inl rfl | exact Or.inr rfl) (pp_ice (pv 3))))))
 (ss_one (ss_ret pp_bl))))))
theorem ok_strata_of (T : Top K mg) (k : Nat) : FnOk P w K mg base CX0 (k + 3) T.d_strata_of.f T.d_strata_of.fd ["many", "rows"] (spP K 2 [] m_strata_of) :=
 fn_p (N := ["many", "rows", "some", "told", "free"]) (ps := ["many", "rows"]) (io := []) (k := k + 2) (body := b_strata_of) T.d_strata_of.F sc_strata_of (fun cdv A outer s H E hr =>
 (ss_cons (ss_set (i := 2) sc_strata_of.nd rfl (by first | exact Or.inl rfl | exact Or.inr rfl) (pp_tup pa0))
 (ss_cons (ss_set (i := 3) sc_strata_of.nd rfl (by first | exact Or.inl rfl | exact Or.inr rfl) (pp_own pa0))
 (ss_cons (ss_set (i := 4) sc_strata_of.nd rfl (by first | exact Or.inl rfl | exact Or.inr rfl) (pp_cal (js := []) 3 (ok_free_rules T (k + 0)) hr (by rfl) T.d_free_rules.g T.d_free_rules.F.kp T.d_free_rules.b (pal1 (pp_ice (pv 0)) (pal1 (pp_ice (pv 1)) (pal1 (pp_ice (pv 2)) pal0)))))
 (ss_cons (ss_while PassesOwn.never (pt_truP (pb_var (pv 4)))
 (ss_cons (ss_expr (pp_app (pv_var (pv 3)) (pp_ice (pv 4))))
 (ss_cons (ss_set (i := 2) sc_strata_of.nd rfl (by first | exact Or.inl rfl | exact Or.inr rfl) (bt_g call_tuple_of ro_tuple (by rfl) T.m_tuple PyProof.Rows.boot_tuple (bi_g cr_srt ro_sorted (by rfl) T.m_sorted PyProof.Rows.boot_sorted (bin_pp op_add' ro_add (pb_var (pv 2)) (pb_var (pv 4))))))
 (ss_one (ss_set (i := 4) sc_strata_of.nd rfl (by first | exact Or.inl rfl | exact Or.inr rfl) (pp_cal (js := []) 3 (ok_free_rules T (k + 0)) hr (by rfl) T.d_free_rules.g T.d_free_rules.F.kp T.d_free_rules.b (pal1 (pp_ice (pv 0)) (pal1 (pp_ice (pv 1)) (pal1 (pp_ice (pv 2)) pal0)))))))))
 (ss_one (ss_ret (bt_p call_tuple_of ro_tuple (by rfl) T.m_tuple PyProof.Rows.boot_tuple (pb_var (pv 3))))))))))
theorem ok_are_row_papers (T : Top K mg) (k : Nat) : FnOk P w K mg base CX0 (k + 3) T.d_are_row_papers.f T.d_are_row_papers.fd ["rows", "rules", "inside", "thing"] (spP K 4 [] m_are_row_papers) :=
 fn_p (N := ["rows", "rules", "inside", "thing", "rule", "number"]) (ps := ["rows", "rules", "inside", "thing"]) (io := []) (k := k + 2) (body := b_are_row_papers) T.d_are_row_papers.F sc_are_row_papers (fun cdv A outer s H E hr =>
 (ss_cons (ss_if (PW.pt (pw_orr (pt_no (pt_tru (isi_p (by rfl) T.m_isinstance (by rfl) T.m_tuple PyProof.Rows.boot_tuple (pb_var (pv 3))))) (pw_or1 (pt_gg (op_neD hr.units) ro_ne (bi_p call_len ro_len (by rfl) T.m_len boot_len (pb_var (pv 3))) (bi_p call_len ro_len (by rfl) T.m_len boot_len (pb_var (pv 1))) (nomark _)))))
 (ss_one (ss_ret pp_bl))
 ss_nil)
 (ss_cons (ss_for PassesOwn.never rfl (it_zp (by rfl) T.m_zip (palk (pv 1) (palk (pv 3) pal0))) (pg_tup rfl (pgs_cons (pg_name (i := 4) sc_are_row_papers.nd rfl (by first | exact Or.inl rfl | exact Or.inr rfl)) (pgs_cons (pg_name (i := 5) sc_are_row_papers.nd rfl (by first | exact Or.inl rfl | exact Or.inr rfl)) pgs_nil))) (tgr_tup (tgs_cons (tgs_cons tgs_nil)))
 (ss_one (ss_if (PW.pt (pw_orr (pt_no (pt_tru (pp_cal (js := []) 3 (ok_integer_within T (k + 0)) hr (by rfl) T.d_integer_within.g T.d_integer_within.F.kp T.d_integer_within.b (pal1 (pp_ice (pv 5)) (pal1 pp_int (pal1 (bin_gg op_sub ro_sub (bi_p call_len ro_len (by rfl) T.m_len boot_len (pb_var (pv 0))) pp_int) pal0)))))) (pw_or1 (pt_no (pt_tru (pp_cal (js := []) 3 (ok_is_nowhere_worse T (k + 1)) hr (by rfl) T.d_is_nowhere_worse.g T.d_is_nowhere_worse.F.kp T.d_is_nowhere_worse.b (pal1 (ix_pp (pb_var (pv 0)) (pb_var (pv 5)) (fun _ _ => rfl)) (pal1 (pp_ice (pv 4)) (pal1 (pp_ice (pv 2)) pal0)))))))))
 (ss_one (ss_ret pp_bl))
 ss_nil)))
 (ss_one (ss_ret pp_bl)))))
theorem ok_law_lead (T : Top K mg) (k : Nat) : FnOk P w K mg base CX0 (k + 3) T.d_law_lead.f T.d_law_lead.fd ["feed", "order", "place"] (spP K 3 [0] m_law_lead) :=
 fn_p (N := ["feed", "order", "place", "row", "rule"]) (ps := ["feed", "order", "place"]) (io := [0]) (k := k + 2) (body := b_law_lead) T.d_law_lead.F sc_law_lead (fun cdv A outer s H E hr =>
 (ss_cons (ss_setLc (i := 3) (own := [("rule", 4)]) rfl sc_law_lead.nd rfl rfl (by rfl) (it_v (pv 1)) (blkOk_by (own := [("rule", 4)]) (N := ["feed", "order", "place", "row", "rule"]) (sc := defScope s_law_lead) (by decide +kernel)) (tgr_name 4) (fun _ _ _ _ _ => (pg_name (i := 4) sc_law_lead.nd rfl (by first | exact Or.inl rfl | exact Or.inr rfl))) (fun _ _ _ _ _ => pts0) (fun _ _ _ _ _ => pp_int))
 (ss_cons (ss_setI (pp_cal (js := [some 0]) 1 (ok_law_size T (k + 0)) hr (by rfl) T.d_law_size.g T.d_law_size.F.kp T.d_law_size.b (palz (pv 0) pal0)) (pv_var (pv 3)) (ix_pp (pb_var (pv 1)) (pb_var (pv 2)) (fun _ _ => rfl)))
 (ss_cons (ss_for PassesOwn.never rfl (it_g (sl_v (pv_var (pv 1)) (po_s (bin_vg op_add' ro_add (pv_var (pv 2)) pp_int)) po_n)) (pg_name (i := 4) sc_law_lead.nd rfl (by first | exact Or.inl rfl | exact Or.inr rfl)) (tgr_name 4)
 (ss_one (ss_setI (bin_gg op_mulW ro_mul (bin_gg op_sub ro_sub (pp_cal (js := [some 0]) 2 (ok_law_draw T (k + 1)) hr (by rfl) T.d_law_draw.g T.d_law_draw.F.kp T.d_law_draw.b (palz (pv 0) (pal1 pp_int pal0))) pp_int) (pp_cal (js := [some 0]) 1 (ok_law_size T (k + 0)) hr (by rfl) T.d_law_size.g T.d_law_size.F.kp T.d_law_size.b (palz (pv 0) pal0))) (pv_var (pv 3)) (pp_place (pb_var (pv 4))))))
 (ss_one (ss_ret (bt_p call_tuple_of ro_tuple (by rfl) T.m_tuple PyProof.Rows.boot_tuple (pb_var (pv 3)))))))))
theorem ok_law_plain (T : Top K mg) (k : Nat) : FnOk P w K mg base CX0 (k + 3) T.d_law_plain.f T.d_law_plain.fd ["feed", "many"] (spP K 2 [0] m_law_plain) :=
 fn_p (N := ["feed", "many", "place"]) (ps := ["feed", "many"]) (io := [0]) (k := k + 2) (body := b_law_plain) T.d_law_plain.F sc_law_plain (fun cdv A outer s H E hr =>
 (ss_one (ss_ret (bt_g call_tuple_of ro_tuple (by rfl) T.m_tuple PyProof.Rows.boot_tuple (pp_comp (own := [("place", 2)]) rfl sc_law_plain.nd (it_r1 (by rfl) T.m_range (pal1 (pp_place (pb_var (pv 1))) pal0)) (blkOk_by (own := [("place", 2)]) (N := ["feed", "many", "place"]) (sc := defScope s_law_plain) (by decide +kernel)) (tgr_name 2) (fun _ _ _ _ _ => (pg_name (i := 2) sc_law_plain.nd rfl (by first | exact Or.inl rfl | exact Or.inr rfl))) (fun _ _ _ _ _ => pts0) (fun _ _ _ _ _ => (bin_gg op_mulW ro_mul (pp_cal (js := [some 0]) 2 (ok_law_draw T (k + 1)) hr (by rfl) T.d_law_draw.g T.d_law_draw.F.kp T.d_law_draw.b (palz (pv 0) (pal1 pp_int pal0))) (pp_cal (js := [some 0]) 1 (ok_law_size T (k + 0)) hr (by rfl) T.d_law_size.g T.d_law_size.F.kp T.d_law_size.b (palz (pv 0) pal0)))))))))
theorem ok_law_bar_row (T : Top K mg) (k : Nat) : FnOk P w K mg base CX0 (k + 3) T.d_law_bar_row.f T.d_law_bar_row.fd ["feed", "order", "top", "rule"] (spP K 4 [0] m_law_bar_row) :=
 fn_p (N := ["feed", "order", "top", "rule", "row", "other"]) (ps := ["feed", "order", "top", "rule"]) (io := [0]) (k := k + 2) (body := b_law_bar_row) T.d_law_bar_row.F sc_law_bar_row (fun cdv A outer s H E hr =>
 (ss_cons (ss_setLc (i := 4) (own := [("other", 5)]) rfl sc_law_bar_row.nd rfl rfl (by rfl) (it_v (pv 1)) (blkOk_by (own := [("other", 5)]) (N := ["feed", "order", "top", "rule", "row", "other"]) (sc := defScope s_law_bar_row) (by decide +kernel)) (tgr_name 5) (fun _ _ _ _ _ => (pg_name (i := 5) sc_law_bar_row.nd rfl (by first | exact Or.inl rfl | exact Or.inr rfl))) (fun _ _ _ _ _ => pts0) (fun _ _ _ _ _ => pp_int))
 (ss_cons (ss_for PassesOwn.never rfl (it_g (sl_v (pv_var (pv 1)) (po_s (pp_place (pb_var (pv 2)))) po_n)) (pg_name (i := 5) sc_law_bar_row.nd rfl (by first | exact Or.inl rfl | exact Or.inr rfl)) (tgr_name 5)
 (ss_one (ss_setI (bin_gg op_mulW ro_mul (bin_gg op_sub ro_sub (pp_cal (js := [some 0]) 2 (ok_law_draw T (k + 1)) hr (by rfl) T.d_law_draw.g T.d_law_draw.F.kp T.d_law_draw.b (palz (pv 0) (pal1 pp_int pal0))) pp_int) (pp_cal (js := [some 0]) 1 (ok_law_size T (k + 0)) hr (by rfl) T.d_law_size.g T.d_law_size.F.kp T.d_law_size.b (palz (pv 0) pal0))) (pv_var (pv 4)) (pp_place (pb_var (pv 5))))))
 (ss_cons (ss_setI (neg_g (pp_cal (js := [some 0]) 1 (ok_law_size T (k + 0)) hr (by rfl) T.d_law_size.g T.d_law_size.F.kp T.d_law_size.b (palz (pv 0) pal0))) (pv_var (pv 4)) (pp_place (pb_var (pv 3))))
 (ss_one (ss_ret (bt_p call_tuple_of ro_tuple (by rfl) T.m_tuple PyProof.Rows.boot_tuple (pb_var (pv 4)))))))))
theorem ok_reach_of (T : Top K mg) (k : Nat) : FnOk P w K mg base CX0 (k + 4) T.d_reach_of.f T.d_reach_of.fd ["many", "rows"] (spP K 2 [] m_reach_of) :=
 fn_p (N := ["many", "rows", "stratum", "rule"]) (ps := ["many", "rows"]) (io := []) (k := k + 3) (body := b_reach_of) T.d_reach_of.F sc_reach_of (fun cdv A outer s H E hr =>
 (ss_one (ss_ret (bt_g call_tuple_of ro_tuple (by rfl) T.m_tuple PyProof.Rows.boot_tuple (bi_g cr_srt ro_sorted (by rfl) T.m_sorted PyProof.Rows.boot_sorted (pp_comp2 (own := [("stratum", 2), ("rule", 3)]) (vs1 := [3]) rfl sc_reach_of.nd (it_g (pp_cal (js := []) 2 (ok_strata_of T (k + 0)) hr (by rfl) T.d_strata_of.g T.d_strata_of.F.kp T.d_strata_of.b (pal1 (pp_ice (pv 0)) (pal1 (pp_ice (pv 1)) pal0)))) (blkOk_by (own := [("stratum", 2), ("rule", 3)]) (N := ["many", "rows", "stratum", "rule"]) (sc := defScope s_reach_of) (by decide +kernel)) (tgr_name 2) (tgr_name 3) (fun _ _ _ _ _ => (pg_name (i := 2) sc_reach_of.nd rfl (by first | exact Or.inl rfl | exact Or.inr rfl))) (fun _ _ _ _ _ => pts0) (fun _ _ _ _ _ => (it_v (pv 2))) (fun _ _ _ _ _ => (pg_name (i := 3) sc_reach_of.nd rfl (by first | exact Or.inl rfl | exact Or.inr rfl))) (fun _ _ _ _ _ => pts0) (fun _ _ _ _ _ => (pp_ice (pv 3)))))))))
theorem ok_is_row_bar (T : Top K mg) (k : Nat) : FnOk P w K mg base CX0 (k + 4) T.d_is_row_bar.f T.d_is_row_bar.fd ["many", "rows", "thing"] (spP K 3 [] m_is_row_bar) :=
 fn_p (N := ["many", "rows", "thing", "rules", "numbers"]) (ps := ["many", "rows", "thing"]) (io := []) (k := k + 3) (body := b_is_row_bar) T.d_is_row_bar.F sc_is_row_bar (fun cdv A outer s H E hr =>
 (ss_cons (ss_if (PW.pt (pw_orr (pt_no (pt_tru (isi_p (by rfl) T.m_isinstance (by rfl) T.m_tuple PyProof.Rows.boot_tuple (pb_var (pv 2))))) (pw_or1 (pt_gg (op_neD hr.units) ro_ne (bi_p call_len ro_len (by rfl) T.m_len boot_len (pb_var (pv 2))) pp_int (nomark _)))))
 (ss_one (ss_ret pp_bl))
 ss_nil)
 (ss_cons (ss_setT (pp_ice (pv 2)) (pg_tup rfl (pgs_cons (pg_name (i := 3) sc_is_row_bar.nd rfl (by first | exact Or.inl rfl | exact Or.inr rfl)) (pgs_cons (pg_name (i := 4) sc_is_row_bar.nd rfl (by first | exact Or.inl rfl | exact Or.inr rfl)) pgs_nil))) (tgr_tup (tgs_cons (tgs_cons tgs_nil))))
 (ss_cons (ss_if (PW.pt (pw_orr (pt_no (pt_tru (pp_cal (js := []) 2 (ok_are_ascending T (k + 0)) hr (by rfl) T.d_are_ascending.g T.d_are_ascending.F.kp T.d_are_ascending.b (pal1 (pp_ice (pv 3)) (pal1 (bin_vg op_sub ro_sub (pv_var (pv 0)) pp_int) pal0))))) (pw_or1 (pt_no (pt_truP (pb_var (pv 3)))))))
 (ss_one (ss_ret pp_bl))
 ss_nil)
 (ss_one (ss_ret (pp_cal (js := []) 4 (ok_are_row_papers T (k + 0)) hr (by rfl) T.d_are_row_papers.g T.d_are_row_papers.F.kp T.d_are_row_papers.b (pal1 (pp_ice (pv 1)) (pal1 (pp_ice (pv 3)) (pal1 (pp_ice (pv 3)) (pal1 (pp_ice (pv 4)) pal0)))))))))))
theorem ok_law_world (T : Top K mg) (k : Nat) : FnOk P w K mg base CX0 (k + 4) T.d_law_world.f T.d_law_world.fd ["feed", "order", "top", "wide"] (spP K 4 [0] m_law_world) :=
 fn_p (N := ["feed", "order", "top", "wide", "core", "rule", "ahead", "lap"]) (ps := ["feed", "order", "top", "wide"]) (io := [0]) (k := k + 3) (body := b_law_world) T.d_law_world.F sc_law_world (fun cdv A outer s H E hr =>
 (ss_cons (ss_set (i := 4) sc_law_world.nd rfl (by first | exact Or.inl rfl | exact Or.inr rfl) (pp_own pa0))
 (ss_cons (ss_if (pt_vg op_gt ro_gt (pv_var (pv 2)) pp_int (nomark _))
 (ss_one (ss_setLc (i := 4) (own := [("lap", 7)]) rfl sc_law_world.nd rfl rfl (by rfl) (it_r1 (by rfl) T.m_range (pal1 (bin_gg op_add' ro_add pp_int (pp_cal (js := [some 0]) 2 (ok_law_draw T (k + 2)) hr (by rfl) T.d_law_draw.g T.d_law_draw.F.kp T.d_law_draw.b (palz (pv 0) (pal1 pp_int pal0)))) pal0)) (blkOk_by (own := [("lap", 7)]) (N := ["feed", "order", "top", "wide", "core", "rule", "ahead", "lap"]) (sc := defScope s_law_world) (by decide +kernel)) (tgr_name 7) (fun _ _ _ _ _ => (pg_name (i := 7) sc_law_world.nd rfl (by first | exact Or.inl rfl | exact Or.inr rfl))) (fun _ _ _ _ _ => pts0) (fun _ _ _ _ _ => (pp_cal (js := [some 0]) 3 (ok_law_lead T (k + 0)) hr (by rfl) T.d_law_lead.g T.d_law_lead.F.kp T.d_law_lead.b (palz (pv 0) (pal1 (pp_ice (pv 1)) (pal1 (pp_cal (js := [some 0]) 2 (ok_law_draw T (k + 2)) hr (by rfl) T.d_law_draw.g T.d_law_draw.F.kp T.d_law_draw.b (palz (pv 0) (pal1 (pp_ice (pv 2)) pal0))) pal0)))))))
 ss_nil)
 (ss_cons (ss_for PassesOwn.never rfl (it_g (sl_v (pv_var (pv 1)) (po_s (pp_place (pb_var (pv 2)))) po_n)) (pg_name (i := 5) sc_law_world.nd rfl (by first | exact Or.inl rfl | exact Or.inr rfl)) (tgr_name 5)
 (ss_one (ss_for PassesOwn.never rfl (it_r1 (by rfl) T.m_range (pal1 (bin_gg op_add' ro_add pp_int (pp_cal (js := [some 0]) 2 (ok_law_draw T (k + 2)) hr (by rfl) T.d_law_draw.g T.d_law_draw.F.kp T.d_law_draw.b (palz (pv 0) (pal1 pp_int pal0)))) pal0)) (pg_name (i := 7) sc_law_world.nd rfl (by first | exact Or.inl rfl | exact Or.inr rfl)) (tgr_name 7)
 (ss_one (ss_expr (pp_app (pv_var (pv 4)) (pp_cal (js := [some 0]) 4 (ok_law_bar_row T (k + 0)) hr (by rfl) T.d_law_bar_row.g T.d_law_bar_row.F.kp T.d_law_bar_row.b (palz (pv 0) (pal1 (pp_ice (pv 1)) (pal1 (pp_ice (pv 2)) (pal1 (pp_ice (pv 5)) pal0)))))))))))
 (ss_cons (ss_if (pt_no (pt_truP (pb_var (pv 3))))
 (ss_one (ss_ret (bt_g call_tuple_of ro_tuple (by rfl) T.m_tuple PyProof.Rows.boot_tuple (pp_cal (js := [some 0]) 2 (ok_law_shuffled T (k + 1)) hr (by rfl) T.d_law_shuffled.g T.d_law_shuffled.F.kp T.d_law_shuffled.b (palz (pv 0) (pal1 (bin_vg op_add' ro_add (pv_var (pv 4)) (pp_own (pa1 (pp_cal (js := [some 0]) 2 (ok_law_plain T (k + 0)) hr (by rfl) T.d_law_plain.g T.d_law_plain.F.kp T.d_law_plain.b (palz (pv 0) (pal1 (bi_p call_len ro_len (by rfl) T.m_len boot_len (pb_var (pv 1))) pal0))) pa0))) pal0))))))
 ss_nil)
 (ss_cons (ss_setLc (i := 6) (own := [("lap", 7)]) rfl sc_law_world.nd rfl rfl (by rfl) (it_r1 (by rfl) T.m_range (pal1 (bin_gg op_sub ro_sub (bin_gg op_sub ro_sub pp_int (bi_p call_len ro_len (by rfl) T.m_len boot_len (pb_var (pv 4)))) (pp_cal (js := [some 0]) 2 (ok_law_draw T (k + 2)) hr (by rfl) T.d_law_draw.g T.d_law_draw.F.kp T.d_law_draw.b (palz (pv 0) (pal1 pp_int pal0)))) pal0)) (blkOk_by (own := [("lap", 7)]) (N := ["feed", "order", "top", "wide", "core", "rule", "ahead", "lap"]) (sc := defScope s_law_world) (by decide +kernel)) (tgr_name 7) (fun _ _ _ _ _ => (pg_name (i := 7) sc_law_world.nd rfl (by first | exact Or.inl rfl | exact Or.inr rfl))) (fun _ _ _ _ _ => pts0) (fun _ _ _ _ _ => (pp_cal (js := [some 0]) 2 (ok_law_plain T (k + 0)) hr (by rfl) T.d_law_plain.g T.d_law_plain.F.kp T.d_law_plain.b (palz (pv 0) (pal1 (bi_p call_len ro_len (by rfl) T.m_len boot_len (pb_var (pv 1))) pal0)))))
 (ss_one (ss_ret (bt_g call_tuple_of ro_tuple (by rfl) T.m_tuple PyProof.Rows.boot_tuple (bin_vg op_add' ro_add (pv_var (pv 6)) (pp_cal (js := [some 0]) 2 (ok_law_shuffled T (k + 1)) hr (by rfl) T.d_law_shuffled.g T.d_law_shuffled.F.kp T.d_law_shuffled.b (palz (pv 0) (pal1 (pp_ice (pv 4)) pal0)))))))))))))
theorem ok_law_scene (T : Top K mg) (k : Nat) : FnOk P w K mg base CX0 (k + 4) T.d_law_scene.f T.d_law_scene.fd ["feed", "many", "some", "wide"] (spP K 4 [0] m_law_scene) :=
 fn_p (N := ["feed", "many", "some", "wide", "spots", "tagged", "tag", "row", "lap", "ahead", "numbers", "place", "rule", "other", "outside", "one"]) (ps := ["feed", "many", "some", "wide"]) (io := [0]) (k := k + 3) (body := b_law_scene) T.d_law_scene.F sc_law_scene (fun cdv A outer s H E hr =>
 (ss_cons (ss_set (i := 4) sc_law_scene.nd rfl (by first | exact Or.inl rfl | exact Or.inr rfl) (pp_own (pa1 (pp_cal (js := [some 0]) 2 (ok_law_draw T (k + 2)) hr (by rfl) T.d_law_draw.g T.d_law_draw.F.kp T.d_law_draw.b (palz (pv 0) (pal1 (bi_p call_len ro_len (by rfl) T.m_len boot_len (pb_var (pv 2))) pal0))) (pa1 (pp_cal (js := [some 0]) 2 (ok_law_draw T (k + 2)) hr (by rfl) T.d_law_draw.g T.d_law_draw.F.kp T.d_law_draw.b (palz (pv 0) (pal1 (bi_p call_len ro_len (by rfl) T.m_len boot_len (pb_var (pv 2))) pal0))) pa0))))
 (ss_cons (ss_set (i := 5) sc_law_scene.nd rfl (by first | exact Or.inl rfl | exact Or.inr rfl) (pp_own pa0))
 (ss_cons (ss_for PassesOwn.never rfl (it_r1 (by rfl) T.m_range (pal1 (bin_gg op_add' ro_add (bi_p call_len ro_len (by rfl) T.m_len boot_len (pb_var (pv 2))) pp_int) pal0)) (pg_name (i := 6) sc_law_scene.nd rfl (by first | exact Or.inl rfl | exact Or.inr rfl)) (tgr_name 6)
 (ss_cons (ss_set (i := 12) sc_law_scene.nd rfl (by first | exact Or.inl rfl | exact Or.inr rfl) (pp_if (pt_vg (op_eqD hr.units) ro_eq (pv_var (pv 6)) (bi_p call_len ro_len (by rfl) T.m_len boot_len (pb_var (pv 2))) (nomark _)) (ix_vg (pv_var (pv 2)) (ix_vg (pv_var (pv 4)) pp_int (fun _ _ => rfl)) (fun _ _ => rfl)) (pp_if (pt_vg op_gt ro_gt (pv_var (pv 6)) (bi_p call_len ro_len (by rfl) T.m_len boot_len (pb_var (pv 2))) (nomark _)) (ix_vg (pv_var (pv 2)) (ix_vg (pv_var (pv 4)) pp_int (fun _ _ => rfl)) (fun _ _ => rfl)) (ix_pp (pb_var (pv 2)) (pb_var (pv 6)) (fun _ _ => rfl)))))
 (ss_cons (ss_setLc (i := 7) (own := [("other", 13)]) rfl sc_law_scene.nd rfl rfl (by rfl) (it_r1 (by rfl) T.m_range (pal1 (pp_place (pb_var (pv 1))) pal0)) (blkOk_by (own := [("other", 13)]) (N := ["feed", "many", "some", "wide", "spots", "tagged", "tag", "row", "lap", "ahead", "numbers", "place", "rule", "other", "outside", "one"]) (sc := defScope s_law_scene) (by decide +kernel)) (tgr_name 13) (fun _ _ _ _ _ => (pg_name (i := 13) sc_law_scene.nd rfl (by first | exact Or.inl rfl | exact Or.inr rfl))) (fun _ _ _ _ _ => pts0) (fun _ _ _ _ _ => (bin_gg op_mulW ro_mul (neg_g (pp_cal (js := [some 0]) 1 (ok_law_size T (k + 1)) hr (by rfl) T.d_law_size.g T.d_law_size.F.kp T.d_law_size.b (palz (pv 0) pal0))) (pp_cal (js := [some 0]) 2 (ok_law_draw T (k + 2)) hr (by rfl) T.d_law_draw.g T.d_law_draw.F.kp T.d_law_draw.b (palz (pv 0) (pal1 pp_int pal0))))))
 (ss_cons (ss_for PassesOwn.never rfl (it_v (pv 2)) (pg_name (i := 13) sc_law_scene.nd rfl (by first | exact Or.inl rfl | exact Or.inr rfl)) (tgr_name 13)
 (ss_one (ss_setI (bin_gg op_mulW ro_mul (bin_gg op_sub ro_sub (pp_cal (js := [some 0]) 2 (ok_law_draw T (k + 2)) hr (by rfl) T.d_law_draw.g T.d_law_draw.F.kp T.d_law_draw.b (palz (pv 0) (pal1 pp_int pal0))) pp_int) (pp_cal (js := [some 0]) 1 (ok_law_size T (k + 1)) hr (by rfl) T.d_law_size.g T.d_law_size.F.kp T.d_law_size.b (palz (pv 0) pal0))) (pv_var (pv 7)) (pp_place (pb_var (pv 13))))))
 (ss_cons (ss_setI (neg_g (pp_cal (js := [some 0]) 1 (ok_law_size T (k + 1)) hr (by rfl) T.d_law_size.g T.d_law_size.F.kp T.d_law_size.b (palz (pv 0) pal0))) (pv_var (pv 7)) (pp_place (pb_var (pv 12))))
 (ss_cons (ss_setLc (i := 14) (own := [("other", 13)]) rfl sc_law_scene.nd rfl rfl (by rfl) (it_r1 (by rfl) T.m_range (pal1 (pp_place (pb_var (pv 1))) pal0)) (blkOk_by (own := [("other", 13)]) (N := ["feed", "many", "some", "wide", "spots", "tagged", "tag", "row", "lap", "ahead", "numbers", "place", "rule", "other", "outside", "one"]) (sc := defScope s_law_scene) (by decide +kernel)) (tgr_name 13) (fun _ _ _ _ _ => (pg_name (i := 13) sc_law_scene.nd rfl (by first | exact Or.inl rfl | exact Or.inr rfl))) (fun _ _ _ _ _ => (pts1 (pt_pp op_notIn_seq (ro_in true) (pb_var (pv 13)) (pb_var (pv 2)) (by rfl)))) (fun _ _ _ _ _ => (pp_ice (pv 13))))
 (ss_cons (ss_if (PW.pt (pw_an (pt_vg op_gt ro_gt (pv_var (pv 6)) (bi_p call_len ro_len (by rfl) T.m_len boot_len (pb_var (pv 2))) (nomark _)) (pw_and1 (pt_gg op_gt ro_gt (bi_p call_len ro_len (by rfl) T.m_len boot_len (pb_var (pv 14))) pp_int (nomark _)))))
 (ss_one (ss_setI (pp_cal (js := [some 0]) 1 (ok_law_size T (k + 1)) hr (by rfl) T.d_law_size.g T.d_law_size.F.kp T.d_law_size.b (palz (pv 0) pal0)) (pv_var (pv 7)) (ix_vg (pv_var (pv 14)) (pp_cal (js := [some 0]) 2 (ok_law_draw T (k + 2)) hr (by rfl) T.d_law_draw.g T.d_law_draw.F.kp T.d_law_draw.b (palz (pv 0) (pal1 (bi_p call_len ro_len (by rfl) T.m_len boot_len (pb_var (pv 14))) pal0))) (fun _ _ => rfl))))
 ss_nil)
 (ss_one (ss_expr (pp_app (pv_var (pv 5)) (pp_tup (pa1 (pp_ice (pv 6)) (pa1 (bt_p call_tuple_of ro_tuple (by rfl) T.m_tuple PyProof.Rows.boot_tuple (pb_var (pv 7))) pa0)))))))))))))
 (ss_cons (ss_expr (pp_app (pv_var (pv 5)) (pp_tup (pa1 (bin_gg op_add' ro_add (bi_p call_len ro_len (by rfl) T.m_len boot_len (pb_var (pv 2))) pp_int) (pa1 (bt_g call_tuple_of ro_tuple (by rfl) T.m_tuple PyProof.Rows.boot_tuple (pp_comp (own := [("rule", 12)]) rfl sc_law_scene.nd (it_r1 (by rfl) T.m_range (pal1 (pp_place (pb_var (pv 1))) pal0)) (blkOk_by (own := [("rule", 12)]) (N := ["feed", "many", "some", "wide", "spots", "tagged", "tag", "row", "lap", "ahead", "numbers", "place", "rule", "other", "outside", "one"]) (sc := defScope s_law_scene) (by decide +kernel)) (tgr_name 12) (fun _ _ _ _ _ => (pg_name (i := 12) sc_law_scene.nd rfl (by first | exact Or.inl rfl | exact Or.inr rfl))) (fun _ _ _ _ _ => pts0) (fun _ _ _ _ _ => pp_int))) pa0)))))
 (ss_cons (ss_setLc (i := 7) (own := [("rule", 12)]) rfl sc_law_scene.nd rfl rfl (by rfl) (it_r1 (by rfl) T.m_range (pal1 (pp_place (pb_var (pv 1))) pal0)) (blkOk_by (own := [("rule", 12)]) (N := ["feed", "many", "some", "wide", "spots", "tagged", "tag", "row", "lap", "ahead", "numbers", "place", "rule", "other", "outside", "one"]) (sc := defScope s_law_scene) (by decide +kernel)) (tgr_name 12) (fun _ _ _ _ _ => (pg_name (i := 12) sc_law_scene.nd rfl (by first | exact Or.inl rfl | exact Or.inr rfl))) (fun _ _ _ _ _ => pts0) (fun _ _ _ _ _ => (bin_gg op_mulW ro_mul (neg_g (pp_cal (js := [some 0]) 1 (ok_law_size T (k + 1)) hr (by rfl) T.d_law_size.g T.d_law_size.F.kp T.d_law_size.b (palz (pv 0) pal0))) (bi2_gg (call_max2 rfl) ro_max (by rfl) T.m_max PyProof.Rows.boot_max (bt_g call_int1 ro_int (by rfl) T.m_int PyProof.Rows.boot_int (cmp_pp op_in_seq (ro_in false) (pb_var (pv 12)) (pb_var (pv 2)) (by rfl))) (pp_cal (js := [some 0]) 2 (ok_law_draw T (k + 2)) hr (by rfl) T.d_law_draw.g T.d_law_draw.F.kp T.d_law_draw.b (palz (pv 0) (pal1 pp_int pal0)))))))
 (ss_cons (ss_expr (pp_app (pv_var (pv 5)) (pp_tup (pa1 (bin_gg op_add' ro_add (bi_p call_len ro_len (by rfl) T.m_len boot_len (pb_var (pv 2))) pp_int) (pa1 (bt_p call_tuple_of ro_tuple (by rfl) T.m_tuple PyProof.Rows.boot_tuple (pb_var (pv 7))) pa0)))))
 (ss_cons (ss_for PassesOwn.never rfl (it_r1 (by rfl) T.m_range (pal1 (pp_cal (js := [some 0]) 2 (ok_law_draw T (k + 2)) hr (by rfl) T.d_law_draw.g T.d_law_draw.F.kp T.d_law_draw.b (palz (pv 0) (pal1 pp_int pal0))) pal0)) (pg_name (i := 8) sc_law_scene.nd rfl (by first | exact Or.inl rfl | exact Or.inr rfl)) (tgr_name 8)
 (ss_cons (ss_set (i := 7) sc_law_scene.nd rfl (by first | exact Or.inl rfl | exact Or.inr rfl) (bt_g call_tuple_of ro_tuple (by rfl) T.m_tuple PyProof.Rows.boot_tuple (pp_comp (own := [("rule", 12)]) rfl sc_law_scene.nd (it_r1 (by rfl) T.m_range (pal1 (pp_place (pb_var (pv 1))) pal0)) (blkOk_by (own := [("rule", 12)]) (N := ["feed", "many", "some", "wide", "spots", "tagged", "tag", "row", "lap", "ahead", "numbers", "place", "rule", "other", "outside", "one"]) (sc := defScope s_law_scene) (by decide +kernel)) (tgr_name 12) (fun _ _ _ _ _ => (pg_name (i := 12) sc_law_scene.nd rfl (by first | exact Or.inl rfl | exact Or.inr rfl))) (fun _ _ _ _ _ => pts0) (fun _ _ _ _ _ => (bin_gg op_mulW ro_mul (bin_gg op_sub ro_sub (pp_cal (js := [some 0]) 2 (ok_law_draw T (k + 2)) hr (by rfl) T.d_law_draw.g T.d_law_draw.F.kp T.d_law_draw.b (palz (pv 0) (pal1 pp_int pal0))) pp_int) (pp_cal (js := [some 0]) 1 (ok_law_size T (k + 1)) hr (by rfl) T.d_law_size.g T.d_law_size.F.kp T.d_law_size.b (palz (pv 0) pal0)))))))
 (ss_one (ss_expr (pp_app (pv_var (pv 5)) (pp_tup (pa1 (bin_gg op_add' ro_add (bi_p call_len ro_len (by rfl) T.m_len boot_len (pb_var (pv 2))) pp_int) (pa1 (pp_ice (pv 7)) pa0))))))))
 (ss_cons (ss_set (i := 5) sc_law_scene.nd rfl (by first | exact Or.inl rfl | exact Or.inr rfl) (pp_cal (js := [some 0]) 2 (ok_law_shuffled T (k + 1)) hr (by rfl) T.d_law_shuffled.g T.d_law_shuffled.F.kp T.d_law_shuffled.b (palz (pv 0) (pal1 (pp_ice (pv 5)) pal0))))
 (ss_cons (ss_set (i := 9) sc_law_scene.nd rfl (by first | exact Or.inl rfl | exact Or.inr rfl) (pp_own pa0))
 (ss_cons (ss_if (pt_truP (pb_var (pv 3)))
 (ss_one (ss_setLc (i := 9) (own := [("lap", 8)]) rfl sc_law_scene.nd rfl rfl (by rfl) (it_r1 (by rfl) T.m_range (pal1 (bin_gg op_sub ro_sub (bin_gg op_sub ro_sub pp_int (bi_p call_len ro_len (by rfl) T.m_len boot_len (pb_var (pv 5)))) (pp_cal (js := [some 0]) 2 (ok_law_draw T (k + 2)) hr (by rfl) T.d_law_draw.g T.d_law_draw.F.kp T.d_law_draw.b (palz (pv 0) (pal1 pp_int pal0)))) pal0)) (blkOk_by (own := [("lap", 8)]) (N := ["feed", "many", "some", "wide", "spots", "tagged", "tag", "row", "lap", "ahead", "numbers", "place", "rule", "other", "outside", "one"]) (sc := defScope s_law_scene) (by decide +kernel)) (tgr_name 8) (fun _ _ _ _ _ => (pg_name (i := 8) sc_law_scene.nd rfl (by first | exact Or.inl rfl | exact Or.inr rfl))) (fun _ _ _ _ _ => pts0) (fun _ _ _ _ _ => (pp_cal (js := [some 0]) 2 (ok_law_plain T (k + 0)) hr (by rfl) T.d_law_plain.g T.d_law_plain.F.kp T.d_law_plain.b (palz (pv 0) (pal1 (pp_ice (pv 1)) pal0))))))
 ss_nil)
 (ss_cons (ss_setLc (i := 10) (own := [("tag", 6)]) rfl sc_law_scene.nd rfl rfl (by rfl) (it_r1 (by rfl) T.m_range (pal1 (bin_gg op_add' ro_add (bi_p call_len ro_len (by rfl) T.m_len boot_len (pb_var (pv 2))) pp_int) pal0)) (blkOk_by (own := [("tag", 6)]) (N := ["feed", "many", "some", "wide", "spots", "tagged", "tag", "row", "lap", "ahead", "numbers", "place", "rule", "other", "outside", "one"]) (sc := defScope s_law_scene) (by decide +kernel)) (tgr_name 6) (fun _ _ _ _ _ => (pg_name (i := 6) sc_law_scene.nd rfl (by first | exact Or.inl rfl | exact Or.inr rfl))) (fun _ _ _ _ _ => pts0) (fun _ _ _ _ _ => pp_int))
 (ss_cons (ss_for PassesOwn.never rfl (it_r1 (by rfl) T.m_range (pal1 (bi_p call_len ro_len (by rfl) T.m_len boot_len (pb_var (pv 5))) pal0)) (pg_name (i := 11) sc_law_scene.nd rfl (by first | exact Or.inl rfl | exact Or.inr rfl)) (tgr_name 11)
 (ss_one (ss_setI (bin_gp op_add' ro_add (bi_p call_len ro_len (by rfl) T.m_len boot_len (pb_var (pv 9))) (pb_var (pv 11))) (pv_var (pv 10)) (ix_gg (ix_pp (pb_var (pv 5)) (pb_var (pv 11)) (fun _ _ => rfl)) pp_int (fun _ _ => rfl)))))
 (ss_one (ss_ret (pp_tup (pa1 (bt_g call_tuple_of ro_tuple (by rfl) T.m_tuple PyProof.Rows.boot_tuple (bin_vg op_add' ro_add (pv_var (pv 9)) (pp_comp (own := [("one", 15)]) rfl sc_law_scene.nd (it_v (pv 5)) (blkOk_by (own := [("one", 15)]) (N := ["feed", "many", "some", "wide", "spots", "tagged", "tag", "row", "lap", "ahead", "numbers", "place", "rule", "other", "outside", "one"]) (sc := defScope s_law_scene) (by decide +kernel)) (tgr_name 15) (fun _ _ _ _ _ => (pg_name (i := 15) sc_law_scene.nd rfl (by first | exact Or.inl rfl | exact Or.inr rfl))) (fun _ _ _ _ _ => pts0) (fun _ _ _ _ _ => (ix_vg (pv_var (pv 15)) pp_int (fun _ _ => rfl)))))) (pa1 (pp_ice (pv 10)) (pa1 (pp_ice (pv 4)) pa0)))))))))))))))))))
theorem ok_rest_of (T : Top K mg) (k : Nat) : FnOk P w K mg base CX0 (k + 5) T.d_rest_of.f T.d_rest_of.fd ["many", "rows"] (spP K 2 [] m_rest_of) :=
 fn_p (N := ["many", "rows", "reach", "rule"]) (ps := ["many", "rows"]) (io := []) (k := k + 4) (body := b_rest_of) T.d_rest_of.F sc_rest_of (fun cdv A outer s H E hr =>
 (ss_cons (ss_set (i := 2) sc_rest_of.nd rfl (by first | exact Or.inl rfl | exact Or.inr rfl) (pp_cal (js := []) 2 (ok_reach_of T (k + 0)) hr (by rfl) T.d_reach_of.g T.d_reach_of.F.kp T.d_reach_of.b (pal1 (pp_ice (pv 0)) (pal1 (pp_ice (pv 1)) pal0))))
 (ss_one (ss_ret (bt_g call_tuple_of ro_tuple (by rfl) T.m_tuple PyProof.Rows.boot_tuple (pp_comp (own := [("rule", 3)]) rfl sc_rest_of.nd (it_r1 (by rfl) T.m_range (pal1 (pp_place (pb_var (pv 0))) pal0)) (blkOk_by (own := [("rule", 3)]) (N := ["many", "rows", "reach", "rule"]) (sc := defScope s_rest_of) (by decide +kernel)) (tgr_name 3) (fun _ _ _ _ _ => (pg_name (i := 3) sc_rest_of.nd rfl (by first | exact Or.inl rfl | exact Or.inr rfl))) (fun _ _ _ _ _ => (pts1 (pt_pp op_notIn_seq (ro_in true) (pb_var (pv 3)) (pb_var (pv 2)) (by rfl)))) (fun _ _ _ _ _ => (pp_ice (pv 3)))))))))
theorem ok_law_says (T : Top K mg) (k : Nat) : FnOk P w K mg base CX0 (k + 5) T.d_law_says.f T.d_law_says.fd ["many", "rows", "thing", "due", "counts"] (spP K 5 [4] m_law_says) :=
 fn_p (N := ["many", "rows", "thing", "due", "counts", "told"]) (ps := ["many", "rows", "thing", "due", "counts"]) (io := [4]) (k := k + 4) (body := b_law_says) T.d_law_says.F sc_law_says (fun cdv A outer s H E hr =>
 (ss_cons (ss_setI (bin_gg op_add' ro_add (ix_vg (pv_var (pv 4)) (bt_p call_int1 ro_int (by rfl) T.m_int PyProof.Rows.boot_int (pb_var (pv 3))) (fun _ _ => rfl)) pp_int) (pv_var (pv 4)) (bt_p call_int1 ro_int (by rfl) T.m_int PyProof.Rows.boot_int (pb_var (pv 3))))
 (ss_cons (ss_set (i := 5) sc_law_says.nd rfl (by first | exact Or.inl rfl | exact Or.inr rfl) (pp_cal (js := []) 3 (ok_is_row_bar T (k + 0)) hr (by rfl) T.d_is_row_bar.g T.d_is_row_bar.F.kp T.d_is_row_bar.b (pal1 (pp_ice (pv 0)) (pal1 (pp_ice (pv 1)) (pal1 (pp_ice (pv 2)) pal0)))))
 (ss_one (ss_ret (pp_and (isi_p (by rfl) T.m_isinstance (by rfl) T.m_bool PyProof.Rows.boot_bool (pb_var (pv 5))) (pp_and (cmp_pp (op_eqD hr.units) ro_eq (pb_var (pv 5)) (pb_var (pv 3)) (nomark _)) (pe_one (cmp_gp (op_eqD hr.units) ro_eq (pp_cal (js := []) 3 (ok_law_judge T (k + 2)) hr (by rfl) T.d_law_judge.g T.d_law_judge.F.kp T.d_law_judge.b (pal1 (pp_ice (pv 0)) (pal1 (pp_ice (pv 1)) (pal1 (pp_ice (pv 2)) pal0)))) (pb_var (pv 3)) (nomark _))))))))))
theorem ok_row_bar (T : Top K mg) (k : Nat) : FnOk P w K mg base CX0 (k + 6) T.d_row_bar.f T.d_row_bar.fd ["many", "rows"] (spP K 2 [] m_row_bar) :=
 fn_p (N := ["many", "rows", "rest", "reach", "numbers", "rule", "at", "row"]) (ps := ["many", "rows"]) (io := []) (k := k + 5) (body := b_row_bar) T.d_row_bar.F sc_row_bar (fun cdv A outer s H E hr =>
 (ss_cons (ss_set (i := 2) sc_row_bar.nd rfl (by first | exact Or.inl rfl | exact Or.inr rfl) (pp_cal (js := []) 2 (ok_rest_of T (k + 0)) hr (by rfl) T.d_rest_of.g T.d_rest_of.F.kp T.d_rest_of.b (pal1 (pp_ice (pv 0)) (pal1 (pp_ice (pv 1)) pal0))))
 (ss_cons (ss_if (pt_no (pt_truP (pb_var (pv 2))))
 (ss_one (ss_ret pp_non))
 ss_nil)
 (ss_cons (ss_set (i := 3) sc_row_bar.nd rfl (by first | exact Or.inl rfl | exact Or.inr rfl) (pp_cal (js := []) 2 (ok_reach_of T (k + 1)) hr (by rfl) T.d_reach_of.g T.d_reach_of.F.kp T.d_reach_of.b (pal1 (pp_ice (pv 0)) (pal1 (pp_ice (pv 1)) pal0))))
 (ss_cons (ss_set (i := 4) sc_row_bar.nd rfl (by first | exact Or.inl rfl | exact Or.inr rfl) (pp_own pa0))
 (ss_cons (ss_for PassesOwn.never rfl (it_v (pv 2)) (pg_name (i := 5) sc_row_bar.nd rfl (by first | exact Or.inl rfl | exact Or.inr rfl)) (tgr_name 5)
 (ss_one (ss_expr (pp_app (pv_var (pv 4)) (ix_gg (pp_comp (own := [("at", 6), ("row", 7)]) rfl sc_row_bar.nd (it_en (by rfl) T.m_enumerate (palk (pv 1) pal0)) (blkOk_by (own := [("at", 6), ("row", 7)]) (N := ["many", "rows", "rest", "reach", "numbers", "rule", "at", "row"]) (sc := defScope s_row_bar) (by decide +kernel)) (tgr_tup (tgs_cons (tgs_cons tgs_nil))) (fun _ _ _ _ _ => (pg_tup rfl (pgs_cons (pg_name (i := 6) sc_row_bar.nd rfl (by first | exact Or.inl rfl | exact Or.inr rfl)) (pgs_cons (pg_name (i := 7) sc_row_bar.nd rfl (by first | exact Or.inl rfl | exact Or.inr rfl)) pgs_nil)))) (fun _ _ _ _ _ => (pts1 (PW.pt (pw_an (pt_tru (pp_cal (js := []) 2 (ok_is_nought T (k + 4)) hr (by rfl) T.d_is_nought.g T.d_is_nought.F.kp T.d_is_nought.b (pal1 (pp_ice (pv 7)) (pal1 (pp_ice (pv 3)) pal0)))) (pw_and1 (pt_gg op_lt ro_lt (ix_pp (pb_var (pv 7)) (pb_var (pv 5)) (fun _ _ => rfl)) pp_int (nomark _))))))) (fun _ _ _ _ _ => (pp_ice (pv 6)))) pp_int (fun _ _ => rfl))))))
 (ss_one (ss_ret (pp_tup (pa1 (pp_ice (pv 2)) (pa1 (bt_p call_tuple_of ro_tuple (by rfl) T.m_tuple PyProof.Rows.boot_tuple (pb_var (pv 4))) pa0)))))))))))
theorem ok_law_true_for_one (T : Top K mg) (k : Nat) : FnOk P w K mg base CX0 (k + 6) T.d_law_true_for_one.f T.d_law_true_for_one.fd ["feed"] (spP K 1 [0] m_law_true_for_one) :=
 fn_p (N := ["feed", "rows", "counts", "thing"]) (ps := ["feed"]) (io := [0]) (k := k + 5) (body := b_law_true_for_one) T.d_law_true_for_one.F sc_law_true_for_one (fun cdv A outer s H E hr =>
 (ss_cons (ss_set (i := 1) sc_law_true_for_one.nd rfl (by first | exact Or.inl rfl | exact Or.inr rfl) (pp_tup (pa1 (pp_tup (pa1 (neg_g (pp_cal (js := [some 0]) 1 (ok_law_size T (k + 3)) hr (by rfl) T.d_law_size.g T.d_law_size.F.kp T.d_law_size.b (palz (pv 0) pal0))) (pa1 (pp_cal (js := [some 0]) 2 (ok_law_draw T (k + 4)) hr (by rfl) T.d_law_draw.g T.d_law_draw.F.kp T.d_law_draw.b (palz (pv 0) (pal1 pp_int pal0))) pa0))) (pa1 (pp_tup (pa1 pp_int (pa1 (neg_g (pp_cal (js := [some 0]) 1 (ok_law_size T (k + 3)) hr (by rfl) T.d_law_size.g T.d_law_size.F.kp T.d_law_size.b (palz (pv 0) pal0))) pa0))) pa0))))
 (ss_cons (ss_set (i := 2) sc_law_true_for_one.nd rfl (by first | exact Or.inl rfl | exact Or.inr rfl) (pp_own (pa1 pp_int (pa1 pp_int pa0))))
 (ss_cons (ss_if (PW.pt (pw_orr (pt_no (pt_tru (pp_cal (js := [some 2]) 5 (ok_law_says T (k + 0)) hr (by rfl) T.d_law_says.g T.d_law_says.F.kp T.d_law_says.b (pal1 pp_int (pal1 (pp_ice (pv 1)) (pal1 (pp_tup (pa1 (pp_tup (pa1 pp_int (pa1 pp_int pa0))) (pa1 (pp_tup (pa1 pp_int (pa1 pp_int pa0))) pa0))) (pal1 pp_bl (palz (pv 2) pal0)))))))) (pw_or1 (pt_no (pt_tru (pp_cal (js := [some 2]) 5 (ok_law_says T (k + 0)) hr (by rfl) T.d_law_says.g T.d_law_says.F.kp T.d_law_says.b (pal1 pp_int (pal1 (pp_ice (pv 1)) (pal1 (pp_tup (pa1 (pp_tup (pa1 pp_int pa0)) (pa1 (pp_tup (pa1 pp_int pa0)) pa0))) (pal1 pp_bl (palz (pv 2) pal0)))))))))))
 (ss_one (ss_ret pp_bl))
 ss_nil)
 (ss_cons (ss_for PassesOwn.never rfl (it_g (pp_own (pa1 (pp_tup (pa1 (pp_tup (pa1 pp_bl (pa1 pp_int pa0))) (pa1 (pp_tup (pa1 pp_int (pa1 pp_int pa0))) pa0))) (pa1 (pp_tup (pa1 (pp_tup (pa1 pp_int (pa1 pp_bl pa0))) (pa1 (pp_tup (pa1 pp_int (pa1 pp_int pa0))) pa0))) (pa1 (pp_tup (pa1 (pp_tup (pa1 pp_int (pa1 pp_int pa0))) (pa1 (pp_tup (pa1 pp_bl (pa1 pp_int pa0))) pa0))) (pa1 (pp_tup (pa1 (pp_tup (pa1 pp_int (pa1 pp_int pa0))) (pa1 (pp_tup (pa1 pp_int (pa1 pp_bl pa0))) pa0))) pa0)))))) (pg_name (i := 3) sc_law_true_for_one.nd rfl (by first | exact Or.inl rfl | exact Or.inr rfl)) (tgr_name 3)
 (ss_one (ss_if (pt_no (pt_tru (pp_cal (js := [some 2]) 5 (ok_law_says T (k + 0)) hr (by rfl) T.d_law_says.g T.d_law_says.F.kp T.d_law_says.b (pal1 pp_int (pal1 (pp_ice (pv 1)) (pal1 (pp_ice (pv 3)) (pal1 pp_bl (palz (pv 2) pal0))))))))
 (ss_one (ss_ret pp_bl))
 ss_nil)))
 (ss_cons (ss_set (i := 1) sc_law_true_for_one.nd rfl (by first | exact Or.inl rfl | exact Or.inr rfl) (pp_tup (pa1 (pp_tup (pa1 (neg_g (pp_cal (js := [some 0]) 1 (ok_law_size T (k + 3)) hr (by rfl) T.d_law_size.g T.d_law_size.F.kp T.d_law_size.b (palz (pv 0) pal0))) (pa1 (neg_g (pp_cal (js := [some 0]) 1 (ok_law_size T (k + 3)) hr (by rfl) T.d_law_size.g T.d_law_size.F.kp T.d_law_size.b (palz (pv 0) pal0))) pa0))) pa0)))
 (ss_cons (ss_for PassesOwn.never rfl (it_g (pp_own (pa1 (pp_tup (pa1 (pp_tup (pa1 pp_int pa0)) (pa1 (pp_tup (pa1 pp_int pa0)) pa0))) (pa1 (pp_tup (pa1 (pp_tup (pa1 pp_int pa0)) (pa1 (pp_tup (pa1 pp_int pa0)) pa0))) (pa1 (pp_tup (pa1 (pp_tup (pa1 pp_int (pa1 pp_int pa0))) (pa1 (pp_tup (pa1 pp_int (pa1 pp_int pa0))) pa0))) pa0))))) (pg_name (i := 3) sc_law_true_for_one.nd rfl (by first | exact Or.inl rfl | exact Or.inr rfl)) (tgr_name 3)
 (ss_one (ss_if (pt_no (pt_tru (pp_cal (js := [some 2]) 5 (ok_law_says T (k + 0)) hr (by rfl) T.d_law_says.g T.d_law_says.F.kp T.d_law_says.b (pal1 pp_int (pal1 (pp_ice (pv 1)) (pal1 (pp_ice (pv 3)) (pal1 pp_bl (palz (pv 2) pal0))))))))
 (ss_one (ss_ret pp_bl))
 ss_nil)))
 (ss_one (ss_ret pp_bl)))))))))
theorem ok_law_papers (T : Top K mg) (k : Nat) : FnOk P w K mg base CX0 (k + 7) T.d_law_papers.f T.d_law_papers.fd ["feed", "many", "wide"] (spP K 3 [0] m_law_papers) :=
 fn_p (N := ["feed", "many", "wide", "mixed", "some", "base", "marks", "counts", "right", "thing", "rows", "numbers", "spots", "rule"]) (ps := ["feed", "many", "wide"]) (io := [0]) (k := k + 6) (body := b_law_papers) T.d_law_papers.F sc_law_papers (fun cdv A outer s H E hr =>
 (ss_cons (ss_set (i := 3) sc_law_papers.nd rfl (by first | exact Or.inl rfl | exact Or.inr rfl) (pp_cal (js := [some 0]) 2 (ok_law_shuffled T (k + 4)) hr (by rfl) T.d_law_shuffled.g T.d_law_shuffled.F.kp T.d_law_shuffled.b (palz (pv 0) (pal1 (pp_rngL rfl (by rfl) T.m_list (by rfl) T.m_range (pp_place (pb_var (pv 1)))) pal0))))
 (ss_cons (ss_set (i := 4) sc_law_papers.nd rfl (by first | exact Or.inl rfl | exact Or.inr rfl) (bt_g call_tuple_of ro_tuple (by rfl) T.m_tuple PyProof.Rows.boot_tuple (bi_g cr_srt ro_sorted (by rfl) T.m_sorted PyProof.Rows.boot_sorted (sl_v (pv_var (pv 3)) po_n (po_s (bin_gg op_add' ro_add pp_int (pp_cal (js := [some 0]) 2 (ok_law_draw T (k + 5)) hr (by rfl) T.d_law_draw.g T.d_law_draw.F.kp T.d_law_draw.b (palz (pv 0) (pal1 (pp_ice (pv 1)) pal0)))))))))
 (ss_cons (ss_setT (pp_cal (js := [some 0]) 4 (ok_law_scene T (k + 2)) hr (by rfl) T.d_law_scene.g T.d_law_scene.F.kp T.d_law_scene.b (palz (pv 0) (pal1 (pp_ice (pv 1)) (pal1 (pp_ice (pv 4)) (pal1 (pp_ice (pv 2)) pal0))))) (pg_tup rfl (pgs_cons (pg_name (i := 10) sc_law_papers.nd rfl (by first | exact Or.inl rfl | exact Or.inr rfl)) (pgs_cons (pg_name (i := 11) sc_law_papers.nd rfl (by first | exact Or.inl rfl | exact Or.inr rfl)) (pgs_cons (pg_name (i := 12) sc_law_papers.nd rfl (by first | exact Or.inl rfl | exact Or.inr rfl)) pgs_nil)))) (tgr_tup (tgs_cons (tgs_cons (tgs_cons tgs_nil)))))
 (ss_cons (ss_set (i := 5) sc_law_papers.nd rfl (by first | exact Or.inl rfl | exact Or.inr rfl) (bt_g call_tuple_of ro_tuple (by rfl) T.m_tuple PyProof.Rows.boot_tuple (sl_v (pv_var (pv 11)) po_n (po_s (bi_p call_len ro_len (by rfl) T.m_len boot_len (pb_var (pv 4)))))))
 (ss_cons (ss_set (i := 6) sc_law_papers.nd rfl (by first | exact Or.inl rfl | exact Or.inr rfl) (sl_v (pv_var (pv 11)) (po_s (bi_p call_len ro_len (by rfl) T.m_len boot_len (pb_var (pv 4)))) po_n))
 (ss_cons (ss_set (i := 7) sc_law_papers.nd rfl (by first | exact Or.inl rfl | exact Or.inr rfl) (pp_own (pa1 pp_int (pa1 pp_int pa0))))
 (ss_cons (ss_set (i := 8) sc_law_papers.nd rfl (by first | exact Or.inl rfl | exact Or.inr rfl) (pp_own (pa1 (pp_tup (pa1 (pp_ice (pv 4)) (pa1 (pp_ice (pv 5)) pa0))) (pa1 (pp_tup (pa1 (pp_ice (pv 4)) (pa1 (pp_cal (js := []) 3 (ok_law_put T (k + 5)) hr (by rfl) T.d_law_put.g T.d_law_put.F.kp T.d_law_put.b (pal1 (pp_ice (pv 5)) (pal1 (ix_vg (pv_var (pv 12)) pp_int (fun _ _ => rfl)) (pal1 (ix_vg (pv_var (pv 6)) pp_int (fun _ _ => rfl)) pal0)))) pa0))) (pa1 (pp_tup (pa1 (pp_ice (pv 4)) (pa1 (bt_g call_tuple_of ro_tuple (by rfl) T.m_tuple PyProof.Rows.boot_tuple (pp_comp (own := [("rule", 13)]) rfl sc_law_papers.nd (it_v (pv 4)) (blkOk_by (own := [("rule", 13)]) (N := ["feed", "many", "wide", "mixed", "some", "base", "marks", "counts", "right", "thing", "rows", "numbers", "spots", "rule"]) (sc := defScope s_law_papers) (by decide +kernel)) (tgr_name 13) (fun _ _ _ _ _ => (pg_name (i := 13) sc_law_papers.nd rfl (by first | exact Or.inl rfl | exact Or.inr rfl))) (fun _ _ _ _ _ => pts0) (fun _ _ _ _ _ => (ix_vg (pv_var (pv 6)) pp_int (fun _ _ => rfl))))) pa0))) pa0)))))
 (ss_cons (ss_for PassesOwn.never rfl (it_g (bin_vg op_add' ro_add (pv_var (pv 8)) (pp_own (pa1 (pp_cal (js := []) 2 (ok_law_last_rows T (k + 4)) hr (by rfl) T.d_law_last_rows.g T.d_law_last_rows.F.kp T.d_law_last_rows.b (pal1 (pp_ice (pv 1)) (pal1 (pp_ice (pv 10)) pal0))) pa0)))) (pg_name (i := 9) sc_law_papers.nd rfl (by first | exact Or.inl rfl | exact Or.inr rfl)) (tgr_name 9)
 (ss_one (ss_if (pt_no (pt_tru (pp_cal (js := [some 7]) 5 (ok_law_says T (k + 1)) hr (by rfl) T.d_law_says.g T.d_law_says.F.kp T.d_law_says.b (pal1 (pp_ice (pv 1)) (pal1 (pp_ice (pv 10)) (pal1 (pp_ice (pv 9)) (pal1 pp_bl (palz (pv 7) pal0))))))))
 (ss_one (ss_ret pp_bl))
 ss_nil)))
 (ss_cons (ss_for PassesOwn.never rfl (it_g (bin_gg op_add' ro_add (pp_cal (js := [some 0]) 7 (ok_law_bent T (k + 4)) hr (by rfl) T.d_law_bent.g T.d_law_bent.F.kp T.d_law_bent.b (palz (pv 0) (pal1 (pp_ice (pv 1)) (pal1 (pp_ice (pv 10)) (pal1 (pp_ice (pv 4)) (pal1 (pp_ice (pv 5)) (pal1 (pp_ice (pv 6)) (pal1 (pp_ice (pv 12)) pal0)))))))) (pp_cal (js := [some 0]) 1 (ok_law_odd T (k + 4)) hr (by rfl) T.d_law_odd.g T.d_law_odd.F.kp T.d_law_odd.b (palz (pv 0) pal0)))) (pg_name (i := 9) sc_law_papers.nd rfl (by first | exact Or.inl rfl | exact Or.inr rfl)) (tgr_name 9)
 (ss_one (ss_if (pt_no (pt_tru (pp_cal (js := [some 7]) 5 (ok_law_says T (k + 1)) hr (by rfl) T.d_law_says.g T.d_law_says.F.kp T.d_law_says.b (pal1 (pp_ice (pv 1)) (pal1 (pp_ice (pv 10)) (pal1 (pp_ice (pv 9)) (pal1 pp_bl (palz (pv 7) pal0))))))))
 (ss_one (ss_ret pp_bl))
 ss_nil)))
 (ss_cons (ss_for PassesOwn.never rfl (it_g (pp_cal (js := [some 0]) 5 (ok_law_others T (k + 4)) hr (by rfl) T.d_law_others.g T.d_law_others.F.kp T.d_law_others.b (palz (pv 0) (pal1 (pp_ice (pv 1)) (pal1 (pp_ice (pv 10)) (pal1 (pp_ice (pv 4)) (pal1 (pp_ice (pv 5)) pal0))))))) (pg_name (i := 9) sc_law_papers.nd rfl (by first | exact Or.inl rfl | exact Or.inr rfl)) (tgr_name 9)
 (ss_one (ss_if (pt_no (pt_tru (pp_cal (js := [some 7]) 5 (ok_law_says T (k + 1)) hr (by rfl) T.d_law_says.g T.d_law_says.F.kp T.d_law_says.b (pal1 (pp_ice (pv 1)) (pal1 (pp_ice (pv 10)) (pal1 (pp_ice (pv 9)) (pal1 (pp_cal (js := []) 3 (ok_law_judge T (k + 4)) hr (by rfl) T.d_law_judge.g T.d_law_judge.F.kp T.d_law_judge.b (pal1 (pp_ice (pv 1)) (pal1 (pp_ice (pv 10)) (pal1 (pp_ice (pv 9)) pal0)))) (palz (pv 7) pal0))))))))
 (ss_one (ss_ret pp_bl))
 ss_nil)))
 (ss_one (ss_ret (pp_and (cmp_gg op_gt ro_gt (ix_vg (pv_var (pv 7)) pp_int (fun _ _ => rfl)) pp_int (nomark _)) (pp_and (cmp_gg op_gt ro_gt (ix_vg (pv_var (pv 7)) pp_int (fun _ _ => rfl)) pp_int (nomark _)) (pe_one (pp_cal (js := []) 2 (ok_law_same_bar T (k + 4)) hr (by rfl) T.d_law_same_bar.g T.d_law_same_bar.F.kp T.d_law_same_bar.b (pal1 (pp_cal (js := []) 2 (ok_row_bar T (k + 0)) hr (by rfl) T.d_row_bar.g T.d_row_bar.F.kp T.d_row_bar.b (pal1 (pp_ice (pv 1)) (pal1 (pp_ice (pv 10)) pal0))) (pal1 (pp_cal (js := []) 2 (ok_law_due T (k + 4)) hr (by rfl) T.d_law_due.g T.d_law_due.F.kp T.d_law_due.b (pal1 (pp_ice (pv 1)) (pal1 (pp_ice (pv 10)) pal0))) pal0)))))))))))))))))))
theorem ok_law (T : Top K mg) (k : Nat) : FnOk P w K mg base CX0 (k + 8) T.d_law.f T.d_law.fd ["script"] (spP K 1 [] m_law) :=
 fn_p (N := ["script", "feed", "many", "wide", "order", "rows", "drawn", "top", "due", "rule"]) (ps := ["script"]) (io := []) (k := k + 7) (body := b_law) T.d_law.F sc_law (fun cdv A outer s H E hr =>
 (ss_cons (ss_set (i := 1) sc_law.nd rfl (by first | exact Or.inl rfl | exact Or.inr rfl) (pp_cal (js := []) 1 (ok_law_feed T (k + 6)) hr (by rfl) T.d_law_feed.g T.d_law_feed.F.kp T.d_law_feed.b (pal1 (pp_ice (pv 0)) pal0)))
 (ss_cons (ss_set (i := 2) sc_law.nd rfl (by first | exact Or.inl rfl | exact Or.inr rfl) (bin_gg op_add' ro_add pp_int (pp_cal (js := [some 1]) 2 (ok_law_draw T (k + 6)) hr (by rfl) T.d_law_draw.g T.d_law_draw.F.kp T.d_law_draw.b (palz (pv 1) (pal1 pp_int pal0)))))
 (ss_cons (ss_set (i := 3) sc_law.nd rfl (by first | exact Or.inl rfl | exact Or.inr rfl) (cmp_gg (op_eqD hr.units) ro_eq (pp_cal (js := [some 1]) 2 (ok_law_draw T (k + 6)) hr (by rfl) T.d_law_draw.g T.d_law_draw.F.kp T.d_law_draw.b (palz (pv 1) (pal1 pp_int pal0))) pp_int (nomark _)))
 (ss_cons (ss_set (i := 4) sc_law.nd rfl (by first | exact Or.inl rfl | exact Or.inr rfl) (pp_cal (js := [some 1]) 2 (ok_law_shuffled T (k + 5)) hr (by rfl) T.d_law_shuffled.g T.d_law_shuffled.F.kp T.d_law_shuffled.b (palz (pv 1) (pal1 (pp_rngL rfl (by rfl) T.m_list (by rfl) T.m_range (pp_place (pb_var (pv 2)))) pal0))))
 (ss_cons (ss_set (i := 5) sc_law.nd rfl (by first | exact Or.inl rfl | exact Or.inr rfl) (pp_cal (js := [some 1]) 4 (ok_law_world T (k + 3)) hr (by rfl) T.d_law_world.g T.d_law_world.F.kp T.d_law_world.b (palz (pv 1) (pal1 (pp_ice (pv 4)) (pal1 (pp_ice (pv 2)) (pal1 (pp_ice (pv 3)) pal0))))))
 (ss_cons (ss_if (PW.pt (pw_orr (pt_gg op_isnotX (ro_isX true) (pp_cal (js := []) 2 (ok_row_bar T (k + 1)) hr (by rfl) T.d_row_bar.g T.d_row_bar.F.kp T.d_row_bar.b (pal1 (pp_ice (pv 2)) (pal1 (pp_ice (pv 5)) pal0))) pp_non (nomark _)) (pw_or1 (pt_gg op_isnotX (ro_isX true) (pp_cal (js := []) 2 (ok_row_bar T (k + 1)) hr (by rfl) T.d_row_bar.g T.d_row_bar.F.kp T.d_row_bar.b (pal1 (pp_ice (pv 2)) (pal1 (pp_tup pa0) pal0))) pp_non (nomark _)))))
 (ss_one (ss_ret pp_bl))
 ss_nil)
 (ss_cons (ss_set (i := 6) sc_law.nd rfl (by first | exact Or.inl rfl | exact Or.inr rfl) (pp_tup (pa1 (pp_rngT rfl (by rfl) T.m_tuple (by rfl) T.m_range (pp_place (pb_var (pv 2)))) (pa1 (bt_g call_tuple_of ro_tuple (by rfl) T.m_tuple PyProof.Rows.boot_tuple (pp_comp (own := [("rule", 9)]) rfl sc_law.nd (it_r1 (by rfl) T.m_range (pal1 (pp_place (pb_var (pv 2))) pal0)) (blkOk_by (own := [("rule", 9)]) (N := ["script", "feed", "many", "wide", "order", "rows", "drawn", "top", "due", "rule"]) (sc := defScope s_law) (by decide +kernel)) (tgr_name 9) (fun _ _ _ _ _ => (pg_name (i := 9) sc_law.nd rfl (by first | exact Or.inl rfl | exact Or.inr rfl))) (fun _ _ _ _ _ => pts0) (fun _ _ _ _ _ => (pp_cal (js := [some 1]) 2 (ok_law_draw T (k + 6)) hr (by rfl) T.d_law_draw.g T.d_law_draw.F.kp T.d_law_draw.b (palz (pv 1) (pal1 (bi_p call_len ro_len (by rfl) T.m_len boot_len (pb_var (pv 5))) pal0)))))) pa0))))
 (ss_cons (ss_if (PW.pt (pw_orr (pt_gg op_isnotX (ro_isX true) (pp_cal (js := []) 3 (ok_is_row_bar T (k + 3)) hr (by rfl) T.d_is_row_bar.g T.d_is_row_bar.F.kp T.d_is_row_bar.b (pal1 (pp_ice (pv 2)) (pal1 (pp_ice (pv 5)) (pal1 (pp_ice (pv 6)) pal0)))) pp_bl (nomark _)) (pw_or1 (pt_gg op_isnotX (ro_isX true) (pp_cal (js := []) 3 (ok_is_row_bar T (k + 3)) hr (by rfl) T.d_is_row_bar.g T.d_is_row_bar.F.kp T.d_is_row_bar.b (pal1 (pp_ice (pv 2)) (pal1 (pp_tup pa0) (pal1 (pp_tup (pa1 (pp_tup (pa1 pp_int pa0)) (pa1 (pp_tup (pa1 pp_int pa0)) pa0))) pal0)))) pp_bl (nomark _)))))
 (ss_one (ss_ret pp_bl))
 ss_nil)
 (ss_cons (ss_set (i := 7) sc_law.nd rfl (by first | exact Or.inl rfl | exact Or.inr rfl) (pp_cal (js := [some 1]) 2 (ok_law_draw T (k + 6)) hr (by rfl) T.d_law_draw.g T.d_law_draw.F.kp T.d_law_draw.b (palz (pv 1) (pal1 (pp_ice (pv 2)) pal0))))
 (ss_cons (ss_set (i := 5) sc_law.nd rfl (by first | exact Or.inl rfl | exact Or.inr rfl) (pp_cal (js := [some 1]) 4 (ok_law_world T (k + 3)) hr (by rfl) T.d_law_world.g T.d_law_world.F.kp T.d_law_world.b (palz (pv 1) (pal1 (pp_ice (pv 4)) (pal1 (pp_ice (pv 7)) (pal1 (pp_ice (pv 3)) pal0))))))
 (ss_cons (ss_set (i := 8) sc_law.nd rfl (by first | exact Or.inl rfl | exact Or.inr rfl) (pp_cal (js := []) 2 (ok_law_due T (k + 5)) hr (by rfl) T.d_law_due.g T.d_law_due.F.kp T.d_law_due.b (pal1 (pp_ice (pv 2)) (pal1 (pp_ice (pv 5)) pal0))))
 (ss_cons (ss_if (PW.pt (pw_orr (pt_vg op_isX (ro_isX false) (pv_var (pv 8)) pp_non (nomark _)) (pw_orr (pt_gg (op_neD hr.units) ro_ne (ix_vg (pv_var (pv 8)) pp_int (fun _ _ => rfl)) (bt_g call_tuple_of ro_tuple (by rfl) T.m_tuple PyProof.Rows.boot_tuple (bi_g cr_srt ro_sorted (by rfl) T.m_sorted PyProof.Rows.boot_sorted (sl_v (pv_var (pv 4)) (po_s (pp_place (pb_var (pv 7)))) po_n))) (nomark _)) (pw_or1 (pt_no (pt_tru (pp_cal (js := []) 2 (ok_law_same_bar T (k + 5)) hr (by rfl) T.d_law_same_bar.g T.d_law_same_bar.F.kp T.d_law_same_bar.b (pal1 (pp_cal (js := []) 2 (ok_row_bar T (k + 1)) hr (by rfl) T.d_row_bar.g T.d_row_bar.F.kp T.d_row_bar.b (pal1 (pp_ice (pv 2)) (pal1 (pp_ice (pv 5)) pal0))) (pal1 (pp_ice (pv 8)) pal0)))))))))
 (ss_one (ss_ret pp_bl))
 ss_nil)
 (ss_cons (ss_if (pt_gg op_isnotX (ro_isX true) (pp_cal (js := []) 3 (ok_is_row_bar T (k + 3)) hr (by rfl) T.d_is_row_bar.g T.d_is_row_bar.F.kp T.d_is_row_bar.b (pal1 (pp_ice (pv 2)) (pal1 (pp_ice (pv 5)) (pal1 (pp_ice (pv 8)) pal0)))) pp_bl (nomark _))
 (ss_one (ss_ret pp_bl))
 ss_nil)
 (ss_one (ss_ret (pp_and (pp_cal (js := [some 1]) 3 (ok_law_papers T (k + 0)) hr (by rfl) T.d_law_papers.g T.d_law_papers.F.kp T.d_law_papers.b (palz (pv 1) (pal1 (pp_ice (pv 2)) (pal1 (pp_ice (pv 3)) pal0)))) (pe_one (pp_cal (js := [some 1]) 1 (ok_law_true_for_one T (k + 1)) hr (by rfl) T.d_law_true_for_one.g T.d_law_true_for_one.F.kp T.d_law_true_for_one.b (palz (pv 1) pal0))))))))))))))))))))
end
end K18


set_option autoImplicit false
namespace K18
open PySem PySem.Spec L2 Pm
theorem draw_ok {f : D} (hf : Fd f) {m : Int} (h1 : 1 ≤ m) (h2 : m ≤ 1000000000) : WpR (m_law_draw [f, .int m]) (DrawQ m) := by
  refine wpr_mk rfl ?_
  unfold b_law_draw startE
  rw [wp_Seq]
  refine Wp.mono (Q := fun fl w => fl = .nx ∧ ∃ f' c, Fd f' ∧ w = [some f', some (.int m), c, none]) ?_ ?_
  · obtain ⟨ns, p, b, s, rfl, hb, hs, hs2⟩ := hf
    have hF : ∀ {p : Nat} {b s : Int}, 0 ≤ b → 0 ≤ s → s < 2147483647 → Fd (.own [.lst (ns.map .int), .int p, .int b, .int s]) := fun h1 h2 h3 => ⟨_, _, _, _, rfl, h1, h2, h3⟩
    have hF1 : ∀ {b s : Int}, 0 ≤ b → 0 ≤ s → s < 2147483647 → Fd (.own [.lst (ns.map .int), .int ((p : Int) + 1), .int b, .int s]) := fun {b s} h1 h2 h3 => hF (p := p + 1) h1 h2 h3
    simp [-Int.reducePow]
    by_cases c : b = 0
    · subst c
      simp [-Int.reducePow]
      by_cases c2 : p < ns.length
      · have g : seqIx (ns.map D.int) (p : Int) = some (.int ns[p]) := seqIx_ints (List.getElem?_eq_getElem c2)
        simp [c2, g, -Int.reducePow]
        have key : ∀ x : Int, 0 ≤ x → powC 10 18 = true ∧ brQ (decide (x < 10 ^ 18)) (mulC s 46303 = true ∧ mulC x 43 = true ∧ Fd (D.own [D.lst (List.map D.int ns), D.int (↑p + 1), D.int 0, D.int ((s * 46303 + x * 43 + 7) % 2147483579)]))
            (powC 10 60 = true ∧ powC (10 ^ 60) 10 = true ∧ 0 < (10 ^ 60 : Int) ^ 10 ∧ Fd (D.own [D.lst (List.map D.int ns), D.int (↑p + 1), D.int (x % (10 ^ 60) ^ 10), D.int s])) := fun x hx => by
          refine ⟨pow18, brQ_of (fun h => ?_) fun h => ?_⟩
          · have hc : x < 10 ^ 18 := of_decide_eq_true h
            exact ⟨mulC_s (by omega) (by omega) (by omega) (by omega), mulC_s (by omega) (by have := p18; omega) (by omega) (by omega), hF1 (by omega) (by omega) (by omega)⟩
          · exact ⟨pow60, pow600, p600, hF1 (Int.emod_nonneg _ (by have := p600; omega)) hs hs2⟩
        by_cases hx : ns[p] < 0
        · simp [hx, -Int.reducePow]
          exact key _ (by omega)
        · simp [hx, -Int.reducePow]
          exact key _ (by omega)
      · simp [c2]
        exact hF hb hs hs2
    · simp [c]
      exact hF hb hs hs2
  · rintro fl w ⟨rfl, f', c, ⟨ns, p, b, s, rfl, hb, hs, hs2⟩, rfl⟩
    have hF : ∀ {p : Nat} {b s : Int}, 0 ≤ b → 0 ≤ s → s < 2147483647 → Fd (.own [.lst (ns.map .int), .int p, .int b, .int s]) := fun h1 h2 h3 => ⟨_, _, _, _, rfl, h1, h2, h3⟩
    have m0 : 0 < m := by omega
    have m1 : m < 1073741824 := by omega
    by_cases c : 0 < b
    · simp [c, m0, m1]
      exact ⟨_, _, rfl, rfl, Int.emod_nonneg _ (by omega), Int.emod_lt_of_pos _ (by omega), hF (Int.ediv_nonneg hb (by omega)) hs hs2⟩
    · have e1 : mulC s 41546 = true := mulC_s (by omega) (by omega) (by omega) (by omega)
      simp [c, m0, e1]
      exact ⟨_, _, rfl, rfl, Int.emod_nonneg _ (by omega), Int.emod_lt_of_pos _ (by omega), hF (by omega) (by omega) (by omega)⟩
theorem size_ok {f : D} (hf : Fd f) : WpR (m_law_size [f]) SizeQ := by
  refine wpr_mk rfl ?_
  unfold b_law_size startE
  simp [hf]
  refine WpR.mono (draw_ok hf (by decide) (by decide)) ?_
  rintro d os ⟨v, f', rfl, rfl, hv0, hv1, hf'⟩
  simp
  by_cases c : v < 2
  · simp [c]
    exact ⟨_, _, rfl, rfl, by omega, by omega, hf'⟩
  by_cases c2 : v = 2
  · simp [c, c2, hf']
    refine WpR.mono (draw_ok hf' (by decide) (by decide)) ?_
    rintro d os ⟨u, f2, rfl, rfl, hu0, hu1, hf2⟩
    simp
    exact ⟨_, _, rfl, rfl, by omega, by omega, hf2⟩
  by_cases c3 : v = 3
  · simp [c, c2, c3, pow6, hf']
    refine WpR.mono (draw_ok hf' (by decide) (by decide)) ?_
    rintro d os ⟨u, f2, rfl, rfl, hu0, hu1, hf2⟩
    simp
    exact ⟨_, _, rfl, rfl, by omega, by omega, hf2⟩
  simp [c, c2, c3, pow6, hf']
  refine WpR.mono (draw_ok hf' (by decide) (by decide)) ?_
  rintro d os ⟨u, f2, rfl, rfl, hu0, hu1, hf2⟩
  simp
  exact ⟨_, _, rfl, rfl, by omega, by omega, hf2⟩
theorem feed_ok {ns : List Int} : WpR (m_law_feed [.lst (ns.map .int)]) fun d os => Fd d ∧ os = [] := by
  refine wpr_mk rfl ?_
  unfold b_law_feed
  rw [show startE 3 [.lst (ns.map D.int)] = [some (.lst (ns.map .int)), none, none] from rfl]
  refine wp_mid (fun w => ∃ ms : List Int, ms.length ≤ 63 ∧ w = [some (.lst (ns.map .int)), some (.own (ms.map .int)), none]) ?_ ?_
  · have ct : cutD (ns.map D.int) none (some (63 : Int)) = (ns.take 63).map D.int := by
      rw [show (63 : Int) = ((63 : Nat) : Int) from rfl, cutD_to, List.map_take]
    simp only [lz_Set, wp_Comp, lz_iW, wp_cons, lz_Slv, slot_zero, slot_succ, ob_some, wp_bN, lz_bS, wp_C, intD_int, dSl_lst, pls_ints, if_true, ct, wp_nil, lz_qG, seqP_own]
    refine lz_cmp (fun i acc w => ∃ x, acc = ((ns.take 63).take i).map D.int ∧ w = [some (.lst (ns.map .int)), none, x]) ⟨none, rfl, rfl⟩ ?_ ?_
    · rintro acc w ⟨x, rfl, rfl⟩
      rw [List.length_map, List.take_length]
      simp
      exact ⟨ns.take 63, by rw [List.length_take]; omega, by rw [List.map_take]⟩
    · rintro i d acc w hi ⟨x, rfl, rfl⟩
      obtain ⟨hi', rfl⟩ := ints_at hi
      have hl : (ns.take 63).length ≤ 63 := by rw [List.length_take]; omega
      generalize ns.take 63 = ms at hi' hl
      simp
      refine ⟨line' (by omega), ?_⟩
      rw [List.take_add_one, List.getElem?_map, List.getElem?_eq_getElem hi']
      rfl
  · rintro w ⟨ms, hl, rfl⟩
    have e : mulC (ms.length : Int) 4603 = true := mulC_s (by omega) (by omega) (by omega) (by omega)
    simp [e]
    exact ⟨ms, 0, 0, _, rfl, by omega, by omega, by omega⟩
/-! a list shuffled -/
def ShQ (l : List Int) : D → List D → Prop := fun d os => ∃ (o : List Int) (f' : D), d = .own (o.map .int) ∧ os = [f'] ∧ o.Perm l ∧ Fd f'
def ShQD (l : List D) : D → List D → Prop := fun d os => ∃ (o : List D) (f' : D), d = .own o ∧ os = [f'] ∧ o.Perm l ∧ Fd f'
theorem perm_popD {o l : List D} {k : Nat} {z : List D} (hk : k < l.length) (h : (o ++ l).Perm z) : ((o ++ [l[k]]) ++ l.eraseIdx k).Perm z := by
  refine List.Perm.trans ?_ h
  rw [List.append_assoc]
  exact List.Perm.append_left o (get_erase hk)
theorem shuffledD_ok {f d0 : D} (hf : Fd f) {l : List D} (hd : d0 = .own l ∨ d0 = .lst l) (hp : pls l = true) (h2 : l.length ≤ 1000) : WpR (m_law_shuffled [f, d0]) (ShQD l) := by
  have e1 : dList d0 = some (.own l) := by rcases hd with rfl | rfl <;> (show (if pls l = true then some (D.own l) else none) = _; rw [if_pos hp])
  have e2 : dLen d0 = some (.int l.length) := by rcases hd with rfl | rfl <;> rfl
  have rc : rngC (l.length : Int) = true := rngC_of (by omega) (by omega)
  refine wpr_mk rfl ?_
  unfold b_law_shuffled startE
  simp [e1, e2, rc]
  refine lz_for (fun i w => ∃ f' x, ∃ m o : List D, w = [some f', some d0, some (.own m), some (.own o), x] ∧ m.length + i = l.length ∧ o.length = i ∧ (o ++ m).Perm l ∧ Fd f') ⟨f, none, l, [], rfl, by omega, rfl, List.Perm.refl _, hf⟩ ?_ ?_
  · rintro w ⟨f', x, m, o, rfl, hl, ho, hp', hf'⟩
    rw [rngD_len] at hl
    have e : m = [] := List.length_eq_zero_iff.mp (by omega)
    subst e
    rw [List.append_nil] at hp'
    simp
    exact ⟨o, f', rfl, rfl, hp', hf'⟩
  · rintro i d w hi ⟨f', x, m, o, rfl, hl, ho, hp', hf'⟩
    have hi2 : i < l.length := by
      have := (List.getElem?_eq_some_iff.mp hi).1
      rw [rngD_len] at this; exact this
    simp [hf']
    refine WpR.mono (draw_ok hf' (by omega) (by omega)) ?_
    rintro d os ⟨v, f2, rfl, rfl, hv0, hv1, hf2⟩
    have hk : v.toNat < m.length := by omega
    simp [ixN_at hv0 hv1, List.getElem?_eq_getElem hk, line (show m.length ≤ 1000000 by omega), line' (show o.length < 1000000 by omega)]
    refine ⟨f2, _, m.eraseIdx v.toNat, o ++ [m[v.toNat]], ⟨rfl, rfl, rfl, rfl⟩, ?_, by simp [ho], perm_popD hk hp', hf2⟩
    rw [List.length_eraseIdx_of_lt hk]; omega
theorem perm_mapD {α : Type} {g : α → D} (inj : ∀ a b, g a = g b → a = b) {o : List D} {l : List α} (h : o.Perm (l.map g)) : ∃ m : List α, o = m.map g ∧ m.Perm l := by
  have : ∀ {o : List D} {z : List D}, o.Perm z → ∀ l : List α, z = l.map g → ∃ m : List α, o = m.map g ∧ m.Perm l := fun {o z} h => by
    induction h with
    | nil => intro l e; exact ⟨[], rfl, by rw [List.map_eq_nil_iff.mp e.symm]⟩
    | cons x _ ih =>
      intro l e
      cases l with
      | nil => cases e
      | cons a l =>
        injection e with e1 e2
        obtain ⟨m, rfl, h2⟩ := ih l e2
        exact ⟨a :: m, by rw [e1]; rfl, h2.cons a⟩
    | swap x y _ =>
      intro l e
      match l, e with
      | a :: b :: l, e =>
        injection e with e1 e2
        injection e2 with e2 e3
        exact ⟨b :: a :: l, by rw [e1, e2, e3]; rfl, List.Perm.swap a b l⟩
    | trans _ _ ih1 ih2 =>
      intro l e
      obtain ⟨m, e1, h1⟩ := ih2 l e
      obtain ⟨m2, e2, h2⟩ := ih1 m e1
      exact ⟨m2, e2, h2.trans h1⟩
  exact this h l rfl
theorem int_inj (a b : Int) (h : D.int a = D.int b) : a = b := by injection h
theorem row_inj (a b : List Int) (h : D.tup (a.map D.int) = D.tup (b.map D.int)) : a = b := by
  injection h with h
  exact (List.map_inj_right int_inj).mp h
end K18

set_option autoImplicit false
namespace K18
open PySem PySem.Spec L2 Pm
theorem bel_plain {r : List Int} (h : ∀ i, 0 ≤ atR r i) : ∀ o : List Int, bel r o = false
  | [] => rfl
  | i :: o => by
    show (if atR r i = 0 then bel r o else decide (atR r i < 0)) = false
    by_cases c : atR r i = 0
    · rw [if_pos c]; exact bel_plain h o
    · rw [if_neg c, decide_eq_false_iff_not]; have := h i; omega
theorem take_lt {o : List Int} {top p : Nat} (hp : p < top) (hl : p < o.length) : p < (o.take top).length := by
  rw [List.length_take]; omega
theorem bel_at {r o : List Int} {top p : Nat} (hp : p < top) (hl : p < o.length) (h : ∀ q (hq : q < o.length), q < p → atR r o[q] = 0) (e : 1 ≤ atR r o[p]) : bel r (o.take top) = false := by
  rw [bel_lead (v := atR r o[p]) (by omega) (take_lt hp hl) (fun q hq l => by rw [List.getElem_take]; exact h q (by rw [List.length_take] at hq; omega) l) (by rw [List.getElem_take])]
  rw [decide_eq_false_iff_not]; omega
theorem bel_none {r o : List Int} {top : Nat} (h : ∀ q (hq : q < o.length), q < top → atR r o[q] = 0) : bel r (o.take top) = false := by
  refine bel_zero fun i m => ?_
  obtain ⟨q, hq, rfl⟩ := List.mem_iff_getElem.mp m
  rw [List.getElem_take]
  rw [List.length_take] at hq
  exact h q (by omega) (by omega)
def Fit (n : Nat) (o : List Int) (top : Nat) (rows : List (List Int)) : Prop := ∀ r ∈ rows, r.length = n ∧ bel r (o.take top) = false
def Bars (o : List Int) (top m : Nat) (rows : List (List Int)) : Prop := ∀ j (hj : j < o.length), top ≤ j → j < m → ∃ r ∈ rows, (∀ q (hq : q < o.length), q < top → atR r o[q] = 0) ∧ atR r o[j] < 0
theorem Fit.add {n top : Nat} {o r : List Int} {rows : List (List Int)} (h : Fit n o top rows) (h1 : r.length = n) (h2 : bel r (o.take top) = false) : Fit n o top (rows ++ [r]) := fun y m => by
  rcases List.mem_append.mp m with m | m
  · exact h y m
  · rw [List.mem_singleton.mp m]; exact ⟨h1, h2⟩
def World (n : Nat) (o : List Int) (top : Nat) (rows : List (List Int)) : Prop := Fit n o top rows ∧ Bars o top o.length rows
def WorldQ (n : Nat) (o : List Int) (top : Nat) : D → List D → Prop := fun d os => ∃ (rows : List (List Int)) (f' : D), d = .tup (rowsD rows) ∧ os = [f'] ∧ Fd f' ∧ rows.length ≤ 1000 ∧ World n o top rows
theorem World.perm {n top : Nat} {o : List Int} {a b : List (List Int)} (h : World n o top a) (p : ∀ r, r ∈ b ↔ r ∈ a) : World n o top b :=
  ⟨fun r m => h.1 r ((p r).mp m), fun j hj l1 l2 => by
    obtain ⟨r, m, hr⟩ := h.2 j hj l1 l2
    exact ⟨r, (p r).mpr m, hr⟩⟩
theorem cmp_filt {α : Type} (g h : α → D) (xs : List α) (p : α → Bool) {c : PM Bool} {elt : PM D} {j : Nat} {w : Ev} {QL : List D → Ev → Prop} (hj : j < w.length) (hl : xs.length ≤ 100000) (hc : ∀ x ∈ xs, Wp (c (w.set j (some (g x)))) fun b w3 => b = p x ∧ w3 = w.set j (some (g x)))
    (he : ∀ x ∈ xs, p x = true → Wp (elt (w.set j (some (g x)))) fun d w3 => d = h x ∧ w3 = w.set j (some (g x))) (hq : ∀ (w2 : Ev), w2.set j none = w.set j none → w2.length = w.length → QL ((xs.filter p).map h) w2) : Wp (cmpL (.nm j) c elt [j] (xs.map g) [] w) QL := by
  refine lz_cmp (fun i acc w2 => w2.set j none = w.set j none ∧ w2.length = w.length ∧ acc = ((xs.take i).filter p).map h) ⟨rfl, rfl, rfl⟩ ?_ ?_
  · rintro acc w2 ⟨h1, h2, h3⟩
    rw [List.length_map, List.take_length] at h3
    rw [h3]; exact hq w2 h1 h2
  · rintro i d acc w2 hi ⟨h1, h2, h3⟩
    rw [List.getElem?_map] at hi
    obtain ⟨x, e1, e2⟩ := Option.map_eq_some_iff.mp hi
    obtain ⟨hil, e3⟩ := List.getElem?_eq_some_iff.mp e1
    have hx : x ∈ xs := List.mem_of_getElem? e1
    subst e2
    have ew : w2.set j (some (g x)) = w.set j (some (g x)) := by
      have := congrArg (fun z : Ev => z.set j (some (g x))) h1
      simpa using this
    simp [h2, hj]
    rw [ew]
    refine Wp.mono (hc x hx) ?_
    rintro b w3 ⟨rfl, rfl⟩
    refine brQ_of (fun hp => ?_) fun hp => ?_
    · refine Wp.mono (he x hx hp) ?_
      rintro d w4 ⟨rfl, rfl⟩
      refine ⟨Nat.lt_of_lt_of_le (by rw [h3, List.length_map]; have := List.length_filter_le p (xs.take i); rw [List.length_take] at this; omega) big, by simp, by simp, ?_⟩
      rw [h3, List.take_add_one, e1]; simp [hp]
    · refine ⟨by simp, by simp, ?_⟩
      rw [h3, List.take_add_one, e1]; simp [hp]
theorem filt_empty {α : Type} (p : α → Bool) : ∀ l : List α, (l.filter p).isEmpty = !(l.any p)
  | [] => rfl
  | a :: l => by
    by_cases h : p a = true
    · simp [h]
    · have ih := filt_empty p l
      rw [List.filter_cons, if_neg h, ih, List.any_cons]
      simp [h]
def IsSeq (d : D) (l : List D) : Prop := d = .tup l ∨ d = .lst l ∨ d = .own l
theorem inD_ints {s : List Int} {i : Int} : inD (.int i) (s.map .int) = s.contains i := by
  unfold inD
  induction s with
  | nil => rfl
  | cons a s ih =>
    rw [List.map_cons, List.any_cons, ih, List.contains_cons]
    show ((a == i) || _) = _
    have e : (a == i) = (i == a) := by
      by_cases h : a = i
      · simp [h]
      · have h2 : ¬ i = a := fun z => h z.symm
        simp [h, h2]
    rw [e]
theorem flat_ints {s : List Int} : (s.map D.int).all flatD = true := by
  rw [List.all_map]; simp [flatD, Function.comp_def]
theorem dIn_ints {d : D} {s : List Int} {i : Int} {neg : Bool} (h : IsSeq d (s.map .int)) : dIn neg (.int i) d = some (.bl (if neg = true then !s.contains i else s.contains i)) := by
  have hs : seqD d = some (s.map .int) := by rcases h with rfl | rfl | rfl <;> rfl
  unfold dIn
  rw [hs]
  dsimp only
  rw [if_pos ⟨rfl, flat_ints⟩, inD_ints]
/-! nothing at some rules -/
def nt (r s : List Int) : Bool := s.all fun i => decide (atR r i = 0)
theorem nt_drop {r s : List Int} {i : Nat} (hi : i < s.length) : nt r (s.drop i) = (decide (atR r s[i] = 0) && nt r (s.drop (i + 1))) := by
  rw [List.drop_eq_getElem_cons hi]; rfl
def InN (n : Nat) (s : List Int) : Prop := ∀ i ∈ s, 0 ≤ i ∧ i < (n : Int)
theorem is_nought_ok {n : Nat} {r s : List Int} (hr : r.length = n) (hs : InN n s) : WpR (m_is_nought [.tup (r.map .int), .tup (s.map .int)]) (BlQ (nt r s)) := by
  refine wpr_mk rfl ?_
  unfold b_is_nought startE
  simp
  refine lz_for (fun i w => ∃ x, w = [some (.tup (r.map .int)), some (.tup (s.map .int)), x] ∧ nt r (s.drop i) = nt r s) ⟨none, rfl, rfl⟩ ?_ ?_
  · rintro w ⟨x, rfl, hb⟩
    rw [List.length_map, List.drop_length] at hb
    simp
    exact ⟨by rw [← hb]; rfl, rfl⟩
  · rintro i d w hi ⟨x, rfl, hb⟩
    obtain ⟨hi', rfl⟩ := ints_at hi
    obtain ⟨h1, h2⟩ := hs _ (List.getElem_mem hi')
    rw [nt_drop hi'] at hb
    simp [seqIx_at h1 (by rw [hr]; exact h2)]
    by_cases c : atR r s[i] = 0
    · simp [c] at hb ⊢
      exact hb
    · simp [c] at hb ⊢
      exact ⟨by rw [← hb], rfl⟩
/-! free rules -/
def freeP (rows : List (List Int)) (s : List Int) (i : Int) : Bool := !s.contains i && !((rows.filter (nt · s)).any fun r => decide (atR r i < 0))
def freeL (n : Nat) (rows : List (List Int)) (s : List Int) : List Int := (intsTo n).filter (freeP rows s)
def Rect (n : Nat) (rows : List (List Int)) : Prop := ∀ r ∈ rows, r.length = n
theorem free_rules_ok {n : Nat} {rows : List (List Int)} {s : List Int} (hn : n ≤ 1000) (hl : rows.length ≤ 1000) (hr : Rect n rows) (hs : InN n s) : WpR (m_free_rules [.int (n : Int), .tup (rowsD rows), .tup (s.map .int)]) (DQ (.tup ((freeL n rows s).map .int))) := by
  have rc : rngC (n : Int) = true := rngC_of (by omega) (by omega)
  refine wpr_mk rfl ?_
  unfold b_free_rules
  rw [show startE 7 [.int (n : Int), .tup (rowsD rows), .tup (s.map .int)] = [some (.int (n : Int)), some (.tup (rowsD rows)), some (.tup (s.map .int)), none, none, none, none] from rfl]
  refine wp_mid (fun w => w = [some (.int (n : Int)), some (.tup (rowsD rows)), some (.tup (s.map .int)), some (.own (rowsD (rows.filter (nt · s)))), none, none, none]) ?_ ?_
  · simp
    refine cmp_filt (fun r : List Int => D.tup (r.map .int)) (fun r => D.tup (r.map .int)) rows (nt · s) (by simp) (by omega) (fun r m => ?_) (fun r m _ => by simp) fun w2 e el => ?_
    · simp
      refine WpR.mono (is_nought_ok (hr r m) hs) ?_
      rintro d os ⟨rfl, rfl⟩
      simp
    · simp at e el
      simp [e, el, rowsD]
  rintro w rfl
  refine wp_mid (fun w => w = [some (.int (n : Int)), some (.tup (rowsD rows)), some (.tup (s.map .int)), some (.own (rowsD (rows.filter (nt · s)))), some (.own []), none, none]) (by simp) ?_
  rintro w rfl
  have hrt : ∀ r ∈ rows.filter (nt · s), r.length = n := fun r m => hr r (List.mem_filter.mp m).1
  have hlt : (rows.filter (nt · s)).length ≤ 1000 := Nat.le_trans (List.length_filter_le _ _) hl
  refine wp_mid (fun w => ∃ x5 x6, w = [some (.int (n : Int)), some (.tup (rowsD rows)), some (.tup (s.map .int)), some (.own (rowsD (rows.filter (nt · s)))), some (.own ((freeL n rows s).map .int)), x5, x6]) ?_ ?_
  · unfold freeL freeP
    generalize rows.filter (nt · s) = tied at hrt hlt
    simp [rc, rngD_ints]
    refine lz_for (fun i w => ∃ x5 x6, w = [some (.int (n : Int)), some (.tup (rowsD rows)), some (.tup (s.map .int)), some (.own (rowsD tied)), some (.own ((((intsTo n).take i).filter fun i => !s.contains i && !(tied.any fun r => decide (atR r i < 0))).map .int)), x5, x6]) ⟨none, none, rfl⟩ ?_ ?_
    · rintro w ⟨x5, x6, rfl⟩
      rw [List.length_map, List.take_length]
      simp
    · rintro i d w hi ⟨x5, x6, rfl⟩
      obtain ⟨hi', rfl⟩ := ints_at hi
      have hv := intsTo_mem.mp (List.getElem_mem hi')
      have ln : (intsTo n).length = n := intsTo_len n
      have ht : (intsTo n).take (i + 1) = (intsTo n).take i ++ [(intsTo n)[i]] := by rw [List.take_add_one, List.getElem?_eq_getElem hi']; rfl
      have lf : (((intsTo n).take i).filter fun i => !s.contains i && !(tied.any fun r => decide (atR r i < 0))).length < sizeLine := line' (by
        have := List.length_filter_le (fun i => !s.contains i && !(tied.any fun r => decide (atR r i < 0))) ((intsTo n).take i)
        rw [List.length_take] at this; omega)
      rw [ht, List.filter_append, List.map_append]
      generalize (((intsTo n).take i).filter fun i => !s.contains i && !(tied.any fun r => decide (atR r i < 0))) = acc at lf
      generalize (intsTo n)[i] = v at hv
      simp [dIn_ints (neg := true) (i := v) (s := s) (.inl rfl)]
      refine brQ_of (fun c1 => ?_) fun c1 => ?_
      · refine cmp_filt (fun r : List Int => D.tup (r.map .int)) (fun r => D.tup (r.map .int)) tied (fun r => decide (atR r v < 0)) (by simp) (by omega) (fun r m => by simp [seqIx_at hv.1 (show v < (r.length : Int) by rw [hrt r m]; exact hv.2)]) (fun r m _ => by simp) fun w2 e el => ?_
        simp at e el
        have ee : (tied.filter fun r => decide (atR r v < 0)).isEmpty = !(tied.any fun r => decide (atR r v < 0)) := filt_empty _ _
        cases ea : (tied.any fun r => decide (atR r v < 0)) with
        | true =>
          rw [ea] at ee
          simp [e, ee]
          simp at c1
          obtain ⟨x, m, hx⟩ := List.any_eq_true.mp ea
          simp [c1]
          exact ⟨x, m, of_decide_eq_true hx⟩
        | false =>
          rw [ea] at ee
          simp [e, ee, lf]
          simp at c1
          simp [ea, c1]
      · simp at c1
        simp [c1]
  rintro w ⟨x5, x6, rfl⟩
  simp [DQ]
/-! strata -/
theorem nt_perm {r s t : List Int} (h : s.Perm t) : nt r s = nt r t := by
  unfold nt
  rw [Bool.eq_iff_iff, List.all_eq_true, List.all_eq_true]
  exact ⟨fun a x m => a x (h.mem_iff.mpr m), fun a x m => a x (h.mem_iff.mp m)⟩
theorem freeL_perm {n : Nat} {rows : List (List Int)} {s t : List Int} (h : s.Perm t) : freeL n rows s = freeL n rows t := by
  unfold freeL
  congr 1
  funext i
  unfold freeP
  have e1 : s.contains i = t.contains i := by
    rw [Bool.eq_iff_iff, List.contains_iff_mem, List.contains_iff_mem]; exact h.mem_iff
  have e2 : (nt · s) = (nt · t) := by funext r; exact nt_perm h
  rw [e1, e2]
def strataF (n : Nat) (rows : List (List Int)) : Nat → List Int → List (List Int)
  | 0, _ => []
  | k + 1, s => if freeL n rows s = [] then [] else freeL n rows s :: strataF n rows k (s ++ freeL n rows s)
theorem strataF_nil {n : Nat} {rows : List (List Int)} {k : Nat} {s : List Int} (h : freeL n rows s = []) : strataF n rows k s = [] := by
  cases k with
  | zero => rfl
  | succ k => show (if freeL n rows s = [] then [] else _) = _; rw [if_pos h]
theorem strataF_cons {n : Nat} {rows : List (List Int)} {k : Nat} {s : List Int} (h : freeL n rows s ≠ []) : strataF n rows (k + 1) s = freeL n rows s :: strataF n rows k (s ++ freeL n rows s) := by
  show (if freeL n rows s = [] then [] else _) = _; rw [if_neg h]
theorem free_mem {n : Nat} {rows : List (List Int)} {s : List Int} {i : Int} (h : i ∈ freeL n rows s) : (0 ≤ i ∧ i < (n : Int)) ∧ i ∉ s := by
  obtain ⟨h1, h2⟩ := List.mem_filter.mp h
  refine ⟨intsTo_mem.mp h1, fun m => ?_⟩
  unfold freeP at h2
  rw [show s.contains i = true from List.contains_iff_mem.mpr m] at h2
  simp at h2
theorem free_len {n : Nat} {rows : List (List Int)} {s : List Int} : (freeL n rows s).length ≤ n := by
  have := List.length_filter_le (freeP rows s) (intsTo n)
  rw [intsTo_len] at this; exact this
theorem InN.app {n : Nat} {rows : List (List Int)} {s : List Int} (h : InN n s) : InN n (s ++ freeL n rows s) := fun i m => by
  rcases List.mem_append.mp m with m | m
  · exact h i m
  · exact (free_mem m).1
def leftN (n : Nat) (s : List Int) : Nat := ((intsTo n).filter fun i => !s.contains i).length
theorem left_lt {n : Nat} {rows : List (List Int)} {s : List Int} (h : freeL n rows s ≠ []) : leftN n (s ++ freeL n rows s) < leftN n s := by
  obtain ⟨i, hi⟩ := List.exists_mem_of_ne_nil _ h
  obtain ⟨h1, h2⟩ := free_mem hi
  unfold leftN
  have e : ((intsTo n).filter fun i => !(s ++ freeL n rows s).contains i) = ((intsTo n).filter fun i => !s.contains i).filter fun i => !(freeL n rows s).contains i := by
    rw [List.filter_filter]
    congr 1
    funext j
    rw [Bool.eq_iff_iff]
    simp
    exact And.comm
  rw [e]
  refine List.length_filter_lt_length_iff_exists.mpr ⟨i, List.mem_filter.mpr ⟨intsTo_mem.mpr h1, by simp [h2]⟩, by simp [hi]⟩
def G (n : Nat) (rows : List (List Int)) : List (List Int) := strataF n rows n []
theorem strata_of_ok {n : Nat} {rows : List (List Int)} (hn : n ≤ 100) (hl : rows.length ≤ 1000) (hr : Rect n rows) : WpR (m_strata_of [.int (n : Int), .tup (rowsD rows)]) (DQ (.tup (rowsD (G n rows)))) := by
  refine wpr_mk rfl ?_
  unfold b_strata_of
  rw [show startE 5 [.int (n : Int), .tup (rowsD rows)] = [some (.int (n : Int)), some (.tup (rowsD rows)), none, none, none] from rfl]
  refine wp_mid (fun w => w = [some (.int (n : Int)), some (.tup (rowsD rows)), some (.tup (([] : List Int).map .int)), none, none]) (by simp) ?_
  rintro w rfl
  refine wp_mid (fun w => w = [some (.int (n : Int)), some (.tup (rowsD rows)), some (.tup (([] : List Int).map .int)), some (.own (rowsD [])), none]) (by simp [rowsD]) ?_
  rintro w rfl
  have n0 : InN n [] := fun i m => by cases m
  refine wp_mid (fun w => w = [some (.int (n : Int)), some (.tup (rowsD rows)), some (.tup (([] : List Int).map .int)), some (.own (rowsD [])), some (.tup ((freeL n rows []).map .int))]) ?_ ?_
  · simp only [lz_Set, lz_Cal, wp_cons, lz_I, slot_succ, slot_zero, ob_some, iceQ_int, iceQ_tup, pls_rowsD, pls_ints, true_and, wp_nil]
    refine ⟨rfl, WpR.mono (free_rules_ok (by omega) hl hr n0) ?_⟩
    rintro d os ⟨rfl, rfl⟩
    simp
  rintro w rfl
  refine wp_mid (fun w => ∃ x2 x4, w = [some (.int (n : Int)), some (.tup (rowsD rows)), x2, some (.own (rowsD (G n rows))), x4]) ?_ ?_
  · refine lz_while (fun k w => ∃ (s sp : List Int) (T : List (List Int)), w = [some (.int (n : Int)), some (.tup (rowsD rows)), some (.tup (sp.map .int)), some (.own (rowsD T)), some (.tup ((freeL n rows s).map .int))] ∧ sp.Perm s ∧ InN n s ∧ leftN n s ≤ k ∧ T ++ strataF n rows k s = G n rows ∧ T.length + k = n ∧ s.length ≤ T.length * n) (n := n) ⟨[], [], [], rfl, List.Perm.refl _, n0, ?_, rfl, by simp, by simp⟩ ?_
    · have := List.length_filter_le (fun i => !([] : List Int).contains i) (intsTo n)
      rw [intsTo_len] at this; exact this
    · rintro k w ⟨s, sp, T, rfl, hp, hs, hk, hT, hlen, hsl⟩
      simp
      have fl := free_len (n := n) (rows := rows) (s := s)
      by_cases c : freeL n rows s = []
      · simp [c]
        rw [strataF_nil c, List.append_nil] at hT
        rw [hT]
      · have lt := left_lt c
        obtain ⟨k', rfl⟩ : ∃ k', k = k' + 1 := ⟨k - 1, by omega⟩
        have b1 : T.length * n ≤ 10000 := Nat.le_trans (Nat.mul_le_mul (show T.length ≤ 100 by omega) hn) (by decide)
        have hspl := hp.length_eq
        have l1 : T.length < sizeLine := line' (by omega)
        have l2 : sp.length + (freeL n rows s).length ≤ sizeLine := line (by omega)
        have pp : (sortI (sp ++ freeL n rows s)).Perm (s ++ freeL n rows s) := (sortI_perm _).trans (hp.append_right _)
        have cm : D.tup (List.map D.int sp ++ List.map D.int (freeL n rows s)) = D.tup ((sp ++ freeL n rows s).map D.int) := by rw [List.map_append]
        have hn2 : InN n (sortI (sp ++ freeL n rows s)) := fun i m => hs.app i (pp.mem_iff.mp m)
        simp only [List.isEmpty_map, show (freeL n rows s).isEmpty = false by simp [c], Bool.not_false, brQ_t, wp_Seq, wp_Expr, lz_App, lz_I, slot_succ, slot_zero, ob_some, ownD_own, iceQ_tup, pls_ints, true_and, seqQ_nx, lz_Set, lz_1g, lz_2pp, qV_eq, List.set_cons_succ, List.set_cons_zero, dAdd_tup, rowsD_len, List.length_map, l2, ob_ite, cm, dSorted_tup, dTuple_own, lz_Cal, wp_cons, iceQ_int, pls_rowsD, wp_nil]
        refine ⟨l1, WpR.mono (free_rules_ok (by omega) hl hr hn2) ?_⟩
        rintro d os ⟨rfl, rfl⟩
        rw [freeL_perm pp]
        rw [strataF_cons c] at hT
        simp
        refine ⟨k', by omega, s ++ freeL n rows s, sortI (sp ++ freeL n rows s), T ++ [freeL n rows s], ⟨rfl, rowsD_one, rfl⟩, pp, hs.app, by omega, ?_, by simp; omega, ?_⟩
        · rw [List.append_assoc]; exact hT
        · rw [List.length_append, List.length_append, List.length_singleton, Nat.succ_mul]; omega
  rintro w ⟨x2, x4, rfl⟩
  simp [DQ]
def reachL (n : Nat) (rows : List (List Int)) : List Int := sortI (G n rows).flatten
theorem strataF_in {n : Nat} {rows : List (List Int)} : ∀ {k : Nat} {s : List Int}, (strataF n rows k s).length ≤ k ∧ ∀ m ∈ strataF n rows k s, m.length ≤ n
  | 0, s => ⟨Nat.le_refl _, fun m h => by cases h⟩
  | k + 1, s => by
    by_cases c : freeL n rows s = []
    · rw [strataF_nil c]; exact ⟨Nat.zero_le _, fun m h => by cases h⟩
    · rw [strataF_cons c]
      have ih := strataF_in (n := n) (rows := rows) (k := k) (s := s ++ freeL n rows s)
      refine ⟨by rw [List.length_cons]; omega, fun m h => ?_⟩
      rcases List.mem_cons.mp h with rfl | h
      · exact free_len
      · exact ih.2 m h
theorem reach_of_ok {n : Nat} {rows : List (List Int)} (hn : n ≤ 100) (hl : rows.length ≤ 1000) (hr : Rect n rows) : WpR (m_reach_of [.int (n : Int), .tup (rowsD rows)]) (DQ (.tup ((reachL n rows).map .int))) := by
  refine wpr_mk rfl ?_
  unfold b_reach_of
  rw [show startE 4 [.int (n : Int), .tup (rowsD rows)] = [some (.int (n : Int)), some (.tup (rowsD rows)), none, none] from rfl]
  have hb := strataF_in (n := n) (rows := rows) (k := n) (s := [])
  simp only [wp_Ret, lz_1g, lz_Comp2, lz_iW, wp_cons, lz_Cal, lz_I, slot_succ, slot_zero, ob_some, iceQ_int, iceQ_tup, pls_rowsD, true_and, wp_nil]
  refine ⟨rfl, WpR.mono (strata_of_ok hn hl hr) ?_⟩
  rintro d os ⟨rfl, rfl⟩
  simp only [putB_nil2, lz_qG, seqP_tup, ob_ite, pls_rowsD, true_and]
  unfold reachL
  unfold G
  generalize strataF n rows n [] = S at hb
  refine lz_cmp2 (fun i acc w => ∃ x2 x3, ∃ F : List Int, w = [some (.int (n : Int)), some (.tup (rowsD rows)), x2, x3] ∧ acc = F.map .int ∧ F = (S.take i).flatten ∧ F.length ≤ i * n) ⟨none, none, [], rfl, rfl, rfl, by simp⟩ ?_ ?_
  · rintro acc w ⟨x2, x3, F, rfl, rfl, hF, _⟩
    rw [rowsD_len, List.take_length] at hF
    rw [← hF]
    simp [DQ]
  · rintro i d acc w hi ⟨x2, x3, F, rfl, rfl, hF, hal⟩
    obtain ⟨hi', rfl⟩ := rowsD_at hi
    have tk : (S.take (i + 1)) = S.take i ++ [S[i]] := by rw [List.take_add_one, List.getElem?_eq_getElem hi']; rfl
    have hm := hb.2 _ (List.getElem_mem hi')
    have b1 : i * n ≤ 10000 := Nat.le_trans (Nat.mul_le_mul (show i ≤ 100 by omega) hn) (by decide)
    rw [tk]
    generalize S[i] = m at hm
    generalize S.take i = T at hF
    have hF2 : F ++ m = (T ++ [m]).flatten := by rw [hF]; simp
    rw [← hF2]
    simp
    refine lz_cmpA (fun j acc w => ∃ x3, w = [some (.int (n : Int)), some (.tup (rowsD rows)), some (.tup (m.map .int)), x3] ∧ acc = (F ++ m.take j).map .int) ⟨none, rfl, by simp⟩ ?_ ?_
    · rintro acc w ⟨x3, rfl, rfl⟩
      rw [List.length_map, List.take_length]
      simp only [putB_some, putB_nil, wipeE_cons, wipeE_nil, List.set_cons_succ, List.set_cons_zero]
      have e1 : (F ++ m).length ≤ (i + 1) * n := by rw [List.length_append, Nat.succ_mul]; omega
      exact ⟨⟨_, _, rfl⟩, F ++ m, rfl, rfl, e1⟩
    · rintro j d acc w hj ⟨x3, rfl, rfl⟩
      obtain ⟨hj', rfl⟩ := ints_at hj
      simp
      refine ⟨line' (by omega), ?_⟩
      rw [List.take_add_one, List.getElem?_map, List.getElem?_eq_getElem hj']; rfl
theorem rest_of_ok {n : Nat} {rows : List (List Int)} (hn : n ≤ 100) (hl : rows.length ≤ 1000) (hr : Rect n rows) : WpR (m_rest_of [.int (n : Int), .tup (rowsD rows)]) (DQ (.tup (((intsTo n).filter fun i => !(reachL n rows).contains i).map .int))) := by
  have rc : rngC (n : Int) = true := rngC_of (by omega) (by omega)
  refine wpr_mk rfl ?_
  unfold b_rest_of
  rw [show startE 4 [.int (n : Int), .tup (rowsD rows)] = [some (.int (n : Int)), some (.tup (rowsD rows)), none, none] from rfl]
  refine wp_mid (fun w => w = [some (.int (n : Int)), some (.tup (rowsD rows)), some (.tup ((reachL n rows).map .int)), none]) ?_ ?_
  · simp
    refine WpR.mono (reach_of_ok hn hl hr) ?_
    rintro d os ⟨rfl, rfl⟩
    simp
  rintro w rfl
  simp only [wp_Ret, lz_1g, wp_Comp, lz_iW, wp_cons, lz_P, qV_eq, slot_zero, ob_some, pl_int, true_and, wp_nil, lz_qR1, rc, Int.toNat_natCast, rngD_ints]
  refine cmp_filt D.int D.int (intsTo n) (fun i => !(reachL n rows).contains i) (by simp) (by rw [intsTo_len]; omega) (fun i m => ?_) (fun i m _ => by simp) fun w2 e el => ?_
  · simp [dIn_ints (neg := true) (i := i) (s := reachL n rows) (.inl rfl)]
  · simp at e el
    simp [e, el, DQ]
/-! told and due -/
/-! what the strata hold -/
theorem freeL_nd {n : Nat} {rows : List (List Int)} {s : List Int} : (freeL n rows s).Nodup := (intsTo_nd n).filter _
theorem strata_nd {n : Nat} {rows : List (List Int)} : ∀ {k : Nat} {s : List Int}, s.Nodup → (s ++ (strataF n rows k s).flatten).Nodup
  | 0, s, h => by show (s ++ ([] : List (List Int)).flatten).Nodup; simpa using h
  | k + 1, s, h => by
    by_cases c : freeL n rows s = []
    · rw [strataF_nil c]; simpa using h
    · rw [strataF_cons c, List.flatten_cons, ← List.append_assoc]
      refine strata_nd (k := k) (s := s ++ freeL n rows s) ?_
      rw [List.nodup_append]
      exact ⟨h, freeL_nd, fun a m b m2 e => (free_mem m2).2 (e ▸ m)⟩
theorem strata_sub {n : Nat} {rows : List (List Int)} {T : List Int} (hA : ∀ s : List Int, (∀ i ∈ s, i ∈ T) → ∀ i ∈ freeL n rows s, i ∈ T) : ∀ {k : Nat} {s : List Int}, (∀ i ∈ s, i ∈ T) → ∀ i ∈ (strataF n rows k s).flatten, i ∈ T
  | 0, s, h, i, m => by cases m
  | k + 1, s, h, i, m => by
    by_cases c : freeL n rows s = []
    · rw [strataF_nil c] at m; cases m
    · rw [strataF_cons c, List.flatten_cons] at m
      rcases List.mem_append.mp m with m | m
      · exact hA s h i m
      · exact strata_sub hA (k := k) (s := s ++ freeL n rows s) (fun j mj => (List.mem_append.mp mj).elim (h j) (hA s h j)) i m
theorem strata_sup {n : Nat} {rows : List (List Int)} {T : List Int} (hA : ∀ s : List Int, (∀ i ∈ s, i ∈ T) → ∀ i ∈ freeL n rows s, i ∈ T) (hB : ∀ s : List Int, (∀ i ∈ s, i ∈ T) → freeL n rows s = [] → ∀ i ∈ T, i ∈ s) : ∀ {k : Nat} {s : List Int}, (∀ i ∈ s, i ∈ T) → leftN n s ≤ k → ∀ i ∈ T, i ∈ s ++ (strataF n rows k s).flatten
  | k, s, h, hk, i, m => by
    by_cases c : freeL n rows s = []
    · exact List.mem_append_left _ (hB s h c i m)
    · have lt := left_lt c
      match k, hk with
      | 0, hk => omega
      | k + 1, hk =>
        rw [strataF_cons c, List.flatten_cons, ← List.append_assoc]
        exact strata_sup hA hB (k := k) (s := s ++ freeL n rows s) (fun j mj => (List.mem_append.mp mj).elim (h j) (hA s h j)) (by omega) i m
theorem G_perm {n : Nat} {rows : List (List Int)} {T : List Int} (hT : T.Nodup) (hA : ∀ s : List Int, (∀ i ∈ s, i ∈ T) → ∀ i ∈ freeL n rows s, i ∈ T) (hB : ∀ s : List Int, (∀ i ∈ s, i ∈ T) → freeL n rows s = [] → ∀ i ∈ T, i ∈ s) : (G n rows).flatten.Perm T := by
  have h0 : ∀ i ∈ ([] : List Int), i ∈ T := fun i m => by cases m
  have nd := strata_nd (n := n) (rows := rows) (k := n) (s := []) List.nodup_nil
  rw [List.nil_append] at nd
  refine (List.perm_ext_iff_of_nodup nd hT).mpr fun i => ⟨strata_sub hA h0 i, fun m => ?_⟩
  have := strata_sup hA hB (k := n) h0 (by
    have := List.length_filter_le (fun i => !([] : List Int).contains i) (intsTo n)
    rw [intsTo_len] at this; exact this) i m
  rw [List.nil_append] at this; exact this
def IsPerm (n : Nat) (o : List Int) : Prop := o.Perm (intsTo n)
theorem IsPerm.ord {n : Nat} {o : List Int} (h : IsPerm n o) : IsOrd n o := isOrd_of h
theorem IsPerm.at {n : Nat} {o : List Int} (h : IsPerm n o) {i : Int} (h0 : 0 ≤ i) (h1 : i < n) : ∃ j, ∃ hj : j < o.length, o[j] = i := List.mem_iff_getElem.mp (h.mem_iff.mpr (intsTo_mem.mpr ⟨h0, h1⟩))
theorem mem_take {o : List Int} {top : Nat} {i : Int} : i ∈ o.take top ↔ ∃ j, ∃ hj : j < o.length, j < top ∧ o[j] = i := by
  constructor
  · intro m
    obtain ⟨j, hj, e⟩ := List.mem_iff_getElem.mp m
    rw [List.getElem_take] at e
    rw [List.length_take] at hj
    exact ⟨j, by omega, by omega, e⟩
  · rintro ⟨j, hj, l, rfl⟩
    exact List.mem_iff_getElem.mpr ⟨j, by rw [List.length_take]; omega, by rw [List.getElem_take]⟩
theorem nt_iff {r s : List Int} : nt r s = true ↔ ∀ i ∈ s, atR r i = 0 := by
  unfold nt
  rw [List.all_eq_true]
  exact ⟨fun h i m => of_decide_eq_true (h i m), fun h i m => decide_eq_true (h i m)⟩
theorem freeP_iff {rows : List (List Int)} {s : List Int} {i : Int} : freeP rows s i = true ↔ i ∉ s ∧ ∀ r ∈ rows, (∀ j ∈ s, atR r j = 0) → 0 ≤ atR r i := by
  unfold freeP
  rw [Bool.and_eq_true, Bool.not_eq_true', Bool.not_eq_true', List.any_eq_false]
  constructor
  · rintro ⟨h1, h2⟩
    refine ⟨fun m => ?_, fun r m hz => ?_⟩
    · rw [List.contains_iff_mem.mpr m] at h1; cases h1
    · have := h2 r (List.mem_filter.mpr ⟨m, nt_iff.mpr hz⟩)
      have h3 : ¬ atR r i < 0 := fun z => this (decide_eq_true z)
      omega
  · rintro ⟨h1, h2⟩
    refine ⟨?_, fun r m z => ?_⟩
    · cases e : s.contains i with
      | false => rfl
      | true => exact absurd (List.contains_iff_mem.mp e) h1
    · obtain ⟨m1, m2⟩ := List.mem_filter.mp m
      have := h2 r m1 (nt_iff.mp m2)
      have := of_decide_eq_true z
      omega
theorem freeL_iff {n : Nat} {rows : List (List Int)} {s : List Int} {i : Int} : i ∈ freeL n rows s ↔ (0 ≤ i ∧ i < (n : Int)) ∧ i ∉ s ∧ ∀ r ∈ rows, (∀ j ∈ s, atR r j = 0) → 0 ≤ atR r i := by
  unfold freeL
  rw [List.mem_filter, intsTo_mem, freeP_iff]
theorem world_perm {n top : Nat} {o : List Int} {rows : List (List Int)} (ho : IsPerm n o) (h : World n o top rows) : (G n rows).flatten.Perm (o.take top) := by
  have hO := ho.ord
  refine G_perm (List.Sublist.nodup (List.take_sublist _ _) hO.1) ?_ ?_
  · intro s hs i m
    obtain ⟨⟨h0, h1⟩, h2, h3⟩ := freeL_iff.mp m
    obtain ⟨j, hj, rfl⟩ := ho.at h0 h1
    by_cases c : j < top
    · exact mem_take.mpr ⟨j, hj, c, rfl⟩
    · obtain ⟨r, mr, hz, hneg⟩ := h.2 j hj (by omega) hj
      have := h3 r mr fun q mq => by
        obtain ⟨q', hq', lq, rfl⟩ := mem_take.mp (hs q mq)
        exact hz q' hq' lq
      omega
  · intro s hs he
    have key : ∀ p, ∀ hp : p < o.length, p < top → o[p] ∈ s := fun p => by
      induction p using Nat.strongRecOn with
      | ind p ih =>
        intro hp ht
        by_cases c : o[p] ∈ s
        · exact c
        · have : o[p] ∈ freeL n rows s := freeL_iff.mpr ⟨ord_get hO hp, c, fun r mr hz => by
            obtain ⟨_, hb⟩ := h.1 r mr
            by_cases hneg : atR r o[p] < 0
            · have := bel_lead (r := r) (v := atR r o[p]) (by omega) (take_lt ht hp) (fun q hq l => by
                rw [List.length_take] at hq
                rw [List.getElem_take]
                exact hz _ (ih q l (by omega) (by omega))) (by rw [List.getElem_take])
              rw [hb] at this
              have := of_decide_eq_false this.symm
              omega
            · omega⟩
          rw [he] at this; cases this
    intro i m
    obtain ⟨j, hj, l, rfl⟩ := mem_take.mp m
    exact key j hj l
/-! links alone -/
end K18

set_option autoImplicit false
namespace K18
open PySem PySem.Spec L2 Pm
theorem z0 (n : Nat) (j : Int) : atR (List.replicate n 0) j = 0 := by
  unfold atR
  rw [List.getD_eq_getElem?_getD, List.getElem?_replicate]
  by_cases h : j.toNat < n
  · rw [if_pos h]; rfl
  · rw [if_neg h]; rfl
def RQ (P : List Int → Prop) : D → List D → Prop := fun d os => ∃ (r : List Int) (f' : D), d = .tup (r.map .int) ∧ os = [f'] ∧ Fd f' ∧ P r
def LeadP (n : Nat) (o : List Int) (p : Nat) (r : List Int) : Prop := r.length = n ∧ (∀ q (hq : q < o.length), q < p → atR r o[q] = 0) ∧ (∀ hq : p < o.length, 1 ≤ atR r o[p])
theorem em_rep {o : List Int} {n : Nat} (h : o.length = n) : List.map ((fun x => D.int 0) ∘ D.int) o = List.replicate n (D.int 0) := by
  show List.map (fun _ => D.int 0) o = _
  rw [List.map_const', h]
theorem lead_ok {f : D} (hf : Fd f) {n p : Nat} {o : List Int} (ho : IsOrd n o) (hn : n ≤ 1000) (hp : p < n) : WpR (m_law_lead [f, .lst (o.map .int), .int (p : Int)]) (RQ (LeadP n o p)) := by
  have hol : o.length = n := ho.2.1
  have c : p < o.length := by omega
  refine wpr_mk rfl ?_
  unfold b_law_lead
  rw [show startE 5 [f, .lst (o.map .int), .int (p : Int)] = [some f, some (.lst (o.map .int)), some (.int (p : Int)), none, none] from rfl]
  refine wp_mid (fun w => w = [some f, some (.lst (o.map .int)), some (.int p), some (.own ((List.replicate n (0 : Int)).map D.int)), none]) ?_ ?_
  · simp
    refine cmp_const (by simp) (by rw [List.length_map]; omega) fun w2 e => ?_
    simp at e
    have el : w2.length = 5 := by
      have := congrArg List.length e
      simpa using this
    simp [e, el, em_rep hol]
  rintro w rfl
  refine wp_mid (fun w => ∃ f' x, ∃ r : List Int, w = [some f', some (.lst (o.map .int)), some (.int p), some (.own (r.map .int)), x] ∧ Fd f' ∧ LeadP n o p r) ?_ ?_
  · obtain ⟨g1, g2⟩ := ord_get ho c
    have gx : seqIx (o.map D.int) (p : Int) = some (.int o[p]) := seqIx_ints (List.getElem?_eq_getElem c)
    simp [hf]
    refine WpR.mono (size_ok hf) ?_
    rintro d os ⟨u, f3, rfl, rfl, hu0, hu1, hf3⟩
    simp [gx, ixN_at g1 g2]
    refine ⟨f3, _, (List.replicate n (0 : Int)).set (o[p]).toNat u, ⟨rfl, ?_, rfl⟩, hf3, by simp, fun q hq l => ?_, fun _ => ?_⟩
    · rw [← ints_set, List.map_replicate]
    · rw [atR_set g1 (ord_get ho hq).1, if_neg (fun z => ord_ne ho c hq (by omega) z.1)]
      exact z0 _ _
    · rw [atR_set g1 g1, if_pos ⟨rfl, by rw [List.length_replicate]; exact g2⟩]; exact hu0
  · rintro w ⟨f', x, r, rfl, hf', hr, h0, h1⟩
    simp
    rw [show ((p : Int) + 1) = ((p + 1 : Nat) : Int) by omega, cutD_from]
    have pd : pls ((o.map D.int).drop (p + 1)) = true := by rw [← List.map_drop]; exact pls_ints
    simp [pd]
    refine lz_for (fun i w => ∃ f' x, ∃ r : List Int, w = [some f', some (.lst (o.map .int)), some (.int p), some (.own (r.map .int)), x] ∧ Fd f' ∧ LeadP n o p r) ⟨f', x, r, rfl, hf', hr, h0, h1⟩ ?_ ?_
    · rintro w ⟨f', x, r, rfl, hf', hr⟩
      simp
      exact ⟨r, f', rfl, rfl, hf', hr⟩
    · rintro i d w hi ⟨f', x, r, rfl, hf', hr, h0, h1⟩
      rw [← List.map_drop] at hi
      obtain ⟨hi', rfl⟩ := ints_at hi
      rw [List.length_drop] at hi'
      have ei : (o.drop (p + 1))[i] = o[p + 1 + i] := List.getElem_drop ..
      have hq : p + 1 + i < o.length := by omega
      rw [ei]
      obtain ⟨g1, g2⟩ := ord_get ho hq
      simp [hf']
      refine WpR.mono (draw_ok hf' (by decide) (by decide)) ?_
      rintro d os ⟨v, f2, rfl, rfl, hv0, hv1, hf2⟩
      simp [hf2]
      refine WpR.mono (size_ok hf2) ?_
      rintro d os ⟨u, f3, rfl, rfl, hu0, hu1, hf3⟩
      have e1 : mulC (v - 1) u = true := mulC_s (by omega) (by omega) (by omega) (by omega)
      simp [e1, hr, ixN_at g1 g2]
      refine ⟨f3, _, r.set (o[p + 1 + i]).toNat ((v - 1) * u), ⟨rfl, ints_set, rfl⟩, hf3, by simp [hr], fun q hq' l => ?_, fun hq' => ?_⟩
      · rw [atR_set g1 (ord_get ho hq').1, if_neg (fun z => ord_ne ho hq hq' (by omega) z.1)]
        exact h0 q hq' l
      · rw [atR_set g1 (ord_get ho hq').1, if_neg (fun z => ord_ne ho hq hq' (by omega) z.1)]
        exact h1 hq'
def BarP (n : Nat) (o : List Int) (top : Nat) (rule : Int) (r : List Int) : Prop := r.length = n ∧ (∀ q (hq : q < o.length), q < top → atR r o[q] = 0) ∧ atR r rule < 0
theorem bar_ok {f : D} (hf : Fd f) {n top j : Nat} {o : List Int} (ho : IsOrd n o) (hn : n ≤ 1000) (hj : j < o.length) (ht : top ≤ j) : WpR (m_law_bar_row [f, .lst (o.map .int), .int (top : Int), .int o[j]]) (RQ (BarP n o top o[j])) := by
  have hol : o.length = n := ho.2.1
  refine wpr_mk rfl ?_
  unfold b_law_bar_row
  rw [show startE 6 [f, .lst (o.map .int), .int (top : Int), .int o[j]] = [some f, some (.lst (o.map .int)), some (.int (top : Int)), some (.int o[j]), none, none] from rfl]
  refine wp_mid (fun w => w = [some f, some (.lst (o.map .int)), some (.int top), some (.int o[j]), some (.own ((List.replicate n (0 : Int)).map D.int)), none]) ?_ ?_
  · simp
    refine cmp_const (by simp) (by rw [List.length_map]; omega) fun w2 e => ?_
    simp at e
    have el : w2.length = 6 := by
      have := congrArg List.length e
      simpa using this
    simp [e, el, em_rep hol]
  rintro w rfl
  refine wp_mid (fun w => ∃ f' x, ∃ r : List Int, w = [some f', some (.lst (o.map .int)), some (.int top), some (.int o[j]), some (.own (r.map .int)), x] ∧ Fd f' ∧ r.length = n ∧ (∀ q (hq : q < o.length), q < top → atR r o[q] = 0)) ?_ ?_
  · have pd : pls ((o.map D.int).drop top) = true := by rw [← List.map_drop]; exact pls_ints
    simp [cutD_from, pd]
    refine lz_for (fun i w => ∃ f' x, ∃ r : List Int, w = [some f', some (.lst (o.map .int)), some (.int top), some (.int o[j]), some (.own (r.map .int)), x] ∧ Fd f' ∧ r.length = n ∧ (∀ q (hq : q < o.length), q < top → atR r o[q] = 0)) ⟨f, none, List.replicate n 0, by rw [List.map_replicate], hf, by simp, fun q hq l => z0 _ _⟩ ?_ ?_
    · rintro w ⟨f', x, r, rfl, hf', hr, h0⟩
      simp
      exact ⟨f', _, r, ⟨rfl, rfl, rfl⟩, hf', hr, h0⟩
    · rintro i d w hi ⟨f', x, r, rfl, hf', hr, h0⟩
      rw [← List.map_drop] at hi
      obtain ⟨hi', rfl⟩ := ints_at hi
      rw [List.length_drop] at hi'
      have ei : (o.drop top)[i] = o[top + i] := List.getElem_drop ..
      have hq : top + i < o.length := by omega
      rw [ei]
      obtain ⟨g1, g2⟩ := ord_get ho hq
      simp [hf']
      refine WpR.mono (draw_ok hf' (by decide) (by decide)) ?_
      rintro d os ⟨v, f2, rfl, rfl, hv0, hv1, hf2⟩
      simp [hf2]
      refine WpR.mono (size_ok hf2) ?_
      rintro d os ⟨u, f3, rfl, rfl, hu0, hu1, hf3⟩
      have e1 : mulC (v - 1) u = true := mulC_s (by omega) (by omega) (by omega) (by omega)
      simp [e1, hr, ixN_at g1 g2]
      refine ⟨f3, _, r.set (o[top + i]).toNat ((v - 1) * u), ⟨rfl, ints_set, rfl⟩, hf3, by simp [hr], fun q hq' l => ?_⟩
      rw [atR_set g1 (ord_get ho hq').1, if_neg (fun z => ord_ne ho hq hq' (by omega) z.1)]
      exact h0 q hq' l
  · rintro w ⟨f', x, r, rfl, hf', hr, h0⟩
    obtain ⟨g1, g2⟩ := ord_get ho hj
    simp [hf']
    refine WpR.mono (size_ok hf') ?_
    rintro d os ⟨v, f3, rfl, rfl, hv0, hv1, hf3⟩
    have ix : ixN r.length o[j] = some (o[j]).toNat := ixN_at g1 (by rw [hr]; exact g2)
    have pl2 : pls ((r.map D.int).set (o[j]).toNat (D.int (-v))) = true := by rw [ints_set]; exact pls_ints
    simp [ix, pl2]
    refine ⟨r.set (o[j]).toNat (-v), f3, by rw [ints_set], rfl, hf3, by simp [hr], fun q hq l => ?_, ?_⟩
    · rw [atR_set g1 (ord_get ho hq).1, if_neg (fun z => ord_ne ho hj hq (by omega) z.1)]; exact h0 q hq l
    · rw [atR_set g1 g1, if_pos ⟨rfl, by rw [hr]; exact g2⟩]; omega
end K18

set_option autoImplicit false
namespace K18
open PySem PySem.Spec L2 Pm
@[simp] theorem dIsi_is {x : Str} : dIsi "int" (.str x) = some (.bl false) := congrArg (Option.map D.bl) (show kitB "str" "int" = some false by decide +kernel)
@[simp] theorem dIsi_il {x : List D} : dIsi "int" (.lst x) = some (.bl false) := congrArg (Option.map D.bl) (show kitB "list" "int" = some false by decide +kernel)
@[simp] theorem dIsi_io {x : List D} : dIsi "int" (.own x) = some (.bl false) := congrArg (Option.map D.bl) (show kitB "list" "int" = some false by decide +kernel)
@[simp] theorem dIsi_tl {x : List D} : dIsi "tuple" (.lst x) = some (.bl false) := congrArg (Option.map D.bl) (show kitB "list" "tuple" = some false by decide +kernel)
@[simp] theorem dIsi_to {x : List D} : dIsi "tuple" (.own x) = some (.bl false) := congrArg (Option.map D.bl) (show kitB "list" "tuple" = some false by decide +kernel)
@[simp] theorem dIsi_ts {x : Str} : dIsi "tuple" (.str x) = some (.bl false) := congrArg (Option.map D.bl) (show kitB "str" "tuple" = some false by decide +kernel)
@[simp] theorem dIsi_tb {x : Bool} : dIsi "tuple" (.bl x) = some (.bl false) := congrArg (Option.map D.bl) (show kitB "bool" "tuple" = some false by decide +kernel)
@[simp] theorem dIsi_tn : dIsi "tuple" .non = some (.bl false) := congrArg (Option.map D.bl) (show kitB "NoneType" "tuple" = some false by decide +kernel)
def isInt : D → Bool
  | .int _ => true
  | _ => false
theorem is_integer_ok (d : D) : WpR (m_is_integer [d]) (BlQ (isInt d)) := by
  refine wpr_mk rfl ?_
  unfold b_is_integer startE
  cases d <;> simp [BlQ, isInt]
def intIn (d : D) (lo hi : Int) : Bool := match d with
  | .int i => decide (lo ≤ i) && decide (i ≤ hi)
  | _ => false
theorem integer_within_ok {d : D} (p : pl d = true) (lo hi : Int) : WpR (m_integer_within [d, .int lo, .int hi]) (BlQ (intIn d lo hi)) := by
  refine wpr_mk rfl ?_
  unfold b_integer_within startE
  have ice : ∀ {Q : D → Ev → Prop} {j : Nat} {w : Ev}, iceQ Q j w d ↔ Q d w := fun {Q j w} => by
    cases d with
    | own xs => cases p
    | tup xs => rw [iceQ_tup, show pls xs = true from p]; simp
    | _ => exact .rfl
  simp only [List.map_cons, List.map_nil, wp_Ret, lz_xAnd, lz_Cal, wp_cons, lz_I, List.cons_append, slot_zero, ob_some, ice, wp_nil]
  refine ⟨rfl, WpR.mono (is_integer_ok d) ?_⟩
  rintro d' os ⟨rfl, rfl⟩
  cases d with
  | int i =>
    by_cases c : lo ≤ i
    · simp [isInt, intIn, BlQ, c]
    · simp [isInt, intIn, BlQ, c]
  | _ => simp [isInt, intIn, BlQ]
def ascL (most : Int) : Int → List D → Bool
  | _, [] => true
  | ahead, .int i :: ds => if intIn (.int i) (ahead + 1) most = true then ascL most i ds else false
  | _, _ :: _ => false
def ascD (d : D) (most : Int) : Bool := match d with
  | .tup xs => ascL most (-1) xs
  | _ => false
theorem are_ascending_ok {d : D} (p : pl d = true) (most : Int) : WpR (m_are_ascending [d, .int most]) (BlQ (ascD d most)) := by
  refine wpr_mk rfl ?_
  unfold b_are_ascending startE
  cases d with
  | tup xs =>
    have px : pls xs = true := p
    simp [px]
    refine lz_for (fun i w => ∃ x, ∃ ah : Int, w = [some (.tup xs), some (.int most), some (.int ah), x] ∧ ascL most ah (xs.drop i) = ascL most (-1) xs) ⟨none, -1, rfl, rfl⟩ ?_ ?_
    · rintro w ⟨x, ah, rfl, h⟩
      rw [List.drop_length] at h
      simp [BlQ, ascD]
      rw [← h]; rfl
    · rintro i d w hi ⟨x, ah, rfl, h⟩
      obtain ⟨hi', rfl⟩ := List.getElem?_eq_some_iff.mp hi
      have pd : pl xs[i] = true := pls_all.mp px _ (List.getElem_mem hi')
      rw [List.drop_eq_getElem_cons hi'] at h
      generalize xs[i] = e at pd h
      have ice : ∀ {Q : D → Ev → Prop} {j : Nat} {w : Ev}, iceQ Q j w e ↔ Q e w := fun {Q j w} => by
        cases e with
        | own xs => cases pd
        | tup xs => rw [iceQ_tup, show pls xs = true from pd]; simp
        | _ => exact .rfl
      simp [ice]
      refine WpR.mono (integer_within_ok pd _ _) ?_
      rintro d' os ⟨rfl, rfl⟩
      cases e with
      | int v =>
        by_cases c : intIn (.int v) (ah + 1) most = true
        · simp [c]
          rw [show ascL most ah (.int v :: xs.drop (i + 1)) = ascL most v (xs.drop (i + 1)) from if_pos c] at h
          exact ⟨_, v, ⟨rfl, rfl⟩, h⟩
        · simp [c, BlQ, ascD]
          rw [← h]
          exact if_neg c
      | _ =>
        simp [intIn, BlQ, ascD]
        rw [← h]; rfl
  | _ => simp [BlQ, ascD]
end K18

set_option autoImplicit false
namespace K18
open PySem PySem.Spec L2 Pm 
/-! ### what is left, and who bars it -/
theorem strata_fix {n : Nat} {rows : List (List Int)} : ∀ {k : Nat} {s : List Int}, leftN n s ≤ k → freeL n rows (s ++ (strataF n rows k s).flatten) = []
  | k, s, hk => by
    by_cases c : freeL n rows s = []
    · rw [strataF_nil c]; simpa using c
    · have l := left_lt c
      cases k with
      | zero => omega
      | succ k =>
        rw [strataF_cons c, List.flatten_cons, ← List.append_assoc]
        exact strata_fix (by omega)
theorem left0 {n : Nat} {s : List Int} : leftN n s ≤ n := by
  have := List.length_filter_le (fun i => !s.contains i) (intsTo n)
  rw [intsTo_len] at this; exact this
theorem G_fix {n : Nat} {rows : List (List Int)} : freeL n rows (G n rows).flatten = [] := by
  have := strata_fix (n := n) (rows := rows) (k := n) (s := []) left0
  simpa [G] using this
theorem reach_perm {n : Nat} {rows : List (List Int)} : (reachL n rows).Perm (G n rows).flatten := sortI_perm _
theorem reach_fix {n : Nat} {rows : List (List Int)} : freeL n rows (reachL n rows) = [] := by
  rw [freeL_perm reach_perm]; exact G_fix
def restL (n : Nat) (rows : List (List Int)) : List Int := (intsTo n).filter fun i => !(reachL n rows).contains i
theorem rest_mem {n : Nat} {rows : List (List Int)} {i : Int} : i ∈ restL n rows ↔ (0 ≤ i ∧ i < (n : Int)) ∧ i ∉ reachL n rows := by
  unfold restL
  rw [List.mem_filter, intsTo_mem]; simp
theorem rest_bars {n : Nat} {rows : List (List Int)} {i : Int} (h : i ∈ restL n rows) : ∃ r ∈ rows, (nt r (reachL n rows) && decide (atR r i < 0)) = true := by
  obtain ⟨h1, h2⟩ := rest_mem.mp h
  have h3 : ¬ i ∈ freeL n rows (reachL n rows) := by rw [reach_fix]; simp
  rw [freeL_iff] at h3
  have h4 : ¬ ∀ r ∈ rows, (∀ j ∈ reachL n rows, atR r j = 0) → 0 ≤ atR r i := fun z => h3 ⟨h1, h2, z⟩
  simp only [Classical.not_forall] at h4
  obtain ⟨r, m, z, l⟩ := h4
  exact ⟨r, m, by rw [Bool.and_eq_true]; exact ⟨nt_iff.mpr z, decide_eq_true (by omega)⟩⟩
def barAt (n : Nat) (rows : List (List Int)) (i : Int) : Nat := rows.findIdx fun r => nt r (reachL n rows) && decide (atR r i < 0)
def barD (n : Nat) (rows : List (List Int)) : D := if restL n rows = [] then .non else .tup [.tup ((restL n rows).map .int), .tup ((restL n rows).map fun i => .int (barAt n rows i))]
theorem G_in {n : Nat} {rows : List (List Int)} : ∀ {k : Nat} {s : List Int}, InN n s → InN n (s ++ (strataF n rows k s).flatten)
  | k, s, h => by
    by_cases c : freeL n rows s = []
    · rw [strataF_nil c]; simpa using h
    · cases k with
      | zero => simpa [strataF] using h
      | succ k =>
        rw [strataF_cons c, List.flatten_cons, ← List.append_assoc]
        exact G_in h.app
theorem reach_in {n : Nat} {rows : List (List Int)} : InN n (reachL n rows) := fun i m => by
  have : InN n ([] ++ (G n rows).flatten) := G_in (fun i m => by cases m)
  exact this i (by simpa using reach_perm.mem_iff.mp m)
/-- the first that passes, found by listing them all -/
theorem zip_first {α : Type} (p : α → Bool) : ∀ (l : List α) (k : Nat), ((l.zipIdx k).filter fun x => p x.1).head?.map (·.2) = if l.any p = true then some (k + l.findIdx p) else none
  | [], k => by simp
  | a :: l, k => by
    rw [List.zipIdx_cons]
    by_cases h : p a = true
    · simp [h, List.findIdx_cons]
    · have ih := zip_first p l (k + 1)
      simp only [List.filter_cons, h, List.any_cons, Bool.false_or, List.findIdx_cons, cond_false]
      rw [if_neg (by simp), ih]
      by_cases h2 : l.any p = true
      · rw [if_pos h2, if_pos (by simpa [h] using h2)]; simp; omega
      · rw [if_neg h2, if_neg (by simpa [h] using h2)]
theorem row_bar_ok {n : Nat} {rows : List (List Int)} (hn : n ≤ 100) (hl : rows.length ≤ 1000) (hr : Rect n rows) : WpR (m_row_bar [.int (n : Int), .tup (rowsD rows)]) (DQ (barD n rows)) := by
  refine wpr_mk rfl ?_
  unfold b_row_bar
  rw [show startE 8 [.int (n : Int), .tup (rowsD rows)] = [some (.int (n)), some (.tup (rowsD (rows))), none, none, none, none, none, none] from rfl]
  refine wp_mid (fun w => w = [some (.int (n)), some (.tup (rowsD (rows))), some (.tup ((restL n rows).map D.int)), none, none, none, none, none]) ?_ ?_
  · simp
    refine (rest_of_ok hn hl hr).dq ?_
    simp [restL]
  rintro w rfl
  by_cases c : restL n rows = []
  · simp [c]; simp [DQ, barD, c]
  have cl : (restL n rows).isEmpty = false := by simpa using c
  have ra := fun i (h : i ∈ restL n rows) => rest_bars h
  have rm := fun i (h : i ∈ restL n rows) => (rest_mem.mp h).1
  have rl : (restL n rows).length ≤ 1000 := by
    have := List.length_filter_le (fun i => !(reachL n rows).contains i) (intsTo n)
    rw [intsTo_len] at this; unfold restL; omega
  simp [cl]
  refine (reach_of_ok hn hl hr).dq ?_
  have rd : barD n rows = .tup [.tup ((restL n rows).map .int), .tup ((restL n rows).map fun i => .int (barAt n rows i))] := if_neg c
  have rin := reach_in (n := n) (rows := rows)
  rw [rd]
  unfold barAt
  generalize reachL n rows = R at ra rin
  generalize restL n rows = rest at ra rm rl
  refine lz_for (fun k w => ∃ x y z, w = [some (.int (n)), some (.tup (rowsD (rows))), some (.tup ((rest).map D.int)), some (.tup ((R).map D.int)), some (.own ((rest.take k).map fun i => D.int ((rows.findIdx fun r => nt r R && decide (atR r i < 0) : Nat) : Int))), x, y, z]) ⟨none, none, none, rfl⟩ ?_ ?_
  · rintro w ⟨x, y, z, rfl⟩
    rw [List.length_map, List.take_length]
    have pz : pls (rest.map fun i => D.int ((rows.findIdx fun r => nt r R && decide (atR r i < 0) : Nat) : Int)) = true := pls_map (fun _ => rfl) _
    simp [pz, DQ]
  · rintro k d w hk ⟨x, y, z, rfl⟩
    obtain ⟨hk', rfl⟩ := ints_at hk
    have mk := List.getElem_mem hk'
    have tk : rest.take (k + 1) = rest.take k ++ [rest[k]] := by rw [List.take_add_one, List.getElem?_eq_getElem hk']; rfl
    have tl : (rest.take k).length ≤ 1000 := by rw [List.length_take]; omega
    rw [tk]
    generalize rest.take k = dn at tl
    generalize rest[k] = i at mk
    simp
    rw [enumD_rows]
    refine cmp_pure (α := List Int × Nat) (fun p => D.tup [.int (p.2 : Nat), .tup (p.1.map D.int)]) (fun p => D.int (p.2 : Nat)) rows.zipIdx (fun p => nt p.1 R && decide (atR p.1 i < 0)) (fun p => [some (.int (n)), some (.tup (rowsD (rows))), some (.tup ((rest).map D.int)), some (.tup ((R).map D.int)), some (.own (dn.map fun i => D.int ((rows.findIdx fun r => nt r R && decide (atR r i < 0) : Nat) : Int))), some (.int (i)), some (.int ((p.2 : Nat))), some (.tup ((p.1).map D.int))]) (by simp; omega) (fun _ _ => rfl) (fun _ _ => rfl) (fun p m => ?_) (fun p m _ => by simp) fun w2 e el => ?_
    · have hpr : p.1.length = n := hr _ (by obtain ⟨_, h2, h3⟩ := List.mem_zipIdx m; rw [h3]; exact List.getElem_mem _)
      have im := rm i mk
      simp
      refine (is_nought_ok hpr rin).bq ?_
      simp
      cases nt p.1 R with
      | true => simp [seqIx_at im.1 (show i < (p.1.length : Int) by omega)]
      | false => simp
    · have zf := zip_first (fun r : List Int => nt r R && decide (atR r i < 0)) rows 0
      rw [if_pos (List.any_eq_true.mpr (ra i mk))] at zf
      generalize rows.zipIdx.filter _ = found at zf
      cases found with
      | nil => simp at zf
      | cons p found =>
        have ep : p.2 = rows.findIdx fun r => nt r R && decide (atR r i < 0) := by simpa using zf
        simp at e el
        simp [e, line' (show dn.length < 1000000 by omega), ep]
end K18

set_option autoImplicit false
namespace K18
open PySem PySem.Spec L2 Pm 
/-! ### the law's own reach and bar -/
theorem seqIx_bl {bs : List Bool} {i : Nat} {b : Bool} (h : bs[i]? = some b) : seqIx (bs.map D.bl) (i : Int) = some (.bl b) := seqIx_nat (by rw [List.getElem?_map, h]; rfl) rfl
theorem pls_bls {bs : List Bool} : pls (bs.map D.bl) = true := pls_map (fun _ => rfl) bs
def bar1 (s r : List Int) (i : Int) : Bool := nt r s && decide (atR r i < 0)
theorem rngD_nat (n : Nat) : rngD n = (intsTo n).map D.int := rngD_ints n
theorem nz_empty (r s : List Int) : (s.filter fun i => !decide (atR r i = 0)) = [] ↔ nt r s = true := by
  rw [List.filter_eq_nil_iff, nt_iff]
  constructor
  · intro h i m; simpa using h i m
  · intro h i m; simpa using h i m
theorem freeP_any {rows : List (List Int)} {s : List Int} {i : Int} : freeP rows s i = (!(rows.any fun r => bar1 s r i) && !s.contains i) := by
  unfold freeP bar1
  rw [List.any_filter, Bool.and_comm]
theorem atB {n : Nat} {i : Int} (h : 0 ≤ i) : ((i.toNat : Nat) : Int) = i := by omega
theorem law_reach_ok {n : Nat} {rows : List (List Int)} (hn : n ≤ 100) (hl : rows.length ≤ 1000) (hr : Rect n rows) : WpR (m_law_reach [.int (n : Int), .tup (rowsD rows)]) (DQ (.own ((G n rows).flatten.map .int))) := by
  have rc : rngC (n : Int) = true := rngC_of (by omega) (by omega)
  refine wpr_mk rfl ?_
  unfold b_law_reach
  rw [show startE 8 [.int (n : Int), .tup (rowsD rows)] = [some (.int (n)), some (.tup (rowsD (rows))), none, none, none, none, none, none] from rfl]
  have il : (intsTo n).length ≤ 100000 := by rw [intsTo_len]; omega
  obtain ⟨A, hA⟩ : ∃ A, A = (G n rows).flatten := ⟨_, rfl⟩
  rw [← hA]
  refine wp_mid (fun w => w = [some (.int (n)), some (.tup (rowsD (rows))), some (.own ((([] : List Int)).map D.int)), none, none, none, none, none]) (by simp) ?_
  rintro w rfl
  refine wp_mid (fun w => ∃ a b c d, w = [some (.int (n)), some (.tup (rowsD (rows))), some (.own ((A).map D.int)), a, b, c, d, none]) ?_ ?_
  · simp [rc]
    refine lz_for (fun k w => ∃ a b c d, ∃ s : List Int, w = [some (.int (n)), some (.tup (rowsD (rows))), some (.own ((s).map D.int)), a, b, c, d, none] ∧ InN n s ∧ s.length ≤ n * k ∧ A = s ++ (strataF n rows (n - k) s).flatten) ⟨none, none, none, none, [], rfl, (fun i m => by cases m), by simp, by simp [G, hA]⟩ ?_ ?_
    · rintro w ⟨a, b, c, d, s, rfl, hs, hsl, e⟩
      rw [rngD_len, Nat.sub_self] at e
      have : (strataF n rows 0 s).flatten = [] := rfl
      rw [this, List.append_nil] at e
      simp [e]
    · rintro k x w hk ⟨a, b, c, d, s, rfl, hs, hsl, e⟩
      obtain ⟨rfl, hk2⟩ := toNat_range (n := (n : Int)) k (by simpa using hk)
      have sl : s.length ≤ 10000 := Nat.le_trans hsl (Nat.le_trans (Nat.mul_le_mul hn (show k ≤ 100 by omega)) (by omega))
      simp only [lz_nm, List.length_cons, List.length_nil, List.set_cons_succ, List.set_cons_zero]
      refine ⟨by omega, ?_⟩
      refine wp_mid (fun w => ∃ c d, w = [some (.int (n)), some (.tup (rowsD (rows))), some (.own ((s).map D.int)), some (.int ((k : Nat))), some (.own (List.replicate n (D.bl false))), c, d, none]) ?_ ?_
      · simp [rc]
        refine cmp_const (by simp) (by rw [rngD_len]; omega) fun w2 e => ?_
        simp at e
        have el : w2.length = 8 := by
          have := congrArg List.length e
          simpa using this
        simp [e, el, rngD_len]
        rw [List.map_const', rngD_len]
      rintro w ⟨c, d, rfl⟩
      refine wp_mid (fun w => ∃ c d, w = [some (.int (n)), some (.tup (rowsD (rows))), some (.own ((s).map D.int)), some (.int ((k : Nat))), some (.own ((intsTo n).map fun i => D.bl (rows.any fun r => bar1 s r i))), c, d, none]) ?_ ?_
      · simp
        refine lz_for (fun j w => ∃ c d, w = [some (.int (n)), some (.tup (rowsD (rows))), some (.own ((s).map D.int)), some (.int ((k : Nat))), some (.own ((intsTo n).map fun i => D.bl ((rows.take j).any fun r => bar1 s r i))), c, d, none]) ⟨c, d, ?_⟩ ?_ ?_
        · simp
          rw [List.map_const', intsTo_len]
        · rintro w ⟨c, d, rfl⟩
          rw [rowsD_len, List.take_length]
          simp
        · rintro j x w hj ⟨c, d, rfl⟩
          obtain ⟨hj', rfl⟩ := rowsD_at hj
          have hrl := hr _ (List.getElem_mem hj')
          have tk : rows.take (j + 1) = rows.take j ++ [rows[j]] := by rw [List.take_add_one, List.getElem?_eq_getElem hj']; rfl
          rw [tk]
          generalize rows[j] = r at hrl
          generalize rows.take j = rk
          simp
          refine cmp_pure D.int D.int s (fun i => !decide (atR r i = 0)) (fun i => [some (.int (n)), some (.tup (rowsD (rows))), none, some (.int ((k : Nat))), some (.own ((intsTo n).map fun i => D.bl (rk.any fun r => bar1 s r i))), some (.tup ((r).map D.int)), d, some (.int (i))]) (by omega) (fun _ _ => rfl) (fun _ _ => rfl) (fun i m => ?_) (fun i m _ => by simp) fun w2 e el => ?_
          · have := hs i m
            simp [seqIx_at this.1 (show i < (r.length : Int) by omega)]
          · simp at e el
            have nd : decide (∀ a, a ∈ s → atR r a = 0) = nt r s := by rw [Bool.eq_iff_iff, decide_eq_true_iff, nt_iff]
            simp [e, el, nd]
            by_cases h : nt r s = true
            · simp [h, rc, rngD_nat]
              refine cmp_map (α := Int) (vs := [7]) D.int (fun i => D.bl ((rk.any fun r => bar1 s r i) || decide (atR r i < 0))) (intsTo n) (fun i => [some (.int (n)), some (.tup (rowsD (rows))), some (.own ((s).map D.int)), some (.int ((k : Nat))), some (.own ((intsTo n).map fun i => D.bl (rk.any fun r => bar1 s r i))), some (.tup ((r).map D.int)), d, some (.int (i))]) il (fun _ _ => rfl) (fun _ _ => rfl) (fun i m => ?_) fun w2 e el => ?_
              · have := intsTo_mem.mp m
                have gb : seqIx ((intsTo n).map fun i => D.bl (rk.any fun r => bar1 s r i)) i = some (.bl (rk.any fun r => bar1 s r i)) := by
                  rw [← atB (n := n) this.1]
                  refine seqIx_nat ?_ rfl
                  rw [List.getElem?_map, List.getElem?_eq_getElem (by rw [intsTo_len]; omega)]
                  simp [intsTo]
                cases hb : (rk.any fun r => bar1 s r i) <;> rw [hb] at gb <;> simp [gb, seqIx_at this.1 (show i < (r.length : Int) by omega)]
              · simp at e el
                simp [e, el, h, bar1]
            · simp [bar1, h]
      rintro w ⟨c, d, rfl⟩
      refine wp_mid (fun w => ∃ c, w = [some (.int (n)), some (.tup (rowsD (rows))), some (.own ((s).map D.int)), some (.int ((k : Nat))), some (.own ((intsTo n).map fun i => D.bl (rows.any fun r => bar1 s r i))), c, some (.own ((freeL n rows s).map D.int)), none]) ?_ ?_
      · simp [rc, rngD_nat]
        refine cmp_pure D.int D.int (intsTo n) (freeP rows s) (fun i => [some (.int (n)), some (.tup (rowsD (rows))), some (.own ((s).map D.int)), some (.int ((k : Nat))), some (.own ((intsTo n).map fun i => D.bl (rows.any fun r => bar1 s r i))), c, d, some (.int (i))]) il (fun _ _ => by simp [setT, setE]) (fun _ _ => rfl) (fun i m => ?_) (fun i m _ => by simp) fun w2 e el => ?_
        · have := intsTo_mem.mp m
          have gb : seqIx ((intsTo n).map fun i => D.bl (rows.any fun r => bar1 s r i)) i = some (.bl (rows.any fun r => bar1 s r i)) := by
            rw [← atB (n := n) this.1]
            refine seqIx_nat ?_ rfl
            rw [List.getElem?_map, List.getElem?_eq_getElem (by rw [intsTo_len]; omega)]
            simp [intsTo]
          have fp := freeP_any (rows := rows) (s := s) (i := i)
          cases hb : (rows.any fun r => bar1 s r i) <;> rw [hb] at gb fp <;> simp [gb, dIn_ints (neg := true) (i := i) (s := s) (.inr (.inr rfl)), fp]
        · simp at e el
          simp [e, el, freeL]
      rintro w ⟨c, rfl⟩
      have fl : (freeL n rows s).length ≤ n := free_len
      by_cases hf : freeL n rows s = []
      · simp [hf]
        rw [e, strataF_nil hf]; simp
      · have hf2 : ¬ ((freeL n rows s).length : Int) = 0 := fun q => hf (List.length_eq_zero_iff.mp (by omega))
        simp at hf2
        simp [hf2, line (show s.length + (freeL n rows s).length ≤ 1000000 by omega)]
        refine ⟨_, _, _, _, s ++ freeL n rows s, ⟨by simp, rfl, rfl, rfl, rfl⟩, hs.app, ?_, ?_⟩
        · rw [List.length_append, Nat.mul_succ]; omega
        · rw [e, show n - k = (n - (k + 1)) + 1 by omega, strataF_cons hf]; simp
  · rintro w ⟨a, b, c, d, rfl⟩
    simp [DQ]
end K18

set_option autoImplicit false
namespace K18
open PySem PySem.Spec L2 Pm 
theorem find_first {α : Type} {p : α → Bool} {l : List α} {j : Nat} (hj : j < l.length) (h : p l[j] = true) (hn : ∀ i (hi : i < l.length), i < j → p l[i] = false) : l.findIdx p = j := by
  rw [List.findIdx_eq hj]
  exact ⟨h, fun i l2 => hn i (by omega) l2⟩
theorem flat_le {n : Nat} {rows : List (List Int)} : ∀ {k : Nat} {s : List Int}, (strataF n rows k s).flatten.length ≤ n * k
  | 0, s => by simp [strataF]
  | k + 1, s => by
    by_cases c : freeL n rows s = []
    · rw [strataF_nil c]; simp
    · rw [strataF_cons c, List.flatten_cons, List.length_append, Nat.mul_succ]
      have := free_len (n := n) (rows := rows) (s := s)
      have := flat_le (n := n) (rows := rows) (k := k) (s := s ++ freeL n rows s)
      omega
theorem law_due_ok {n : Nat} {rows : List (List Int)} (hn : n ≤ 100) (hl : rows.length ≤ 1000) (hr : Rect n rows) : WpR (m_law_due [.int (n : Int), .tup (rowsD rows)]) (DQ (barD n rows)) := by
  have rc : rngC (n : Int) = true := rngC_of (by omega) (by omega)
  have rc2 : rngC (rows.length : Int) = true := rngC_of (by omega) (by omega)
  refine wpr_mk rfl ?_
  unfold b_law_due
  rw [show startE 9 [.int (n : Int), .tup (rowsD rows)] = [some (.int (n)), some (.tup (rowsD (rows))), none, none, none, none, none, none, none] from rfl]
  have il : (intsTo n).length ≤ 100000 := by rw [intsTo_len]; omega
  obtain ⟨A, hA⟩ : ∃ A, A = (G n rows).flatten := ⟨_, rfl⟩
  have pA : (reachL n rows).Perm A := by rw [hA]; exact reach_perm
  refine wp_mid (fun w => w = [some (.int (n)), some (.tup (rowsD (rows))), some (.own ((A).map D.int)), none, none, none, none, none, none]) ?_ ?_
  · simp
    refine (law_reach_ok hn hl hr).dq ?_
    rw [← hA]
  rintro w rfl
  have rA : restL n rows = (intsTo n).filter fun i => !A.contains i := by
    have cA : ∀ i, (reachL n rows).contains i = A.contains i := fun i => by
      rw [Bool.eq_iff_iff, List.contains_iff_mem, List.contains_iff_mem]; exact pA.mem_iff
    unfold restL; simp only [cA]
  have al : A.length ≤ 10000 := by
    have h1 := pA.length_eq
    have h2 := flat_le (n := n) (rows := rows) (k := n) (s := [])
    have h3 := (reach_perm (n := n) (rows := rows)).length_eq
    have h4 : n * n ≤ 100 * 100 := Nat.mul_le_mul hn hn
    have h5 : (G n rows).flatten.length = (strataF n rows n []).flatten.length := rfl
    omega
  have nA : ∀ r, nt r (reachL n rows) = nt r A := fun r => nt_perm pA
  refine wp_mid (fun w => w = [some (.int (n)), some (.tup (rowsD (rows))), some (.own ((A).map D.int)), some (.own ((restL n rows).map D.int)), none, none, none, none, none]) ?_ ?_
  · simp [rc, rngD_nat]
    refine cmp_pure D.int D.int (intsTo n) (fun i => !A.contains i) (fun i => [some (.int (n)), some (.tup (rowsD (rows))), some (.own ((A).map D.int)), none, none, some (.int (i)), none, none, none]) il (fun _ _ => rfl) (fun _ _ => rfl) (fun i m => ?_) (fun i m _ => by simp) fun w2 e el => ?_
    · simp [dIn_ints (neg := true) (i := i) (s := A) (.inr (.inr rfl))]
    · simp at e el
      simp [e, el, rA]
  rintro w rfl
  by_cases c : restL n rows = []
  · simp [c, DQ, barD]
  have c2 : ¬ ((restL n rows).length : Int) = 0 := fun q => c (List.length_eq_zero_iff.mp (by omega))
  have ra := fun i (h : i ∈ restL n rows) => rest_bars h
  have rm := fun i (h : i ∈ restL n rows) => (rest_mem.mp h).1
  have rl : (restL n rows).length ≤ 1000 := by
    have := List.length_filter_le (fun i => !(reachL n rows).contains i) (intsTo n)
    rw [intsTo_len] at this; unfold restL; omega
  have rd : barD n rows = .tup [.tup ((restL n rows).map .int), .tup ((restL n rows).map fun i => .int (barAt n rows i))] := if_neg c
  have Ain : InN n A := fun i m => reach_in i (pA.mem_iff.mpr m)
  rw [rd]
  unfold barAt
  simp only [nA] at ra ⊢
  simp at c2
  generalize restL n rows = rest at ra rm rl c2
  simp [c2]
  refine lz_for (fun k w => ∃ x y z, w = [some (.int (n)), some (.tup (rowsD (rows))), some (.own ((A).map D.int)), none, some (.own ((rest.take k).map fun i => D.int ((rows.findIdx fun r => nt r A && decide (atR r i < 0) : Nat) : Int))), x, y, z, none]) ⟨none, none, none, rfl⟩ ?_ ?_
  · rintro w ⟨x, y, z, rfl⟩
    rw [List.length_map, List.take_length]
    have pz : pls (rest.map fun i => D.int ((rows.findIdx fun r => nt r A && decide (atR r i < 0) : Nat) : Int)) = true := pls_map (fun _ => rfl) _
    simp [pz, DQ]
  · rintro k d w hk ⟨x, y, z, rfl⟩
    obtain ⟨hk', rfl⟩ := ints_at hk
    have mk := List.getElem_mem hk'
    have tk : rest.take (k + 1) = rest.take k ++ [rest[k]] := by rw [List.take_add_one, List.getElem?_eq_getElem hk']; rfl
    have tl : (rest.take k).length ≤ 1000 := by rw [List.length_take]; omega
    rw [tk]
    generalize rest.take k = dn at tl
    generalize rest[k] = i at mk
    obtain ⟨im1, im2⟩ := rm i mk
    simp [rc2]
    refine lz_for (fun j w => ∃ y z, w = [some (.int (n)), some (.tup (rowsD (rows))), some (.own ((A).map D.int)), none, some (.own (dn.map fun i => D.int ((rows.findIdx fun r => nt r A && decide (atR r i < 0) : Nat) : Int))), some (.int (i)), y, z, none] ∧ ∀ j' (hj' : j' < rows.length), j' < j → (nt rows[j'] A && decide (atR rows[j'] i < 0)) = false) ⟨y, z, rfl, fun j' _ l => absurd l (Nat.not_lt_zero _)⟩ ?_ ?_
    · rintro w ⟨y, z, rfl, hn⟩
      rw [rngD_len] at hn
      obtain ⟨r, m, hr⟩ := ra i mk
      obtain ⟨j, hj, rfl⟩ := List.mem_iff_getElem.mp m
      rw [hn j hj hj] at hr; cases hr
    · rintro j d w hj ⟨y, z, rfl, hno⟩
      obtain ⟨rfl, hj2⟩ := toNat_range (n := (rows.length : Int)) j (by simpa using hj)
      have hjl : j < rows.length := by omega
      have hrl := hr _ (List.getElem_mem hjl)
      have ff := fun h => find_first (p := fun r => nt r A && decide (atR r i < 0)) hjl h hno
      have nx : (nt rows[j] A && decide (atR rows[j] i < 0)) = false → ∀ j' (hj' : j' < rows.length), j' < j + 1 → (nt rows[j'] A && decide (atR rows[j'] i < 0)) = false := fun h j' hj' l => by
        by_cases e : j' = j
        · subst e; exact h
        · exact hno j' hj' (by omega)
      simp [rowsD_ix hjl]
      generalize rows[j] = r at hrl ff nx
      have sx : seqIx (r.map D.int) i = some (.int (atR r i)) := seqIx_at im1 (by omega)
      by_cases h1 : atR r i < 0
      · simp [sx, h1]
        refine cmp_pure (α := Int) (vs := [8]) D.int D.int A (fun i => !decide (atR r i = 0)) (fun i' => [some (.int (n)), some (.tup (rowsD (rows))), none, none, some (.own (dn.map fun i => D.int ((rows.findIdx fun r => nt r A && decide (atR r i < 0) : Nat) : Int))), some (.int (i)), some (.int ((j : Nat))), some (.tup ((r).map D.int)), some (.int (i'))]) (by omega) (fun _ _ => rfl) (fun _ _ => rfl) (fun i m => ?_) (fun i m _ => by simp) fun w2 e el => ?_
        · have := Ain i m
          simp [seqIx_at this.1 (show i < (r.length : Int) by omega)]
        · simp at e el
          have nd : decide (∀ a, a ∈ A → atR r a = 0) = nt r A := by rw [Bool.eq_iff_iff, decide_eq_true_iff, nt_iff]
          simp [e, el, nd]
          by_cases h : nt r A = true
          · simp [h, line' (show dn.length < 1000000 by omega)]
            simp [ff (by simp [h, h1])]
          · simp [h]
            intro j' hj' l h2
            have := nx (by simp [h]) j' hj' l
            simp [h2] at this
            exact this
      · simp [sx, h1]
        intro j' hj' l h2
        have := nx (by simp [h1]) j' hj' l
        simp [h2] at this
        exact this
end K18

set_option autoImplicit false
namespace K18
open PySem PySem.Spec L2 Pm 
/-! ### papers of rows -/
def overB (r ins : List Int) : Bool := r.zipIdx.all fun p => !decide (0 < p.1) || ins.contains (p.2 : Int)
def nwB (r : List Int) (i : Int) (ins : List Int) : Bool := decide (atR r i < 0) && overB r ins
theorem enum_ints (r : List Int) : enumD (r.map D.int) = r.zipIdx.map fun p => D.tup [.int (p.2 : Nat), .int p.1] := enumD_map D.int r
theorem nowhere_ok {n : Nat} {r ins : List Int} {i : Int} (hr : r.length = n) (hi : 0 ≤ i ∧ i < n) (hl : n ≤ 1000) : WpR (m_is_nowhere_worse [.tup (r.map .int), .int i, .tup (ins.map .int)]) (BlQ (nwB r i ins)) := by
  refine wpr_mk rfl ?_
  unfold b_is_nowhere_worse startE
  have sx : seqIx (r.map D.int) i = some (.int (atR r i)) := seqIx_at hi.1 (by omega)
  by_cases h : atR r i < 0
  · simp [sx, show ¬ 0 ≤ atR r i by omega]
    rw [enum_ints]
    refine lz_scan (fun d => match d with
      | .tup [.int j, .int v] => !decide (0 < v) || ins.contains j
      | _ => false) (fun w => ∃ x y, w = [some (.tup ((r).map D.int)), some (.int (i)), some (.tup ((ins).map D.int)), x, y]) ⟨none, none, rfl⟩ ?_ ?_
    · rintro ha w ⟨x, y, rfl⟩
      have : overB r ins = true := by
        unfold overB
        rw [List.all_map] at ha
        exact ha
      simp [BlQ, nwB, h, this]
    · rintro d md w ⟨x, y, rfl⟩
      obtain ⟨p, mp, rfl⟩ := List.mem_map.mp md
      simp
      by_cases h1 : 0 < p.1
      · simp [h1, dIn_ints (neg := true) (i := (p.2 : Int)) (s := ins) (.inl rfl)]
        by_cases h2 : (p.2 : Int) ∈ ins
        · simp [h2]
        · simp [h2]
          intro a b m1 m2 m3
          have : overB r ins = false := by
            unfold overB
            exact List.all_eq_false.mpr ⟨(a, b), m1, by simp [m2, m3]⟩
          simp [BlQ, nwB, this]
      · simp [h1]
        exact .inl (by omega)
  · simp [sx, show 0 ≤ atR r i by omega, BlQ, nwB, h]
def rowOf (rows : List (List Int)) : D → List Int
  | .int i => rows.getD i.toNat []
  | _ => []
theorem rowsD_at2 {rows : List (List Int)} {i : Int} (h : 0 ≤ i) (h2 : i ≤ (rows.length : Int) - 1) : seqIx (rowsD rows) i = some (.tup ((rowOf rows (.int i)).map .int)) ∧ rowOf rows (.int i) ∈ rows := by
  have l : i.toNat < rows.length := by omega
  have e : rowOf rows (.int i) = rows[i.toNat] := by show rows.getD i.toNat [] = _; rw [List.getD_eq_getElem?_getD, List.getElem?_eq_getElem l]; rfl
  have z := rowsD_ix l
  rw [show ((i.toNat : Nat) : Int) = i by omega] at z
  rw [e]
  exact ⟨z, List.getElem_mem l⟩
def papP (rows : List (List Int)) (ins : List Int) (i : Int) (d : D) : Bool := intIn d 0 ((rows.length : Int) - 1) && nwB (rowOf rows d) i ins
def papB (rows : List (List Int)) (S ins : List Int) : D → Bool
  | .tup ns => decide (ns.length = S.length) && (S.zip ns).all fun p => papP rows ins p.1 p.2
  | _ => false
theorem zip_ints (S : List Int) (ns : List D) : zipD (S.map D.int) ns = (S.zip ns).map fun p => D.tup [.int p.1, p.2] := by
  unfold zipD
  rw [List.zip_map_left, List.map_map]; rfl
theorem papers_ok {n : Nat} {rows : List (List Int)} {S ins : List Int} {d : D} (hn : n ≤ 100) (hl : rows.length ≤ 1000) (hr : Rect n rows) (hS : InN n S) (pd : pl d = true) : WpR (m_are_row_papers [.tup (rowsD rows), .tup (S.map .int), .tup (ins.map .int), d]) (BlQ (papB rows S ins d)) := by
  refine wpr_mk rfl ?_
  unfold b_are_row_papers startE
  cases d with
  | tup ns =>
    by_cases c : ns.length = S.length
    · have pn : pls ns = true := pd
      simp [c, pn]
      rw [zip_ints]
      refine lz_scan (fun d => match d with
        | .tup [.int i, x] => papP rows ins i x
        | _ => false) (fun w => ∃ x y, w = [some (.tup (rowsD (rows))), some (.tup ((S).map D.int)), some (.tup ((ins).map D.int)), some (.tup (ns)), x, y]) ⟨none, none, rfl⟩ ?_ ?_
      · rintro ha w ⟨x, y, rfl⟩
        rw [List.all_map] at ha
        have : papB rows S ins (.tup ns) = true := by
          show (decide (ns.length = S.length) && (S.zip ns).all fun p => papP rows ins p.1 p.2) = true
          rw [c]; simp only [decide_true, Bool.true_and]
          exact ha
        simp [BlQ, this]
      · rintro d md w ⟨x, y, rfl⟩
        obtain ⟨⟨i, e⟩, mp, rfl⟩ := List.mem_map.mp md
        have mz := List.of_mem_zip mp
        have pe : pl e = true := pls_all.mp pn e mz.2
        have hi := hS i mz.1
        have bad : papP rows ins i e = false → papB rows S ins (.tup ns) = false := fun h => by
          show (decide (ns.length = S.length) && (S.zip ns).all fun p => papP rows ins p.1 p.2) = false
          rw [c, Bool.and_eq_false_iff]; right
          exact List.all_eq_false.mpr ⟨(i, e), mp, by simp [h]⟩
        simp [ice_pl pe]
        refine (integer_within_ok pe 0 ((rows.length : Int) - 1)).bq ?_
        by_cases h1 : intIn e 0 ((rows.length : Int) - 1) = true
        · cases e with
          | int v =>
            have hv : 0 ≤ v ∧ v ≤ (rows.length : Int) - 1 := by simpa [intIn] using h1
            obtain ⟨g1, g2⟩ := rowsD_at2 hv.1 hv.2
            simp [h1, g1]
            refine (nowhere_ok (hr _ g2) hi (by omega)).bq ?_
            by_cases h2 : nwB (rowOf rows (.int v)) i ins = true
            · simp [h2, papP, h1]
            · have b2 := bad (by simp [papP, h2])
              simp [h2, papP, BlQ, b2]
          | _ => simp [intIn] at h1
        · have b2 := bad (by simp [papP, h1])
          simp [h1, papP, BlQ, b2]
    · have c2 : ¬ (ns.length : Int) = S.length := by omega
      simp [c2, BlQ, papB, c]
  | _ => simp [BlQ, papB]
end K18

set_option autoImplicit false
namespace K18
open PySem PySem.Spec L2 Pm 
/-! ### a bar and its judge, at any plain datum -/
theorem asc_ints {most : Int} : ∀ {xs : List D} {ah : Int}, ascL most ah xs = true ↔ ∃ S : List Int, xs = S.map .int ∧ (∀ i ∈ S, ah < i ∧ i ≤ most) ∧ S.Pairwise (· < ·)
  | [], ah => ⟨fun _ => ⟨[], rfl, (fun i m => by cases m), List.Pairwise.nil⟩, fun _ => rfl⟩
  | x :: xs, ah => by
    constructor
    · intro h
      cases x with
      | int v =>
        have h' : (if intIn (.int v) (ah + 1) most = true then ascL most v xs else false) = true := h
        by_cases c : intIn (.int v) (ah + 1) most = true
        · rw [if_pos c] at h'
          have hv : ah + 1 ≤ v ∧ v ≤ most := by simpa [intIn] using c
          obtain ⟨S, rfl, h1, h2⟩ := asc_ints.mp h'
          refine ⟨v :: S, rfl, fun i m => ?_, List.Pairwise.cons (fun i m => (h1 i m).1) h2⟩
          rcases List.mem_cons.mp m with rfl | m
          · omega
          · have := h1 i m; omega
        · rw [if_neg c] at h'; cases h'
      | _ => cases h
    · rintro ⟨S, e, h1, h2⟩
      cases S with
      | nil => cases e
      | cons v S =>
        injection e with e1 e2
        subst e1; subst e2
        have hv := h1 v List.mem_cons_self
        have c : intIn (.int v) (ah + 1) most = true := by simp [intIn]; omega
        show (if intIn (.int v) (ah + 1) most = true then ascL most v (S.map .int) else false) = true
        rw [if_pos c]
        rw [List.pairwise_cons] at h2
        exact asc_ints.mpr ⟨S, rfl, fun i m => ⟨h2.1 i m, (h1 i (List.mem_cons_of_mem _ m)).2⟩, h2.2⟩
def barJ (n : Nat) (rows : List (List Int)) (d : D) : Prop := ∃ S N : List Int, d = .tup [.tup (S.map .int), .tup (N.map .int)] ∧ S.Pairwise (· < ·) ∧ InN n S ∧ S ≠ [] ∧ N.length = S.length ∧ (∀ v ∈ N, 0 ≤ v ∧ v ≤ (rows.length : Int) - 1) ∧ ∀ p ∈ S.zip N, nwB (rowOf rows (.int p.2)) p.1 S = true
noncomputable def barB (n : Nat) (rows : List (List Int)) (d : D) : Bool := @decide (barJ n rows d) (Classical.propDecidable _)
theorem barB_of {n : Nat} {rows : List (List Int)} {d : D} {b : Bool} (h : b = true ↔ barJ n rows d) : barB n rows d = b := by
  unfold barB
  rw [Bool.eq_iff_iff, @decide_eq_true_iff _ (Classical.propDecidable _)]; exact h.symm
theorem barB_no {n : Nat} {rows : List (List Int)} {d : D} (h : ∀ a b, d ≠ .tup [.tup a, .tup b]) : barB n rows d = false := barB_of (b := false) ⟨fun z => (by cases z), fun ⟨S, N, e, _⟩ => absurd e (h _ _)⟩
theorem mem_zip_r {α β : Type} : ∀ {a : List α} {b : List β} {y : β}, y ∈ b → b.length = a.length → ∃ x, (x, y) ∈ a.zip b
  | [], b :: bs, y, m, l => by simp at l
  | x :: a, b :: bs, y, m, l => by
    rcases List.mem_cons.mp m with rfl | m
    · exact ⟨x, List.mem_cons_self⟩
    · obtain ⟨x', h⟩ := mem_zip_r m (by simpa using l)
      exact ⟨x', List.mem_cons_of_mem _ h⟩
theorem pap_ints {rows : List (List Int)} {S ins : List Int} {ns : List D} : papB rows S ins (.tup ns) = true ↔ ∃ N : List Int, ns = N.map .int ∧ N.length = S.length ∧ (∀ v ∈ N, 0 ≤ v ∧ v ≤ (rows.length : Int) - 1) ∧ ∀ p ∈ S.zip N, nwB (rowOf rows (.int p.2)) p.1 ins = true := by
  have e : papB rows S ins (.tup ns) = (decide (ns.length = S.length) && (S.zip ns).all fun p => papP rows ins p.1 p.2) := rfl
  rw [e, Bool.and_eq_true, decide_eq_true_iff, List.all_eq_true]
  constructor
  · rintro ⟨h1, h2⟩
    have ai : ∀ x ∈ ns, ∃ v : Int, x = .int v ∧ 0 ≤ v ∧ v ≤ (rows.length : Int) - 1 := fun x m => by
      obtain ⟨i, mz⟩ := mem_zip_r m h1
      have := h2 _ mz
      unfold papP at this
      rw [Bool.and_eq_true] at this
      have t := this.1
      cases x with
      | int v => exact ⟨v, rfl, by simpa [intIn] using t⟩
      | _ => simp [intIn] at t
    obtain ⟨N, rfl⟩ : ∃ N : List Int, ns = N.map .int := by
      clear h1 h2 e
      induction ns with
      | nil => exact ⟨[], rfl⟩
      | cons x ns ih =>
        obtain ⟨v, rfl, _⟩ := ai x List.mem_cons_self
        obtain ⟨N, rfl⟩ := ih fun x m => ai x (List.mem_cons_of_mem _ m)
        exact ⟨v :: N, rfl⟩
    refine ⟨N, rfl, by simpa using h1, fun v m => ?_, fun p m => ?_⟩
    · obtain ⟨u, e, hu⟩ := ai (.int v) (List.mem_map.mpr ⟨v, m, rfl⟩)
      injection e with e; subst e; exact hu
    · have := h2 (p.1, .int p.2) (by rw [List.zip_map_right]; exact List.mem_map.mpr ⟨p, m, rfl⟩)
      unfold papP at this
      rw [Bool.and_eq_true] at this
      exact this.2
  · rintro ⟨N, rfl, h1, h2, h3⟩
    refine ⟨by simpa using h1, fun p m => ?_⟩
    rw [List.zip_map_right] at m
    obtain ⟨q, mq, rfl⟩ := List.mem_map.mp m
    have := h2 _ (List.of_mem_zip mq).2
    unfold papP
    rw [Bool.and_eq_true]
    exact ⟨by simp [intIn]; omega, h3 q mq⟩
theorem map_int_inj {a b : List Int} (h : a.map D.int = b.map D.int) : a = b := (List.map_inj_right int_inj).mp h
theorem is_row_bar_ok {n : Nat} {rows : List (List Int)} {d : D} (hn : n ≤ 100) (hl : rows.length ≤ 1000) (hr : Rect n rows) (pd : pl d = true) : WpR (m_is_row_bar [.int (n : Int), .tup (rowsD rows), d]) (BlQ (barB n rows d)) := by
  refine wpr_mk rfl ?_
  unfold b_is_row_bar startE
  cases d with
  | tup xs =>
    have px : pls xs = true := pd
    match xs, px with
    | [], _ => simp [BlQ]; rw [barB_no]; intro a b h; cases h
    | [a], _ => simp [BlQ]; rw [barB_no]; intro a b h; cases h
    | a :: b :: c :: t, _ =>
      have l2 : ¬ ((t.length : Int) + 1 + 1 + 1 = 2) := by omega
      simp [BlQ, l2]; rw [barB_no]; intro a b h; cases h
    | [a, b], px =>
      have pa : pl a = true := by simp at px; exact px.1
      have pb : pl b = true := by simp at px; exact px.2
      simp [px, ice_pl pa, pa, pb]
      refine (are_ascending_ok pa ((n : Int) - 1)).bq ?_
      by_cases h : ascD a ((n : Int) - 1) = true
      · cases a with
        | tup xa =>
          obtain ⟨S, rfl, h1, h2⟩ := asc_ints.mp (show ascL _ _ _ = true from h)
          have hS : InN n S := fun i m => by have := h1 i m; omega
          by_cases c : S = []
          · subst c
            have hb : barB n rows (.tup [.tup (([] : List Int).map .int), b]) = false := by
              refine barB_of ⟨fun z => (by cases z), ?_⟩
              rintro ⟨S, N, e, _, _, h5, _⟩
              injection e with e; injection e with e _; injection e with e
              exact absurd (map_int_inj (a := []) e).symm h5
            simp at hb h
            simp [h, BlQ, hb]
          · have cl : S.isEmpty = false := by simpa using c
            simp [h, cl, ice_pl pb]
            refine (papers_ok (ins := S) hn hl hr hS pb).bq ?_
            simp [BlQ]
            symm
            refine barB_of ?_
            cases b with
            | tup ns =>
              rw [pap_ints]
              constructor
              · rintro ⟨N, rfl, q1, q2, q3⟩
                exact ⟨S, N, rfl, h2, hS, c, q1, q2, q3⟩
              · rintro ⟨S', N, e, _, _, _, q1, q2, q3⟩
                injection e with e; injection e with e e2; injection e2 with e2; injection e with e; injection e2 with e2
                have := map_int_inj e
                subst this
                exact ⟨N, e2, q1, q2, q3⟩
            | _ =>
              refine ⟨fun z => (by cases z), ?_⟩
              rintro ⟨S', N, e, _⟩
              simp at e
        | _ => cases h
      · have hb : barB n rows (.tup [a, b]) = false := by
          refine barB_of ⟨fun z => (by cases z), ?_⟩
          rintro ⟨S, N, e, q1, q2, _⟩
          injection e with e; injection e with e _
          subst e
          exact absurd (asc_ints.mpr ⟨S, rfl, fun i m => by have := q2 i m; omega, q1⟩) h
        simp [h, BlQ, hb]
  | _ => simp [BlQ]; rw [barB_no]; intro a b h; cases h
end K18

set_option autoImplicit false
namespace K18
open PySem PySem.Spec L2 Pm 
def ok01 (most : Int) : D → Bool
  | .int i => decide (0 ≤ i) && decide (i ≤ most)
  | _ => false
@[simp] theorem ok01_non {most : Int} : ok01 most .non = false := rfl
@[simp] theorem ok01_bl {most : Int} {b : Bool} : ok01 most (.bl b) = false := rfl
@[simp] theorem ok01_str {most : Int} {b : Str} : ok01 most (.str b) = false := rfl
@[simp] theorem ok01_tup {most : Int} {b : List D} : ok01 most (.tup b) = false := rfl
@[simp] theorem ok01_lst {most : Int} {b : List D} : ok01 most (.lst b) = false := rfl
@[simp] theorem ok01_own {most : Int} {b : List D} : ok01 most (.own b) = false := rfl
def intsB (most : Int) : D → Bool
  | .tup xs => xs.all (ok01 most)
  | _ => false
theorem integers_ok {d : D} (pd : pl d = true) (most : Int) : WpR (m_law_integers [d, .int most]) (BlQ (intsB most d)) := by
  refine wpr_mk rfl ?_
  unfold b_law_integers startE
  cases d with
  | tup xs =>
    have px : pls xs = true := pd
    simp [px]
    refine lz_scan (ok01 most) (fun w => ∃ x, w = [some (.tup (xs)), some (.int (most)), x]) ⟨none, rfl⟩ ?_ ?_
    · rintro ha w ⟨x, rfl⟩
      simp [BlQ, intsB, ha]
    · rintro e me w ⟨x, rfl⟩
      have fin : ok01 most e = false → (xs.all (ok01 most) = false → BlQ (intsB most (.tup xs)) (.bl false) []) := fun _ h => by simp only [BlQ, intsB, h]; simp
      cases e with
      | int i =>
        by_cases h1 : i < 0
        · have z : ok01 most (.int i) = false := by simp [ok01]; omega
          simp [h1, z]
          simpa using fin z
        · by_cases h2 : most < i
          · have z : ok01 most (.int i) = false := by simp [ok01]; omega
            simp [h1, h2, z]
            simpa using fin z
          · simp [h1, h2, ok01]; omega
      | _ =>
        simp
        simpa using fin rfl
  | _ => simp [BlQ, intsB]
theorem over_iff {r S : List Int} : overB r S = true ↔ ∀ i : Int, 0 ≤ i → i < r.length → 0 < atR r i → i ∈ S := by
  unfold overB
  rw [List.all_eq_true]
  constructor
  · intro h i h1 h2 h3
    have hl : i.toNat < r.length := by omega
    have := h (r[i.toNat], i.toNat) (List.mem_zipIdx_iff_getElem?.mpr (List.getElem?_eq_getElem hl))
    have e : atR r i = r[i.toNat] := by unfold atR; rw [List.getD_eq_getElem?_getD, List.getElem?_eq_getElem hl]; rfl
    rw [e] at h3
    simp [h3] at this
    rw [show max i 0 = i by omega] at this
    exact this
  · intro h p m
    obtain ⟨_, h2, h3⟩ := List.mem_zipIdx m
    by_cases c : 0 < p.1
    · have hl : p.2 < r.length := by omega
      have e : atR r (p.2 : Int) = p.1 := by unfold atR; rw [List.getD_eq_getElem?_getD, Int.toNat_natCast, List.getElem?_eq_getElem hl, h3]; simp
      have := h (p.2 : Int) (by omega) (by omega) (by rw [e]; exact c)
      simp [this]
    · simp [c]
theorem bar_row_ok {n : Nat} {r S : List Int} {i : Int} (hr : r.length = n) (hi : 0 ≤ i ∧ i < n) (hl : n ≤ 1000) : WpR (m_law_is_bar_row [.tup (r.map .int), .tup (S.map .int), .int i]) (BlQ (nwB r i S)) := by
  refine wpr_mk rfl ?_
  unfold b_law_is_bar_row startE
  have sx : seqIx (r.map D.int) i = some (.int (atR r i)) := seqIx_at hi.1 (by omega)
  have rc : rngC (r.length : Int) = true := rngC_of (by omega) (by omega)
  by_cases h : atR r i < 0
  · simp [sx, h, rc, rngD_nat]
    refine cmp_pure (α := Int) (vs := [3]) D.int D.int (intsTo r.length) (fun i => !S.contains i && decide (0 < atR r i)) (fun j => [some (.tup ((r).map D.int)), some (.tup ((S).map D.int)), some (.int (i)), some (.int (j))]) (by rw [intsTo_len]; omega) (fun _ _ => rfl) (fun _ _ => rfl) (fun j m => ?_) (fun j m _ => by simp) fun w2 e el => ?_
    · have := intsTo_mem.mp m
      have sj : seqIx (r.map D.int) j = some (.int (atR r j)) := seqIx_at this.1 (by omega)
      by_cases h2 : j ∈ S
      · simp [dIn_ints (neg := true) (i := j) (s := S) (.inl rfl), h2]
      · simp [dIn_ints (neg := true) (i := j) (s := S) (.inl rfl), h2, sj]
    · simp at e el
      have ov : overB r S = decide (∀ a, a ∈ intsTo r.length → ¬a ∈ S → atR r a ≤ 0) := by
        rw [Bool.eq_iff_iff, over_iff, decide_eq_true_iff]
        constructor
        · intro h a m na
          have := intsTo_mem.mp m
          by_cases c : 0 < atR r a
          · exact absurd (h a this.1 this.2 c) na
          · omega
        · intro h a h1 h2 h3
          by_cases c : a ∈ S
          · exact c
          · have := h a (intsTo_mem.mpr ⟨h1, h2⟩) c; omega
      simp [e, el, BlQ, nwB, h, ov]
  · simp [sx, h, BlQ, nwB]
theorem asc_pw : ∀ {S : List Int}, (∀ k (hk : k < S.length), 0 < k → S[k - 1]'(by omega) < S[k]) → S.Pairwise (· < ·)
  | [], _ => List.Pairwise.nil
  | [a], _ => by simp
  | a :: b :: S, h => by
    have ih : (b :: S).Pairwise (· < ·) := asc_pw fun k hk h0 => by
      obtain ⟨k', rfl⟩ : ∃ k', k = k' + 1 := ⟨k - 1, by omega⟩
      have := h (k' + 2) (by simp at hk ⊢; omega) (by omega)
      simpa using this
    have ab : a < b := h 1 (by simp) (by omega)
    rw [List.pairwise_cons] at ih
    refine List.pairwise_cons.mpr ⟨fun i m => ?_, List.pairwise_cons.mpr ih⟩
    rcases List.mem_cons.mp m with rfl | m
    · exact ab
    · have := ih.1 i m; omega
def stepB (rows : List (List Int)) (S N : List Int) : D → Bool
  | .int i => (decide (i ≤ 0) || decide (atR S (i - 1) < atR S i)) && nwB (rowOf rows (.int (atR N i))) (atR S i) S
  | _ => false
theorem judge_ok {n : Nat} {rows : List (List Int)} {d : D} (hn : n ≤ 100) (hl : rows.length ≤ 1000) (hr : Rect n rows) (pd : pl d = true) (hz : ∀ a b, d = .tup [.tup a, b] → a.length ≤ 100000) : WpR (m_law_judge [.int (n : Int), .tup (rowsD rows), d]) (BlQ (barB n rows d)) := by
  refine wpr_mk rfl ?_
  unfold b_law_judge startE
  cases d with
  | tup xs =>
    have px : pls xs = true := pd
    match xs, px with
    | [], _ => simp [BlQ]; rw [barB_no]; intro a b h; cases h
    | [a], _ => simp [BlQ]; rw [barB_no]; intro a b h; cases h
    | a :: b :: c :: t, _ =>
      have l2 : ¬ ((t.length : Int) + 1 + 1 + 1 = 2) := by omega
      simp [BlQ, l2]; rw [barB_no]; intro a b h; cases h
    | [a, b], px =>
      have pa : pl a = true := by simp at px; exact px.1
      have pb : pl b = true := by simp at px; exact px.2
      have isIs : ∀ {most : Int} {d : D}, intsB most d = true → ∃ N : List Int, d = .tup (N.map .int) ∧ ∀ i ∈ N, 0 ≤ i ∧ i ≤ most := fun {most d} h => by
        cases d with
        | tup ns =>
          have h2 : ns.all (ok01 most) = true := h
          clear h
          induction ns with
          | nil => exact ⟨[], rfl, fun i m => by cases m⟩
          | cons x ns ih =>
            simp only [List.all_cons, Bool.and_eq_true] at h2
            obtain ⟨N, e, h3⟩ := ih h2.2
            injection e with e
            cases x with
            | int v =>
              refine ⟨v :: N, by rw [e]; rfl, fun i m => ?_⟩
              rcases List.mem_cons.mp m with rfl | m
              · simpa [ok01] using h2.1
              · exact h3 i m
            | _ => exact absurd h2.1 (by simp [ok01])
        | _ => cases h
      have no : ¬ (∃ S N : List Int, a = .tup (S.map .int) ∧ b = .tup (N.map .int) ∧ InN n S ∧ ∀ v ∈ N, 0 ≤ v ∧ v ≤ (rows.length : Int) - 1) → barB n rows (.tup [a, b]) = false := fun h => barB_of ⟨fun z => (by cases z), fun ⟨S, N, e, h1, h2, h3, h4, h5, h6⟩ => by
        injection e with e; injection e with e e2; injection e2 with e2
        exact absurd ⟨S, N, e, e2, h2, h5⟩ h⟩
      have ib : ∀ {most : Int} {N : List Int}, (∀ i ∈ N, 0 ≤ i ∧ i ≤ most) → intsB most (.tup (N.map .int)) = true := fun {most N} h => by
        show (N.map D.int).all (ok01 most) = true
        rw [List.all_map, List.all_eq_true]
        intro i m
        have := h i m
        simp [ok01]; omega
      simp [pa, pb]
      refine (integers_ok pa _).bq ?_
      by_cases ha : intsB ((n : Int) - 1) a = true
      · simp [ha, pa, pb]
        refine (integers_ok pb _).bq ?_
        by_cases hb : intsB ((rows.length : Int) - 1) b = true
        · obtain ⟨S, rfl, hS⟩ := isIs ha
          obtain ⟨N, rfl, hN⟩ := isIs hb
          have hS2 : InN n S := fun i m => by have := hS i m; omega
          have bj : barJ n rows (.tup [.tup (S.map .int), .tup (N.map .int)]) ↔ S.Pairwise (· < ·) ∧ S ≠ [] ∧ N.length = S.length ∧ ∀ p ∈ S.zip N, nwB (rowOf rows (.int p.2)) p.1 S = true := by
            constructor
            · rintro ⟨S', N', e, h1, h2, h3, h4, h5, h6⟩
              injection e with e; injection e with e e2; injection e2 with e2 _; injection e with e; injection e2 with e2
              have := map_int_inj e
              have := map_int_inj e2
              subst S'; subst N'
              exact ⟨h1, h3, h4, h6⟩
            · rintro ⟨h1, h3, h4, h6⟩
              exact ⟨S, N, rfl, h1, hS2, h3, h4, hN, h6⟩
          simp [ha, hb]
          by_cases c : S = []
          · have hb : barB n rows (.tup [.tup (S.map .int), .tup (N.map .int)]) = false := barB_of ⟨fun z => (by cases z), fun h => absurd c (bj.mp h).2.1⟩
            simp [c] at hb ⊢
            simp [BlQ, hb]
          by_cases c2 : N.length = S.length
          · have rc : rngC (S.length : Int) = true := rngC_of (by omega) (by
              have := hz _ _ rfl
              rw [List.length_map] at this
              omega)
            have c0 : S.isEmpty = false := by simpa using c
            simp [c, c2, rc, rngD_nat]
            have tot : barB n rows (.tup [.tup (S.map .int), .tup (N.map .int)]) = ((intsTo S.length).map D.int).all (stepB rows S N) := by
              refine barB_of ?_
              rw [bj, List.all_map, List.all_eq_true]
              have step : ∀ {k : Nat}, k < S.length → ((stepB rows S N ∘ D.int) (k : Int) = true ↔ (0 < k → S.getD (k - 1) 0 < S.getD k 0) ∧ nwB (rowOf rows (.int (N.getD k 0))) (S.getD k 0) S = true) := fun {k} hk => by
                show ((decide ((k : Int) ≤ 0) || decide (S.getD (((k : Int) - 1).toNat) 0 < S.getD ((k : Int).toNat) 0)) && nwB (rowOf rows (.int (N.getD ((k : Int).toNat) 0))) (S.getD ((k : Int).toNat) 0) S) = true ↔ _
                rw [show ((k : Int) - 1).toNat = k - 1 by omega, Int.toNat_natCast, Bool.and_eq_true, Bool.or_eq_true, decide_eq_true_iff, decide_eq_true_iff]
                constructor
                · rintro ⟨h1, h2⟩
                  exact ⟨fun h => h1.elim (fun z => by omega) id, h2⟩
                · rintro ⟨h1, h2⟩
                  refine ⟨?_, h2⟩
                  by_cases z : 0 < k
                  · exact .inr (h1 z)
                  · exact .inl (by omega)
              have gd : ∀ {l : List Int} {k : Nat} (hk : k < l.length), l.getD k 0 = l[k] := fun {l k} hk => by rw [List.getD_eq_getElem?_getD, List.getElem?_eq_getElem hk]; rfl
              constructor
              · intro h
                have h' : ∀ {k : Nat}, k < S.length → (0 < k → S.getD (k - 1) 0 < S.getD k 0) ∧ nwB (rowOf rows (.int (N.getD k 0))) (S.getD k 0) S = true := fun {k} hk => (step hk).mp (h (k : Int) (intsTo_mem.mpr ⟨by omega, by omega⟩))
                refine ⟨asc_pw fun k hk h0 => ?_, c, c2, fun p m => ?_⟩
                · have := (h' hk).1 h0
                  rw [gd hk, gd (show k - 1 < S.length by omega)] at this; exact this
                · obtain ⟨k, hk, rfl⟩ := List.mem_iff_getElem.mp m
                  rw [List.length_zip] at hk
                  have := (h' (show k < S.length by omega)).2
                  rw [gd (show k < S.length by omega), gd (show k < N.length by omega)] at this
                  rw [List.getElem_zip]; exact this
              · rintro ⟨h1, _, _, h4⟩ i m
                obtain ⟨m1, m2⟩ := intsTo_mem.mp m
                obtain ⟨k, rfl⟩ : ∃ k : Nat, i = (k : Int) := ⟨i.toNat, by omega⟩
                have hk : k < S.length := by omega
                refine (step hk).mpr ⟨fun h0 => ?_, ?_⟩
                · rw [gd hk, gd (show k - 1 < S.length by omega)]
                  exact List.pairwise_iff_getElem.mp h1 _ _ _ _ (by omega)
                · have := h4 (S[k], N[k]) (List.mem_iff_getElem.mpr ⟨k, by rw [List.length_zip]; omega, by rw [List.getElem_zip]⟩)
                  rw [gd hk, gd (show k < N.length by omega)]; exact this
            refine lz_scan (stepB rows S N) (fun w => ∃ x, w = [some (.int (n)), some (.tup (rowsD (rows))), some (.tup ([D.tup (S.map .int), D.tup (N.map .int)])), some (.tup ((S).map D.int)), x]) ⟨none, rfl⟩ ?_ ?_
            · rintro ha w ⟨x, rfl⟩
              rw [ha] at tot
              simp [BlQ, tot]
            · rintro e me w ⟨x, rfl⟩
              obtain ⟨i, m, rfl⟩ := List.mem_map.mp me
              obtain ⟨m1, m2⟩ := intsTo_mem.mp m
              have hk : i.toNat < S.length := by omega
              have gd : ∀ {l : List Int} {k : Nat} (hk : k < l.length), l.getD k 0 = l[k] := fun {l k} hk => by rw [List.getD_eq_getElem?_getD, List.getElem?_eq_getElem hk]; rfl
              have sS : seqIx (S.map D.int) i = some (.int (atR S i)) := seqIx_at m1 (by omega)
              have sN : seqIx (N.map D.int) i = some (.int (atR N i)) := seqIx_at m1 (by omega)
              have inS : atR S i ∈ S := by unfold atR; rw [gd hk]; exact List.getElem_mem hk
              have inN : atR N i ∈ N := by unfold atR; rw [gd (show i.toNat < N.length by omega)]; exact List.getElem_mem _
              have vN := hN _ inN
              obtain ⟨g1, g2⟩ := rowsD_at2 vN.1 vN.2
              have sb : stepB rows S N (.int i) = ((decide (i ≤ 0) || decide (atR S (i - 1) < atR S i)) && nwB (rowOf rows (.int (atR N i))) (atR S i) S) := rfl
              have fin : ((List.map D.int (intsTo S.length)).all (stepB rows S N) = false → barB n rows (.tup [.tup (S.map .int), .tup (N.map .int)]) = false) := fun h => by rw [tot, h]
              have fin2 : ∀ a, a ∈ intsTo S.length → stepB rows S N (.int a) = false → barB n rows (.tup [.tup (S.map .int), .tup (N.map .int)]) = false := fun a m z => fin (List.all_eq_false.mpr ⟨_, List.mem_map.mpr ⟨a, m, rfl⟩, by simp [z]⟩)
              have rest : Wp (tNotF (tTru (xCal 3 [] m_law_is_bar_row (xCons (x2vg dIx 1 (x2gp dIx (x2vg dIx 2 (xC (D.int 1))) (qV 4))) (xCons (xI 3) (xCons (x2pp dIx (qV 3) (qV 4)) xNil))))) [some (.int (n)), some (.tup (rowsD (rows))), some (.tup ([D.tup (S.map .int), D.tup (N.map .int)])), some (.tup ((S).map D.int)), some (.int (i))]) fun b w => b = !nwB (rowOf rows (.int (atR N i))) (atR S i) S ∧ w = [some (.int (n)), some (.tup (rowsD (rows))), some (.tup ([D.tup (S.map .int), D.tup (N.map .int)])), some (.tup ((S).map D.int)), some (.int (i))] := by
                simp [sS, sN, g1]
                refine (bar_row_ok (hr _ g2) (hS2 _ inS) (by omega)).bq ?_
                simp
              by_cases z : 0 < i
              · have sP : seqIx (S.map D.int) (i - 1) = some (.int (atR S (i - 1))) := seqIx_at (by omega) (by omega)
                by_cases z2 : atR S i ≤ atR S (i - 1)
                · have : stepB rows S N (.int i) = false := by rw [sb]; simp; omega
                  simp [z, sS, sP, z2, this]
                  intro a m z
                  simp [BlQ, fin2 a m z]
                · have sb2 : stepB rows S N (.int i) = nwB (rowOf rows (.int (atR N i))) (atR S i) S := by rw [sb]; simp; omega
                  simp only [lz_nm, List.length_cons, List.length_nil, List.set_cons_succ, List.set_cons_zero]
                  refine ⟨by omega, ?_⟩
                  refine wp_mid (fun w => w = [some (.int (n)), some (.tup (rowsD (rows))), some (.tup ([D.tup (S.map .int), D.tup (N.map .int)])), some (.tup ((S).map D.int)), some (.int (i))]) (by simp [z, sS, sP, z2]) ?_
                  rintro w rfl
                  rw [lz_If]
                  refine rest.mono ?_
                  rintro b w ⟨rfl, rfl⟩
                  cases h : nwB (rowOf rows (.int (atR N i))) (atR S i) S with
                  | true => simp [sb2, h]
                  | false =>
                    simp [sb2, h]
                    intro a m z
                    simp [BlQ, fin2 a m z]
              · have sb2 : stepB rows S N (.int i) = nwB (rowOf rows (.int (atR N i))) (atR S i) S := by rw [sb]; simp; omega
                simp only [lz_nm, List.length_cons, List.length_nil, List.set_cons_succ, List.set_cons_zero]
                refine ⟨by omega, ?_⟩
                refine wp_mid (fun w => w = [some (.int (n)), some (.tup (rowsD (rows))), some (.tup ([D.tup (S.map .int), D.tup (N.map .int)])), some (.tup ((S).map D.int)), some (.int (i))]) (by simp [z]) ?_
                rintro w rfl
                rw [lz_If]
                refine rest.mono ?_
                rintro b w ⟨rfl, rfl⟩
                cases h : nwB (rowOf rows (.int (atR N i))) (atR S i) S with
                | true => simp [sb2, h]
                | false =>
                  simp [sb2, h]
                  intro a m z
                  simp [BlQ, fin2 a m z]
          · have hb : barB n rows (.tup [.tup (S.map .int), .tup (N.map .int)]) = false := barB_of ⟨fun z => (by cases z), fun h => absurd (bj.mp h).2.2.1 c2⟩
            have c3 : ¬ (S.length : Int) = N.length := by omega
            simp [c, c3, BlQ, hb]
        · simp [ha, hb, BlQ]
          rw [no]
          rintro ⟨S, N, rfl, rfl, h1, h2⟩
          exact hb (ib h2)
      · simp [ha, BlQ]
        rw [no]
        rintro ⟨S, N, rfl, rfl, h1, h2⟩
        exact ha (ib fun i m => by have := h1 i m; omega)
  | _ => simp [BlQ]; rw [barB_no]; intro a b h; cases h
end K18

set_option autoImplicit false
namespace K18
open PySem PySem.Spec L2 Pm 
theorem rest_le {n : Nat} {rows : List (List Int)} : (restL n rows).length ≤ n := by
  have := List.length_filter_le (fun i => !(reachL n rows).contains i) (intsTo n)
  rw [intsTo_len] at this; exact this
theorem barAt_lt {n : Nat} {rows : List (List Int)} {i : Int} (h : i ∈ restL n rows) : barAt n rows i < rows.length := by
  obtain ⟨r, m, hr⟩ := rest_bars h
  exact List.findIdx_lt_length_of_exists ⟨r, m, hr⟩
theorem same_bar_ok {n : Nat} {rows : List (List Int)} (hn : n ≤ 6) (hl : rows.length ≤ 200) : WpR (m_law_same_bar [barD n rows, barD n rows]) (BlQ true) := by
  refine wpr_mk rfl ?_
  unfold b_law_same_bar startE
  by_cases c : restL n rows = []
  · simp [barD, c, BlQ]
  · obtain ⟨N, hN⟩ : ∃ N : List Int, N = (restL n rows).map fun i => ((barAt n rows i : Nat) : Int) := ⟨_, rfl⟩
    have rd : barD n rows = .tup [.tup ((restL n rows).map .int), .tup (N.map .int)] := by
      unfold barD; rw [if_neg c, hN, List.map_map]; rfl
    have iN : ∀ v ∈ N, 0 ≤ v ∧ v ≤ (199 : Int) := fun v m => by
      rw [hN] at m
      obtain ⟨i, mi, rfl⟩ := List.mem_map.mp m
      have := barAt_lt mi
      omega
    have iR : ∀ v ∈ restL n rows, 0 ≤ v ∧ v ≤ (5 : Int) := fun v m => by
      have := (rest_mem.mp m).1; omega
    have ib : ∀ {most : Int} {N : List Int}, (∀ i ∈ N, 0 ≤ i ∧ i ≤ most) → intsB most (.tup (N.map .int)) = true := fun {most N} h => by
      show (N.map D.int).all (ok01 most) = true
      rw [List.all_map, List.all_eq_true]
      intro i m
      have := h i m
      simp [ok01]; omega
    rw [rd]
    generalize restL n rows = R at iR
    simp
    refine (integers_ok (by simp) 5).bq ?_
    simp [ib iR]
    refine (integers_ok (by simp) 199).bq ?_
    simp [ib iN, dEq_tup, BlQ]
theorem says_ok {n : Nat} {rows : List (List Int)} {d : D} {b : Bool} {c0 c1 : Int} (hn : n ≤ 100) (hl : rows.length ≤ 1000) (hr : Rect n rows) (pd : pl d = true) (hz : ∀ a b, d = .tup [.tup a, b] → a.length ≤ 100000) (hb : barB n rows d = b) : WpR (m_law_says [.int (n : Int), .tup (rowsD rows), d, .bl b, .own [.int c0, .int c1]])
    fun r os => r = .bl true ∧ os = [.own [.int (if b = true then c0 else c0 + 1), .int (if b = true then c1 + 1 else c1)]] := by
  refine wpr_mk rfl ?_
  unfold b_law_says
  rw [show startE 6 [.int (n : Int), .tup (rowsD rows), d, .bl b, .own [.int c0, .int c1]] = [some (.int (n)), some (.tup (rowsD (rows))), some d, some (.bl (b)), some (.own ([D.int c0, D.int c1])), none] from rfl]
  refine wp_mid (fun w => w = [some (.int (n)), some (.tup (rowsD (rows))), some d, some (.bl (b)), some (.own ([D.int (if b = true then c0 else c0 + 1), D.int (if b = true then c1 + 1 else c1)])), none]) (by cases b <;> simp) ?_
  rintro w rfl
  generalize (if b = true then c0 else c0 + 1) = e0
  generalize (if b = true then c1 + 1 else c1) = e1
  simp [ice_pl pd]
  refine (is_row_bar_ok hn hl hr pd).bq ?_
  rw [hb]
  simp [ice_pl pd]
  refine (judge_ok hn hl hr pd hz).bq ?_
  rw [hb]
  simp
theorem bar_over {n : Nat} {rows : List (List Int)} {r : List Int} {i : Int} (hr : r.length = n) (h : (nt r (reachL n rows) && decide (atR r i < 0)) = true) : nwB r i (restL n rows) = true := by
  rw [Bool.and_eq_true] at h
  unfold nwB
  rw [h.2, Bool.true_and, over_iff]
  intro j h1 h2 h3
  refine rest_mem.mpr ⟨⟨h1, by omega⟩, fun m => ?_⟩
  have := nt_iff.mp h.1 j m
  omega
def LastQ (n : Nat) (rows : List (List Int)) : D → List D → Prop := fun d os => os = [] ∧ ∃ N : List Int, d = .tup [.tup ((restL n rows).map .int), .tup (N.map .int)] ∧ N.length = (restL n rows).length ∧ (∀ v ∈ N, 0 ≤ v ∧ v ≤ (rows.length : Int) - 1) ∧ ∀ p ∈ (restL n rows).zip N, nwB (rowOf rows (.int p.2)) p.1 (restL n rows) = true
theorem last_rows_ok {n : Nat} {rows : List (List Int)} (hn : n ≤ 100) (hl : rows.length ≤ 1000) (hr : Rect n rows) : WpR (m_law_last_rows [.int (n : Int), .tup (rowsD rows)]) (LastQ n rows) := by
  have rc : rngC (n : Int) = true := rngC_of (by omega) (by omega)
  have rc2 : rngC (rows.length : Int) = true := rngC_of (by omega) (by omega)
  refine wpr_mk rfl ?_
  unfold b_law_last_rows
  rw [show startE 8 [.int (n : Int), .tup (rowsD rows)] = [some (.int (n)), some (.tup (rowsD (rows))), none, none, none, none, none, none] from rfl]
  have il : (intsTo n).length ≤ 100000 := by rw [intsTo_len]; omega
  obtain ⟨A, hA⟩ : ∃ A, A = (G n rows).flatten := ⟨_, rfl⟩
  have pA : (reachL n rows).Perm A := by rw [hA]; exact reach_perm
  refine wp_mid (fun w => w = [some (.int (n)), some (.tup (rowsD (rows))), some (.own ((A).map D.int)), none, none, none, none, none]) ?_ ?_
  · simp
    refine (law_reach_ok hn hl hr).dq ?_
    rw [← hA]
  rintro w rfl
  have rA : restL n rows = (intsTo n).filter fun i => !A.contains i := by
    have cA : ∀ i, (reachL n rows).contains i = A.contains i := fun i => by
      rw [Bool.eq_iff_iff, List.contains_iff_mem, List.contains_iff_mem]; exact pA.mem_iff
    unfold restL; simp only [cA]
  refine wp_mid (fun w => w = [some (.int (n)), some (.tup (rowsD (rows))), some (.own ((A).map D.int)), some (.tup ((restL n rows).map D.int)), none, none, none, none]) ?_ ?_
  · simp [rc, rngD_nat]
    refine cmp_pure D.int D.int (intsTo n) (fun i => !A.contains i) (fun i => [some (.int (n)), some (.tup (rowsD (rows))), some (.own ((A).map D.int)), none, none, some (.int (i)), none, none]) il (fun _ _ => rfl) (fun _ _ => rfl) (fun i m => ?_) (fun i m _ => by simp) fun w2 e el => ?_
    · simp [dIn_ints (neg := true) (i := i) (s := A) (.inr (.inr rfl))]
    · simp at e el
      simp [e, el, rA]
  rintro w rfl
  unfold LastQ
  have ra := fun i (h : i ∈ restL n rows) => rest_bars h
  have ro := fun i r (m : r ∈ rows) h => bar_over (rows := rows) (i := i) (hr r m) h
  have rm := fun i (h : i ∈ restL n rows) => (rest_mem.mp h).1
  have rl := rest_le (n := n) (rows := rows)
  generalize restL n rows = R at ra ro rm rl
  simp
  refine lz_for (fun k w => ∃ x y z, ∃ N : List Int, w = [some (.int (n)), some (.tup (rowsD (rows))), some (.own ((A).map D.int)), some (.tup ((R).map D.int)), some (.own ((N).map D.int)), x, y, z] ∧ N.length = k ∧ (∀ v ∈ N, 0 ≤ v ∧ v ≤ (rows.length : Int) - 1) ∧ ∀ p ∈ R.zip N, nwB (rowOf rows (.int p.2)) p.1 R = true) ⟨none, none, none, [], rfl, rfl, (fun v m => by cases m), by simp⟩ ?_ ?_
  · rintro w ⟨x, y, z, N, rfl, h1, h2, h3⟩
    rw [List.length_map] at h1
    simp
    exact ⟨N, rfl, h1, h2, fun a b m => h3 (a, b) m⟩
  · rintro k d w hk ⟨x, y, z, N, rfl, h1, h2, h3⟩
    obtain ⟨hk', rfl⟩ := ints_at hk
    have mk := List.getElem_mem hk'
    have zz : ∀ v : Int, ∀ p ∈ R.zip (N ++ [v]), p ∈ R.zip N ∨ p = (R[k], v) := fun v p m => by
      subst h1
      rw [zip_snoc hk'] at m
      rcases List.mem_append.mp m with m | m
      · exact .inl m
      · exact .inr (List.mem_singleton.mp m)
    generalize R[k] = i at mk zz
    have im := rm i mk
    simp [rc2, rngD_nat]
    refine cmp_pure (α := Int) (vs := [7]) D.int D.int (intsTo rows.length) (fun j => nwB (rowOf rows (.int j)) i R) (fun j => [some (.int (n)), some (.tup (rowsD (rows))), some (.own ((A).map D.int)), some (.tup ((R).map D.int)), some (.own ((N).map D.int)), some (.int (i)), y, some (.int (j))]) (by rw [intsTo_len]; omega) (fun _ _ => rfl) (fun _ _ => rfl) (fun j m => ?_) (fun j m _ => by simp) fun w2 e el => ?_
    · have jm := intsTo_mem.mp m
      obtain ⟨g1, g2⟩ := rowsD_at2 (rows := rows) jm.1 (by omega)
      simp [g1]
      refine (bar_row_ok (hr _ g2) im (by omega)).bq ?_
      simp
    · simp at e el
      have fm : ∀ j, j ∈ (intsTo rows.length).filter (fun j => nwB (rowOf rows (.int j)) i R) → (0 ≤ j ∧ j < rows.length) ∧ nwB (rowOf rows (.int j)) i R = true := fun j m => by
        obtain ⟨m1, m2⟩ := List.mem_filter.mp m
        exact ⟨intsTo_mem.mp m1, m2⟩
      have ne : (intsTo rows.length).filter (fun j => nwB (rowOf rows (.int j)) i R) ≠ [] := by
        obtain ⟨r, m, hb⟩ := ra i mk
        obtain ⟨j, hj, rfl⟩ := List.mem_iff_getElem.mp m
        refine List.ne_nil_of_mem (a := (j : Int)) (List.mem_filter.mpr ⟨intsTo_mem.mpr ⟨by omega, by omega⟩, ?_⟩)
        have e : rowOf rows (.int (j : Int)) = rows[j] := by
          show rows.getD ((j : Int)).toNat [] = _
          rw [Int.toNat_natCast, List.getD_eq_getElem?_getD, List.getElem?_eq_getElem hj]; rfl
        rw [e]; exact ro i _ m hb
      generalize (intsTo rows.length).filter (fun j => nwB (rowOf rows (.int j)) i R) = F at fm ne
      obtain ⟨v, hv⟩ : ∃ v, F.getLast? = some v := by
        rw [List.getLast?_eq_some_getLast ne]; exact ⟨_, rfl⟩
      have sl : seqIx (F.map D.int) (-1) = some (.int v) := seqIx_last hv
      have mv : v ∈ F := List.mem_of_getLast? hv
      have hv2 := fm v mv
      simp [e, el, sl, line' (show N.length < 1000000 by omega)]
      refine ⟨_, _, _, N ++ [v], ⟨by simp, rfl, rfl, rfl⟩, by simp [h1], fun u m => ?_, fun a b m => ?_⟩
      · rcases List.mem_append.mp m with m | m
        · exact h2 u m
        · rw [List.mem_singleton.mp m]; omega
      · rcases zz v (a, b) m with m | m
        · exact h3 _ m
        · cases m; exact hv2.2
end K18

set_option autoImplicit false
namespace K18
open PySem PySem.Spec L2 Pm 
theorem plain_ok {f : D} (hf : Fd f) {n : Nat} (h2 : n ≤ 1000) : WpR (m_law_plain [f, .int (n : Int)]) (RQ fun r => r.length = n ∧ ∀ i, 0 ≤ atR r i) := by
  refine wpr_mk rfl ?_
  unfold b_law_plain startE
  have rc : rngC (n : Int) = true := rngC_of (by omega) (by omega)
  simp [rc]
  refine cmp_draw D.int (fun _ v => 0 ≤ v) (fun f => [some f, some (.int (n)), none]) hf rfl (by rw [rngD_len]; omega) ?_ ?_
  · intro i d f hi hf
    simp [hf]
    refine (draw_ok hf (by decide) (by decide)).draw fun v f h0 h1 hf => ?_
    simp [hf]
    refine (size_ok hf).size fun u f h2 h3 hf => ?_
    have e1 : mulC v u = true := mulC_s (by omega) (by omega) (by omega) (by omega)
    simp [e1, Int.mul_nonneg h0 (show 0 ≤ u by omega), hf]
  · intro l f w2 hl hp hf e el
    simp at e el
    simp [e, el]
    refine ⟨l, f, rfl, rfl, hf, by simpa [rngD_len] using hl, fun i => ?_⟩
    unfold atR
    rw [List.getD_eq_getElem?_getD]
    by_cases c : i.toNat < l.length
    · rw [List.getElem?_eq_getElem c]; exact hp _ c
    · rw [List.getElem?_eq_none (by omega)]; exact Int.le_refl 0
def OutP (S r : List Int) : Prop := ∀ i : Int, 0 ≤ i → i < r.length → i ∉ S → atR r i ≤ 0
theorem nw_iff {r S : List Int} {i : Int} : nwB r i S = true ↔ atR r i < 0 ∧ OutP S r := by
  unfold nwB
  rw [Bool.and_eq_true, decide_eq_true_iff, over_iff]
  constructor
  · rintro ⟨h1, h2⟩
    refine ⟨h1, fun j h3 h4 h5 => ?_⟩
    by_cases c : 0 < atR r j
    · exact absurd (h2 j h3 h4 c) h5
    · omega
  · rintro ⟨h1, h2⟩
    refine ⟨h1, fun j h3 h4 h5 => ?_⟩
    by_cases c : j ∈ S
    · exact c
    · have := h2 j h3 h4 c; omega
theorem OutP.set {S r : List Int} {i v : Int} (h : OutP S r) (hi : 0 ≤ i) (hS : i ∈ S) : OutP S (r.set i.toNat v) := fun j h1 h2 h3 => by
  rw [atR_set hi h1, if_neg (fun z : i = j ∧ i < (r.length : Int) => h3 (z.1 ▸ hS))]
  exact h j h1 (by simpa using h2) h3
def TagP (n : Nat) (S : List Int) (s0 s1 : Int) (t : Int) (r : List Int) : Prop :=
  r.length = n ∧ (0 ≤ t → t < S.length → nwB r (atR S t) S = true) ∧ (t = S.length → nwB r (atR S s0) S = true) ∧ (t = S.length + 1 → S.length < n → nwB r (atR S s1) S = false) ∧ (t = S.length + 2 → ∀ i, nwB r i S = false) ∧ (t = S.length + 4 → ∀ i ∈ S, nwB r i S = true) ∧ 0 ≤ t ∧ t ≤ S.length + 4
def tagD (p : Int × List Int) : D := .tup [.int p.1, .tup (p.2.map .int)]
theorem pl_tags {l : List (Int × List Int)} : pls (l.map tagD) = true := pls_map (fun p => by simp [tagD]) l
def Asc (n : Nat) (S : List Int) : Prop := S.Pairwise (· < ·) ∧ InN n S ∧ S ≠ []
theorem atR_in {S : List Int} {t : Int} (h : 0 ≤ t) (h2 : t < S.length) : atR S t ∈ S := by
  have hl : t.toNat < S.length := by omega
  unfold atR
  rw [List.getD_eq_getElem?_getD, List.getElem?_eq_getElem hl]
  exact List.getElem_mem hl
theorem ixN_in {S : List Int} {n : Nat} {i : Int} (h : InN n S) (m : i ∈ S) : ixN n i = some i.toNat := ixN_at (h i m).1 (h i m).2
theorem tag_loop {n : Nat} {S : List Int} {s0 s1 : Int} {w0 : D} (hn : n ≤ 6) (hS : InN n S) (hne : S.length ≤ n) (h0 : 0 ≤ s0 ∧ s0 < S.length) (h1 : 0 ≤ s1 ∧ s1 < S.length) {tg : List (Int × List Int)} {t : Nat} (ht : t < S.length + 2) (hl : tg.length ≤ 1000) {f : D} (hf : Fd f) {a b c d e : Option D} {J : Ev → Prop} {QS : Fl → Ev → Prop}
    (k : ∀ f r b c d, Fd f → TagP n S s0 s1 t r → J [some f, some (.int (n)), some (.tup ((S).map D.int)), some w0, some (.own (([s0, s1]).map D.int)), some (.own ((tg ++ [((t : Int), r)]).map tagD)), some (.int ((t : Nat))), b, a, none, none, none, c, none, d, none]) : Wp ((sSeq (sSet 12 (xIf (tBl (x2vg dEq 6 (x1p dLen (qV 2)))) (x2vg dIx 2 (x2vg dIx 4 (xC (.int 0)))) (xIf (tBl (x2vg dGt 6 (x1p dLen (qV 2)))) (x2vg dIx 2 (x2vg dIx 4 (xC (.int 1)))) (x2pp dIx (qV 2) (qV 6))))) (sSeq (sSet 7 (xComp [none] (iW qR1 (xCons (xP (qV 1)) xNil)) (.nm 13) tYesF (x2gg dMul (x1g dNeg (xCal 1 [some 0] m_law_size (xZ 0 xNil))) (xCal 2 [some 0] m_law_draw (xZ 0 (xCons (xC (.int 2)) xNil)))) [13])) (sSeq (sFor [some 2] (iW qG (xCons (xK 2) xNil)) (.nm 13) (sSetI 7 (x2gg dMul (x2gg dSub (xCal 2 [some 0] m_law_draw (xZ 0 (xCons (xC (.int 3)) xNil))) (xC (.int 1))) (xCal 1 [some 0] m_law_size (xZ 0 xNil))) (xP (qV 13)))) (sSeq (sSetI 7 (x1g dNeg (xCal 1 [some 0] m_law_size (xZ 0 xNil))) (xP (qV 12))) (sSeq (sSet 14 (xComp [none] (iW qR1 (xCons (xP (qV 1)) xNil)) (.nm 13) (tBl (x2pp (dIn true) (qV 13) (qV 2))) (xI 13) [13])) (sSeq (sIf (tAndF (tBl (x2vg dGt 6 (x1p dLen (qV 2)))) (tBl (x2gg dGt (x1p dLen (qV 14)) (xC (.int 0))))) (sSetI 7 (xCal 1 [some 0] m_law_size (xZ 0 xNil)) (x2vg dIx 14 (xCal 2 [some 0] m_law_draw (xZ 0 (xCons (x1p dLen (qV 14)) xNil))))) sNx) (sExpr (xApp 5 (xTup (xCons (xI 6) (xCons (x1p dTuple (qV 7)) xNil)))))))))))
      [some f, some (.int (n)), some (.tup ((S).map D.int)), some w0, some (.own (([s0, s1]).map D.int)), some (.own (tg.map tagD)), some (.int ((t : Nat))), b, a, none, none, none, c, d, e, none]) (loopQ J QS) := by
  have rc : rngC (n : Int) = true := rngC_of (by omega) (by omega)
  refine wp_mid (fun w => ∃ ρ, ρ ∈ S ∧ ((t : Int) < S.length → ρ = atR S t) ∧ ((t : Int) = S.length → ρ = atR S s0) ∧ ((t : Int) = S.length + 1 → ρ = atR S s1) ∧ w = [some f, some (.int (n)), some (.tup ((S).map D.int)), some w0, some (.own (([s0, s1]).map D.int)), some (.own (tg.map tagD)), some (.int ((t : Nat))), b, a, none, none, none, some (.int (ρ)), d, e, none]) ?_ ?_
  · have e0 := seqIx_at h0.1 h0.2
    have e1 := seqIx_at h1.1 h1.2
    by_cases c1 : (t : Int) = S.length
    · simp [c1, e0]
      exact ⟨_, atR_in h0.1 h0.2, rfl, (fun z => by omega), rfl⟩
    · by_cases c2 : (S.length : Int) < t
      · simp [c1, c2, e1]
        exact ⟨_, atR_in h1.1 h1.2, (fun z => by omega), (fun _ => rfl), rfl⟩
      · have et := seqIx_at (r := S) (i := (t : Int)) (by omega) (by omega)
        simp [c1, c2, et]
        exact ⟨_, atR_in (by omega) (by omega), (fun _ => rfl), (fun z => by omega), rfl⟩
  rintro w ⟨ρ, mρ, q1, q2, q3, rfl⟩
  refine wp_mid (fun w => ∃ f r, Fd f ∧ r.length = n ∧ (∀ i, atR r i ≤ 0) ∧ w = [some f, some (.int (n)), some (.tup ((S).map D.int)), some w0, some (.own (([s0, s1]).map D.int)), some (.own (tg.map tagD)), some (.int ((t : Nat))), some (.own ((r).map D.int)), a, none, none, none, some (.int (ρ)), none, e, none]) ?_ ?_
  · simp [rc]
    refine cmp_draw D.int (fun _ v => v ≤ 0) (fun f => [some f, some (.int (n)), some (.tup ((S).map D.int)), some w0, some (.own (([s0, s1]).map D.int)), some (.own (tg.map tagD)), some (.int ((t : Nat))), b, a, none, none, none, some (.int (ρ)), none, e, none]) hf rfl (by rw [rngD_len]; omega) ?_ ?_
    · intro i d f hi hf
      simp [hf]
      refine (size_ok hf).size fun u f h2 h3 hf => ?_
      simp [hf]
      refine (draw_ok hf (by decide) (by decide)).draw fun v f h4 h5 hf => ?_
      have e1 : mulC (-u) v = true := mulC_s (by omega) (by omega) (by omega) (by omega)
      have := Int.mul_nonneg (show 0 ≤ u by omega) h4
      simp [e1, hf, Int.neg_mul]
      omega
    · intro l f w2 hl hp hf e el
      simp at e el
      simp [e, el]
      refine ⟨f, hf, l, by simpa [rngD_len] using hl, fun i => ?_, rfl, rfl⟩
      unfold atR
      rw [List.getD_eq_getElem?_getD]
      by_cases c : i.toNat < l.length
      · rw [List.getElem?_eq_getElem c]; exact hp _ c
      · rw [List.getElem?_eq_none (by omega)]; exact Int.le_refl 0
  rintro w ⟨f, r, hf, hr, hr0, rfl⟩
  refine wp_mid (fun w => ∃ f r x, Fd f ∧ r.length = n ∧ OutP S r ∧ w = [some f, some (.int (n)), some (.tup ((S).map D.int)), some w0, some (.own (([s0, s1]).map D.int)), some (.own (tg.map tagD)), some (.int ((t : Nat))), some (.own ((r).map D.int)), a, none, none, none, some (.int (ρ)), x, e, none]) ?_ ?_
  · simp
    refine lz_for (fun _ w => ∃ f r x, Fd f ∧ r.length = n ∧ OutP S r ∧ w = [some f, some (.int (n)), some (.tup ((S).map D.int)), some w0, some (.own (([s0, s1]).map D.int)), some (.own (tg.map tagD)), some (.int ((t : Nat))), some (.own ((r).map D.int)), a, none, none, none, some (.int (ρ)), x, e, none]) ⟨f, r, none, hf, hr, fun i _ _ _ => hr0 i, rfl⟩ ?_ ?_
    · rintro w ⟨f, r, x, hf, hr, ho, rfl⟩
      simp
      exact ⟨f, hf, r, hr, ho, rfl, rfl⟩
    · rintro i d w hi ⟨f, r, x, hf, hr, ho, rfl⟩
      obtain ⟨hi', rfl⟩ := ints_at hi
      have mi := List.getElem_mem hi'
      generalize S[i] = j at mi
      simp [hf]
      refine (draw_ok hf (by decide) (by decide)).draw fun v f h4 h5 hf => ?_
      simp [hf]
      refine (size_ok hf).size fun u f h2 h3 hf => ?_
      have e1 : mulC (v - 1) u = true := mulC_s (by omega) (by omega) (by omega) (by omega)
      simp [e1, hr, ixN_in hS mi]
      exact ⟨f, hf, r.set j.toNat ((v - 1) * u), by simp [hr], ho.set (hS j mi).1 mi, rfl, ints_set⟩
  rintro w ⟨f, r, x, hf, hr, ho, rfl⟩
  refine wp_mid (fun w => ∃ f r, Fd f ∧ r.length = n ∧ OutP S r ∧ atR r ρ < 0 ∧ w = [some f, some (.int (n)), some (.tup ((S).map D.int)), some w0, some (.own (([s0, s1]).map D.int)), some (.own (tg.map tagD)), some (.int ((t : Nat))), some (.own ((r).map D.int)), a, none, none, none, some (.int (ρ)), x, e, none]) ?_ ?_
  · simp [hf]
    refine (size_ok hf).size fun u f h2 h3 hf => ?_
    simp [hr, ixN_in hS mρ]
    refine ⟨f, hf, r.set ρ.toNat (-u), by simp [hr], ho.set (hS ρ mρ).1 mρ, ?_, rfl, ints_set⟩
    rw [atR_set (hS ρ mρ).1 (hS ρ mρ).1, if_pos ⟨rfl, by have := (hS ρ mρ).2; omega⟩]; omega
  rintro w ⟨f, r, hf, hr, ho, hρ, rfl⟩
  refine wp_mid (fun w => w = [some f, some (.int (n)), some (.tup ((S).map D.int)), some w0, some (.own (([s0, s1]).map D.int)), some (.own (tg.map tagD)), some (.int ((t : Nat))), some (.own ((r).map D.int)), a, none, none, none, some (.int (ρ)), none, some (.own (((intsTo n).filter fun i => !S.contains i).map D.int)), none]) ?_ ?_
  · simp [rc, rngD_nat]
    refine cmp_pure D.int D.int (intsTo n) (fun i => !S.contains i) (fun i => [some f, some (.int (n)), some (.tup ((S).map D.int)), some w0, some (.own (([s0, s1]).map D.int)), some (.own (tg.map tagD)), some (.int ((t : Nat))), some (.own ((r).map D.int)), a, none, none, none, some (.int (ρ)), some (.int (i)), e, none]) (by rw [intsTo_len]; omega) (fun _ _ => rfl) (fun _ _ => rfl) (fun i m => ?_) (fun i m _ => by simp) fun w2 e el => ?_
    · simp [dIn_ints (neg := true) (i := i) (s := S) (.inl rfl)]
    · simp at e el
      simp [e, el]
  rintro w rfl
  have om : ∀ i, i ∈ (intsTo n).filter (fun i => !S.contains i) ↔ (0 ≤ i ∧ i < (n : Int)) ∧ i ∉ S := fun i => by
    rw [List.mem_filter, intsTo_mem]; simp
  have ol : ((intsTo n).filter fun i => !S.contains i).length ≤ 6 := by
    have := List.length_filter_le (fun i => !S.contains i) (intsTo n)
    rw [intsTo_len] at this; omega
  have oe : (t : Int) = S.length + 1 → S.length < n → (intsTo n).filter (fun i => !S.contains i) ≠ [] := fun _ hlt he => by
    have sub : ∀ i ∈ intsTo n, i ∈ S := fun i m => by
      by_cases c : i ∈ S
      · exact c
      · have := (om i).mpr ⟨intsTo_mem.mp m, c⟩
        rw [he] at this; cases this
    have := (List.subset_def.mpr fun {a} m => sub a m : intsTo n ⊆ S)
    have := List.Nodup.length_le_of_subset (intsTo_nd n) this
    rw [intsTo_len] at this; omega
  generalize (intsTo n).filter (fun i => !S.contains i) = out at om ol oe
  refine wp_mid (fun w => ∃ f r, Fd f ∧ TagP n S s0 s1 t r ∧ w = [some f, some (.int (n)), some (.tup ((S).map D.int)), some w0, some (.own (([s0, s1]).map D.int)), some (.own (tg.map tagD)), some (.int ((t : Nat))), some (.own ((r).map D.int)), a, none, none, none, some (.int (ρ)), none, some (.own ((out).map D.int)), none]) ?_ ?_
  · have keep : (t : Int) < S.length + 1 ∨ out = [] → TagP n S s0 s1 t r := fun h => by
      have nw : nwB r ρ S = true := nw_iff.mpr ⟨hρ, ho⟩
      refine ⟨hr, fun _ h2 => by rw [← q1 h2]; exact nw, fun h2 => by rw [← q2 h2]; exact nw, fun h2 h3 => ?_, fun h2 => by omega, fun h2 => by omega, by omega, by omega⟩
      rcases h with h | h
      · omega
      · exact absurd h (oe h2 h3)
    by_cases c1 : (S.length : Int) < t
    · by_cases c2 : out = []
      · simp [c1, c2]
        exact ⟨f, hf, r, keep (.inr c2), rfl, rfl⟩
      · have c3 : 0 < (out.length : Int) := by
          have := List.length_pos_iff.mpr c2; omega
        simp [c1, hf]
        refine brQ_of (fun _ => ?_) fun z => by have := of_decide_eq_false z; omega
        refine (size_ok hf).size fun u f h2 h3 hf => ?_
        simp [hf]
        refine (draw_ok hf (by omega) (by omega)).draw fun v f h4 h5 hf => ?_
        have mo : atR out v ∈ out := atR_in h4 h5
        obtain ⟨o1, o2⟩ := (om _).mp mo
        simp [seqIx_at h4 h5, hr, ixN_at o1.1 o1.2]
        refine ⟨f, hf, r.set (atR out v).toNat u, ⟨by simp [hr], fun _ h => by omega, fun h => by omega, fun _ _ => ?_, fun h => by omega, fun h => by omega, by omega, by omega⟩, rfl, ints_set⟩
        rw [Bool.eq_false_iff]
        intro hnw
        have := (nw_iff.mp hnw).2 (atR out v) o1.1 (by simp [hr]; omega) o2
        rw [atR_set o1.1 o1.1, if_pos ⟨rfl, by omega⟩] at this
        omega
    · simp [c1]
      exact ⟨f, hf, r, keep (.inl (by omega)), rfl, rfl⟩
  rintro w ⟨f, r, hf, hT, rfl⟩
  simp [line' (show tg.length < 1000000 by omega)]
  have := k f r (some (.own (r.map .int))) (some (.int ρ)) (some (.own (out.map .int))) hf hT
  rw [List.map_append] at this
  exact this
end K18

set_option autoImplicit false
namespace K18
open PySem PySem.Spec L2 Pm 
theorem tagD_inj (a b : Int × List Int) (h : tagD a = tagD b) : a = b := by
  unfold tagD at h
  injection h with h; injection h with h1 h2; injection h2 with h2 _
  injection h1 with h1
  exact Prod.ext h1 (row_inj _ _ h2)
def Tags (n : Nat) (S : List Int) (s0 s1 : Int) (m : Int → Prop) (tg : List (Int × List Int)) : Prop := (∀ p ∈ tg, TagP n S s0 s1 p.1 p.2) ∧ ∀ t, m t → ∃ p ∈ tg, p.1 = t
def HasTag (tg : List (Int × List Int)) (j : Nat) (t : Int) : Prop := ∃ hj : j < tg.length, tg[j].1 = t
def SceneP (n : Nat) (S : List Int) (rows : List (List Int)) (N : List Int) (s0 s1 : Int) : Prop :=
  rows.length ≤ 200 ∧ Rect n rows ∧ N.length = S.length + 5 ∧ (∀ v ∈ N, 0 ≤ v ∧ v ≤ (rows.length : Int) - 1) ∧ (0 ≤ s0 ∧ s0 < S.length) ∧ (0 ≤ s1 ∧ s1 < S.length) ∧
  ∀ t : Int, (0 ≤ t ∧ t ≤ S.length + 2) ∨ t = S.length + 4 → TagP n S s0 s1 t (rowOf rows (.int (atR N t)))
def SceneQ (n : Nat) (S : List Int) : D → List D → Prop := fun d os => ∃ (rows : List (List Int)) (N : List Int) (s0 s1 : Int) (f' : D), d = .tup [.tup (rowsD rows), .lst (N.map .int), .lst [.int s0, .int s1]] ∧ os = [f'] ∧ Fd f' ∧ SceneP n S rows N s0 s1
theorem scene_ok {f : D} (hf : Fd f) {n : Nat} {S : List Int} {wd : Bool} (hn : n ≤ 6) (hS : Asc n S) : WpR (m_law_scene [f, .int (n : Int), .tup (S.map .int), .bl wd]) (SceneQ n S) := by
  obtain ⟨hp, hS, hne⟩ := hS
  have rc : rngC (n : Int) = true := rngC_of (by omega) (by omega)
  have lS : S.length ≤ n := by
    have := List.Nodup.length_le_of_subset (hp.imp (fun h e => by omega)) (List.subset_def.mpr fun {a} m => intsTo_mem.mpr (hS a m) : S ⊆ intsTo n)
    rw [intsTo_len] at this; exact this
  have pS : 0 < S.length := List.length_pos_iff.mpr hne
  refine wpr_mk rfl ?_
  unfold b_law_scene
  rw [show startE 16 [f, .int (n : Int), .tup (S.map .int), .bl wd] = [some f, some (.int (n)), some (.tup ((S).map D.int)), some (.bl (wd)), none, none, none, none, none, none, none, none, none, none, none, none] from rfl]
  refine wp_mid (fun w => ∃ f s0 s1, Fd f ∧ (0 ≤ s0 ∧ s0 < (S.length : Int)) ∧ (0 ≤ s1 ∧ s1 < (S.length : Int)) ∧ w = [some f, some (.int (n)), some (.tup ((S).map D.int)), some (.bl (wd)), some (.own (([s0, s1]).map D.int)), none, none, none, none, none, none, none, none, none, none, none]) ?_ ?_
  · simp [hf]
    refine (draw_ok hf (by omega) (by omega)).draw fun s0 f h4 h5 hf => ?_
    simp [hf]
    refine (draw_ok hf (by omega) (by omega)).draw fun s1 f h6 h7 hf => ?_
    have : 2 ≤ sizeLine := line (by omega)
    simp [mkOwn, this]
    exact ⟨f, hf, s0, ⟨h4, h5⟩, s1, ⟨h6, h7⟩, rfl, rfl, rfl⟩
  rintro w ⟨f, s0, s1, hf, h0, h1, rfl⟩
  refine wp_mid (fun w => w = [some f, some (.int (n)), some (.tup ((S).map D.int)), some (.bl (wd)), some (.own (([s0, s1]).map D.int)), some (.own ((([] : List (Int × List Int)).map tagD))), none, none, none, none, none, none, none, none, none, none]) (by simp) ?_
  rintro w rfl
  refine wp_mid (fun w => ∃ f tg a b c d e, Fd f ∧ tg.length ≤ 8 ∧ Tags n S s0 s1 (fun t => 0 ≤ t ∧ t < S.length + 2) tg ∧ w = [some f, some (.int (n)), some (.tup ((S).map D.int)), some (.bl (wd)), some (.own (([s0, s1]).map D.int)), some (.own (tg.map tagD)), a, b, none, none, none, none, c, d, e, none]) ?_ ?_
  · have rc2 : rngC ((S.length : Int) + 2) = true := rngC_of (by omega) (by omega)
    simp only [wp_For, lz_iW, wp_cons, lz_2gg, lz_1p, qV_eq, slot_zero, slot_succ, ob_some, dLen_tup, List.length_map, wp_C, dAdd_int, wp_nil, lz_qR1, rc2, true_and, putB_nil, putB_none]
    refine lz_for (fun i w => ∃ f tg a b c d e, Fd f ∧ tg.length = i ∧ Tags n S s0 s1 (fun t => 0 ≤ t ∧ t < (i : Int)) tg ∧ w = [some f, some (.int (n)), some (.tup ((S).map D.int)), some (.bl (wd)), some (.own (([s0, s1]).map D.int)), some (.own (tg.map tagD)), a, b, none, none, none, none, c, d, e, none]) ⟨f, [], none, none, none, none, none, hf, rfl, ⟨(fun p m => by cases m), (fun t h => by omega)⟩, rfl⟩ ?_ ?_
    · rintro w ⟨f, tg, a, b, c, d, e, hf, hl, ht, rfl⟩
      rw [rngD_len] at hl ht
      refine ⟨rfl, f, tg, a, b, c, d, e, hf, by omega, ⟨ht.1, fun t h => ht.2 t ⟨h.1, by omega⟩⟩, rfl⟩
    · rintro i d w hi ⟨f, tg, a, b, c, d', e, hf, hl, ht, rfl⟩
      obtain ⟨rfl, hi2⟩ := toNat_range (n := (S.length : Int) + 2) i hi
      simp only [lz_nm, List.length_cons, List.length_nil, List.set_cons_succ, List.set_cons_zero]
      refine ⟨by omega, tag_loop (t := i) hn hS lS h0 h1 (by omega) (by omega) hf ?_⟩
      intro f r b c d hf hT
      refine ⟨f, tg ++ [((i : Int), r)], _, b, c, none, d, hf, by simp [hl], ⟨fun p m => ?_, fun t h => ?_⟩, rfl⟩
      · rcases List.mem_append.mp m with m | m
        · exact ht.1 p m
        · rw [List.mem_singleton.mp m]; exact hT
      · by_cases z : t < (i : Int)
        · obtain ⟨p, m, e⟩ := ht.2 t ⟨h.1, z⟩
          exact ⟨p, List.mem_append_left _ m, e⟩
        · exact ⟨_, List.mem_append_right _ List.mem_cons_self, by show (i : Int) = t; omega⟩
  rintro w ⟨f, tg, a, b, c, d, e, hf, hl, ht, rfl⟩
  -- the row of noughts
  refine wp_mid (fun w => ∃ tg, tg.length ≤ 9 ∧ Tags n S s0 s1 (fun t => 0 ≤ t ∧ t ≤ S.length + 2) tg ∧ w = [some f, some (.int (n)), some (.tup ((S).map D.int)), some (.bl (wd)), some (.own (([s0, s1]).map D.int)), some (.own (tg.map tagD)), a, b, none, none, none, none, none, d, e, none]) ?_ ?_
  · have z2 : ∀ i, nwB (List.replicate n 0) i S = false := fun i => by unfold nwB; rw [z0]; rfl
    have hT : TagP n S s0 s1 (S.length + 2) (List.replicate n 0) := ⟨by simp, fun _ h => by omega, fun h => by omega, fun h => by omega, fun _ => z2, fun h => by omega, by omega, by omega⟩
    have : 2 ≤ sizeLine := line (by omega)
    simp [rc]
    refine cmp_const (by simp) (by rw [rngD_len]; omega) fun w2 e => ?_
    simp at e
    have pz : pls (List.map (fun _ => D.int 0) (rngD n)) = true := pls_map (fun _ => rfl) _
    simp [e, pz, mkTup, this, line' (show tg.length < 1000000 by omega)]
    refine ⟨tg ++ [((S.length : Int) + 2, List.replicate n 0)], by simp; omega, ⟨fun p m => ?_, fun t h => ?_⟩, by rw [List.map_append, List.map_const', rngD_len]; simp [tagD]⟩
    · rcases List.mem_append.mp m with m | m
      · exact ht.1 p m
      · rw [List.mem_singleton.mp m]; exact hT
    · by_cases z : t < S.length + 2
      · obtain ⟨p, m, e⟩ := ht.2 t ⟨h.1, z⟩
        exact ⟨p, List.mem_append_left _ m, e⟩
      · exact ⟨_, List.mem_append_right _ List.mem_cons_self, by show (S.length : Int) + 2 = t; omega⟩
  rintro w ⟨tg, hl, ht, rfl⟩
  refine wp_mid (fun w => ∃ f r, Fd f ∧ TagP n S s0 s1 (S.length + 4) r ∧ w = [some f, some (.int (n)), some (.tup ((S).map D.int)), some (.bl (wd)), some (.own (([s0, s1]).map D.int)), some (.own (tg.map tagD)), a, some (.own ((r).map D.int)), none, none, none, none, none, d, e, none]) ?_ ?_
  · simp [rc]
    refine cmp_draw D.int (fun i v => v ≤ 0 ∧ ((i : Int) ∈ S → v < 0)) (fun f => [some f, some (.int (n)), some (.tup ((S).map D.int)), some (.bl (wd)), some (.own (([s0, s1]).map D.int)), some (.own (tg.map tagD)), a, b, none, none, none, none, none, d, e, none]) hf rfl (by rw [rngD_len]; omega) ?_ ?_
    · intro i x f hi hf
      obtain ⟨rfl, hi2⟩ := toNat_range (n := (n : Int)) i (by simpa using hi)
      simp [hf]
      refine (size_ok hf).size fun u f h2 h3 hf => ?_
      simp [hf, dIn_ints (neg := false) (i := (i : Int)) (s := S) (.inl rfl)]
      refine (draw_ok hf (by decide) (by decide)).draw fun v f h4 h5 hf => ?_
      simp
      have key : ∀ x : Int, 0 ≤ x → x ≤ 1 → ((i : Int) ∈ S → x = 1) → mulC (-u) x = true ∧ (-u * x ≤ 0 ∧ ((i : Int) ∈ S → -u * x < 0)) ∧ Fd f := fun x x0 x1 hx => by
        refine ⟨mulC_s (by omega) (by omega) (by omega) (by omega), ⟨?_, fun m => ?_⟩, hf⟩
        · have := Int.mul_nonneg (show 0 ≤ u by omega) x0
          rw [Int.neg_mul]; omega
        · rw [hx m]; omega
      by_cases m : (i : Int) ∈ S
      · simp [m]
        by_cases c : 1 < v
        · omega
        · simpa [c, m] using key 1 (by omega) (by omega) (fun _ => rfl)
      · simp [m]
        by_cases c : 0 < v
        · simpa [c, m] using key v h4 (by omega) (fun z => absurd z m)
        · simpa [c, m] using key 0 (by omega) (by omega) (fun z => absurd z m)
    · intro l f w2 hl hp hf e el
      simp at e el
      simp [e, el]
      rw [rngD_len] at hl
      have at_ : ∀ i : Int, (hi : 0 ≤ i) → (hi2 : i < n) → atR l i ≤ 0 ∧ (i ∈ S → atR l i < 0) := fun i hi hi2 => by
        have c : i.toNat < l.length := by omega
        have := hp _ c
        unfold atR
        rw [List.getD_eq_getElem?_getD, List.getElem?_eq_getElem c]
        rw [show ((i.toNat : Nat) : Int) = i by omega] at this
        exact this
      have hT : TagP n S s0 s1 (S.length + 4) l := ⟨hl, fun _ h => by omega, fun h => by omega, fun h => by omega, fun h => by omega, fun _ i m => nw_iff.mpr ⟨(at_ i (hS i m).1 (hS i m).2).2 m, fun j h1 h2 _ => (at_ j h1 (by omega)).1⟩, by omega, by omega⟩
      exact ⟨f, hf, l, hT, rfl, rfl⟩
  rintro w ⟨f, r, hf, hT, rfl⟩
  refine wp_mid (fun w => ∃ tg, tg.length ≤ 10 ∧ Tags n S s0 s1 (fun t => (0 ≤ t ∧ t ≤ S.length + 2) ∨ t = S.length + 4) tg ∧ w = [some f, some (.int (n)), some (.tup ((S).map D.int)), some (.bl (wd)), some (.own (([s0, s1]).map D.int)), some (.own (tg.map tagD)), a, some (.own ((r).map D.int)), none, none, none, none, none, d, e, none]) ?_ ?_
  · have : 2 ≤ sizeLine := line (by omega)
    simp [mkTup, this, line' (show tg.length < 1000000 by omega)]
    refine ⟨tg ++ [((S.length : Int) + 4, r)], by simp; omega, ⟨fun p m => ?_, fun t h => ?_⟩, by rw [List.map_append]; simp [tagD]⟩
    · rcases List.mem_append.mp m with m | m
      · exact ht.1 p m
      · rw [List.mem_singleton.mp m]; exact hT
    · rcases h with h | h
      · obtain ⟨p, m, e⟩ := ht.2 t h
        exact ⟨p, List.mem_append_left _ m, e⟩
      · exact ⟨_, List.mem_append_right _ List.mem_cons_self, h.symm⟩
  rintro w ⟨tg, hl, ht, rfl⟩
  refine wp_mid (fun w => ∃ f tg b c, Fd f ∧ tg.length ≤ 13 ∧ Tags n S s0 s1 (fun t => (0 ≤ t ∧ t ≤ S.length + 2) ∨ t = S.length + 4) tg ∧ w = [some f, some (.int (n)), some (.tup ((S).map D.int)), some (.bl (wd)), some (.own (([s0, s1]).map D.int)), some (.own (tg.map tagD)), a, b, c, none, none, none, none, d, e, none]) ?_ ?_
  · simp [hf]
    refine (draw_ok hf (by decide) (by decide)).draw fun v f h4 h5 hf => ?_
    simp [rngC_of h4 (show v ≤ 1000000000 by omega)]
    refine lz_for (fun i w => ∃ f tg b c, Fd f ∧ tg.length ≤ 10 + i ∧ Tags n S s0 s1 (fun t => (0 ≤ t ∧ t ≤ S.length + 2) ∨ t = S.length + 4) tg ∧ w = [some f, some (.int (n)), some (.tup ((S).map D.int)), some (.bl (wd)), some (.own (([s0, s1]).map D.int)), some (.own (tg.map tagD)), a, b, c, none, none, none, none, d, e, none]) ⟨f, tg, _, _, hf, by omega, ht, rfl⟩ ?_ ?_
    · rintro w ⟨f, tg, b, c, hf, hl, ht, rfl⟩
      rw [rngD_len] at hl
      simp
      exact ⟨f, hf, tg, by omega, ht, rfl, rfl⟩
    · rintro i x w hi ⟨f, tg, b, c, hf, hl, ht, rfl⟩
      obtain ⟨rfl, hi2⟩ := toNat_range (n := v) i hi
      simp [rc]
      refine cmp_draw D.int (fun _ _ => True) (fun f => [some f, some (.int (n)), some (.tup ((S).map D.int)), some (.bl (wd)), some (.own (([s0, s1]).map D.int)), some (.own (tg.map tagD)), a, b, some (.int ((i : Nat))), none, none, none, none, d, e, none]) hf rfl (by rw [rngD_len]; omega) ?_ ?_
      · intro i x f hi hf
        simp [hf]
        refine (draw_ok hf (by decide) (by decide)).draw fun v f h4 h5 hf => ?_
        simp [hf]
        refine (size_ok hf).size fun u f h2 h3 hf => ?_
        have e1 : mulC (v - 1) u = true := mulC_s (by omega) (by omega) (by omega) (by omega)
        simp [e1, hf]
      · intro l f w2 hl2 hp hf e el
        simp at e el
        rw [rngD_len] at hl2
        have : 2 ≤ sizeLine := line (by omega)
        simp [e, el, mkTup, this, line' (show tg.length < 1000000 by omega)]
        have hT : TagP n S s0 s1 (S.length + 3) l := ⟨hl2, fun _ h => by omega, fun h => by omega, fun h => by omega, fun h => by omega, fun h => by omega, by omega, by omega⟩
        refine ⟨f, hf, tg ++ [((S.length : Int) + 3, l)], by simp; omega, ⟨fun p m => ?_, fun t h => ?_⟩, rfl, by rw [List.map_append]; simp [tagD]⟩
        · rcases List.mem_append.mp m with m | m
          · exact ht.1 p m
          · rw [List.mem_singleton.mp m]; exact hT
        · obtain ⟨p, m, e⟩ := ht.2 t h
          exact ⟨p, List.mem_append_left _ m, e⟩
  rintro w ⟨f, tg, b, c, hf, hl, ht, rfl⟩
  refine wp_mid (fun w => ∃ f tg, Fd f ∧ tg.length ≤ 13 ∧ Tags n S s0 s1 (fun t => (0 ≤ t ∧ t ≤ S.length + 2) ∨ t = S.length + 4) tg ∧ w = [some f, some (.int (n)), some (.tup ((S).map D.int)), some (.bl (wd)), some (.own (([s0, s1]).map D.int)), some (.own (tg.map tagD)), a, b, c, none, none, none, none, d, e, none]) ?_ ?_
  · simp [hf, pl_tags]
    refine (shuffledD_ok hf (.inr rfl) pl_tags (by rw [List.length_map]; omega)).mono ?_
    rintro x os ⟨o, f, rfl, rfl, hp2, hf⟩
    obtain ⟨tg2, rfl, hp3⟩ := perm_mapD tagD_inj hp2
    simp
    exact ⟨f, hf, tg2, by rw [hp3.length_eq]; exact hl, ⟨fun p m => ht.1 p (hp3.mem_iff.mp m), fun t h => by obtain ⟨p, m, e⟩ := ht.2 t h; exact ⟨p, hp3.mem_iff.mpr m, e⟩⟩, rfl, rfl⟩
  rintro w ⟨f, tg, hf, hl, ht, rfl⟩
  refine wp_mid (fun w => w = [some f, some (.int (n)), some (.tup ((S).map D.int)), some (.bl (wd)), some (.own (([s0, s1]).map D.int)), some (.own (tg.map tagD)), a, b, c, some (.own ([])), none, none, none, d, e, none]) (by simp) ?_
  rintro w rfl
  refine wp_mid (fun w => ∃ f c, ∃ ah : List (List Int), Fd f ∧ Rect n ah ∧ ah.length + tg.length ≤ 200 ∧ w = [some f, some (.int (n)), some (.tup ((S).map D.int)), some (.bl (wd)), some (.own (([s0, s1]).map D.int)), some (.own (tg.map tagD)), a, b, c, some (.own (rowsD (ah))), none, none, none, d, e, none]) ?_ ?_
  · cases wd with
    | false => simp; exact ⟨f, hf, _, [], (fun r m => by cases m), by simp; omega, rfl, rfl, rfl⟩
    | true =>
      simp [hf]
      refine (draw_ok hf (by decide) (by decide)).draw fun v f h4 h5 hf => ?_
      have r3 : rngC (200 - (tg.length : Int) - v) = true := rngC_of (by omega) (by omega)
      simp [r3]
      refine cmp_draw (fun r : List Int => D.tup (r.map .int)) (fun _ r => r.length = n) (fun f => [some f, some (.int (n)), some (.tup ((S).map D.int)), some (.bl (true)), some (.own (([s0, s1]).map D.int)), some (.own (tg.map tagD)), a, b, none, some (.own ([])), none, none, none, d, e, none]) hf rfl (by rw [rngD_len]; omega) ?_ ?_
      · intro i x f hi hf
        simp [hf]
        refine (plain_ok hf (by omega)).mono ?_
        rintro y os ⟨r, f, rfl, rfl, hf, hr, _⟩
        simp
        exact ⟨r, rfl, hr, hf⟩
      · intro l f w2 hl2 hp hf e el
        simp at e el
        rw [rngD_len] at hl2
        simp [e, el]
        refine ⟨f, hf, _, l, fun r m => ?_, by omega, rfl, rfl, rfl⟩
        obtain ⟨k, hk, rfl⟩ := List.mem_iff_getElem.mp m
        exact hp k hk
  rintro w ⟨f, c, ah, hf, hah, hal, rfl⟩
  refine wp_mid (fun w => w = [some f, some (.int (n)), some (.tup ((S).map D.int)), some (.bl (wd)), some (.own (([s0, s1]).map D.int)), some (.own (tg.map tagD)), none, b, c, some (.own (rowsD (ah))), some (.own ((List.replicate (S.length + 5) 0).map D.int)), none, none, d, e, none]) ?_ ?_
  · have rc2 : rngC ((S.length : Int) + 5) = true := rngC_of (by omega) (by omega)
    simp [rc2]
    refine cmp_const (by simp) (by rw [rngD_len]; omega) fun w2 e => ?_
    simp at e
    have el : w2.length = 16 := by
      have := congrArg List.length e
      simpa using this
    simp [e, el]
    rw [List.map_const', rngD_len]; congr 1
  rintro w rfl
  refine wp_mid (fun w => ∃ x, ∃ N : List Int, N.length = S.length + 5 ∧ (∀ t, 0 ≤ t → t ≤ (S.length : Int) + 4 → (∃ j, HasTag tg j t ∧ atR N t = ah.length + j) ∨ (atR N t = 0 ∧ ∀ j, ¬ HasTag tg j t)) ∧ w = [some f, some (.int (n)), some (.tup ((S).map D.int)), some (.bl (wd)), some (.own (([s0, s1]).map D.int)), some (.own (tg.map tagD)), none, b, c, some (.own (rowsD (ah))), some (.own ((N).map D.int)), x, none, d, e, none]) ?_ ?_
  · have rc3 : rngC (tg.length : Int) = true := rngC_of (by omega) (by omega)
    simp [rc3]
    rw [show List.replicate (S.length + 5) (D.int 0) = (List.replicate (S.length + 5) (0 : Int)).map D.int by simp]
    refine lz_for (fun i w => ∃ x, ∃ N : List Int, N.length = S.length + 5 ∧ (∀ t, 0 ≤ t → t ≤ (S.length : Int) + 4 → (∃ j, j < i ∧ HasTag tg j t ∧ atR N t = ah.length + j) ∨ (atR N t = 0 ∧ ∀ j, j < i → ¬ HasTag tg j t)) ∧ w = [some f, some (.int (n)), some (.tup ((S).map D.int)), some (.bl (wd)), some (.own (([s0, s1]).map D.int)), some (.own (tg.map tagD)), none, b, c, some (.own (rowsD (ah))), some (.own ((N).map D.int)), x, none, d, e, none]) ⟨none, List.replicate (S.length + 5) 0, by simp, fun t _ _ => .inr ⟨z0 _ _, fun j h => absurd h (Nat.not_lt_zero _)⟩, rfl⟩ ?_ ?_
    · rintro w ⟨x, N, h2, h3, rfl⟩
      rw [rngD_len] at h3
      simp
      refine ⟨x, N, h2, fun t t0 t1 => ?_, rfl, rfl⟩
      rcases h3 t t0 t1 with ⟨j, _, q1, q2⟩ | ⟨q1, q2⟩
      · exact .inl ⟨j, q1, q2⟩
      · exact .inr ⟨q1, fun j hj => q2 j (by obtain ⟨z, _⟩ := hj; exact z) hj⟩
    · rintro i x w hi ⟨x', N, h2, h3, rfl⟩
      obtain ⟨rfl, hi2⟩ := toNat_range (n := (tg.length : Int)) i hi
      have hil : i < tg.length := by omega
      have gt : seqIx (tg.map tagD) (i : Int) = some (tagD tg[i]) := seqIx_nat (by rw [List.getElem?_map, List.getElem?_eq_getElem hil]; rfl) (by simp [tagD])
      have hT := ht.1 _ (List.getElem_mem hil)
      have t0 := hT.2.2.2.2.2.2.1
      have t1 := hT.2.2.2.2.2.2.2
      have ti : ixN N.length tg[i].1 = some (tg[i].1).toNat := ixN_at t0 (by omega)
      simp [gt]
      unfold tagD
      simp [ti]
      refine ⟨_, N.set (tg[i].1).toNat (ah.length + i), by simp [h2], fun t q0 q1 => ?_, ints_set, rfl⟩
      by_cases e : tg[i].1 = t
      · refine .inl ⟨i, by omega, ⟨hil, e⟩, ?_⟩
        rw [atR_set t0 q0, if_pos ⟨e, by omega⟩]
      · rw [atR_set t0 q0, if_neg (fun z => e z.1)]
        rcases h3 t q0 q1 with ⟨j, l, q1, q2⟩ | ⟨q1, q2⟩
        · exact .inl ⟨j, by omega, q1, q2⟩
        · refine .inr ⟨q1, fun j l hj => ?_⟩
          by_cases ej : j = i
          · subst ej; obtain ⟨_, z⟩ := hj; exact e z
          · exact q2 j (by omega) hj
  rintro w ⟨x, N, h2, h3, rfl⟩
  simp [pl_tags]
  refine cmp_map (α := Int × List Int) (vs := [15]) tagD (fun p => D.tup (p.2.map .int)) tg (fun p => [some f, some (.int (n)), some (.tup ((S).map D.int)), some (.bl (wd)), some (.own (([s0, s1]).map D.int)), none, none, b, c, some (.own (rowsD (ah))), some (.own ((N).map D.int)), x, none, d, e, some (tagD p)]) (by omega) (fun _ _ => rfl) (fun _ _ => rfl) (fun p m => by simp [tagD]) fun w2 e2 el => ?_
  simp at e2 el
  have rr : (tg.map fun p => D.tup (p.2.map .int)) = rowsD (tg.map (·.2)) := by unfold rowsD; rw [List.map_map]; rfl
  have : 3 ≤ sizeLine := line (by omega)
  simp [e2, el, rr, rowsD_app, mkTup, this, line (show ah.length + tg.length ≤ 1000000 by omega)]
  refine ⟨ah ++ tg.map (·.2), N, s0, s1, f, rfl, rfl, hf, by simp; exact hal, fun r m => ?_, h2, fun v m => ?_, h0, h1, fun t h => ?_⟩
  · rcases List.mem_append.mp m with m | m
    · exact hah r m
    · obtain ⟨p, mp, rfl⟩ := List.mem_map.mp m
      exact (ht.1 p mp).1
  · obtain ⟨k, hk, rfl⟩ := List.mem_iff_getElem.mp m
    have ek : atR N (k : Int) = N[k] := by unfold atR; rw [Int.toNat_natCast, List.getD_eq_getElem?_getD, List.getElem?_eq_getElem hk]; rfl
    obtain ⟨p0, mp0, _⟩ := ht.2 0 (.inl (by omega))
    have tl : 0 < tg.length := List.length_pos_of_mem mp0
    rcases h3 (k : Int) (by omega) (by omega) with ⟨j, ⟨hj, _⟩, q2⟩ | ⟨q1, _⟩
    · rw [← ek, q2]; simp; omega
    · rw [← ek, q1]; simp; omega
  · obtain ⟨p, mp, ep⟩ := ht.2 t h
    obtain ⟨jp, hjp, rfl⟩ := List.mem_iff_getElem.mp mp
    have tb := ht.1 _ (List.getElem_mem hjp)
    have t0 := tb.2.2.2.2.2.2.1
    have t1 := tb.2.2.2.2.2.2.2
    rw [ep] at t0 t1
    rcases h3 t t0 t1 with ⟨j, ⟨hj, q1⟩, q2⟩ | ⟨_, q2⟩
    · have er : rowOf (ah ++ tg.map (·.2)) (.int (atR N t)) = tg[j].2 := by
        show (ah ++ tg.map (·.2)).getD (atR N t).toNat [] = _
        rw [q2, show ((ah.length : Int) + j).toNat = ah.length + j by omega, List.getD_eq_getElem?_getD, List.getElem?_append_right (by omega), Nat.add_sub_cancel_left, List.getElem?_map, List.getElem?_eq_getElem hj]; rfl
      rw [er, ← q1]
      exact ht.1 _ (List.getElem_mem hj)
    · exact absurd ⟨hjp, ep⟩ (q2 jp)
end K18

set_option autoImplicit false
namespace K18
open PySem PySem.Spec L2 Pm 
theorem put_ok {xs : List D} {d : D} {k : Nat} (px : pls xs = true) (pd : pl d = true) (hk : k < xs.length) (hl : xs.length ≤ 10000) : WpR (m_law_put [.tup xs, .int (k : Nat), d]) (DQ (.tup (xs.set k d))) := by
  refine wpr_mk rfl ?_
  unfold b_law_put startE
  have p1 : pls (xs.take k) = true := pls_all'.mpr fun d m => pls_all'.mp px d (List.mem_of_mem_take m)
  have p2 : pls (xs.drop (k + 1)) = true := pls_all'.mpr fun d m => pls_all'.mp px d (List.mem_of_mem_drop m)
  have m1 : 1 ≤ sizeLine := line (by omega)
  have e2 : cutD xs (some ((k : Int) + 1)) none = xs.drop (k + 1) := by rw [show (k : Int) + 1 = ((k + 1 : Nat) : Int) by omega, cutD_from]
  have l1 : min k xs.length + 1 ≤ sizeLine := line (by omega)
  have l2 : min k xs.length + 1 + (xs.length - (k + 1)) ≤ sizeLine := line (by omega)
  have dl : ∀ ys : List D, pls ys = true → dList (.tup ys) = some (.own ys) := fun ys p => by show (if pls ys = true then some (D.own ys) else none) = _; rw [if_pos p]
  simp [px, cutD_to, e2, dl _ p1, dl _ p2, ice_pl pd, mkOwn, m1, p1, p2, pd, l1, l2]
  rw [List.set_eq_take_append_cons_drop, if_pos hk]
  simp [DQ]
theorem without_ok {xs : List D} {k : Nat} (px : pls xs = true) (hk : k < xs.length) (hl : xs.length ≤ 10000) : WpR (m_law_without [.tup xs, .int (k : Nat)]) (DQ (.tup (xs.eraseIdx k))) := by
  refine wpr_mk rfl ?_
  unfold b_law_without startE
  have p1 : pls (xs.take k) = true := pls_all'.mpr fun d m => pls_all'.mp px d (List.mem_of_mem_take m)
  have p2 : pls (xs.drop (k + 1)) = true := pls_all'.mpr fun d m => pls_all'.mp px d (List.mem_of_mem_drop m)
  have e2 : cutD xs (some ((k : Int) + 1)) none = xs.drop (k + 1) := by rw [show (k : Int) + 1 = ((k + 1 : Nat) : Int) by omega, cutD_from]
  have l2 : min k xs.length + (xs.length - (k + 1)) ≤ sizeLine := line (by omega)
  have dl : ∀ ys : List D, pls ys = true → dList (.tup ys) = some (.own ys) := fun ys p => by show (if pls ys = true then some (D.own ys) else none) = _; rw [if_pos p]
  simp [px, cutD_to, e2, dl _ p1, dl _ p2, p1, p2, l2]
  rw [List.eraseIdx_eq_take_drop_succ]
  simp [DQ]
def Bad (n : Nat) (rows : List (List Int)) (d : D) : Prop := barB n rows d = false ∧ ∀ a b, d = .tup [.tup a, b] → a.length ≤ 100000
def Lok (n : Nat) (rows : List (List Int)) (L : List D) (k : Nat) : Prop := pls L = true ∧ L.length = k ∧ ∀ d ∈ L, Bad n rows d
theorem Lok.app {n : Nat} {rows : List (List Int)} {L : List D} {k : Nat} {d : D} (h : Lok n rows L k) (p : pl d = true) (b : Bad n rows d) : Lok n rows (L ++ [d]) (k + 1) := by
  refine ⟨by simp [h.1, p], by simp [h.2.1], fun x m => ?_⟩
  rcases List.mem_append.mp m with m | m
  · exact h.2.2 x m
  · rw [List.mem_singleton.mp m]; exact b
theorem pls_setD {xs : List D} {k : Nat} {d : D} (px : pls xs = true) (pd : pl d = true) : pls (xs.set k d) = true := pls_all'.mpr fun x m => by
  rcases List.mem_or_eq_of_mem_set m with m | rfl
  · exact pls_all'.mp px x m
  · exact pd
theorem pls_s1 {B : List Int} {k : Nat} {v : Int} : pls ((B.map D.int).set k (.int v)) = true := pls_setD pls_ints rfl
theorem pls_s2 {B : List Int} {k : Nat} {v : Str} : pls ((B.map D.int).set k (.str v)) = true := pls_setD pls_ints rfl
theorem pls_s3 {B : List Int} {k : Nat} : pls ((B.map D.int).set k .non) = true := pls_setD pls_ints rfl
theorem pls_s4 {B : List Int} {k : Nat} {v : Int} : pls ((B.map D.int).set k (.tup [.int v])) = true := pls_setD pls_ints rfl
theorem pls_er {xs : List D} {k : Nat} (px : pls xs = true) : pls (xs.eraseIdx k) = true := pls_all'.mpr fun x m => pls_all'.mp px x (List.mem_of_mem_eraseIdx m)
theorem pls_e1 {B : List Int} {k : Nat} : pls ((B.map D.int).eraseIdx k) = true := pls_er pls_ints
theorem mem_setS {α : Type} {l : List α} {k : Nat} (h : k < l.length) (v : α) : v ∈ l.set k v := List.mem_iff_getElem.mpr ⟨k, by simpa using h, by simp⟩
def GoodP (n : Nat) (rows : List (List Int)) (S N : List Int) : Prop := S.Pairwise (· < ·) ∧ InN n S ∧ S ≠ [] ∧ N.length = S.length ∧ (∀ v ∈ N, 0 ≤ v ∧ v ≤ (rows.length : Int) - 1) ∧ ∀ p ∈ S.zip N, nwB (rowOf rows (.int p.2)) p.1 S = true
theorem barJ_ints {n : Nat} {rows : List (List Int)} {S N : List Int} : barJ n rows (.tup [.tup (S.map .int), .tup (N.map .int)]) ↔ GoodP n rows S N := by
  constructor
  · rintro ⟨S', N', e, h⟩
    injection e with e; injection e with e e2; injection e2 with e2 _; injection e with e; injection e2 with e2
    have e := map_int_inj e
    have e2 := map_int_inj e2
    subst S'; subst N'
    exact h
  · intro h; exact ⟨S, N, rfl, h⟩
theorem bad_ints {n : Nat} {rows : List (List Int)} {S N : List Int} (hl : S.length ≤ 100000) (h : ¬ GoodP n rows S N) : Bad n rows (.tup [.tup (S.map .int), .tup (N.map .int)]) :=
  ⟨barB_of ⟨fun z => (by cases z), fun q => absurd (barJ_ints.mp q) h⟩, fun a b e => by
    injection e with e; injection e with e _; injection e with e
    rw [← e, List.length_map]; exact hl⟩
theorem bad_ints2 {n : Nat} {rows : List (List Int)} {S N : List Int} {s v : Int} (hl : (S ++ [s]).length ≤ 100000) (h : ¬ GoodP n rows (S ++ [s]) (N ++ [v])) : Bad n rows (.tup [.tup (S.map .int ++ [.int s]), .tup (N.map .int ++ [.int v])]) := by
  have := bad_ints hl h
  rw [List.map_append, List.map_append] at this
  exact this
theorem bad_set {n : Nat} {rows : List (List Int)} {S B : List Int} {k : Nat} {v : Int} (hl : S.length ≤ 100000) (h : ¬ GoodP n rows S (B.set k v)) : Bad n rows (.tup [.tup (S.map .int), .tup ((B.map .int).set k (.int v))]) := by
  rw [ints_set]; exact bad_ints hl h
theorem bad_setl {n : Nat} {rows : List (List Int)} {S B : List Int} {k : Nat} {v : Int} (hl : (S.set k v).length ≤ 100000) (h : ¬ GoodP n rows (S.set k v) B) : Bad n rows (.tup [.tup ((S.map .int).set k (.int v)), .tup (B.map .int)]) := by
  rw [ints_set]; exact bad_ints hl h
theorem bad_er {n : Nat} {rows : List (List Int)} {S B : List Int} {k : Nat} (hl : (S.eraseIdx k).length ≤ 100000) (h : ¬ GoodP n rows (S.eraseIdx k) B) : Bad n rows (.tup [.tup ((S.map .int).eraseIdx k), .tup (B.map .int)]) := by
  rw [map_erase]; exact bad_ints hl h
theorem bad_er2 {n : Nat} {rows : List (List Int)} {S B : List Int} {k : Nat} (hl : S.length ≤ 100000) (h : ¬ GoodP n rows S (B.eraseIdx k)) : Bad n rows (.tup [.tup (S.map .int), .tup ((B.map .int).eraseIdx k)]) := by
  rw [map_erase]; exact bad_ints hl h
theorem bad_nil {n : Nat} {rows : List (List Int)} : Bad n rows (.tup [.tup [], .tup []]) := bad_ints (S := []) (N := []) (by simp) fun q => q.2.2.1 rfl
theorem bad_shape {n : Nat} {rows : List (List Int)} {d : D} (h : ∀ a b, d ≠ .tup [.tup a, .tup b]) (h2 : ∀ a b, d = .tup [.tup a, b] → a.length ≤ 100000) : Bad n rows d := ⟨barB_no h, h2⟩
theorem bad_r {n : Nat} {rows : List (List Int)} {S B : List Int} {k : Nat} {d : D} (hk : k < B.length) (h : ∀ i, d ≠ .int i) (hl : (S.map D.int).length ≤ 100000) : Bad n rows (.tup [.tup (S.map .int), .tup ((B.map .int).set k d)]) :=
  ⟨barB_of ⟨fun z => (by cases z), fun ⟨S', N', e, _⟩ => by
    injection e with e; injection e with _ e; injection e with e _; injection e with e
    have z1 : ((B.map D.int).set k d)[k]? = some d := by rw [List.getElem?_set_self (by rw [List.length_map]; exact hk)]
    have z2 : some d = (N'.map D.int)[k]? := z1.symm.trans (congrArg (fun l : List D => l[k]?) e)
    rw [List.getElem?_map] at z2
    obtain ⟨a, _, q⟩ := Option.map_eq_some_iff.mp z2.symm
    exact absurd q.symm (h a)⟩, fun a b e => by
    injection e with e; injection e with e _; injection e with e
    rw [← e]; exact hl⟩
theorem bad_l {n : Nat} {rows : List (List Int)} {S B : List Int} {k : Nat} {d : D} (hk : k < S.length) (h : ∀ i, d ≠ .int i) (hl : (S.map D.int).length ≤ 100000) : Bad n rows (.tup [.tup ((S.map .int).set k d), .tup (B.map .int)]) :=
  ⟨barB_of ⟨fun z => (by cases z), fun ⟨S', N', e, _⟩ => by
    injection e with e; injection e with e _; injection e with e
    have z1 : ((S.map D.int).set k d)[k]? = some d := by rw [List.getElem?_set_self (by rw [List.length_map]; exact hk)]
    have z2 : some d = (S'.map D.int)[k]? := z1.symm.trans (congrArg (fun l : List D => l[k]?) e)
    rw [List.getElem?_map] at z2
    obtain ⟨a, _, q⟩ := Option.map_eq_some_iff.mp z2.symm
    exact absurd q.symm (h a)⟩, fun a b e => by
    injection e with e; injection e with e _; injection e with e
    rw [← e, List.length_set]; exact hl⟩
theorem strC_s {i : Int} (h : 0 ≤ i) (h2 : i ≤ 1000000) : strC i = true := by
  unfold strC
  rw [decide_eq_true_iff]
  by_cases z : i.natAbs = 0
  · rw [z]; decide
  · exact (Nat.log2_lt z).mpr (Nat.lt_of_lt_of_le (show i.natAbs < 2 ^ 20 by omega) (Nat.pow_le_pow_right (by omega) (by omega)))
theorem pow59 : powC 10 59 = true := by decide +kernel
def LokQ (n : Nat) (rows : List (List Int)) (lo hi : Nat) : D → List D → Prop := fun d os => ∃ (L : List D) (f' : D), d = .own L ∧ os = [f'] ∧ Fd f' ∧ pls L = true ∧ lo ≤ L.length ∧ L.length ≤ hi ∧ ∀ d ∈ L, Bad n rows d
theorem zip_at {α β : Type} {a : List α} {b : List β} {k : Nat} (h : k < a.length) (h2 : k < b.length) : (a[k], b[k]) ∈ a.zip b := List.mem_iff_getElem.mpr ⟨k, by rw [List.length_zip]; omega, by rw [List.getElem_zip]⟩
theorem bent_ok {f : D} (hf : Fd f) {n : Nat} {rows : List (List Int)} {S B M : List Int} {s0 s1 : Int} (hn : n ≤ 6) (hl : rows.length ≤ 200) (hS : Asc n S) (hBl : B.length = S.length) (hB : ∀ v ∈ B, 0 ≤ v ∧ v ≤ (rows.length : Int) - 1) (hM : M.length = 5) (hMv : ∀ v ∈ M, 0 ≤ v ∧ v ≤ (rows.length : Int) - 1)
    (hm2 : ∀ i, nwB (rowOf rows (.int (atR M 2))) i S = false) (h1 : 0 ≤ s1 ∧ s1 < S.length) (hm1 : S.length < n → nwB (rowOf rows (.int (atR M 1))) (atR S s1) S = false) : WpR (m_law_bent [f, .int (n : Int), .tup (rowsD rows), .tup (S.map .int), .tup (B.map .int), .lst (M.map .int), .lst [.int s0, .int s1]]) (LokQ n rows 21 23) := by
  obtain ⟨hp, hS, hne⟩ := hS
  have pS : 0 < S.length := List.length_pos_iff.mpr hne
  have lSn : S.length ≤ n := by
    have := List.Nodup.length_le_of_subset (hp.imp (fun h e => by omega)) (List.subset_def.mpr fun {a} m => intsTo_mem.mpr (hS a m) : S ⊆ intsTo n)
    rw [intsTo_len] at this; exact this
  refine wpr_mk rfl ?_
  unfold b_law_bent
  rw [show startE 11 [f, .int (n : Int), .tup (rowsD rows), .tup (S.map .int), .tup (B.map .int), .lst (M.map .int), .lst [.int s0, .int s1]] = [some f, some (.int (n)), some (.tup (rowsD (rows))), some (.tup ((S).map D.int)), some (.tup ((B).map D.int)), some (.lst ((M).map D.int)), some (.lst (([s0, s1]).map D.int)), none, none, none, none] from rfl]
  refine wp_mid (fun w => ∃ f, ∃ k : Nat, Fd f ∧ k < S.length ∧ w = [some f, some (.int (n)), some (.tup (rowsD (rows))), some (.tup ((S).map D.int)), some (.tup ((B).map D.int)), some (.lst ((M).map D.int)), some (.lst (([s0, s1]).map D.int)), some (.int ((k : Nat))), none, none, none]) ?_ ?_
  · simp [hf]
    refine (draw_ok hf (by omega) (by omega)).draw fun v f h4 h5 hf => ?_
    obtain ⟨k, rfl⟩ : ∃ k : Nat, v = (k : Int) := ⟨v.toNat, by omega⟩
    simp
    exact ⟨f, hf, k, by omega, rfl, rfl⟩
  rintro w ⟨f, k, hf, hkS, rfl⟩
  have hkB : k < B.length := by omega
  refine wp_mid (fun w => ∃ bk : List D, bk = ((List.range S.length).map fun m : Nat => (S.length : Int) - 1 - m).map D.int ∧ w = [some f, some (.int (n)), some (.tup (rowsD (rows))), some (.tup ((S).map D.int)), some (.tup ((B).map D.int)), some (.lst ((M).map D.int)), some (.lst (([s0, s1]).map D.int)), some (.int ((k : Nat))), some (.own (bk)), none, none]) ?_ ?_
  · have r1 : rg3 ((S.length : Int) - 1) (-1) (-1) = true := by
      unfold rg3
      rw [rngC_of (show (0 : Int) ≤ S.length - 1 by omega) (by omega), show rngC (-1) = true by decide]
      simp; omega
    simp [r1]
    intro a _
    omega
  rintro w ⟨bk, hbk, rfl⟩
  have atk : ∀ {l : List Int} (h : k < l.length), atR l (k : Int) = l[k] := fun {l} h => by unfold atR; rw [Int.toNat_natCast, List.getD_eq_getElem?_getD, List.getElem?_eq_getElem h]; rfl
  have gB : seqIx (B.map D.int) (k : Int) = some (.int (atR B k)) := seqIx_at (by omega) (by omega)
  have gS : seqIx (S.map D.int) (k : Int) = some (.int (atR S k)) := seqIx_at (by omega) (by omega)
  have gS0 : seqIx (S.map D.int) 0 = some (.int (atR S 0)) := seqIx_at (by omega) (by omega)
  have gM2 : seqIx (M.map D.int) 2 = some (.int (atR M 2)) := seqIx_at (by omega) (by omega)
  have lB := line (show B.length + 1 ≤ 1000000 by omega)
  have lS := line (show S.length + 1 ≤ 1000000 by omega)
  rw [hBl] at lB
  have hBk := hB _ (atR_in (S := B) (t := (k : Int)) (by omega) (by omega))
  have hSk := hS _ (atR_in (S := S) (t := (k : Int)) (by omega) (by omega))
  have hS0 := hS _ (atR_in (S := S) (t := 0) (by omega) (by omega))
  have aB : ∀ Bx : List Int, dList (.tup (Bx.map .int)) = some (.own (Bx.map .int)) := fun Bx => by show (if pls (Bx.map D.int) = true then some (D.own (Bx.map .int)) else none) = _; rw [if_pos pls_ints]
  have aS := aB
  have sB : strC (atR B k) = true := strC_s hBk.1 (by omega)
  have sS : strC (atR S k) = true := strC_s hSk.1 (by omega)
  have p59 := pow59
  obtain ⟨ls, hls⟩ : ∃ v, S.getLast? = some v := by rw [List.getLast?_eq_some_getLast hne]; exact ⟨_, rfl⟩
  have hneB : B ≠ [] := fun e => by rw [e] at hBl; simp at hBl; omega
  obtain ⟨lb, hlb⟩ : ∃ v, B.getLast? = some v := by rw [List.getLast?_eq_some_getLast hneB]; exact ⟨_, rfl⟩
  have lastS := seqIx_last hls
  have lastB := seqIx_last hlb
  have mlS := List.mem_of_getLast? hls
  refine wp_mid (fun w => ∃ Lx, Lok n rows Lx 3 ∧ w = [some f, some (.int (n)), some (.tup (rowsD (rows))), some (.tup ((S).map D.int)), some (.tup ((B).map D.int)), some (.lst ((M).map D.int)), some (.lst (([s0, s1]).map D.int)), some (.int ((k : Nat))), some (.own (bk)), some (.own (Lx)), none]) ?_ ?_
  · have m2 : 2 ≤ sizeLine := line (by omega)
    have m1 : 1 ≤ sizeLine := line (by omega)
    have m3 : 3 ≤ sizeLine := line (by omega)
    simp [gM2]
    refine (put_ok (xs := B.map .int) (by simp) rfl (by simpa using hkB) (by simp; omega)).dq ?_
    simp [mkTup, m1, m2, gM2, hBl, lB]
    refine (without_ok (xs := B.map .int) (by simp) (by simpa using hkB) (by simp; omega)).dq ?_
    try simp [mkTup, mkOwn, m1, m2, m3]
    refine ⟨?_, ?_, ?_⟩
    · simp [pls_s1, pls_s2, pls_s3, pls_s4, pls_e1]
    · simp
    · have b1 : Bad n rows (.tup [.tup (S.map .int), .tup ((B.map .int).set k (.int (atR M 2)))]) := bad_set (by omega) fun q => by
        have := q.2.2.2.2.2 _ (zip_at (k := k) hkS (by simpa using hkB))
        simp at this
        rw [hm2] at this; cases this
      have b2 : Bad n rows (.tup [.tup (S.map .int), .tup ((B ++ [atR M 2]).map .int)]) := bad_ints (by omega) fun q => by
        have := q.2.2.2.1
        simp at this; omega
      have b3 : Bad n rows (.tup [.tup (S.map .int), .tup ((B.map .int).eraseIdx k)]) := bad_er2 (by omega) fun q => by
        have := q.2.2.2.1
        rw [List.length_eraseIdx_of_lt hkB] at this; omega
      rw [List.map_append] at b2
      intro d m
      simp at m
      rcases m with rfl | rfl | rfl
      · exact b1
      · exact b2
      · exact b3
  rintro w ⟨Lx, h, rfl⟩
  refine wp_mid (fun w => ∃ Lx, Lok n rows Lx 4 ∧ w = [some f, some (.int (n)), some (.tup (rowsD (rows))), some (.tup ((S).map D.int)), some (.tup ((B).map D.int)), some (.lst ((M).map D.int)), some (.lst (([s0, s1]).map D.int)), some (.int ((k : Nat))), some (.own (bk)), some (.own (Lx)), none]) ?_ ?_
  · have l2 := line' (show Lx.length < 1000000 by have := h.2.1; omega)
    have m2 : 2 ≤ sizeLine := line (by omega)
    have m1 : 1 ≤ sizeLine := line (by omega)
    have m3 : 3 ≤ sizeLine := line (by omega)
    have m4 : 4 ≤ sizeLine := line (by omega)
    simp [mkTup, mkOwn, m1, m2, m3, m4, l2, gB, gS, gM2, gS0, lB, lS, aB, aS, sB, sS, p59, hBl]
    refine (without_ok (xs := S.map .int) (by simp) (by simpa using hkS) (by simp; omega)).dq ?_
    try simp [mkTup, mkOwn, m1, m2, m3, m4, l2, gB, gS, gM2, gS0, lB, lS, aB, aS, sB, sS, p59, hBl]
    exact h.app (by simp [pls_s1, pls_s2, pls_s3, pls_s4, pls_e1]) (bad_er (by rw [List.length_eraseIdx_of_lt hkS]; omega) (fun q => by have := q.2.2.2.1; rw [List.length_eraseIdx_of_lt hkS] at this; omega))
  rintro w ⟨Lx, h, rfl⟩
  refine wp_mid (fun w => ∃ Lx, Lok n rows Lx 5 ∧ w = [some f, some (.int (n)), some (.tup (rowsD (rows))), some (.tup ((S).map D.int)), some (.tup ((B).map D.int)), some (.lst ((M).map D.int)), some (.lst (([s0, s1]).map D.int)), some (.int ((k : Nat))), some (.own (bk)), some (.own (Lx)), none]) ?_ ?_
  · have l2 := line' (show Lx.length < 1000000 by have := h.2.1; omega)
    have m2 : 2 ≤ sizeLine := line (by omega)
    have m1 : 1 ≤ sizeLine := line (by omega)
    have m3 : 3 ≤ sizeLine := line (by omega)
    have m4 : 4 ≤ sizeLine := line (by omega)
    simp [mkTup, mkOwn, m1, m2, m3, m4, l2, gB, gS, gM2, gS0, lB, lS, aB, aS, sB, sS, p59, hBl]
    refine (put_ok (xs := B.map .int) (by simp) rfl (by simpa [hBl] using hkS) (by simp; omega)).dq ?_
    try simp [mkTup, mkOwn, m1, m2, m3, m4, l2, gB, gS, gM2, gS0, lB, lS, aB, aS, sB, sS, p59, hBl]
    exact h.app (by simp [pls_s1, pls_s2, pls_s3, pls_s4, pls_e1]) (bad_set (by omega) (fun q => by have := q.2.2.2.2.1 _ (mem_setS hkB _); have := hBk; omega))
  rintro w ⟨Lx, h, rfl⟩
  refine wp_mid (fun w => ∃ Lx, Lok n rows Lx 6 ∧ w = [some f, some (.int (n)), some (.tup (rowsD (rows))), some (.tup ((S).map D.int)), some (.tup ((B).map D.int)), some (.lst ((M).map D.int)), some (.lst (([s0, s1]).map D.int)), some (.int ((k : Nat))), some (.own (bk)), some (.own (Lx)), none]) ?_ ?_
  · have l2 := line' (show Lx.length < 1000000 by have := h.2.1; omega)
    have m2 : 2 ≤ sizeLine := line (by omega)
    have m1 : 1 ≤ sizeLine := line (by omega)
    have m3 : 3 ≤ sizeLine := line (by omega)
    have m4 : 4 ≤ sizeLine := line (by omega)
    simp [mkTup, mkOwn, m1, m2, m3, m4, l2, gB, gS, gM2, gS0, lB, lS, aB, aS, sB, sS, p59, hBl]
    refine (put_ok (xs := B.map .int) (by simp) rfl (by simpa [hBl] using hkS) (by simp; omega)).dq ?_
    try simp [mkTup, mkOwn, m1, m2, m3, m4, l2, gB, gS, gM2, gS0, lB, lS, aB, aS, sB, sS, p59, hBl]
    exact h.app (by simp [pls_s1, pls_s2, pls_s3, pls_s4, pls_e1]) (bad_set (by omega) (fun q => by have := q.2.2.2.2.1 _ (mem_setS hkB _); omega))
  rintro w ⟨Lx, h, rfl⟩
  refine wp_mid (fun w => ∃ Lx, Lok n rows Lx 7 ∧ w = [some f, some (.int (n)), some (.tup (rowsD (rows))), some (.tup ((S).map D.int)), some (.tup ((B).map D.int)), some (.lst ((M).map D.int)), some (.lst (([s0, s1]).map D.int)), some (.int ((k : Nat))), some (.own (bk)), some (.own (Lx)), none]) ?_ ?_
  · have l2 := line' (show Lx.length < 1000000 by have := h.2.1; omega)
    have m2 : 2 ≤ sizeLine := line (by omega)
    have m1 : 1 ≤ sizeLine := line (by omega)
    have m3 : 3 ≤ sizeLine := line (by omega)
    have m4 : 4 ≤ sizeLine := line (by omega)
    simp [mkTup, mkOwn, m1, m2, m3, m4, l2, gB, gS, gM2, gS0, lB, lS, aB, aS, sB, sS, p59, hBl]
    refine (put_ok (xs := S.map .int) (by simp) rfl (by simpa using pS) (by simp; omega)).dq ?_
    try simp [mkTup, mkOwn, m1, m2, m3, m4, l2, gB, gS, gM2, gS0, lB, lS, aB, aS, sB, sS, p59, hBl]
    exact h.app (by simp [pls_s1, pls_s2, pls_s3, pls_s4, pls_e1]) (bad_setl (by simp; omega) (fun q => by have := q.2.1 _ (mem_setS pS _); have := hS0; omega))
  rintro w ⟨Lx, h, rfl⟩
  refine wp_mid (fun w => ∃ Lx, Lok n rows Lx 8 ∧ w = [some f, some (.int (n)), some (.tup (rowsD (rows))), some (.tup ((S).map D.int)), some (.tup ((B).map D.int)), some (.lst ((M).map D.int)), some (.lst (([s0, s1]).map D.int)), some (.int ((k : Nat))), some (.own (bk)), some (.own (Lx)), none]) ?_ ?_
  · have l2 := line' (show Lx.length < 1000000 by have := h.2.1; omega)
    have m2 : 2 ≤ sizeLine := line (by omega)
    have m1 : 1 ≤ sizeLine := line (by omega)
    have m3 : 3 ≤ sizeLine := line (by omega)
    have m4 : 4 ≤ sizeLine := line (by omega)
    simp [mkTup, mkOwn, m1, m2, m3, m4, l2, gB, gS, gM2, gS0, lB, lS, aB, aS, sB, sS, p59, hBl]
    exact h.app (by simp [pls_s1, pls_s2, pls_s3, pls_s4, pls_e1]) (bad_ints2 (by simp; omega) (fun q => by have := q.2.1 (n : Int) (by simp); omega))
  rintro w ⟨Lx, h, rfl⟩
  refine wp_mid (fun w => ∃ Lx, Lok n rows Lx 9 ∧ w = [some f, some (.int (n)), some (.tup (rowsD (rows))), some (.tup ((S).map D.int)), some (.tup ((B).map D.int)), some (.lst ((M).map D.int)), some (.lst (([s0, s1]).map D.int)), some (.int ((k : Nat))), some (.own (bk)), some (.own (Lx)), none]) ?_ ?_
  · have l2 := line' (show Lx.length < 1000000 by have := h.2.1; omega)
    have m2 : 2 ≤ sizeLine := line (by omega)
    have m1 : 1 ≤ sizeLine := line (by omega)
    have m3 : 3 ≤ sizeLine := line (by omega)
    have m4 : 4 ≤ sizeLine := line (by omega)
    simp [mkTup, mkOwn, m1, m2, m3, m4, l2, gB, gS, gM2, gS0, lB, lS, aB, aS, sB, sS, p59, hBl, lastS, lastB]
    exact h.app (by simp [pls_s1, pls_s2, pls_s3, pls_s4, pls_e1]) (bad_ints2 (by simp; omega) (fun q => by have q1 := q.1; rw [List.pairwise_append] at q1; have := q1.2.2 _ mlS _ List.mem_cons_self; omega))
  rintro w ⟨Lx, h, rfl⟩
  refine wp_mid (fun w => ∃ Lx, Lok n rows Lx 10 ∧ w = [some f, some (.int (n)), some (.tup (rowsD (rows))), some (.tup ((S).map D.int)), some (.tup ((B).map D.int)), some (.lst ((M).map D.int)), some (.lst (([s0, s1]).map D.int)), some (.int ((k : Nat))), some (.own (bk)), some (.own (Lx)), none]) ?_ ?_
  · have l2 := line' (show Lx.length < 1000000 by have := h.2.1; omega)
    have m2 : 2 ≤ sizeLine := line (by omega)
    have m1 : 1 ≤ sizeLine := line (by omega)
    have m3 : 3 ≤ sizeLine := line (by omega)
    have m4 : 4 ≤ sizeLine := line (by omega)
    simp [mkTup, mkOwn, m1, m2, m3, m4, l2, gB, gS, gM2, gS0, lB, lS, aB, aS, sB, sS, p59, hBl]
    exact h.app (by simp [pls_s1, pls_s2, pls_s3, pls_s4, pls_e1]) (bad_nil)
  rintro w ⟨Lx, h, rfl⟩
  refine wp_mid (fun w => ∃ Lx, Lok n rows Lx 11 ∧ w = [some f, some (.int (n)), some (.tup (rowsD (rows))), some (.tup ((S).map D.int)), some (.tup ((B).map D.int)), some (.lst ((M).map D.int)), some (.lst (([s0, s1]).map D.int)), some (.int ((k : Nat))), some (.own (bk)), some (.own (Lx)), none]) ?_ ?_
  · have l2 := line' (show Lx.length < 1000000 by have := h.2.1; omega)
    have m2 : 2 ≤ sizeLine := line (by omega)
    have m1 : 1 ≤ sizeLine := line (by omega)
    have m3 : 3 ≤ sizeLine := line (by omega)
    have m4 : 4 ≤ sizeLine := line (by omega)
    simp [mkTup, mkOwn, m1, m2, m3, m4, l2, gB, gS, gM2, gS0, lB, lS, aB, aS, sB, sS, p59, hBl]
    exact h.app (by simp [pls_s1, pls_s2, pls_s3, pls_s4, pls_e1]) (bad_shape (by intro a b e; cases e) (by intro a b e; cases e))
  rintro w ⟨Lx, h, rfl⟩
  refine wp_mid (fun w => ∃ Lx, Lok n rows Lx 12 ∧ w = [some f, some (.int (n)), some (.tup (rowsD (rows))), some (.tup ((S).map D.int)), some (.tup ((B).map D.int)), some (.lst ((M).map D.int)), some (.lst (([s0, s1]).map D.int)), some (.int ((k : Nat))), some (.own (bk)), some (.own (Lx)), none]) ?_ ?_
  · have l2 := line' (show Lx.length < 1000000 by have := h.2.1; omega)
    have m2 : 2 ≤ sizeLine := line (by omega)
    have m1 : 1 ≤ sizeLine := line (by omega)
    have m3 : 3 ≤ sizeLine := line (by omega)
    have m4 : 4 ≤ sizeLine := line (by omega)
    simp [mkTup, mkOwn, m1, m2, m3, m4, l2, gB, gS, gM2, gS0, lB, lS, aB, aS, sB, sS, p59, hBl]
    exact h.app (by simp [pls_s1, pls_s2, pls_s3, pls_s4, pls_e1]) (bad_shape (by intro a b e; cases e) (by intro a b e; cases e))
  rintro w ⟨Lx, h, rfl⟩
  refine wp_mid (fun w => ∃ Lx, Lok n rows Lx 13 ∧ w = [some f, some (.int (n)), some (.tup (rowsD (rows))), some (.tup ((S).map D.int)), some (.tup ((B).map D.int)), some (.lst ((M).map D.int)), some (.lst (([s0, s1]).map D.int)), some (.int ((k : Nat))), some (.own (bk)), some (.own (Lx)), none]) ?_ ?_
  · have l2 := line' (show Lx.length < 1000000 by have := h.2.1; omega)
    have m2 : 2 ≤ sizeLine := line (by omega)
    have m1 : 1 ≤ sizeLine := line (by omega)
    have m3 : 3 ≤ sizeLine := line (by omega)
    have m4 : 4 ≤ sizeLine := line (by omega)
    simp [mkTup, mkOwn, m1, m2, m3, m4, l2, gB, gS, gM2, gS0, lB, lS, aB, aS, sB, sS, p59, hBl]
    exact h.app (by simp [pls_s1, pls_s2, pls_s3, pls_s4, pls_e1]) (bad_shape (by intro a b e; cases e) (by intro a b e; cases e))
  rintro w ⟨Lx, h, rfl⟩
  refine wp_mid (fun w => ∃ Lx, Lok n rows Lx 14 ∧ w = [some f, some (.int (n)), some (.tup (rowsD (rows))), some (.tup ((S).map D.int)), some (.tup ((B).map D.int)), some (.lst ((M).map D.int)), some (.lst (([s0, s1]).map D.int)), some (.int ((k : Nat))), some (.own (bk)), some (.own (Lx)), none]) ?_ ?_
  · have l2 := line' (show Lx.length < 1000000 by have := h.2.1; omega)
    have m2 : 2 ≤ sizeLine := line (by omega)
    have m1 : 1 ≤ sizeLine := line (by omega)
    have m3 : 3 ≤ sizeLine := line (by omega)
    have m4 : 4 ≤ sizeLine := line (by omega)
    simp [mkTup, mkOwn, m1, m2, m3, m4, l2, gB, gS, gM2, gS0, lB, lS, aB, aS, sB, sS, p59, hBl]
    exact h.app (by simp [pls_s1, pls_s2, pls_s3, pls_s4, pls_e1]) (bad_shape (by intro a b e; cases e) (by intro a b e; injection e with e; injection e with e _; injection e with e; subst e; simp; omega))
  rintro w ⟨Lx, h, rfl⟩
  refine wp_mid (fun w => ∃ Lx, Lok n rows Lx 15 ∧ w = [some f, some (.int (n)), some (.tup (rowsD (rows))), some (.tup ((S).map D.int)), some (.tup ((B).map D.int)), some (.lst ((M).map D.int)), some (.lst (([s0, s1]).map D.int)), some (.int ((k : Nat))), some (.own (bk)), some (.own (Lx)), none]) ?_ ?_
  · have l2 := line' (show Lx.length < 1000000 by have := h.2.1; omega)
    have m2 : 2 ≤ sizeLine := line (by omega)
    have m1 : 1 ≤ sizeLine := line (by omega)
    have m3 : 3 ≤ sizeLine := line (by omega)
    have m4 : 4 ≤ sizeLine := line (by omega)
    simp [mkTup, mkOwn, m1, m2, m3, m4, l2, gB, gS, gM2, gS0, lB, lS, aB, aS, sB, sS, p59, hBl]
    exact h.app (by simp [pls_s1, pls_s2, pls_s3, pls_s4, pls_e1]) (bad_shape (by intro a b e; cases e) (by intro a b e; cases e))
  rintro w ⟨Lx, h, rfl⟩
  refine wp_mid (fun w => ∃ Lx, Lok n rows Lx 16 ∧ w = [some f, some (.int (n)), some (.tup (rowsD (rows))), some (.tup ((S).map D.int)), some (.tup ((B).map D.int)), some (.lst ((M).map D.int)), some (.lst (([s0, s1]).map D.int)), some (.int ((k : Nat))), some (.own (bk)), some (.own (Lx)), none]) ?_ ?_
  · have l2 := line' (show Lx.length < 1000000 by have := h.2.1; omega)
    have m2 : 2 ≤ sizeLine := line (by omega)
    have m1 : 1 ≤ sizeLine := line (by omega)
    have m3 : 3 ≤ sizeLine := line (by omega)
    have m4 : 4 ≤ sizeLine := line (by omega)
    simp [mkTup, mkOwn, m1, m2, m3, m4, l2, gB, gS, gM2, gS0, lB, lS, aB, aS, sB, sS, p59, hBl]
    exact h.app (by simp [pls_s1, pls_s2, pls_s3, pls_s4, pls_e1]) (bad_shape (by intro a b e; cases e) (by intro a b e; cases e))
  rintro w ⟨Lx, h, rfl⟩
  refine wp_mid (fun w => ∃ Lx, Lok n rows Lx 17 ∧ w = [some f, some (.int (n)), some (.tup (rowsD (rows))), some (.tup ((S).map D.int)), some (.tup ((B).map D.int)), some (.lst ((M).map D.int)), some (.lst (([s0, s1]).map D.int)), some (.int ((k : Nat))), some (.own (bk)), some (.own (Lx)), none]) ?_ ?_
  · have l2 := line' (show Lx.length < 1000000 by have := h.2.1; omega)
    have m2 : 2 ≤ sizeLine := line (by omega)
    have m1 : 1 ≤ sizeLine := line (by omega)
    have m3 : 3 ≤ sizeLine := line (by omega)
    have m4 : 4 ≤ sizeLine := line (by omega)
    simp [mkTup, mkOwn, m1, m2, m3, m4, l2, gB, gS, gM2, gS0, lB, lS, aB, aS, sB, sS, p59, hBl]
    refine (put_ok (xs := B.map .int) (by simp) rfl (by simpa [hBl] using hkS) (by simp; omega)).dq ?_
    try simp [mkTup, mkOwn, m1, m2, m3, m4, l2, gB, gS, gM2, gS0, lB, lS, aB, aS, sB, sS, p59, hBl]
    exact h.app (by simp [pls_s1, pls_s2, pls_s3, pls_s4, pls_e1]) (bad_r hkB (by intro i; simp) (by simp; omega))
  rintro w ⟨Lx, h, rfl⟩
  refine wp_mid (fun w => ∃ Lx, Lok n rows Lx 18 ∧ w = [some f, some (.int (n)), some (.tup (rowsD (rows))), some (.tup ((S).map D.int)), some (.tup ((B).map D.int)), some (.lst ((M).map D.int)), some (.lst (([s0, s1]).map D.int)), some (.int ((k : Nat))), some (.own (bk)), some (.own (Lx)), none]) ?_ ?_
  · have l2 := line' (show Lx.length < 1000000 by have := h.2.1; omega)
    have m2 : 2 ≤ sizeLine := line (by omega)
    have m1 : 1 ≤ sizeLine := line (by omega)
    have m3 : 3 ≤ sizeLine := line (by omega)
    have m4 : 4 ≤ sizeLine := line (by omega)
    simp [mkTup, mkOwn, m1, m2, m3, m4, l2, gB, gS, gM2, gS0, lB, lS, aB, aS, sB, sS, p59, hBl]
    refine (put_ok (xs := B.map .int) (by simp) rfl (by simpa [hBl] using hkS) (by simp; omega)).dq ?_
    try simp [mkTup, mkOwn, m1, m2, m3, m4, l2, gB, gS, gM2, gS0, lB, lS, aB, aS, sB, sS, p59, hBl]
    exact h.app (by simp [pls_s1, pls_s2, pls_s3, pls_s4, pls_e1]) (bad_r hkB (by intro i; simp) (by simp; omega))
  rintro w ⟨Lx, h, rfl⟩
  refine wp_mid (fun w => ∃ Lx, Lok n rows Lx 19 ∧ w = [some f, some (.int (n)), some (.tup (rowsD (rows))), some (.tup ((S).map D.int)), some (.tup ((B).map D.int)), some (.lst ((M).map D.int)), some (.lst (([s0, s1]).map D.int)), some (.int ((k : Nat))), some (.own (bk)), some (.own (Lx)), none]) ?_ ?_
  · have l2 := line' (show Lx.length < 1000000 by have := h.2.1; omega)
    have m2 : 2 ≤ sizeLine := line (by omega)
    have m1 : 1 ≤ sizeLine := line (by omega)
    have m3 : 3 ≤ sizeLine := line (by omega)
    have m4 : 4 ≤ sizeLine := line (by omega)
    simp [mkTup, mkOwn, m1, m2, m3, m4, l2, gB, gS, gM2, gS0, lB, lS, aB, aS, sB, sS, p59, hBl]
    refine (put_ok (xs := B.map .int) (by simp) (by simp) (by simpa [hBl] using hkS) (by simp; omega)).dq ?_
    try simp [mkTup, mkOwn, m1, m2, m3, m4, l2, gB, gS, gM2, gS0, lB, lS, aB, aS, sB, sS, p59, hBl]
    exact h.app (by simp [pls_s1, pls_s2, pls_s3, pls_s4, pls_e1]) (bad_r hkB (by intro i; simp) (by simp; omega))
  rintro w ⟨Lx, h, rfl⟩
  refine wp_mid (fun w => ∃ Lx, Lok n rows Lx 20 ∧ w = [some f, some (.int (n)), some (.tup (rowsD (rows))), some (.tup ((S).map D.int)), some (.tup ((B).map D.int)), some (.lst ((M).map D.int)), some (.lst (([s0, s1]).map D.int)), some (.int ((k : Nat))), some (.own (bk)), some (.own (Lx)), none]) ?_ ?_
  · have l2 := line' (show Lx.length < 1000000 by have := h.2.1; omega)
    have m2 : 2 ≤ sizeLine := line (by omega)
    have m1 : 1 ≤ sizeLine := line (by omega)
    have m3 : 3 ≤ sizeLine := line (by omega)
    have m4 : 4 ≤ sizeLine := line (by omega)
    simp [mkTup, mkOwn, m1, m2, m3, m4, l2, gB, gS, gM2, gS0, lB, lS, aB, aS, sB, sS, p59, hBl]
    refine (put_ok (xs := S.map .int) (by simp) rfl (by simpa using hkS) (by simp; omega)).dq ?_
    try simp [mkTup, mkOwn, m1, m2, m3, m4, l2, gB, gS, gM2, gS0, lB, lS, aB, aS, sB, sS, p59, hBl]
    exact h.app (by simp [pls_s1, pls_s2, pls_s3, pls_s4, pls_e1]) (bad_l hkS (by intro i; simp) (by simp; omega))
  rintro w ⟨Lx, h, rfl⟩
  refine wp_mid (fun w => ∃ Lx, Lok n rows Lx 21 ∧ w = [some f, some (.int (n)), some (.tup (rowsD (rows))), some (.tup ((S).map D.int)), some (.tup ((B).map D.int)), some (.lst ((M).map D.int)), some (.lst (([s0, s1]).map D.int)), some (.int ((k : Nat))), some (.own (bk)), some (.own (Lx)), none]) ?_ ?_
  · have l2 := line' (show Lx.length < 1000000 by have := h.2.1; omega)
    have m2 : 2 ≤ sizeLine := line (by omega)
    have m1 : 1 ≤ sizeLine := line (by omega)
    have m3 : 3 ≤ sizeLine := line (by omega)
    have m4 : 4 ≤ sizeLine := line (by omega)
    simp [mkTup, mkOwn, m1, m2, m3, m4, l2, gB, gS, gM2, gS0, lB, lS, aB, aS, sB, sS, p59, hBl]
    refine (put_ok (xs := B.map .int) (by simp) rfl (by simpa [hBl] using hkS) (by simp; omega)).dq ?_
    try simp [mkTup, mkOwn, m1, m2, m3, m4, l2, gB, gS, gM2, gS0, lB, lS, aB, aS, sB, sS, p59, hBl]
    exact h.app (by simp [pls_s1, pls_s2, pls_s3, pls_s4, pls_e1]) (bad_set (by omega) (fun q => by have := q.2.2.2.2.1 _ (mem_setS hkB _); have := hBk; omega))
  rintro w ⟨Lx, h, rfl⟩
  have finB : ∀ {L : List D} {k' : Nat}, 21 ≤ k' → k' ≤ 23 → Lok n rows L k' → LokQ n rows 21 23 (.own L) [f] := fun {L k'} a b h => ⟨L, f, rfl, rfl, hf, h.1, by rw [h.2.1]; exact a, by rw [h.2.1]; exact b, h.2.2⟩
  refine wp_mid (fun w => ∃ bk Lx k', 21 ≤ k' ∧ k' ≤ 22 ∧ Lok n rows Lx k' ∧ w = [some f, some (.int (n)), some (.tup (rowsD (rows))), some (.tup ((S).map D.int)), some (.tup ((B).map D.int)), some (.lst ((M).map D.int)), some (.lst (([s0, s1]).map D.int)), some (.int ((k : Nat))), bk, some (.own (Lx)), none]) ?_ ?_
  · by_cases c : 1 < S.length
    · have m2 : 2 ≤ sizeLine := line (by omega)
      have l2 := line' (show Lx.length < 1000000 by have := h.2.1; omega)
      have c' : (1 : Int) < S.length := by omega
      have idx : ∀ i, i ∈ ((List.range S.length).map fun m : Nat => (S.length : Int) - 1 - m) → 0 ≤ i ∧ i < S.length := fun i m => by
        obtain ⟨a, m2, rfl⟩ := List.mem_map.mp m
        have := List.mem_range.mp m2
        omega
      have il : ((List.range S.length).map fun m : Nat => (S.length : Int) - 1 - m).length = S.length := by simp
      simp [c', hbk, -List.map_map]
      generalize hI : ((List.range S.length).map fun m : Nat => (S.length : Int) - 1 - m) = I at idx il
      refine cmp_map (α := Int) (vs := [10]) D.int (fun i => D.int (atR S i)) I (fun i => [some f, some (.int (n)), some (.tup (rowsD (rows))), some (.tup ((S).map D.int)), some (.tup ((B).map D.int)), some (.lst ((M).map D.int)), some (.lst (([s0, s1]).map D.int)), some (.int ((k : Nat))), none, some (.own (Lx)), some (.int (i))]) (by omega) (fun _ _ => rfl) (fun _ _ => rfl) (fun i m => by simp [seqIx_at (idx i m).1 (idx i m).2]) fun w2 e el => ?_
      have e1 : (I.map fun i => D.int (atR S i)) = (I.map (atR S)).map D.int := by rw [List.map_map]; rfl
      simp at e el
      simp [e, el, e1, -List.map_map]
      refine cmp_map (α := Int) (vs := [10]) D.int (fun i => D.int (atR B i)) I (fun i => [some f, some (.int (n)), some (.tup (rowsD (rows))), some (.tup ((S).map D.int)), some (.tup ((B).map D.int)), some (.lst ((M).map D.int)), some (.lst (([s0, s1]).map D.int)), some (.int ((k : Nat))), none, some (.own (Lx)), some (.int (i))]) (by omega) (fun _ _ => rfl) (fun _ _ => rfl) (fun i m => by have := idx i m; simp [seqIx_at (r := B) this.1 (by omega)]) fun w2 e el => ?_
      have e2 : (I.map fun i => D.int (atR B i)) = (I.map (atR B)).map D.int := by rw [List.map_map]; rfl
      simp at e el
      simp [e, el, e2, mkTup, m2, l2, -List.map_map]
      refine ⟨_, _, 22, by omega, by omega, h.app (by simp [-List.map_map]) (bad_ints (by simp [il]; omega) fun q => ?_), rfl, rfl⟩
      have q1 := q.1
      have a0 : I[0]? = some ((S.length : Int) - 1) := by rw [← hI, List.getElem?_map, List.getElem?_range (by omega)]; simp
      have a1 : I[1]? = some ((S.length : Int) - 1 - 1) := by rw [← hI, List.getElem?_map, List.getElem?_range (by omega)]; simp
      have := List.pairwise_iff_getElem.mp q1 0 1 (by simp; omega) (by simp; omega) (by omega)
      simp only [List.getElem_map] at this
      rw [List.getElem?_eq_some_iff] at a0 a1
      obtain ⟨_, a0⟩ := a0
      obtain ⟨_, a1⟩ := a1
      rw [a0, a1] at this
      have hh := List.pairwise_iff_getElem.mp hp (S.length - 2) (S.length - 1) (by omega) (by omega) (by omega)
      have g : ∀ {j : Nat} (hj : j < S.length), atR S (j : Int) = S[j] := fun {j} hj => by unfold atR; rw [Int.toNat_natCast, List.getD_eq_getElem?_getD, List.getElem?_eq_getElem hj]; rfl
      rw [← g (show S.length - 2 < S.length by omega), ← g (show S.length - 1 < S.length by omega), show ((S.length - 2 : Nat) : Int) = (S.length : Int) - 1 - 1 by omega, show ((S.length - 1 : Nat) : Int) = (S.length : Int) - 1 by omega] at hh
      omega
    · have c' : ¬ (1 : Int) < S.length := by omega
      simp [c']
      exact ⟨_, _, 21, by omega, by omega, h, rfl, rfl⟩
  rintro w ⟨bk, Lx, k', hk1, hk2, h, rfl⟩
  by_cases c : S.length < n
  · have m2 : 2 ≤ sizeLine := line (by omega)
    have l2 := line' (show Lx.length < 1000000 by have := h.2.1; omega)
    have c' : (S.length : Int) < n := by omega
    obtain ⟨j, rfl⟩ : ∃ j : Nat, s1 = (j : Int) := ⟨s1.toNat, by omega⟩
    have hj : j < S.length := by omega
    have gM1 : seqIx (M.map D.int) 1 = some (.int (atR M 1)) := seqIx_at (by omega) (by omega)
    simp [c', gM1]
    refine (put_ok (xs := B.map .int) (by simp) rfl (by simp; omega) (by simp; omega)).dq ?_
    simp [mkTup, m2, l2]
    refine finB (k' := k' + 1) (by omega) (by omega) (h.app (by simp [pls_s1]) (bad_set (by omega) fun q => ?_))
    have := q.2.2.2.2.2 _ (zip_at (k := j) hj (by simp; omega))
    simp at this
    have g : atR S (j : Int) = S[j] := by unfold atR; rw [Int.toNat_natCast, List.getD_eq_getElem?_getD, List.getElem?_eq_getElem hj]; rfl
    rw [← g, hm1 c] at this; cases this
  · have c' : ¬ (S.length : Int) < n := by omega
    simp [c']
    exact finB (k' := k') (by omega) (by omega) h
end K18

set_option autoImplicit false
namespace K18
open PySem PySem.Spec L2 Pm 
def Small (d : D) : Prop := ∀ a b, d = .tup [.tup a, b] → a.length ≤ 100000
theorem small_pair {a : List D} {b : D} (h : a.length ≤ 100000) : Small (.tup [.tup a, b]) := fun x y e => by
  injection e with e; injection e with e _; injection e with e
  rw [← e]; exact h
def Sok (L : List D) (k : Nat) : Prop := L.length = k ∧ pls L = true ∧ ∀ d ∈ L, Small d
theorem Sok.app {L : List D} {k : Nat} {d : D} (h : Sok L k) (p : pl d = true) (b : Small d) : Sok (L ++ [d]) (k + 1) := by
  refine ⟨by simp [h.1], by simp [h.2.1, p], fun x m => ?_⟩
  rcases List.mem_append.mp m with m | m
  · exact h.2.2 x m
  · rw [List.mem_singleton.mp m]; exact b
def OthQ : D → List D → Prop := fun d os => ∃ (L : List D) (f' : D), d = .own L ∧ os = [f'] ∧ Fd f' ∧ pls L = true ∧ ∀ d ∈ L, Small d
theorem dRngT_int {k : Nat} (h : k ≤ 10000) : dRngT (.int (k : Int)) = some (.tup ((intsTo k).map .int)) := by
  have rc : rngC (k : Int) = true := rngC_of (by omega) (by omega)
  unfold dRngT
  rw [dRng_int, if_pos ⟨rc, by omega⟩, Option.bind_some, dTuple_own, Int.toNat_natCast, rngD_ints, if_pos pls_ints]
theorem others_ok {f : D} (hf : Fd f) {n : Nat} {rows : List (List Int)} {S B : List Int} (hn : n ≤ 6) (hl : rows.length ≤ 200) (h0 : 0 < rows.length) (hS : S.length ≤ 6) (hBl : B.length = S.length) (h1 : 0 < S.length) : WpR (m_law_others [f, .int (n : Int), .tup (rowsD rows), .tup (S.map .int), .tup (B.map .int)]) OthQ := by
  have rc : rngC (n : Int) = true := rngC_of (by omega) (by omega)
  have m1 : 1 ≤ sizeLine := line (by omega)
  have m2 : 2 ≤ sizeLine := line (by omega)
  refine wpr_mk rfl ?_
  unfold b_law_others
  rw [show startE 11 [f, .int (n : Int), .tup (rowsD rows), .tup (S.map .int), .tup (B.map .int)] = [some f, some (.int (n)), some (.tup (rowsD (rows))), some (.tup ((S).map D.int)), some (.tup ((B).map D.int)), none, none, none, none, none, none] from rfl]
  refine wp_mid (fun w => ∃ f, ∃ k : Nat, Fd f ∧ k < S.length ∧ w = [some f, some (.int (n)), some (.tup (rowsD (rows))), some (.tup ((S).map D.int)), some (.tup ((B).map D.int)), some (.int ((k : Nat))), none, none, none, none, none]) ?_ ?_
  · simp [hf]
    refine (draw_ok hf (by omega) (by omega)).draw fun v f h4 h5 hf => ?_
    obtain ⟨k, rfl⟩ : ∃ k : Nat, v = (k : Int) := ⟨v.toNat, by omega⟩
    simp
    exact ⟨f, hf, k, by omega, rfl, rfl⟩
  rintro w ⟨f, k, hf, hkS, rfl⟩
  have hkB : k < B.length := by omega
  refine wp_mid (fun w => ∃ Lx, Sok Lx 1 ∧ w = [some f, some (.int (n)), some (.tup (rowsD (rows))), some (.tup ((S).map D.int)), some (.tup ((B).map D.int)), some (.int ((k : Nat))), some (.own (Lx)), none, none, none, none]) ?_ ?_
  · simp
    refine (without_ok (xs := S.map .int) (by simp) (by simpa using hkS) (by simp; omega)).dq ?_
    refine (without_ok (xs := B.map .int) (by simp) (by simpa using hkB) (by simp; omega)).dq ?_
    refine ⟨rfl, by simp [pls_e1], fun d m => ?_⟩
    rw [List.mem_singleton.mp m]
    exact small_pair (by rw [map_erase, List.length_map, List.length_eraseIdx_of_lt hkS]; omega)
  rintro w ⟨Lx, hL, rfl⟩
  refine wp_mid (fun w => ∃ f Lx, Fd f ∧ Sok Lx 2 ∧ w = [some f, some (.int (n)), some (.tup (rowsD (rows))), some (.tup ((S).map D.int)), some (.tup ((B).map D.int)), some (.int ((k : Nat))), some (.own (Lx)), none, none, none, none]) ?_ ?_
  · simp [hf]
    refine (draw_ok hf (by omega) (by omega)).draw fun v f h4 h5 hf => ?_
    simp
    refine (put_ok (xs := B.map .int) (by simp) rfl (by simpa using hkB) (by simp; omega)).dq ?_
    simp [mkTup, m2, line' (show Lx.length < 1000000 by have := hL.1; omega)]
    first
        | exact hL.app (by simp [pls_s1]) (small_pair (by simp; omega))
        | exact ⟨hf, hL.app (by simp [pls_s1]) (small_pair (by simp; omega))⟩
  rintro w ⟨f, Lx, hf, hL, rfl⟩
  refine wp_mid (fun w => ∃ f, ∃ bs : List Int, Fd f ∧ bs.length = n ∧ w = [some f, some (.int (n)), some (.tup (rowsD (rows))), some (.tup ((S).map D.int)), some (.tup ((B).map D.int)), some (.int ((k : Nat))), some (.own (Lx)), some (.own ((bs).map D.int)), none, none, none]) ?_ ?_
  · simp [rc]
    refine cmp_draw D.int (fun _ _ => True) (fun f => [some f, some (.int (n)), some (.tup (rowsD (rows))), some (.tup ((S).map D.int)), some (.tup ((B).map D.int)), some (.int ((k : Nat))), some (.own (Lx)), none, none, none, none]) hf rfl (by rw [rngD_len]; omega) ?_ ?_
    · intro i x f hi hf
      simp [hf]
      refine (draw_ok hf (by decide) (by decide)).draw fun v f h4 h5 hf => ?_
      simp [hf]
    · intro l f w2 hl2 hp hf e el
      simp at e el
      simp [e, el]
      exact ⟨f, hf, l, by rw [rngD_len] at hl2; exact hl2, rfl, rfl⟩
  rintro w ⟨f, bs, hf, hbs, rfl⟩
  refine wp_mid (fun w => ∃ dr : List Int, dr.length ≤ n ∧ w = [some f, some (.int (n)), some (.tup (rowsD (rows))), some (.tup ((S).map D.int)), some (.tup ((B).map D.int)), some (.int ((k : Nat))), some (.own (Lx)), some (.own ((bs).map D.int)), some (.tup ((dr).map D.int)), none, none]) ?_ ?_
  · simp [rc, rngD_nat]
    refine cmp_pure D.int D.int (intsTo n) (fun i => decide (atR bs i = 1)) (fun i => [some f, some (.int (n)), some (.tup (rowsD (rows))), some (.tup ((S).map D.int)), some (.tup ((B).map D.int)), some (.int ((k : Nat))), some (.own (Lx)), some (.own ((bs).map D.int)), none, none, some (.int (i))]) (by rw [intsTo_len]; omega) (fun _ _ => rfl) (fun _ _ => rfl) (fun i m => ?_) (fun i m _ => by simp) fun w2 e el => ?_
    · have := intsTo_mem.mp m
      simp [seqIx_at (r := bs) this.1 (by omega)]
    · simp at e el
      simp [e, el]
      refine ⟨_, ?_, rfl⟩
      have := List.length_filter_le (fun i => decide (atR bs i = 1)) (intsTo n)
      rw [intsTo_len] at this; exact this
  rintro w ⟨dr, hdr, rfl⟩
  refine wp_mid (fun w => ∃ f Lx, Fd f ∧ Sok Lx 3 ∧ w = [some f, some (.int (n)), some (.tup (rowsD (rows))), some (.tup ((S).map D.int)), some (.tup ((B).map D.int)), some (.int ((k : Nat))), some (.own (Lx)), some (.own ((bs).map D.int)), some (.tup ((dr).map D.int)), none, none]) ?_ ?_
  · simp
    refine cmp_draw D.int (fun _ _ => True) (fun f => [some f, some (.int (n)), some (.tup (rowsD (rows))), some (.tup ((S).map D.int)), some (.tup ((B).map D.int)), some (.int ((k : Nat))), some (.own (Lx)), some (.own ((bs).map D.int)), some (.tup ((dr).map D.int)), none, none]) hf rfl (by rw [List.length_map]; omega) ?_ ?_
    · intro i x f hi hf
      simp [hf]
      refine (draw_ok hf (by omega) (by omega)).draw fun v f h4 h5 hf => ?_
      simp [hf]
    · intro l f w2 hl2 hp hf e el
      simp at e el
      simp [e, el, mkTup, m2, line' (show Lx.length < 1000000 by have := hL.1; omega)]
      first
        | exact hL.app (by simp) (small_pair (by simp; omega))
        | exact ⟨hf, hL.app (by simp) (small_pair (by simp; omega))⟩
  rintro w ⟨f, Lx, hf, hL, rfl⟩
  refine wp_mid (fun w => w = [some f, some (.int (n)), some (.tup (rowsD (rows))), some (.tup ((S).map D.int)), some (.tup ((B).map D.int)), some (.int ((k : Nat))), some (.own (Lx)), some (.own ((bs).map D.int)), some (.tup ((dr).map D.int)), some (.tup ((intsTo n).map D.int)), none]) ?_ ?_
  · simp [dRngT_int (show n ≤ 10000 by omega)]
  rintro w rfl
  refine wp_mid (fun w => ∃ f Lx, Fd f ∧ Sok Lx 4 ∧ w = [some f, some (.int (n)), some (.tup (rowsD (rows))), some (.tup ((S).map D.int)), some (.tup ((B).map D.int)), some (.int ((k : Nat))), some (.own (Lx)), some (.own ((bs).map D.int)), some (.tup ((dr).map D.int)), some (.tup ((intsTo n).map D.int)), none]) ?_ ?_
  · simp
    refine cmp_draw D.int (fun _ _ => True) (fun f => [some f, some (.int (n)), some (.tup (rowsD (rows))), some (.tup ((S).map D.int)), some (.tup ((B).map D.int)), some (.int ((k : Nat))), some (.own (Lx)), some (.own ((bs).map D.int)), some (.tup ((dr).map D.int)), some (.tup ((intsTo n).map D.int)), none]) hf rfl (by rw [List.length_map, intsTo_len]; omega) ?_ ?_
    · intro i x f hi hf
      simp [hf]
      refine (draw_ok hf (by omega) (by omega)).draw fun v f h4 h5 hf => ?_
      simp [hf]
    · intro l f w2 hl2 hp hf e el
      simp at e el
      simp [e, el, mkTup, m2, line' (show Lx.length < 1000000 by have := hL.1; omega)]
      first
        | exact hL.app (by simp) (small_pair (by simp [intsTo_len]; omega))
        | exact ⟨hf, hL.app (by simp) (small_pair (by simp [intsTo_len]; omega))⟩
  rintro w ⟨f, Lx, hf, hL, rfl⟩
  simp
  exact ⟨Lx, f, rfl, rfl, hf, hL.2.1, hL.2.2⟩
theorem odd_ok {f : D} (hf : Fd f) {n : Nat} {rows : List (List Int)} (hn : n ≤ 6) : WpR (m_law_odd [f]) (LokQ n rows 15 15) := by
  refine wpr_mk rfl ?_
  unfold b_law_odd startE
  refine wp_mid (fun w => w = [some f, some (.tup ([])), none, none]) (by simp [mkTup]) ?_
  rintro w rfl
  have m2 : 2 ≤ sizeLine := line (by omega)
  refine wp_to (fun w => ∃ f, Fd f ∧ ∃ a, (pls a = true ∧ a.length ≤ 2 ∧ Bad n rows (.tup a)) ∧ ∃ x, w = [some f, some (.tup (a)), x, none]) ?_ ?_
  · simp [hf]
    refine (draw_ok hf (by decide) (by decide)).draw fun v f h4 h5 hf => ?_
    simp [rngC_of (show 0 ≤ 40 + v by omega) (show 40 + v ≤ 1000000000 by omega)]
    refine lz_forM (fun _ w => ∃ a, (pls a = true ∧ a.length ≤ 2 ∧ Bad n rows (.tup a)) ∧ ∃ x, w = [some f, some (.tup (a)), x, none]) ⟨[], ⟨rfl, by simp, bad_shape (by intro a b e; cases e) (by intro a b e; cases e)⟩, none, rfl⟩ ?_ ?_
    · rintro w ⟨a, ha, x, rfl⟩
      simp
      exact .mk ⟨f, hf, a, ha, x, rfl⟩
    · rintro i d w hi ⟨a, ⟨h1, h2, h3⟩, x, rfl⟩
      simp [h1, mkTup, m2]
      refine .mk ⟨[.tup a, .int 0], ⟨by simp [h1], by simp, bad_shape (by intro a b e; injection e with e; injection e with _ e; injection e with e _; cases e) (by intro a' b e; injection e with e; injection e with e _; injection e with e; rw [← e]; omega)⟩, _, rfl⟩
  rintro w ⟨f, hf, a, ⟨h1, h2, h3⟩, x, rfl⟩
  have m14 : 14 ≤ sizeLine := line (by omega)
  refine wp_mid (fun w => ∃ Lx, (pls Lx = true ∧ Lx.length = 14 ∧ ∀ d ∈ Lx, Bad n rows d) ∧ w = [some f, some (.tup (a)), x, some (.own (Lx))]) ?_ ?_
  · have z0 : 0 ≤ sizeLine := Nat.zero_le _
    simp [h1, mkTup, mkOwn, m2, m14, z0]
    refine ⟨?_, ?_, ?_, ?_, ?_, ?_, ?_, ?_, ?_, ?_, ?_, ?_, ?_, ?_⟩
    all_goals first
      | exact h3
      | exact bad_shape (by intro a b e; simp at e) (by intro a b e; simp at e <;> (obtain ⟨rfl, _⟩ := e; simp))
  rintro w ⟨Lx, ⟨l1, l2, l3⟩, rfl⟩
  refine wp_to (fun w => ∃ Lx, (pls Lx = true ∧ Lx.length = 15 ∧ ∀ d ∈ Lx, Bad n rows d) ∧ w = [some f, some (.tup (a)), x, some (.own (Lx))]) ?_ ?_
  · have e3 : dRngT (.int 3000) = some (.tup ((intsTo 3000).map .int)) := dRngT_int (k := 3000) (by omega)
    simp [e3, mkTup, m2, line' (show Lx.length < 1000000 by omega)]
    refine .mk ⟨Lx ++ [.tup [.tup ((intsTo 3000).map .int), .tup ((intsTo 3000).map .int)]], ⟨by simp [l1], by simp [l2], fun d m => ?_⟩, rfl⟩
    rcases List.mem_append.mp m with m | m
    · exact l3 d m
    · rw [List.mem_singleton.mp m]
      refine bad_ints (by rw [intsTo_len]; omega) fun q => ?_
      have := q.2.1 2999 (intsTo_mem.mpr ⟨by omega, by omega⟩)
      omega
  rintro w ⟨Lx, ⟨l1, l2, l3⟩, rfl⟩
  simp
  exact ⟨Lx, f, rfl, rfl, hf, l1, by omega, by omega, l3⟩
end K18

set_option autoImplicit false
namespace K18
open PySem PySem.Spec L2 Pm 
def WQ (n : Nat) (o : List Int) (top : Nat) : D → List D → Prop := fun d os => ∃ (rows : List (List Int)) (f' : D), d = .tup (rowsD rows) ∧ os = [f'] ∧ Fd f' ∧ rows.length ≤ 200 ∧ 0 < rows.length ∧ World n o top rows
theorem Bars.mono {o : List Int} {top m : Nat} {a b : List (List Int)} (h : Bars o top m a) (s : ∀ r ∈ a, r ∈ b) : Bars o top m b := fun j hj l1 l2 => by
  obtain ⟨r, mr, hr⟩ := h j hj l1 l2
  exact ⟨r, s r mr, hr⟩
theorem world_ok {f : D} (hf : Fd f) {n top : Nat} {o : List Int} {wd : Bool} (ho : IsPerm n o) (hn : n ≤ 6) (h1 : 1 ≤ n) (ht : top ≤ n) : WpR (m_law_world [f, .lst (o.map .int), .int (top : Nat), .bl wd]) (WQ n o top) := by
  have hO := ho.ord
  have ol : o.length = n := hO.2.1
  refine wpr_mk rfl ?_
  unfold b_law_world
  rw [show startE 8 [f, .lst (o.map .int), .int (top : Nat), .bl wd] = [some f, some (.lst ((o).map D.int)), some (.int ((top : Nat))), some (.bl (wd)), none, none, none, none] from rfl]
  refine wp_to (fun w => w = [some f, some (.lst ((o).map D.int)), some (.int ((top : Nat))), some (.bl (wd)), some (.own (rowsD (([] : List (List Int))))), none, none, none]) (by simp; exact .mk rfl) ?_
  rintro w rfl
  refine wp_to (fun w => ∃ f, Fd f ∧ ∃ c : List (List Int), (c.length ≤ 6 ∧ Fit n o top c) ∧ w = [some f, some (.lst ((o).map D.int)), some (.int ((top : Nat))), some (.bl (wd)), some (.own (rowsD (c))), none, none, none]) ?_ ?_
  · by_cases c : 0 < top
    · have c' : (0 : Int) < top := by omega
      simp [c, hf]
      refine (draw_ok hf (by decide) (by decide)).draw fun v f h4 h5 hf => ?_
      simp [rngC_of (show 0 ≤ 2 + v by omega) (show 2 + v ≤ 1000000000 by omega)]
      refine cmp_draw (fun r : List Int => D.tup (r.map .int)) (fun _ r => r.length = n ∧ bel r (o.take top) = false) (fun f => [some f, some (.lst ((o).map D.int)), some (.int ((top : Nat))), some (.bl (wd)), some (.own ([])), none, none, none]) hf rfl (by rw [rngD_len]; omega) ?_ ?_
      · intro i x f hi hf
        simp [hf]
        refine (draw_ok hf (by omega) (by omega)).draw fun p f h6 h7 hf => ?_
        obtain ⟨p, rfl⟩ : ∃ k : Nat, p = (k : Int) := ⟨p.toNat, by omega⟩
        simp [hf]
        refine (lead_ok hf hO (by omega) (show p < n by omega)).mono ?_
        rintro x os ⟨r, f, rfl, rfl, hf, hr, q0, q1⟩
        have hp : p < o.length := by omega
        simp
        exact ⟨r, rfl, ⟨hr, bel_at (by omega) hp q0 (q1 hp)⟩, hf⟩
      · intro l f w2 hl2 hp hf e el
        simp at e el
        rw [rngD_len] at hl2
        simp [e, el]
        refine .mk ⟨f, hf, l, ⟨by omega, fun r m => ?_⟩, rfl⟩
        obtain ⟨k, hk, rfl⟩ := List.mem_iff_getElem.mp m
        exact hp k hk
    · have c' : ¬ (0 : Int) < top := by omega
      simp [c]
      exact .mk ⟨f, hf, [], ⟨by simp, fun r m => by cases m⟩, rfl⟩
  rintro w ⟨f, hf, c, ⟨hc, hfit⟩, rfl⟩
  refine wp_to (fun w => ∃ f, Fd f ∧ ∃ c : List (List Int), (c.length ≤ 18 ∧ Fit n o top c ∧ Bars o top o.length c) ∧ ∃ x y, w = [some f, some (.lst ((o).map D.int)), some (.int ((top : Nat))), some (.bl (wd)), some (.own (rowsD (c))), x, none, y]) ?_ ?_
  · have pd : pls ((o.map D.int).drop top) = true := by rw [← List.map_drop]; exact pls_ints
    simp [cutD_from, pd]
    refine lz_forM (fun i w => ∃ f, Fd f ∧ ∃ c : List (List Int), (c.length ≤ 6 + 2 * i ∧ Fit n o top c ∧ Bars o top (top + i) c) ∧ ∃ x y, w = [some f, some (.lst ((o).map D.int)), some (.int ((top : Nat))), some (.bl (wd)), some (.own (rowsD (c))), x, none, y]) ⟨f, hf, c, ⟨by omega, hfit, fun j hj a b => by omega⟩, none, none, rfl⟩ ?_ ?_
    · rintro w ⟨f, hf, c, ⟨q1, q2, q3⟩, x, y, rfl⟩
      rw [List.length_drop, List.length_map] at q1 q3
      simp
      exact .mk ⟨f, hf, c, ⟨by omega, q2, fun j hj a b => q3 j hj a (by omega)⟩, x, y, rfl⟩
    · rintro i d w hi ⟨f, hf, c, ⟨q1, q2, q3⟩, x, y, rfl⟩
      rw [← List.map_drop] at hi
      obtain ⟨hi', rfl⟩ := ints_at hi
      rw [List.length_drop] at hi'
      have ei : (o.drop top)[i] = o[top + i] := List.getElem_drop ..
      have hq : top + i < o.length := by omega
      rw [ei]
      simp [hf]
      refine (draw_ok hf (by decide) (by decide)).draw fun v f h4 h5 hf => ?_
      simp [rngC_of (show 0 ≤ 1 + v by omega) (show 1 + v ≤ 1000000000 by omega)]
      refine lz_forM (fun k w => ∃ f, Fd f ∧ ∃ c : List (List Int), (c.length ≤ 6 + 2 * i + k ∧ Fit n o top c ∧ Bars o top (top + i) c ∧ (0 < k → ∃ r ∈ c, (∀ q (hq : q < o.length), q < top → atR r o[q] = 0) ∧ atR r o[top + i] < 0)) ∧ ∃ y, w = [some f, some (.lst ((o).map D.int)), some (.int ((top : Nat))), some (.bl (wd)), some (.own (rowsD (c))), some (.int (o[top + i])), none, y]) ⟨f, hf, c, ⟨q1, q2, q3, fun z => absurd z (Nat.lt_irrefl _)⟩, _, rfl⟩ ?_ ?_
      · rintro w ⟨f, hf, c, ⟨q1, q2, q3, q4⟩, y, rfl⟩
        rw [rngD_len] at q1 q4
        simp
        refine .mk ⟨f, hf, c, ⟨by omega, q2, fun j hj a b => ?_⟩, _, _, rfl⟩
        by_cases z : j < top + i
        · exact q3 j hj a z
        · have : j = top + i := by omega
          subst this
          exact q4 (by omega)
      · rintro k d w hk ⟨f, hf, c, ⟨q1, q2, q3, q4⟩, y, rfl⟩
        have hk2 : k < (rngD (1 + v).toNat).length := (List.getElem?_eq_some_iff.mp hk).1
        rw [rngD_len] at hk2
        simp [hf]
        refine (bar_ok hf hO (by omega) hq (by omega)).mono ?_
        rintro x os ⟨r, f, rfl, rfl, hf, hr, p1, p2⟩
        simp [line' (show c.length < 1000000 by omega)]
        rw [rowsD_one]
        refine .mk ⟨f, hf, c ++ [r], ⟨by simp; omega, q2.add hr (bel_none p1), q3.mono fun r m => List.mem_append_left _ m, ⟨r, List.mem_append_right _ List.mem_cons_self, p1, p2⟩⟩, _, rfl⟩
  rintro w ⟨f, hf, c, ⟨hc, hfit, hb⟩, x, y, rfl⟩
  have wn : rngC (200 - (c.length : Int)) = true := rngC_of (by omega) (by omega)
  cases wd with
  | false =>
    have m1 : 1 ≤ sizeLine := line (by omega)
    simp [hf]
    refine (plain_ok hf (n := o.length) (by omega)).mono ?_
    rintro z os ⟨r, f, rfl, rfl, hf, hr, hr0⟩
    simp [mkOwn, m1, line (show c.length + 1 ≤ 1000000 by omega), hf]
    rw [rowsD_one]
    refine (shuffledD_ok hf (.inl rfl) (by simp) (by rw [rowsD_len]; simp; omega)).mono ?_
    rintro z os ⟨l, f, rfl, rfl, hp, hf⟩
    obtain ⟨m, rfl, hp2⟩ := perm_mapD row_inj hp
    simp
    refine ⟨m, f, rfl, rfl, hf, by have := hp2.length_eq; simp at this; omega, by have := hp2.length_eq; simp at this; omega, ?_⟩
    have W : World n o top (c ++ [r]) := ⟨hfit.add (by omega) (bel_plain hr0 _), hb.mono fun r m => List.mem_append_left _ m⟩
    exact W.perm fun r => hp2.mem_iff
  | true =>
    simp [hf]
    refine (draw_ok hf (by decide) (by decide)).draw fun v f h4 h5 hf => ?_
    simp [rngC_of (show 0 ≤ 200 - (c.length : Int) - v by omega) (show 200 - (c.length : Int) - v ≤ 1000000000 by omega)]
    refine cmp_draw (fun r : List Int => D.tup (r.map .int)) (fun _ r => r.length = n ∧ bel r (o.take top) = false) (fun f => [some f, some (.lst ((o).map D.int)), some (.int ((top : Nat))), some (.bl (true)), some (.own (rowsD (c))), x, none, none]) hf rfl (by rw [rngD_len]; omega) ?_ ?_
    · intro i x f hi hf
      simp [hf]
      refine (plain_ok hf (n := o.length) (by omega)).mono ?_
      rintro z os ⟨r, f, rfl, rfl, hf, hr, hr0⟩
      simp
      exact ⟨r, rfl, ⟨by omega, bel_plain hr0 _⟩, hf⟩
    · intro l f w2 hl2 hp hf e el
      simp at e el
      rw [rngD_len] at hl2
      have lf : ∀ r ∈ l, r.length = n ∧ bel r (o.take top) = false := fun r m => by
        obtain ⟨k, hk, rfl⟩ := List.mem_iff_getElem.mp m
        exact hp k hk
      simp [e, el, hf]
      refine (shuffledD_ok hf (.inr rfl) (by simp) (by rw [rowsD_len]; omega)).mono ?_
      rintro z os ⟨p, f, rfl, rfl, hp, hf⟩
      obtain ⟨m, rfl, hp2⟩ := perm_mapD row_inj hp
      have ml := hp2.length_eq
      have er : (l.map fun r : List Int => D.tup (r.map .int)) ++ (m.map fun a : List Int => D.tup (a.map D.int)) = rowsD (l ++ m) := by unfold rowsD; rw [List.map_append]
      have pm : pls (m.map fun a : List Int => D.tup (a.map D.int)) = true := pls_rows
      have pl2 : pls (l.map fun a : List Int => D.tup (a.map D.int)) = true := pls_rows
      simp [pm, pl2, line (show l.length + m.length ≤ 1000000 by omega)]
      rw [er]
      refine ⟨l ++ m, f, rfl, rfl, hf, by simp; omega, by simp; omega, fun r mr => ?_, hb.mono fun r mr => List.mem_append_right _ (hp2.mem_iff.mpr mr)⟩
      rcases List.mem_append.mp mr with mr | mr
      · exact lf r mr
      · exact hfit r (hp2.mem_iff.mp mr)
theorem good_ints {n : Nat} {rows : List (List Int)} {S N : List Int} (h : GoodP n rows S N) : barB n rows (.tup [.tup (S.map .int), .tup (N.map .int)]) = true := barB_of ⟨fun _ => barJ_ints.mpr h, fun _ => rfl⟩
theorem out_all {S r : List Int} (h : ∀ i : Int, 0 ≤ i → i < r.length → i ∉ S → atR r i ≤ 0) : OutP S r := h
theorem true_for_one_ok {f : D} (hf : Fd f) : WpR (m_law_true_for_one [f]) TruQ := by
  have m1 : 1 ≤ sizeLine := line (by omega)
  have m2 : 2 ≤ sizeLine := line (by omega)
  have m3 : 3 ≤ sizeLine := line (by omega)
  have m4 : 4 ≤ sizeLine := line (by omega)
  refine wpr_mk rfl ?_
  unfold b_law_true_for_one startE
  refine wp_to (fun w => ∃ f, Fd f ∧ ∃ a b c : Int, (1 ≤ a ∧ 0 ≤ b ∧ 1 ≤ c) ∧ w = [some f, some (.tup (rowsD ([[-a, b], [0, -c]]))), none, none]) ?_ ?_
  · simp [hf]
    refine (size_ok hf).size fun a f a1 a2 hf => ?_
    simp [hf]
    refine (draw_ok hf (by decide) (by decide)).draw fun b f b1 b2 hf => ?_
    simp [mkTup, m2, hf]
    refine (size_ok hf).size fun c f c1 c2 hf => ?_
    simp [mkTup, m2, hf]
    exact .mk ⟨f, hf, a, b, c, ⟨a1, b1, c1⟩, rfl⟩
  rintro w ⟨f, hf, a, b, c, ⟨ha, hb, hc⟩, rfl⟩
  refine wp_to (fun w => w = [some f, some (.tup (rowsD ([[-a, b], [0, -c]]))), some (.own ([D.int 0, D.int 0])), none]) (by simp [mkOwn, m2]; exact .mk rfl) ?_
  rintro w rfl
  have rect : Rect 2 [[-a, b], [0, -c]] := by intro r m; simp at m; rcases m with rfl | rfl <;> rfl
  have e0 : rowOf [[-a, b], [0, -c]] (.int 0) = [-a, b] := rfl
  have e1 : rowOf [[-a, b], [0, -c]] (.int 1) = [0, -c] := rfl
  have in2 : ∀ {i : Int}, 0 ≤ i → i < 2 → i = 0 ∨ i = 1 := fun h1 h2 => by omega
  have g1 : barB 2 [[-a, b], [0, -c]] (.tup [.tup (([0, 1] : List Int).map .int), .tup (([0, 1] : List Int).map .int)]) = true := good_ints ⟨by simp, by intro i m; simp at m; omega, by simp, rfl, by intro v m; simp at m; simp; omega, by
    intro p m
    simp at m
    rcases m with rfl | rfl
    · rw [e0]; refine nw_iff.mpr ⟨by simp [atR]; omega, fun i h1 h2 h3 => ?_⟩
      simp at h2 h3; omega
    · rw [e1]; refine nw_iff.mpr ⟨by simp [atR]; omega, fun i h1 h2 h3 => ?_⟩
      simp at h2 h3; omega⟩
  have g2 : barB 2 [[-a, b], [0, -c]] (.tup [.tup (([1] : List Int).map .int), .tup (([1] : List Int).map .int)]) = true := good_ints ⟨by simp, by intro i m; simp at m; omega, by simp, rfl, by intro v m; simp at m; simp; omega, by
    intro p m
    simp at m
    subst m
    rw [e1]; refine nw_iff.mpr ⟨by simp [atR]; omega, fun i h1 h2 h3 => ?_⟩
    simp at h2 h3
    have : i = 0 := by omega
    subst this
    simp [atR]⟩
  refine wp_to (fun w => ∃ c0 c1 : Int, w = [some f, some (.tup (rowsD ([[-a, b], [0, -c]]))), some (.own ([D.int c0, D.int c1])), none]) ?_ ?_
  · simp [mkTup, m1, m2]
    refine (says_ok (n := 2) (rows := [[-a, b], [0, -c]]) (d := .tup [.tup [.int 0, .int 1], .tup [.int 0, .int 1]]) (by omega) (by simp) rect (by simp) (by intro a b e; simp at e; rw [← e.1]; simp) g1).mono ?_
    rintro d os ⟨rfl, rfl⟩
    simp [mkTup, m1, m2]
    refine (says_ok (n := 2) (rows := [[-a, b], [0, -c]]) (d := .tup [.tup [.int 1], .tup [.int 1]]) (by omega) (by simp) rect (by simp) (by intro a b e; simp at e; rw [← e.1]; simp) g2).mono ?_
    rintro d os ⟨rfl, rfl⟩
    simp
    exact .mk ⟨_, _, rfl⟩
  rintro w ⟨c0, c1, rfl⟩
  refine wp_to (fun w => ∃ c0 c1 : Int, ∃ x, w = [some f, some (.tup (rowsD ([[-a, b], [0, -c]]))), some (.own ([D.int c0, D.int c1])), x]) ?_ ?_
  · simp [mkTup, mkOwn, m1, m2, m4]
    have bad : ∀ d ∈ [D.tup [.tup [.bl false, .int 1], .tup [.int 0, .int 1]], .tup [.tup [.int 0, .bl true], .tup [.int 0, .int 1]], .tup [.tup [.int 0, .int 1], .tup [.bl false, .int 1]], .tup [.tup [.int 0, .int 1], .tup [.int 0, .bl true]]], pl d = true ∧ Small d ∧ barB 2 [[-a, b], [0, -c]] d = false := by
      intro d m
      simp at m
      rcases m with rfl | rfl | rfl | rfl
      · exact ⟨by simp, small_pair (by simp), (bad_l (S := [0, 1]) (B := [0, 1]) (k := 0) (d := .bl false) (by simp) (by intro i; simp) (by simp)).1⟩
      · exact ⟨by simp, small_pair (by simp), (bad_l (S := [0, 1]) (B := [0, 1]) (k := 1) (d := .bl true) (by simp) (by intro i; simp) (by simp)).1⟩
      · exact ⟨by simp, small_pair (by simp), (bad_r (S := [0, 1]) (B := [0, 1]) (k := 0) (d := .bl false) (by simp) (by intro i; simp) (by simp)).1⟩
      · exact ⟨by simp, small_pair (by simp), (bad_r (S := [0, 1]) (B := [0, 1]) (k := 1) (d := .bl true) (by simp) (by intro i; simp) (by simp)).1⟩
    refine lz_forM (fun _ w => ∃ c0 c1 : Int, ∃ x, w = [some f, some (.tup (rowsD ([[-a, b], [0, -c]]))), some (.own ([D.int c0, D.int c1])), x]) ⟨c0, c1, none, rfl⟩ ?_ ?_
    · rintro w ⟨c0, c1, x, rfl⟩
      simp
      exact .mk ⟨c0, c1, x, rfl⟩
    · rintro i d w hi ⟨c0, c1, x, rfl⟩
      obtain ⟨b1, b2, b3⟩ := bad d (List.mem_of_getElem? hi)
      simp [ice_pl b1]
      refine (says_ok (n := 2) (rows := [[-a, b], [0, -c]]) (by omega) (by simp) rect b1 b2 b3).mono ?_
      rintro d os ⟨rfl, rfl⟩
      simp
      exact .mk ⟨_, _, _, rfl⟩
  rintro w ⟨c0, c1, x, rfl⟩
  refine wp_to (fun w => ∃ f, Fd f ∧ ∃ a b : Int, (1 ≤ a ∧ 1 ≤ b) ∧ w = [some f, some (.tup (rowsD ([[-a, -b]]))), some (.own ([D.int c0, D.int c1])), x]) ?_ ?_
  · simp [hf]
    refine (size_ok hf).size fun a f a1 a2 hf => ?_
    simp [hf]
    refine (size_ok hf).size fun b f b1 b2 hf => ?_
    simp [mkTup, m1, m2, hf]
    exact .mk ⟨f, hf, a, b, ⟨a1, b1⟩, rfl⟩
  rintro w ⟨f, hf, a, b, ⟨ha, hb⟩, rfl⟩
  have rect : Rect 2 [[-a, -b]] := by intro r m; simp at m; rw [m]; rfl
  have e0 : rowOf [[-a, -b]] (.int 0) = [-a, -b] := rfl
  simp [mkTup, mkOwn, m1, m2, m3]
  have gd : ∀ d ∈ [D.tup [.tup [.int 0], .tup [.int 0]], .tup [.tup [.int 1], .tup [.int 0]], .tup [.tup [.int 0, .int 1], .tup [.int 0, .int 0]]], pl d = true ∧ Small d ∧ barB 2 [[-a, -b]] d = true := by
    have op : ∀ S, OutP S [-a, -b] := fun S i h1 h2 _ => by
      simp at h2
      have : i = 0 ∨ i = 1 := by omega
      rcases this with rfl | rfl <;> simp [atR] <;> omega
    have n0 : ∀ S, nwB [-a, -b] 0 S = true := fun S => nw_iff.mpr ⟨by simp [atR]; omega, op S⟩
    have n1 : ∀ S, nwB [-a, -b] 1 S = true := fun S => nw_iff.mpr ⟨by simp [atR]; omega, op S⟩
    intro d m
    simp at m
    rcases m with rfl | rfl | rfl
    · exact ⟨by simp, small_pair (by simp), good_ints (S := [0]) (N := [0]) ⟨by simp, by intro i m; simp at m; omega, by simp, rfl, by intro v m; simp at m; simp; omega, by intro p m; simp at m; subst m; rw [e0]; exact n0 _⟩⟩
    · exact ⟨by simp, small_pair (by simp), good_ints (S := [1]) (N := [0]) ⟨by simp, by intro i m; simp at m; omega, by simp, rfl, by intro v m; simp at m; simp; omega, by intro p m; simp at m; subst m; rw [e0]; exact n1 _⟩⟩
    · exact ⟨by simp, small_pair (by simp), good_ints (S := [0, 1]) (N := [0, 0]) ⟨by simp, by intro i m; simp at m; omega, by simp, rfl, by intro v m; simp at m; simp; omega, by
        intro p m; simp at m
        rcases m with rfl | rfl
        · rw [e0]; exact n0 _
        · rw [e0]; exact n1 _⟩⟩
  refine lz_forM (fun _ w => ∃ c0 c1 : Int, ∃ x, w = [some f, some (.tup (rowsD ([[-a, -b]]))), some (.own ([D.int c0, D.int c1])), x]) ⟨c0, c1, _, rfl⟩ ?_ ?_
  · rintro w ⟨c0, c1, x, rfl⟩
    simp
    exact ⟨f, rfl, rfl, hf⟩
  · rintro i d w hi ⟨c0, c1, x, rfl⟩
    obtain ⟨b1, b2, b3⟩ := gd d (List.mem_of_getElem? hi)
    simp [ice_pl b1]
    refine (says_ok (n := 2) (rows := [[-a, -b]]) (by omega) (by simp) rect b1 b2 b3).mono ?_
    rintro d os ⟨rfl, rfl⟩
    simp
    exact .mk ⟨_, _, _, rfl⟩
end K18

set_option autoImplicit false
namespace K18
open PySem PySem.Spec L2 Pm 
theorem sorted_asc {n : Nat} {l : List Int} (nd : l.Nodup) (h : InN n l) (ne : l ≠ []) : Asc n (sortI l) := by
  have p := sortI_perm l
  have nd2 := p.nodup_iff.mpr nd
  have pw := sortI_pw l
  refine ⟨?_, fun i m => h i (p.mem_iff.mp m), fun e => ne (by have := p.length_eq; rw [e] at this; exact List.length_eq_zero_iff.mp this.symm)⟩
  unfold List.Nodup at nd2
  exact (pw.and nd2).imp fun h => by omega
theorem scene_rest {n : Nat} {S : List Int} {rows : List (List Int)} {N : List Int} {s0 s1 : Int} (hS : Asc n S) (h : SceneP n S rows N s0 s1) : restL n rows ≠ [] := by
  obtain ⟨hp, hI, hne⟩ := hS
  obtain ⟨h1, h2, h3, h4, h5, h6, h7⟩ := h
  let T := (intsTo n).filter fun j => !S.contains j && (S.zipIdx.all fun p => decide (atR (rowOf rows (.int (atR N (p.2 : Int)))) j = 0))
  have hT : ∀ j, j ∈ T ↔ (0 ≤ j ∧ j < (n : Int)) ∧ j ∉ S ∧ ∀ t : Nat, t < S.length → atR (rowOf rows (.int (atR N (t : Int)))) j = 0 := fun j => by
    simp only [T, List.mem_filter, intsTo_mem, Bool.and_eq_true, Bool.not_eq_true', List.all_eq_true, decide_eq_true_iff]
    constructor
    · rintro ⟨a, b, c⟩
      refine ⟨a, by simpa using b, fun t ht => ?_⟩
      exact c (S[t], t) (List.mem_zipIdx_iff_getElem?.mpr (List.getElem?_eq_getElem ht))
    · rintro ⟨a, b, c⟩
      refine ⟨a, by simpa using b, fun p m => ?_⟩
      obtain ⟨_, q, _⟩ := List.mem_zipIdx m
      exact c p.2 (by omega)
  have rowIn : ∀ t : Nat, t < S.length → rowOf rows (.int (atR N (t : Int))) ∈ rows := fun t ht => by
    have := h4 _ (atR_in (S := N) (t := (t : Int)) (by omega) (by omega))
    exact (rowsD_at2 this.1 this.2).2
  have A : ∀ s : List Int, (∀ i ∈ s, i ∈ T) → ∀ i ∈ freeL n rows s, i ∈ T := fun s hs i m => by
    obtain ⟨a, b, c⟩ := freeL_iff.mp m
    have tied : ∀ t : Nat, t < S.length → 0 ≤ atR (rowOf rows (.int (atR N (t : Int)))) i := fun t ht => c _ (rowIn t ht) fun j mj => ((hT j).mp (hs j mj)).2.2 t ht
    have nS : i ∉ S := fun mS => by
      obtain ⟨t, ht, e⟩ := List.mem_iff_getElem.mp mS
      have := (h7 (t : Int) (.inl ⟨by omega, by omega⟩)).2.1 (by omega) (by omega)
      have e2 : atR S (t : Int) = i := by unfold atR; rw [Int.toNat_natCast, List.getD_eq_getElem?_getD, List.getElem?_eq_getElem ht]; exact e
      rw [e2] at this
      have := (nw_iff.mp this).1
      have := tied t ht
      omega
    refine (hT i).mpr ⟨a, nS, fun t ht => ?_⟩
    have := (nw_iff.mp ((h7 (t : Int) (.inl ⟨by omega, by omega⟩)).2.1 (by omega) (by omega))).2 i a.1 (by rw [h2 _ (rowIn t ht)]; exact a.2) nS
    have := tied t ht
    omega
  have sub := strata_sub A (k := n) (s := []) (fun i m => by cases m)
  obtain ⟨s, mS⟩ := List.exists_mem_of_ne_nil _ hne
  refine List.ne_nil_of_mem (a := s) (rest_mem.mpr ⟨hI s mS, fun m => ?_⟩)
  have := sub s (reach_perm.mem_iff.mp m)
  exact ((hT s).mp this).2.1 mS
theorem rest_asc {n : Nat} {rows : List (List Int)} (h : restL n rows ≠ []) : Asc n (restL n rows) := by
  refine ⟨?_, fun i m => (rest_mem.mp m).1, h⟩
  unfold restL
  refine List.Pairwise.filter _ ?_
  unfold intsTo
  rw [List.pairwise_map]
  exact List.Pairwise.imp (fun h => by omega) (List.pairwise_lt_range (n := n))
theorem asc_le {n : Nat} {S : List Int} (h : Asc n S) : S.length ≤ n := by
  have := List.Nodup.length_le_of_subset (h.1.imp (fun h e => by omega)) (List.subset_def.mpr fun {a} m => intsTo_mem.mpr (h.2.1 a m) : S ⊆ intsTo n)
  rw [intsTo_len] at this; exact this
/-- a list of papers, asked -/
theorem ask_loop {n : Nat} {rows : List (List Int)} {b : Bool} {L : List D} {W : Int → Int → Option D → Ev} {QS : Fl → Ev → Prop} {c0 c1 : Int} {x : Option D} {body : PM Fl} (hb : ∀ d c0 c1 x, d ∈ L → ob (setT (.nm 9) d (W c0 c1 x)) fun w1 => Wp (body w1) (loopQ (Mid fun w => w = W (if b = true then c0 else c0 + 1) (if b = true then c1 + 1 else c1) (some d)) QS))
    (he : ∀ x, QS .nx (W (if b = true then c0 else c0 + L.length) (if b = true then c1 + L.length else c1) x)) : Wp (forL (.nm 9) body L (W c0 c1 x)) QS := by
  refine lz_forM (fun i w => ∃ x, w = W (if b = true then c0 else c0 + i) (if b = true then c1 + i else c1) x) ⟨x, by cases b <;> simp⟩ ?_ ?_
  · rintro w ⟨x, rfl⟩
    exact he x
  · rintro i d w hi ⟨x, rfl⟩
    obtain ⟨w1, e1, h⟩ := hb d (if b = true then c0 else c0 + i) (if b = true then c1 + i else c1) x (List.mem_of_getElem? hi)
    refine ⟨w1, e1, h.mono fun fl w2 q => ?_⟩
    have key : (Mid fun w => w = W (if b = true then (if b = true then c0 else c0 + i) else (if b = true then c0 else c0 + i) + 1) (if b = true then (if b = true then c1 + i else c1) + 1 else (if b = true then c1 + i else c1)) (some d)) w2 → Mid (fun w => ∃ x, w = W (if b = true then c0 else c0 + ((i + 1 : Nat) : Int)) (if b = true then c1 + ((i + 1 : Nat) : Int) else c1) x) w2 := fun q => by
      have q' : w2 = _ := q
      refine .mk ⟨some d, ?_⟩
      rw [q']
      cases b <;> simp [Int.add_assoc]
    cases fl with
    | nx => exact key q
    | ct => exact key q
    | bk => exact q
    | rt v => exact q
theorem papers_ok2 {f : D} (hf : Fd f) {n : Nat} {wd : Bool} (hn : n ≤ 6) (h1 : 1 ≤ n) : WpR (m_law_papers [f, .int (n : Nat), .bl wd]) TruQ := by
  have rc : rngC (n : Int) = true := rngC_of (by omega) (by omega)
  have m1 : 1 ≤ sizeLine := line (by omega)
  have m2 : 2 ≤ sizeLine := line (by omega)
  have m3 : 3 ≤ sizeLine := line (by omega)
  refine wpr_mk rfl ?_
  unfold b_law_papers
  rw [show startE 14 [f, .int (n : Nat), .bl wd] = [some f, some (.int ((n : Nat))), some (.bl (wd)), none, none, none, none, none, none, none, none, none, none, none] from rfl]
  refine wp_to (fun w => ∃ f, Fd f ∧ ∃ o, IsPerm n o ∧ w = [some f, some (.int ((n : Nat))), some (.bl (wd)), some (.own ((o).map D.int)), none, none, none, none, none, none, none, none, none, none]) ?_ ?_
  · have rl : n ≤ 16777216 := by omega
    simp [hf, rc, rl]
    refine (shuffledD_ok hf (.inl rfl) (by rw [rngD_nat]; exact pls_ints) (by rw [rngD_len]; omega)).mono ?_
    rintro z os ⟨l, f, rfl, rfl, hp, hf⟩
    rw [rngD_nat] at hp
    obtain ⟨o, rfl, hp2⟩ := perm_mapD int_inj hp
    simp
    exact .mk ⟨f, hf, o, hp2, rfl⟩
  rintro w ⟨f, hf, o, ho, rfl⟩
  refine wp_to (fun w => ∃ f, Fd f ∧ ∃ S, Asc n S ∧ w = [some f, some (.int ((n : Nat))), some (.bl (wd)), some (.own ((o).map D.int)), some (.tup ((S).map D.int)), none, none, none, none, none, none, none, none, none]) ?_ ?_
  · simp [hf]
    refine (draw_ok hf (by omega) (by omega)).draw fun v f h4 h5 hf => ?_
    obtain ⟨v, rfl⟩ : ∃ k : Nat, v = (k : Int) := ⟨v.toNat, by omega⟩
    have ct : cutD (o.map D.int) none (some (1 + (v : Int))) = (o.take (1 + v)).map D.int := by
      rw [show 1 + (v : Int) = ((1 + v : Nat) : Int) by omega, cutD_to, List.map_take]
    have ol : o.length = n := ho.ord.2.1
    simp only [wp_ok, qV_eq, slot_zero, slot_succ, ob_some, putB_some, putB_nil, List.set_cons_zero, List.set_cons_succ, intD_int, dAdd_int, dSl_own, pls_ints, if_true, ct, dSorted_own, dTuple_own, List.length_cons, List.length_nil]
    refine ⟨by omega, .mk ⟨f, hf, sortI (o.take (1 + v)), ?_, rfl⟩⟩
    refine sorted_asc ((List.take_sublist _ _).nodup ho.ord.1) (fun i m => ho.ord.2.2 i (List.mem_of_mem_take m)) fun e => ?_
    have : min (1 + v) o.length = 0 := by rw [← List.length_take, e]; rfl
    omega
  rintro w ⟨f, hf, S, hS, rfl⟩
  have lS := asc_le hS
  have pS : 0 < S.length := List.length_pos_iff.mpr hS.2.2
  refine wp_to (fun w => ∃ f, Fd f ∧ ∃ rows N s0 s1, SceneP n S rows N s0 s1 ∧ w = [some f, some (.int ((n : Nat))), some (.bl (wd)), some (.own ((o).map D.int)), some (.tup ((S).map D.int)), none, none, none, none, none, some (.tup (rowsD (rows))), some (.lst ((N).map D.int)), some (.lst (([s0, s1]).map D.int)), none]) ?_ ?_
  · simp [hf]
    refine (scene_ok hf hn hS).mono ?_
    rintro z os ⟨rows, N, s0, s1, f, rfl, rfl, hf, hP⟩
    simp
    exact .mk ⟨f, hf, rows, N, s0, s1, hP, rfl⟩
  rintro w ⟨f, hf, rows, N, s0, s1, hP, rfl⟩
  have hRest := scene_rest hS hP
  obtain ⟨p1, p2, p3, p4, p5, p6, p7⟩ := hP
  obtain ⟨B, hBd⟩ : ∃ B, B = N.take S.length := ⟨_, rfl⟩
  obtain ⟨M, hMd⟩ : ∃ M, M = N.drop S.length := ⟨_, rfl⟩
  have lB : B.length = S.length := by rw [hBd, List.length_take]; omega
  have lM : M.length = 5 := by rw [hMd, List.length_drop]; omega
  have vB : ∀ v ∈ B, 0 ≤ v ∧ v ≤ (rows.length : Int) - 1 := fun v m => p4 v (List.mem_of_mem_take (hBd ▸ m))
  have vM : ∀ v ∈ M, 0 ≤ v ∧ v ≤ (rows.length : Int) - 1 := fun v m => p4 v (List.mem_of_mem_drop (hMd ▸ m))
  have aM : ∀ t : Nat, atR M (t : Int) = atR N ((S.length + t : Nat) : Int) := fun t => by
    unfold atR
    rw [Int.toNat_natCast, Int.toNat_natCast, List.getD_eq_getElem?_getD, List.getD_eq_getElem?_getD, hMd, List.getElem?_drop]
  have aB : ∀ t : Nat, t < S.length → atR B (t : Int) = atR N (t : Int) := fun t ht => by
    unfold atR
    rw [Int.toNat_natCast, List.getD_eq_getElem?_getD, List.getD_eq_getElem?_getD, hBd, List.getElem?_take, if_pos ht]
  have r0 : 0 < rows.length := by
    have := p4 _ (atR_in (S := N) (t := 0) (by omega) (by omega)); omega
  refine wp_to (fun w => w = [some f, some (.int ((n : Nat))), some (.bl (wd)), some (.own ((o).map D.int)), some (.tup ((S).map D.int)), some (.tup ((B).map D.int)), none, none, none, none, some (.tup (rowsD (rows))), some (.lst ((N).map D.int)), some (.lst (([s0, s1]).map D.int)), none]) ?_ ?_
  · have ct : cutD (N.map D.int) none (some (S.length : Int)) = B.map D.int := by rw [cutD_to, hBd, List.map_take]
    simp [ct]; exact .mk rfl
  rintro w rfl
  refine wp_to (fun w => w = [some f, some (.int ((n : Nat))), some (.bl (wd)), some (.own ((o).map D.int)), some (.tup ((S).map D.int)), some (.tup ((B).map D.int)), some (.own ((M).map D.int)), none, none, none, some (.tup (rowsD (rows))), some (.lst ((N).map D.int)), some (.lst (([s0, s1]).map D.int)), none]) ?_ ?_
  · have ct : cutD (N.map D.int) (some (S.length : Int)) none = M.map D.int := by rw [cutD_from, hMd, List.map_drop]
    simp [ct]; exact .mk rfl
  rintro w rfl
  refine wp_to (fun w => w = [some f, some (.int ((n : Nat))), some (.bl (wd)), some (.own ((o).map D.int)), some (.tup ((S).map D.int)), some (.tup ((B).map D.int)), some (.own ((M).map D.int)), some (.own ([D.int 0, D.int 0])), none, none, some (.tup (rowsD (rows))), some (.lst ((N).map D.int)), some (.lst (([s0, s1]).map D.int)), none]) (by simp [mkOwn, m2]; exact .mk rfl) ?_
  rintro w rfl
  -- what is right
  have good : ∀ Nx : List Int, Nx.length = S.length → (∀ v ∈ Nx, 0 ≤ v ∧ v ≤ (rows.length : Int) - 1) → (∀ t (ht : t < S.length) (hx : t < Nx.length), nwB (rowOf rows (.int Nx[t])) S[t] S = true) → barB n rows (.tup [.tup (S.map .int), .tup (Nx.map .int)]) = true := fun Nx q1 q2 q3 => good_ints ⟨hS.1, hS.2.1, hS.2.2, q1, q2, fun p m => by
    obtain ⟨t, ht, rfl⟩ := List.mem_iff_getElem.mp m
    rw [List.length_zip] at ht
    rw [List.getElem_zip]
    exact q3 t (by omega) (by omega)⟩
  have gS : ∀ {j : Nat} (hj : j < S.length), atR S (j : Int) = S[j] := fun {j} hj => by unfold atR; rw [Int.toNat_natCast, List.getD_eq_getElem?_getD, List.getElem?_eq_getElem hj]; rfl
  have gB : ∀ {j : Nat} (hj : j < B.length), atR B (j : Int) = B[j] := fun {j} hj => by unfold atR; rw [Int.toNat_natCast, List.getD_eq_getElem?_getD, List.getElem?_eq_getElem hj]; rfl
  have baseNw : ∀ t (ht : t < S.length) (hx : t < B.length), nwB (rowOf rows (.int B[t])) S[t] S = true := fun t ht hx => by
    rw [← gB hx, ← gS ht, aB t ht]
    exact (p7 (t : Int) (.inl ⟨by omega, by omega⟩)).2.1 (by omega) (by omega)
  obtain ⟨k0, rfl⟩ : ∃ k : Nat, s0 = (k : Int) := ⟨s0.toNat, by omega⟩
  have hk0 : k0 < S.length := by omega
  have R1 : barB n rows (.tup [.tup (S.map .int), .tup (B.map .int)]) = true := good B lB vB baseNw
  have R2 : barB n rows (.tup [.tup (S.map .int), .tup ((B.map .int).set k0 (.int (atR M 0)))]) = true := by
    rw [ints_set]
    refine good _ (by simp [lB]) (fun v m => ?_) fun t ht hx => ?_
    · rcases List.mem_or_eq_of_mem_set m with m | rfl
      · exact vB v m
      · exact vM _ (atR_in (by omega) (by omega))
    · rw [List.getElem_set]
      by_cases e : k0 = t
      · subst e
        rw [if_pos rfl, ← gS hk0, show atR M 0 = atR N ((S.length + 0 : Nat) : Int) from aM 0]
        exact (p7 ((S.length + 0 : Nat) : Int) (.inl ⟨by omega, by omega⟩)).2.2.1 (by omega)
      · rw [if_neg e]; exact baseNw t ht (by omega)
  have R3 : barB n rows (.tup [.tup (S.map .int), .tup ((S.map fun _ => atR M 4).map .int)]) = true := by
    refine good _ (by simp) (fun v m => ?_) fun t ht hx => ?_
    · obtain ⟨_, _, rfl⟩ := List.mem_map.mp m
      exact vM _ (atR_in (by omega) (by omega))
    · rw [List.getElem_map, show atR M 4 = atR N ((S.length + 4 : Nat) : Int) from aM 4]
      exact (p7 ((S.length + 4 : Nat) : Int) (.inr (by omega))).2.2.2.2.2.1 (by omega) _ (List.getElem_mem ht)
  have sm : ∀ {b : D}, Small (.tup [.tup (S.map .int), b]) := small_pair (by rw [List.length_map]; omega)
  refine wp_to (fun w => ∃ Lx : List D, (pls Lx = true ∧ Lx.length = 3 ∧ ∀ d ∈ Lx, barB n rows d = true ∧ Small d) ∧ w = [some f, some (.int ((n : Nat))), some (.bl (wd)), some (.own ((o).map D.int)), some (.tup ((S).map D.int)), some (.tup ((B).map D.int)), some (.own ((M).map D.int)), some (.own ([D.int 0, D.int 0])), some (.own (Lx)), none, some (.tup (rowsD (rows))), some (.lst ((N).map D.int)), some (.lst (([(k0 : Int), s1]).map D.int)), none]) ?_ ?_
  · have gM0 : seqIx (M.map D.int) 0 = some (.int (atR M 0)) := seqIx_at (by omega) (by omega)
    have gM4 : seqIx (M.map D.int) 4 = some (.int (atR M 4)) := seqIx_at (by omega) (by omega)
    simp [mkTup, m2, gM0]
    refine (put_ok (xs := B.map .int) (by simp) rfl (by simp; omega) (by simp; omega)).dq ?_
    refine cmp_map D.int (fun _ => D.int (atR M 4)) S (fun i => [some f, some (.int ((n : Nat))), some (.bl (wd)), some (.own ((o).map D.int)), some (.tup ((S).map D.int)), some (.tup ((B).map D.int)), some (.own ((M).map D.int)), some (.own ([D.int 0, D.int 0])), none, none, some (.tup (rowsD (rows))), some (.lst ((N).map D.int)), some (.lst (([(k0 : Int), s1]).map D.int)), some (.int (i))]) (by omega) (fun _ _ => rfl) (fun _ _ => rfl) (fun i m => by simp [gM4]) fun w2 e el => ?_
    have e4 : (S.map fun _ => D.int (atR M 4)) = (S.map fun _ => atR M 4).map D.int := by rw [List.map_map]; rfl
    simp only [wipeE_cons, wipeE_nil, List.set_cons_succ, List.set_cons_zero] at e
    simp only [wipeE_cons, wipeE_nil, e, e4]
    have el2 : w2.length = 14 := el
    simp [-List.map_map, mkOwn, m3, pls_s1, el2]
    refine .mk ⟨_, ⟨?_, ?_, ?_⟩, rfl⟩
    · simp [-List.map_map, pls_s1]
    · rfl
    · intro d m
      rcases List.mem_cons.mp m with rfl | m
      · exact ⟨R1, sm⟩
      rcases List.mem_cons.mp m with rfl | m
      · exact ⟨R2, sm⟩
      rw [List.mem_singleton.mp m]
      exact ⟨R3, sm⟩
  rintro w ⟨Lx, ⟨x1, x2, x3⟩, rfl⟩
  refine wp_to (fun w => ∃ c0 c1 : Int, (0 ≤ c0 ∧ 4 ≤ c1) ∧ ∃ x, w = [some f, some (.int ((n : Nat))), some (.bl (wd)), some (.own ((o).map D.int)), some (.tup ((S).map D.int)), some (.tup ((B).map D.int)), some (.own ((M).map D.int)), some (.own ([D.int c0, D.int c1])), some (.own (Lx)), x, some (.tup (rowsD (rows))), some (.lst ((N).map D.int)), some (.lst (([(k0 : Int), s1]).map D.int)), none]) ?_ ?_
  · simp
    refine (last_rows_ok (by omega) (by omega) p2).mono ?_
    rintro d os ⟨rfl, Nl, rfl, q1, q2, q3⟩
    have RL : barB n rows (.tup [.tup ((restL n rows).map .int), .tup (Nl.map .int)]) = true := by
      have ra := rest_asc hRest
      exact good_ints ⟨ra.1, ra.2.1, ra.2.2, q1, q2, q3⟩
    have sl : Small (.tup [.tup ((restL n rows).map .int), .tup (Nl.map .int)]) := small_pair (by rw [List.length_map]; have := rest_le (n := n) (rows := rows); omega)
    have ay : ∀ d ∈ Lx ++ [.tup [.tup ((restL n rows).map .int), .tup (Nl.map .int)]], pl d = true ∧ barB n rows d = true ∧ Small d := fun d m => by
      rcases List.mem_append.mp m with m | m
      · exact ⟨pls_all'.mp x1 d m, x3 d m⟩
      · rw [List.mem_singleton.mp m]; exact ⟨by simp, RL, sl⟩
    have ll : (Lx ++ [D.tup [.tup ((restL n rows).map .int), .tup (Nl.map .int)]]).length = 4 := by simp [x2]
    simp [mkOwn, m1, x1, line (show Lx.length + 1 ≤ 1000000 by omega)]
    generalize Lx ++ [D.tup [.tup ((restL n rows).map .int), .tup (Nl.map .int)]] = Ly at ay ll
    refine ask_loop (n := n) (rows := rows) (b := true) (W := fun c0 c1 x => [some f, some (.int ((n : Nat))), some (.bl (wd)), some (.own ((o).map D.int)), some (.tup ((S).map D.int)), some (.tup ((B).map D.int)), some (.own ((M).map D.int)), some (.own ([D.int c0, D.int c1])), some (.own (Lx)), x, some (.tup (rowsD (rows))), some (.lst ((N).map D.int)), some (.lst (([(k0 : Int), s1]).map D.int)), none]) (c0 := 0) (c1 := 0) ?_ ?_
    · intro d c0 c1 x m
      obtain ⟨y1, y2, y3⟩ := ay d m
      simp [ice_pl y1]
      refine (says_ok (by omega) (by omega) p2 y1 y3 y2).mono ?_
      rintro d os ⟨rfl, rfl⟩
      simp
      exact .mk rfl
    · intro x
      simp
      exact .mk ⟨_, _, ⟨by omega, by omega⟩, x, rfl⟩
  rintro w ⟨c0, c1, ⟨hc0, hc1⟩, x, rfl⟩
  refine wp_to (fun w => ∃ f, Fd f ∧ ∃ c0 c1 : Int, (36 ≤ c0 ∧ 4 ≤ c1) ∧ ∃ x, w = [some f, some (.int ((n : Nat))), some (.bl (wd)), some (.own ((o).map D.int)), some (.tup ((S).map D.int)), some (.tup ((B).map D.int)), some (.lst ((M).map D.int)), some (.own ([D.int c0, D.int c1])), some (.own (Lx)), x, some (.tup (rowsD (rows))), some (.lst ((N).map D.int)), some (.lst (([(k0 : Int), s1]).map D.int)), none]) ?_ ?_
  · simp [hf]
    have hm2 : ∀ i, nwB (rowOf rows (.int (atR M 2))) i S = false := fun i => by
      rw [show atR M 2 = atR N ((S.length + 2 : Nat) : Int) from aM 2]
      exact (p7 ((S.length + 2 : Nat) : Int) (.inl ⟨by omega, by omega⟩)).2.2.2.2.1 (by omega) i
    have hm1 : S.length < n → nwB (rowOf rows (.int (atR M 1))) (atR S s1) S = false := fun h => by
      rw [show atR M 1 = atR N ((S.length + 1 : Nat) : Int) from aM 1]
      exact (p7 ((S.length + 1 : Nat) : Int) (.inl ⟨by omega, by omega⟩)).2.2.2.1 (by omega) h
    refine (bent_ok hf hn p1 hS lB vB lM vM hm2 p6 hm1).mono ?_
    rintro d os ⟨La, f, rfl, rfl, hf, a1, a2, a3, a4⟩
    simp [hf]
    refine (odd_ok (rows := rows) hf hn).mono ?_
    rintro d os ⟨Lb, f, rfl, rfl, hf, b1, b2, b3, b4⟩
    simp [a1, b1, line (show La.length + Lb.length ≤ 1000000 by omega)]
    have ay : ∀ d ∈ La ++ Lb, pl d = true ∧ barB n rows d = false ∧ Small d := fun d m => by
      rcases List.mem_append.mp m with m | m
      · exact ⟨pls_all'.mp a1 d m, a4 d m⟩
      · exact ⟨pls_all'.mp b1 d m, b4 d m⟩
    have ll : 36 ≤ (La ++ Lb).length := by rw [List.length_append]; omega
    generalize La ++ Lb = Ly at ay ll
    refine ask_loop (n := n) (rows := rows) (b := false) (W := fun c0 c1 x => [some f, some (.int ((n : Nat))), some (.bl (wd)), some (.own ((o).map D.int)), some (.tup ((S).map D.int)), some (.tup ((B).map D.int)), some (.lst ((M).map D.int)), some (.own ([D.int c0, D.int c1])), some (.own (Lx)), x, some (.tup (rowsD (rows))), some (.lst ((N).map D.int)), some (.lst (([(k0 : Int), s1]).map D.int)), none]) (c0 := c0) (c1 := c1) ?_ ?_
    · intro d c0 c1 x m
      obtain ⟨y1, y2, y3⟩ := ay d m
      simp [ice_pl y1]
      refine (says_ok (by omega) (by omega) p2 y1 y3 y2).mono ?_
      rintro d os ⟨rfl, rfl⟩
      simp
      exact .mk rfl
    · intro x
      simp
      exact .mk ⟨f, hf, _, _, ⟨by omega, by omega⟩, x, rfl⟩
  rintro w ⟨f, hf, c0, c1, ⟨hc0, hc1⟩, x, rfl⟩
  refine wp_to (fun w => ∃ f, Fd f ∧ ∃ c0 c1 : Int, (36 ≤ c0 ∧ 4 ≤ c1) ∧ ∃ x, w = [some f, some (.int ((n : Nat))), some (.bl (wd)), some (.own ((o).map D.int)), some (.tup ((S).map D.int)), some (.tup ((B).map D.int)), some (.lst ((M).map D.int)), some (.own ([D.int c0, D.int c1])), some (.own (Lx)), x, some (.tup (rowsD (rows))), some (.lst ((N).map D.int)), some (.lst (([(k0 : Int), s1]).map D.int)), none]) ?_ ?_
  · simp [hf]
    refine (others_ok hf hn p1 r0 (by omega) lB pS).mono ?_
    rintro d os ⟨La, f, rfl, rfl, hf, a1, a2⟩
    simp [a1]
    refine lz_forM (fun _ w => ∃ c0 c1 : Int, (36 ≤ c0 ∧ 4 ≤ c1) ∧ ∃ x, w = [some f, some (.int ((n : Nat))), some (.bl (wd)), some (.own ((o).map D.int)), some (.tup ((S).map D.int)), some (.tup ((B).map D.int)), some (.lst ((M).map D.int)), some (.own ([D.int c0, D.int c1])), some (.own (Lx)), x, some (.tup (rowsD (rows))), some (.lst ((N).map D.int)), some (.lst (([(k0 : Int), s1]).map D.int)), none]) ⟨c0, c1, ⟨hc0, hc1⟩, x, rfl⟩ ?_ ?_
    · rintro w ⟨c0, c1, hc, x, rfl⟩
      simp
      exact .mk ⟨f, hf, c0, c1, hc, x, rfl⟩
    · rintro i d w hi ⟨c0, c1, hc, x, rfl⟩
      have m := List.mem_of_getElem? hi
      have y1 := pls_all'.mp a1 d m
      have y3 := a2 d m
      simp [ice_pl y1]
      refine (judge_ok (by omega) (by omega) p2 y1 y3).bq ?_
      refine (says_ok (by omega) (by omega) p2 y1 y3 rfl).mono ?_
      rintro d os ⟨rfl, rfl⟩
      simp
      refine .mk ⟨_, _, ⟨?_, ?_⟩, _, rfl⟩
      · split <;> omega
      · split <;> omega
  rintro w ⟨f, hf, c0, c1, ⟨hc0, hc1⟩, x, rfl⟩
  have z0 : (30 : Int) < c0 := by omega
  have z1 : (2 : Int) < c1 := by omega
  simp [z0, z1]
  refine (row_bar_ok (by omega) (by omega) p2).dq ?_
  try simp
  refine (law_due_ok (by omega) (by omega) p2).dq ?_
  try simp
  refine (same_bar_ok hn p1).bq ?_
  try simp
  exact ⟨f, rfl, rfl, hf⟩
theorem bel_neg {r o : List Int} {top p : Nat} (hp : p < top) (hl : p < o.length) (h : ∀ q (hq : q < o.length), q < p → atR r o[q] = 0) (e : atR r o[p] < 0) : bel r (o.take top) = true := by
  rw [bel_lead (v := atR r o[p]) (by omega) (take_lt hp hl) (fun q hq l => by rw [List.getElem_take]; exact h q (by rw [List.length_take] at hq; omega) l) (by rw [List.getElem_take])]
  exact decide_eq_true e
theorem rest_world {n top : Nat} {o : List Int} {rows : List (List Int)} (ho : IsPerm n o) (h : World n o top rows) {i : Int} : i ∈ restL n rows ↔ i ∈ o.drop top := by
  have p := world_perm ho h
  have nd : (o.take top ++ o.drop top).Nodup := by rw [List.take_append_drop]; exact ho.ord.1
  rw [rest_mem, reach_perm.mem_iff, p.mem_iff]
  constructor
  · rintro ⟨h1, h2⟩
    have : i ∈ o := ho.mem_iff.mpr (intsTo_mem.mpr h1)
    rw [← List.take_append_drop top o] at this
    exact (List.mem_append.mp this).elim (fun z => absurd z h2) id
  · intro m
    exact ⟨intsTo_mem.mp (ho.mem_iff.mp (List.mem_of_mem_drop m)), fun z => (List.nodup_append.mp nd).2.2 i z i m rfl⟩
theorem rest_sorted {n top : Nat} {o : List Int} {rows : List (List Int)} (ho : IsPerm n o) (h : World n o top rows) : restL n rows = sortI (o.drop top) := by
  refine sortI_eq ?_ ?_
  · have nd1 : (restL n rows).Nodup := (intsTo_nd n).filter _
    have nd2 : (o.drop top).Nodup := (List.drop_sublist _ _).nodup ho.ord.1
    refine (List.perm_ext_iff_of_nodup nd1 nd2).mpr fun i => rest_world ho h
  · unfold restL
    refine List.Pairwise.filter _ ?_
    unfold intsTo
    rw [List.pairwise_map]
    exact List.Pairwise.imp (fun h => by omega) (List.pairwise_lt_range (n := n))
theorem law_ok {ns : List Int} : WpR (m_law [.lst (ns.map .int)]) fun d os => d = .bl true ∧ os = [] := by
  have m1 : 1 ≤ sizeLine := line (by omega)
  have m2 : 2 ≤ sizeLine := line (by omega)
  refine wpr_mk rfl ?_
  unfold b_law
  rw [show startE 10 [.lst (ns.map D.int)] = [some (.lst ((ns).map D.int)), none, none, none, none, none, none, none, none, none] from rfl]
  refine wp_to (fun w => ∃ f, Fd f ∧ w = [some (.lst ((ns).map D.int)), some f, none, none, none, none, none, none, none, none]) ?_ ?_
  · simp
    refine feed_ok.mono ?_
    rintro d os ⟨hf, rfl⟩
    exact .mk ⟨d, hf, rfl⟩
  rintro w ⟨f, hf, rfl⟩
  refine wp_to (fun w => ∃ f, Fd f ∧ ∃ n : Nat, (1 ≤ n ∧ n ≤ 6) ∧ w = [some (.lst ((ns).map D.int)), some f, some (.int ((n : Nat))), none, none, none, none, none, none, none]) ?_ ?_
  · simp [hf]
    refine (draw_ok hf (by decide) (by decide)).draw fun v f h4 h5 hf => ?_
    simp
    exact .mk ⟨f, hf, (1 + v).toNat, ⟨by omega, by omega⟩, by rw [show (((1 + v).toNat : Nat) : Int) = 1 + v by omega]⟩
  rintro w ⟨f, hf, n, ⟨n1, n6⟩, rfl⟩
  have rc : rngC (n : Int) = true := rngC_of (by omega) (by omega)
  refine wp_to (fun w => ∃ f, Fd f ∧ ∃ wd : Bool, w = [some (.lst ((ns).map D.int)), some f, some (.int ((n : Nat))), some (.bl (wd)), none, none, none, none, none, none]) ?_ ?_
  · simp [hf]
    refine (draw_ok hf (by decide) (by decide)).draw fun v f h4 h5 hf => ?_
    simp
    rcases Bool.eq_false_or_eq_true (decide (v = 5)) with e | e
    · rw [e]; exact .mk ⟨f, hf, .inr rfl⟩
    · rw [e]; exact .mk ⟨f, hf, .inl rfl⟩
  rintro w ⟨f, hf, wd, rfl⟩
  refine wp_to (fun w => ∃ f, Fd f ∧ ∃ o, IsPerm n o ∧ w = [some (.lst ((ns).map D.int)), some f, some (.int ((n : Nat))), some (.bl (wd)), some (.own ((o).map D.int)), none, none, none, none, none]) ?_ ?_
  · have rl : n ≤ 16777216 := by omega
    simp [hf, rc, rl]
    refine (shuffledD_ok hf (.inl rfl) (by rw [rngD_nat]; exact pls_ints) (by rw [rngD_len]; omega)).mono ?_
    rintro z os ⟨l, f, rfl, rfl, hp, hf⟩
    rw [rngD_nat] at hp
    obtain ⟨o, rfl, hp2⟩ := perm_mapD int_inj hp
    simp
    exact .mk ⟨f, hf, o, hp2, rfl⟩
  rintro w ⟨f, hf, o, ho, rfl⟩
  have ol : o.length = n := ho.ord.2.1
  refine wp_to (fun w => ∃ f, Fd f ∧ ∃ rows : List (List Int), (rows.length ≤ 200 ∧ 0 < rows.length ∧ World n o n rows) ∧ w = [some (.lst ((ns).map D.int)), some f, some (.int ((n : Nat))), some (.bl (wd)), some (.lst ((o).map D.int)), some (.tup (rowsD (rows))), none, none, none, none]) ?_ ?_
  · simp [hf]
    refine (world_ok hf ho n6 n1 (Nat.le_refl n)).mono ?_
    rintro z os ⟨rows, f, rfl, rfl, hf, hl, h0, hw⟩
    simp
    exact .mk ⟨f, hf, rows, ⟨hl, h0, hw⟩, rfl⟩
  rintro w ⟨f, hf, rows, ⟨hl, h0, hw⟩, rfl⟩
  have hnone : ∀ {rows : List (List Int)}, World n o n rows → barD n rows = .non := fun {rows} hw => if_pos (by
    refine List.eq_nil_iff_forall_not_mem.mpr fun i m => ?_
    have := (rest_world ho hw).mp m
    rw [List.drop_eq_nil_of_le (by omega)] at this
    cases this)
  have w0 : World n o n [] := ⟨fun r m => (by cases m), fun j hj a b => by omega⟩
  have rect : Rect n rows := fun r m => (hw.1 r m).1
  refine wp_to (fun w => w = [some (.lst ((ns).map D.int)), some f, some (.int ((n : Nat))), some (.bl (wd)), some (.lst ((o).map D.int)), some (.tup (rowsD (rows))), none, none, none, none]) ?_ ?_
  · simp
    refine (row_bar_ok (by omega) (by omega) rect).dq ?_
    rw [hnone hw]
    simp [mkTup]
    refine (row_bar_ok (rows := []) (by omega) (by simp) (fun r m => by cases m)).dq ?_
    rw [hnone w0]
    simp
    exact .mk rfl
  rintro w rfl
  refine wp_to (fun w => ∃ f, Fd f ∧ ∃ N : List Int, N.length = n ∧ w = [some (.lst ((ns).map D.int)), some f, some (.int ((n : Nat))), some (.bl (wd)), some (.lst ((o).map D.int)), some (.tup (rowsD (rows))), some (.tup ([D.tup ((intsTo n).map .int), D.tup (N.map .int)])), none, none, none]) ?_ ?_
  · simp [dRngT_int (show n ≤ 10000 by omega), rc]
    refine cmp_draw D.int (fun _ _ => True) (fun f => [some (.lst ((ns).map D.int)), some f, some (.int ((n : Nat))), some (.bl (wd)), some (.lst ((o).map D.int)), some (.tup (rowsD (rows))), none, none, none, none]) hf rfl (by rw [rngD_len]; omega) ?_ ?_
    · intro i x f hi hf
      simp [hf]
      refine (draw_ok hf (by omega) (by omega)).draw fun v f h4 h5 hf => ?_
      simp [hf]
    · intro l f w2 hl2 hp hf e el
      simp at e el
      rw [rngD_len] at hl2
      simp [e, el, mkTup, m2]
      exact .mk ⟨f, hf, l, hl2, rfl⟩
  rintro w ⟨f, hf, N, hN, rfl⟩
  refine wp_to (fun w => w = [some (.lst ((ns).map D.int)), some f, some (.int ((n : Nat))), some (.bl (wd)), some (.lst ((o).map D.int)), some (.tup (rowsD (rows))), some (.tup ([D.tup ((intsTo n).map .int), D.tup (N.map .int)])), none, none, none]) ?_ ?_
  · have bad : barB n rows (.tup [.tup ((intsTo n).map .int), .tup (N.map .int)]) = false := (bad_ints (n := n) (rows := rows) (S := intsTo n) (N := N) (by rw [intsTo_len]; omega) fun q => by
      obtain ⟨_, _, _, q4, q5, q6⟩ := q
      have hp : 0 < o.length := by omega
      have io := ho.ord.2.2 _ (List.getElem_mem hp)
      have hk : (o[0]).toNat < (intsTo n).length := by rw [intsTo_len]; omega
      have := q6 _ (zip_at (k := (o[0]).toNat) hk (by rw [q4]; exact hk))
      have e : (intsTo n)[(o[0]).toNat] = o[0] := by simp [intsTo]; omega
      have neg := (nw_iff.mp this).1
      have v := q5 _ (List.getElem_mem (by rw [q4]; exact hk))
      have mr := (rowsD_at2 v.1 v.2).2
      have f1 := (hw.1 _ mr).2
      simp only [e] at neg
      rw [bel_neg (by omega) hp (fun q hq l => absurd l (Nat.not_lt_zero _)) neg] at f1
      cases f1).1
    simp
    refine (is_row_bar_ok (by omega) (by omega) rect (by simp)).bq ?_
    rw [bad]
    simp [mkTup, m1, m2]
    refine (is_row_bar_ok (rows := []) (by omega) (by simp) (fun r m => by cases m) (by simp)).bq ?_
    have b0 : barB n [] (.tup [.tup [.int 0], .tup [.int 0]]) = false := (bad_ints (S := [0]) (N := [0]) (by simp) fun q => by
      have := q.2.2.2.2.1 0 (by simp)
      simp at this).1
    rw [b0]
    simp
    exact .mk rfl
  rintro w rfl
  refine wp_to (fun w => ∃ f, Fd f ∧ ∃ top : Nat, top < n ∧ w = [some (.lst ((ns).map D.int)), some f, some (.int ((n : Nat))), some (.bl (wd)), some (.lst ((o).map D.int)), some (.tup (rowsD (rows))), some (.tup ([D.tup ((intsTo n).map .int), D.tup (N.map .int)])), some (.int ((top : Nat))), none, none]) ?_ ?_
  · simp [hf]
    refine (draw_ok hf (by omega) (by omega)).draw fun v f h4 h5 hf => ?_
    obtain ⟨k, rfl⟩ : ∃ k : Nat, v = (k : Int) := ⟨v.toNat, by omega⟩
    simp
    exact .mk ⟨f, hf, k, by omega, rfl⟩
  rintro w ⟨f, hf, top, ht, rfl⟩
  refine wp_to (fun w => ∃ f, Fd f ∧ ∃ rows : List (List Int), (rows.length ≤ 200 ∧ 0 < rows.length ∧ World n o top rows) ∧ w = [some (.lst ((ns).map D.int)), some f, some (.int ((n : Nat))), some (.bl (wd)), some (.lst ((o).map D.int)), some (.tup (rowsD (rows))), some (.tup ([D.tup ((intsTo n).map .int), D.tup (N.map .int)])), some (.int ((top : Nat))), none, none]) ?_ ?_
  · simp [hf]
    refine (world_ok hf ho n6 n1 (by omega)).mono ?_
    rintro z os ⟨rows, f, rfl, rfl, hf, hl, h0, hw⟩
    simp
    exact .mk ⟨f, hf, rows, ⟨hl, h0, hw⟩, rfl⟩
  rintro w ⟨f, hf, rows, ⟨hl, h0, hw⟩, rfl⟩
  have rect : Rect n rows := fun r m => (hw.1 r m).1
  have rs := rest_sorted ho hw
  have rn : restL n rows ≠ [] := fun e => by
    have := congrArg List.length (rs.symm.trans e)
    rw [(sortI_perm _).length_eq, List.length_drop] at this
    simp at this; omega
  obtain ⟨Nb, hNb⟩ : ∃ Nb : List Int, Nb = (restL n rows).map fun i => ((barAt n rows i : Nat) : Int) := ⟨_, rfl⟩
  have rd : barD n rows = .tup [.tup ((restL n rows).map .int), .tup (Nb.map .int)] := by
    unfold barD; rw [if_neg rn, hNb, List.map_map]; rfl
  refine wp_to (fun w => w = [some (.lst ((ns).map D.int)), some f, some (.int ((n : Nat))), some (.bl (wd)), some (.lst ((o).map D.int)), some (.tup (rowsD (rows))), some (.tup ([D.tup ((intsTo n).map .int), D.tup (N.map .int)])), some (.int ((top : Nat))), some (barD n rows), none]) ?_ ?_
  · simp
    refine (law_due_ok (by omega) (by omega) rect).dq ?_
    exact .mk rfl
  rintro w rfl
  have ct : cutD (o.map D.int) (some (top : Int)) none = (o.drop top).map D.int := by rw [cutD_from, List.map_drop]
  refine wp_to (fun w => w = [some (.lst ((ns).map D.int)), some f, some (.int ((n : Nat))), some (.bl (wd)), some (.lst ((o).map D.int)), some (.tup (rowsD (rows))), some (.tup ([D.tup ((intsTo n).map .int), D.tup (N.map .int)])), some (.int ((top : Nat))), some (barD n rows), none]) ?_ ?_
  · rw [rd]
    have sd : dSorted (.own ((o.map D.int).drop top)) = some (.own ((sortI (o.drop top)).map .int)) := by rw [← List.map_drop]; exact dSorted_own
    simp [ct, dNe_tup, rs, sd]
    refine (row_bar_ok (by omega) (by omega) rect).dq ?_
    rw [← rs]
    have sb := same_bar_ok n6 hl
    rw [rd] at sb ⊢
    try simp
    refine sb.bq ?_
    try simp
    exact .mk rfl
  rintro w rfl
  have gd : barB n rows (barD n rows) = true := by
    rw [rd]
    have ra := rest_asc rn
    refine good_ints ⟨ra.1, ra.2.1, ra.2.2, by rw [hNb, List.length_map], fun v m => ?_, fun p m => ?_⟩
    · rw [hNb] at m
      obtain ⟨i, mi, rfl⟩ := List.mem_map.mp m
      have := barAt_lt mi; omega
    · rw [hNb, List.zip_map_right] at m
      obtain ⟨q, mq, rfl⟩ := List.mem_map.mp m
      have q1 := (List.of_mem_zip mq).1
      have q2 : q.1 = q.2 := by
        obtain ⟨k, hk, rfl⟩ := List.mem_iff_getElem.mp mq
        rw [List.getElem_zip]
      have lt := barAt_lt q1
      show nwB (rowOf rows (.int (barAt n rows q.2 : Nat))) q.1 _ = true
      rw [← q2]
      have e : rowOf rows (.int (barAt n rows q.1 : Nat)) = rows[barAt n rows q.1] := by
        show rows.getD ((barAt n rows q.1 : Nat) : Int).toNat [] = _
        rw [Int.toNat_natCast, List.getD_eq_getElem?_getD, List.getElem?_eq_getElem lt]; rfl
      rw [e]
      refine bar_over (rect _ (List.getElem_mem lt)) ?_
      have := List.findIdx_getElem (w := lt) (p := fun r : List Int => nt r (reachL n rows) && decide (atR r q.1 < 0)) (xs := rows)
      exact this
  have pd : pl (barD n rows) = true := by rw [rd]; simp
  refine wp_to (fun w => w = [some (.lst ((ns).map D.int)), some f, some (.int ((n : Nat))), some (.bl (wd)), some (.lst ((o).map D.int)), some (.tup (rowsD (rows))), some (.tup ([D.tup ((intsTo n).map .int), D.tup (N.map .int)])), some (.int ((top : Nat))), some (barD n rows), none]) ?_ ?_
  · simp [ice_pl pd]
    refine (is_row_bar_ok (by omega) (by omega) rect pd).bq ?_
    rw [gd]
    simp
    exact .mk rfl
  rintro w rfl
  simp [hf]
  refine (papers_ok2 hf n6 n1).mono ?_
  rintro d os ⟨f, rfl, rfl, hf⟩
  simp [hf]
  refine (true_for_one_ok hf).mono ?_
  rintro d os ⟨f, rfl, rfl, hf⟩
  simp
theorem law_sp {K : PySem.W.Frag} {H : Hp} {a : Addr} {ns : List Int} (ho : Only H) (h : SqL K H a (ns.map V.int)) : spP K 1 [] m_law [.ref a] H (fun v _ => v = .bl true) fun _ _ _ => False := by
  refine ⟨rfl, [.lst (ns.map .int)], [], RVs.one ⟨a, ns.map V.int, rfl, fz_of ho h, ints_rv ns, rfl⟩, .nil, ?_⟩
  obtain ⟨d, os, e, rfl, rfl⟩ := law_ok (ns := ns)
  rw [e]
  intro v H' F' st r nd
  obtain ⟨v', r', f, g, e1, q, t, e2⟩ := r
  cases e1
  exact q.1
end K18

set_option autoImplicit false
namespace K18
open PySem PySem.Spec L2 Pm PyProof.Rows
theorem all_mk {l : PySem.W.OpenLaw} {w : PySem.World} {K : PySem.W.Frag} {h : Heap} {mg : Str → Option Value} {fa f0 f1 f2 f3 f4 f5 f6 f7 f8 f9 f10 f11 f12 f13 f14 f15 f16 f17 f18 f19 f20 f21 f22 f23 f24 f25 f26 f27 f28 f29 f30 f31 f32 f33 f34 f35 f36 : Addr} (X : K.In h) (G : h.Ns mainGlobals mg) (hfa : mg "law" = some (.ref fa))
    {od0 an0 od1 an1 od2 an2 od3 an3 od4 an4 od5 an5 od6 an6 od7 an7 od8 an8 od9 an9 od10 an10 od11 an11 od12 an12 od13 an13 od14 an14 od15 an15 od16 an16 od17 an17 od18 an18 od19 an19 od20 an20 od21 an21 od22 an22 od23 an23 od24 an24 od25 an25 od26 an26 od27 an27 od28 an28 od29 an29 od30 an30 od31 an31 od32 an32 od33 an33 od34 an34 od35 an35 od36 an36 : Option Addr} {sl0 sl1 sl2 sl3 sl4 sl5 sl6 sl7 sl8 sl9 sl10 sl11 sl12 sl13 sl14 sl15 sl16 sl17 sl18 sl19 sl20 sl21 sl22 sl23 sl24 sl25 sl26 sl27 sl28 sl29 sl30 sl31 sl32 sl33 sl34 sl35 sl36 : Array (Option Value)} {oc0 kV0 dc0 pm0 cd0 ct0 oc1 kV1 dc1 pm1 cd1 ct1 oc2 kV2 dc2 pm2 cd2 ct2 oc3 kV3 dc3 pm3 cd3 ct3 oc4 kV4 dc4 pm4 cd4 ct4 oc5 kV5 dc5 pm5 cd5 ct5 oc6 kV6 dc6 pm6 cd6 ct6 oc7 kV7 dc7 pm7 cd7 ct7 oc8 kV8 dc8 pm8 cd8 ct8 oc9 kV9 dc9 pm9 cd9 ct9 oc10 kV10 dc10 pm10 cd10 ct10 oc11 kV11 dc11 pm11 cd11 ct11 oc12 kV12 dc12 pm12 cd12 ct12 oc13 kV13 dc13 pm13 cd13 ct13 oc14 kV14 dc14 pm14 cd14 ct14 oc15 kV15 dc15 pm15 cd15 ct15 oc16 kV16 dc16 pm16 cd16 ct16 oc17 kV17 dc17 pm17 cd17 ct17 oc18 kV18 dc18 pm18 cd18 ct18 oc19 kV19 dc19 pm19 cd19 ct19 oc20 kV20 dc20 pm20 cd20 ct20 oc21 kV21 dc21 pm21 cd21 ct21 oc22 kV22 dc22 pm22 cd22 ct22 oc23 kV23 dc23 pm23 cd23 ct23 oc24 kV24 dc24 pm24 cd24 ct24 oc25 kV25 dc25 pm25 cd25 ct25 oc26 kV26 dc26 pm26 cd26 ct26 oc27 kV27 dc27 pm27 cd27 ct27 oc28 kV28 dc28 pm28 cd28 ct28 oc29 kV29 dc29 pm29 cd29 ct29 oc30 kV30 dc30 pm30 cd30 ct30 oc31 kV31 dc31 pm31 cd31 ct31 oc32 kV32 dc32 pm32 cd32 ct32 oc33 kV33 dc33 pm33 cd33 ct33 oc34 kV34 dc34 pm34 cd34 ct34 oc35 kV35 dc35 pm35 cd35 ct35 oc36 kV36 dc36 pm36 cd36 ct36 : Value}
    (a0 : PySem.W.nsIn K mainGlobals "is_nought" = some (some (.ref f0))) (l0 : K.lookup f0 = some ⟨oc0, od0, .func (PySem.W.fnOf "is_nought" "is_nought" (defArgs s_is_nought) (defBody s_is_nought) (defScope s_is_nought) .none kV0 dc0 pm0 an0 cd0 ct0), sl0⟩) (c0 : PySem.W.codeIn K cd0 "is_nought" = true) (k0 : PySem.W.keepIn K (.ref f0) = true)
    (a1 : PySem.W.nsIn K mainGlobals "is_integer" = some (some (.ref f1))) (l1 : K.lookup f1 = some ⟨oc1, od1, .func (PySem.W.fnOf "is_integer" "is_integer" (defArgs s_is_integer) (defBody s_is_integer) (defScope s_is_integer) .none kV1 dc1 pm1 an1 cd1 ct1), sl1⟩) (c1 : PySem.W.codeIn K cd1 "is_integer" = true) (k1 : PySem.W.keepIn K (.ref f1) = true)
    (a2 : PySem.W.nsIn K mainGlobals "is_nowhere_worse" = some (some (.ref f2))) (l2 : K.lookup f2 = some ⟨oc2, od2, .func (PySem.W.fnOf "is_nowhere_worse" "is_nowhere_worse" (defArgs s_is_nowhere_worse) (defBody s_is_nowhere_worse) (defScope s_is_nowhere_worse) .none kV2 dc2 pm2 an2 cd2 ct2), sl2⟩) (c2 : PySem.W.codeIn K cd2 "is_nowhere_worse" = true) (k2 : PySem.W.keepIn K (.ref f2) = true)
    (a3 : PySem.W.nsIn K mainGlobals "_law_feed" = some (some (.ref f3))) (l3 : K.lookup f3 = some ⟨oc3, od3, .func (PySem.W.fnOf "_law_feed" "_law_feed" (defArgs s_law_feed) (defBody s_law_feed) (defScope s_law_feed) .none kV3 dc3 pm3 an3 cd3 ct3), sl3⟩) (c3 : PySem.W.codeIn K cd3 "_law_feed" = true) (k3 : PySem.W.keepIn K (.ref f3) = true)
    (a4 : PySem.W.nsIn K mainGlobals "_law_draw" = some (some (.ref f4))) (l4 : K.lookup f4 = some ⟨oc4, od4, .func (PySem.W.fnOf "_law_draw" "_law_draw" (defArgs s_law_draw) (defBody s_law_draw) (defScope s_law_draw) .none kV4 dc4 pm4 an4 cd4 ct4), sl4⟩) (c4 : PySem.W.codeIn K cd4 "_law_draw" = true) (k4 : PySem.W.keepIn K (.ref f4) = true)
    (a5 : PySem.W.nsIn K mainGlobals "_law_reach" = some (some (.ref f5))) (l5 : K.lookup f5 = some ⟨oc5, od5, .func (PySem.W.fnOf "_law_reach" "_law_reach" (defArgs s_law_reach) (defBody s_law_reach) (defScope s_law_reach) .none kV5 dc5 pm5 an5 cd5 ct5), sl5⟩) (c5 : PySem.W.codeIn K cd5 "_law_reach" = true) (k5 : PySem.W.keepIn K (.ref f5) = true)
    (a6 : PySem.W.nsIn K mainGlobals "_law_integers" = some (some (.ref f6))) (l6 : K.lookup f6 = some ⟨oc6, od6, .func (PySem.W.fnOf "_law_integers" "_law_integers" (defArgs s_law_integers) (defBody s_law_integers) (defScope s_law_integers) .none kV6 dc6 pm6 an6 cd6 ct6), sl6⟩) (c6 : PySem.W.codeIn K cd6 "_law_integers" = true) (k6 : PySem.W.keepIn K (.ref f6) = true)
    (a7 : PySem.W.nsIn K mainGlobals "_law_is_bar_row" = some (some (.ref f7))) (l7 : K.lookup f7 = some ⟨oc7, od7, .func (PySem.W.fnOf "_law_is_bar_row" "_law_is_bar_row" (defArgs s_law_is_bar_row) (defBody s_law_is_bar_row) (defScope s_law_is_bar_row) .none kV7 dc7 pm7 an7 cd7 ct7), sl7⟩) (c7 : PySem.W.codeIn K cd7 "_law_is_bar_row" = true) (k7 : PySem.W.keepIn K (.ref f7) = true)
    (a8 : PySem.W.nsIn K mainGlobals "_law_put" = some (some (.ref f8))) (l8 : K.lookup f8 = some ⟨oc8, od8, .func (PySem.W.fnOf "_law_put" "_law_put" (defArgs s_law_put) (defBody s_law_put) (defScope s_law_put) .none kV8 dc8 pm8 an8 cd8 ct8), sl8⟩) (c8 : PySem.W.codeIn K cd8 "_law_put" = true) (k8 : PySem.W.keepIn K (.ref f8) = true)
    (a9 : PySem.W.nsIn K mainGlobals "_law_without" = some (some (.ref f9))) (l9 : K.lookup f9 = some ⟨oc9, od9, .func (PySem.W.fnOf "_law_without" "_law_without" (defArgs s_law_without) (defBody s_law_without) (defScope s_law_without) .none kV9 dc9 pm9 an9 cd9 ct9), sl9⟩) (c9 : PySem.W.codeIn K cd9 "_law_without" = true) (k9 : PySem.W.keepIn K (.ref f9) = true)
    (a10 : PySem.W.nsIn K mainGlobals "free_rules" = some (some (.ref f10))) (l10 : K.lookup f10 = some ⟨oc10, od10, .func (PySem.W.fnOf "free_rules" "free_rules" (defArgs s_free_rules) (defBody s_free_rules) (defScope s_free_rules) .none kV10 dc10 pm10 an10 cd10 ct10), sl10⟩) (c10 : PySem.W.codeIn K cd10 "free_rules" = true) (k10 : PySem.W.keepIn K (.ref f10) = true)
    (a11 : PySem.W.nsIn K mainGlobals "integer_within" = some (some (.ref f11))) (l11 : K.lookup f11 = some ⟨oc11, od11, .func (PySem.W.fnOf "integer_within" "integer_within" (defArgs s_integer_within) (defBody s_integer_within) (defScope s_integer_within) .none kV11 dc11 pm11 an11 cd11 ct11), sl11⟩) (c11 : PySem.W.codeIn K cd11 "integer_within" = true) (k11 : PySem.W.keepIn K (.ref f11) = true)
    (a12 : PySem.W.nsIn K mainGlobals "_law_shuffled" = some (some (.ref f12))) (l12 : K.lookup f12 = some ⟨oc12, od12, .func (PySem.W.fnOf "_law_shuffled" "_law_shuffled" (defArgs s_law_shuffled) (defBody s_law_shuffled) (defScope s_law_shuffled) .none kV12 dc12 pm12 an12 cd12 ct12), sl12⟩) (c12 : PySem.W.codeIn K cd12 "_law_shuffled" = true) (k12 : PySem.W.keepIn K (.ref f12) = true)
    (a13 : PySem.W.nsIn K mainGlobals "_law_size" = some (some (.ref f13))) (l13 : K.lookup f13 = some ⟨oc13, od13, .func (PySem.W.fnOf "_law_size" "_law_size" (defArgs s_law_size) (defBody s_law_size) (defScope s_law_size) .none kV13 dc13 pm13 an13 cd13 ct13), sl13⟩) (c13 : PySem.W.codeIn K cd13 "_law_size" = true) (k13 : PySem.W.keepIn K (.ref f13) = true)
    (a14 : PySem.W.nsIn K mainGlobals "_law_due" = some (some (.ref f14))) (l14 : K.lookup f14 = some ⟨oc14, od14, .func (PySem.W.fnOf "_law_due" "_law_due" (defArgs s_law_due) (defBody s_law_due) (defScope s_law_due) .none kV14 dc14 pm14 an14 cd14 ct14), sl14⟩) (c14 : PySem.W.codeIn K cd14 "_law_due" = true) (k14 : PySem.W.keepIn K (.ref f14) = true)
    (a15 : PySem.W.nsIn K mainGlobals "_law_judge" = some (some (.ref f15))) (l15 : K.lookup f15 = some ⟨oc15, od15, .func (PySem.W.fnOf "_law_judge" "_law_judge" (defArgs s_law_judge) (defBody s_law_judge) (defScope s_law_judge) .none kV15 dc15 pm15 an15 cd15 ct15), sl15⟩) (c15 : PySem.W.codeIn K cd15 "_law_judge" = true) (k15 : PySem.W.keepIn K (.ref f15) = true)
    (a16 : PySem.W.nsIn K mainGlobals "_law_same_bar" = some (some (.ref f16))) (l16 : K.lookup f16 = some ⟨oc16, od16, .func (PySem.W.fnOf "_law_same_bar" "_law_same_bar" (defArgs s_law_same_bar) (defBody s_law_same_bar) (defScope s_law_same_bar) .none kV16 dc16 pm16 an16 cd16 ct16), sl16⟩) (c16 : PySem.W.codeIn K cd16 "_law_same_bar" = true) (k16 : PySem.W.keepIn K (.ref f16) = true)
    (a17 : PySem.W.nsIn K mainGlobals "_law_bent" = some (some (.ref f17))) (l17 : K.lookup f17 = some ⟨oc17, od17, .func (PySem.W.fnOf "_law_bent" "_law_bent" (defArgs s_law_bent) (defBody s_law_bent) (defScope s_law_bent) .none kV17 dc17 pm17 an17 cd17 ct17), sl17⟩) (c17 : PySem.W.codeIn K cd17 "_law_bent" = true) (k17 : PySem.W.keepIn K (.ref f17) = true)
    (a18 : PySem.W.nsIn K mainGlobals "_law_others" = some (some (.ref f18))) (l18 : K.lookup f18 = some ⟨oc18, od18, .func (PySem.W.fnOf "_law_others" "_law_others" (defArgs s_law_others) (defBody s_law_others) (defScope s_law_others) .none kV18 dc18 pm18 an18 cd18 ct18), sl18⟩) (c18 : PySem.W.codeIn K cd18 "_law_others" = true) (k18 : PySem.W.keepIn K (.ref f18) = true)
    (a19 : PySem.W.nsIn K mainGlobals "_law_odd" = some (some (.ref f19))) (l19 : K.lookup f19 = some ⟨oc19, od19, .func (PySem.W.fnOf "_law_odd" "_law_odd" (defArgs s_law_odd) (defBody s_law_odd) (defScope s_law_odd) .none kV19 dc19 pm19 an19 cd19 ct19), sl19⟩) (c19 : PySem.W.codeIn K cd19 "_law_odd" = true) (k19 : PySem.W.keepIn K (.ref f19) = true)
    (a20 : PySem.W.nsIn K mainGlobals "_law_last_rows" = some (some (.ref f20))) (l20 : K.lookup f20 = some ⟨oc20, od20, .func (PySem.W.fnOf "_law_last_rows" "_law_last_rows" (defArgs s_law_last_rows) (defBody s_law_last_rows) (defScope s_law_last_rows) .none kV20 dc20 pm20 an20 cd20 ct20), sl20⟩) (c20 : PySem.W.codeIn K cd20 "_law_last_rows" = true) (k20 : PySem.W.keepIn K (.ref f20) = true)
    (a21 : PySem.W.nsIn K mainGlobals "are_ascending" = some (some (.ref f21))) (l21 : K.lookup f21 = some ⟨oc21, od21, .func (PySem.W.fnOf "are_ascending" "are_ascending" (defArgs s_are_ascending) (defBody s_are_ascending) (defScope s_are_ascending) .none kV21 dc21 pm21 an21 cd21 ct21), sl21⟩) (c21 : PySem.W.codeIn K cd21 "are_ascending" = true) (k21 : PySem.W.keepIn K (.ref f21) = true)
    (a22 : PySem.W.nsIn K mainGlobals "strata_of" = some (some (.ref f22))) (l22 : K.lookup f22 = some ⟨oc22, od22, .func (PySem.W.fnOf "strata_of" "strata_of" (defArgs s_strata_of) (defBody s_strata_of) (defScope s_strata_of) .none kV22 dc22 pm22 an22 cd22 ct22), sl22⟩) (c22 : PySem.W.codeIn K cd22 "strata_of" = true) (k22 : PySem.W.keepIn K (.ref f22) = true)
    (a23 : PySem.W.nsIn K mainGlobals "are_row_papers" = some (some (.ref f23))) (l23 : K.lookup f23 = some ⟨oc23, od23, .func (PySem.W.fnOf "are_row_papers" "are_row_papers" (defArgs s_are_row_papers) (defBody s_are_row_papers) (defScope s_are_row_papers) .none kV23 dc23 pm23 an23 cd23 ct23), sl23⟩) (c23 : PySem.W.codeIn K cd23 "are_row_papers" = true) (k23 : PySem.W.keepIn K (.ref f23) = true)
    (a24 : PySem.W.nsIn K mainGlobals "_law_lead" = some (some (.ref f24))) (l24 : K.lookup f24 = some ⟨oc24, od24, .func (PySem.W.fnOf "_law_lead" "_law_lead" (defArgs s_law_lead) (defBody s_law_lead) (defScope s_law_lead) .none kV24 dc24 pm24 an24 cd24 ct24), sl24⟩) (c24 : PySem.W.codeIn K cd24 "_law_lead" = true) (k24 : PySem.W.keepIn K (.ref f24) = true)
    (a25 : PySem.W.nsIn K mainGlobals "_law_plain" = some (some (.ref f25))) (l25 : K.lookup f25 = some ⟨oc25, od25, .func (PySem.W.fnOf "_law_plain" "_law_plain" (defArgs s_law_plain) (defBody s_law_plain) (defScope s_law_plain) .none kV25 dc25 pm25 an25 cd25 ct25), sl25⟩) (c25 : PySem.W.codeIn K cd25 "_law_plain" = true) (k25 : PySem.W.keepIn K (.ref f25) = true)
    (a26 : PySem.W.nsIn K mainGlobals "_law_bar_row" = some (some (.ref f26))) (l26 : K.lookup f26 = some ⟨oc26, od26, .func (PySem.W.fnOf "_law_bar_row" "_law_bar_row" (defArgs s_law_bar_row) (defBody s_law_bar_row) (defScope s_law_bar_row) .none kV26 dc26 pm26 an26 cd26 ct26), sl26⟩) (c26 : PySem.W.codeIn K cd26 "_law_bar_row" = true) (k26 : PySem.W.keepIn K (.ref f26) = true)
    (a27 : PySem.W.nsIn K mainGlobals "reach_of" = some (some (.ref f27))) (l27 : K.lookup f27 = some ⟨oc27, od27, .func (PySem.W.fnOf "reach_of" "reach_of" (defArgs s_reach_of) (defBody s_reach_of) (defScope s_reach_of) .none kV27 dc27 pm27 an27 cd27 ct27), sl27⟩) (c27 : PySem.W.codeIn K cd27 "reach_of" = true) (k27 : PySem.W.keepIn K (.ref f27) = true)
    (a28 : PySem.W.nsIn K mainGlobals "is_row_bar" = some (some (.ref f28))) (l28 : K.lookup f28 = some ⟨oc28, od28, .func (PySem.W.fnOf "is_row_bar" "is_row_bar" (defArgs s_is_row_bar) (defBody s_is_row_bar) (defScope s_is_row_bar) .none kV28 dc28 pm28 an28 cd28 ct28), sl28⟩) (c28 : PySem.W.codeIn K cd28 "is_row_bar" = true) (k28 : PySem.W.keepIn K (.ref f28) = true)
    (a29 : PySem.W.nsIn K mainGlobals "_law_world" = some (some (.ref f29))) (l29 : K.lookup f29 = some ⟨oc29, od29, .func (PySem.W.fnOf "_law_world" "_law_world" (defArgs s_law_world) (defBody s_law_world) (defScope s_law_world) .none kV29 dc29 pm29 an29 cd29 ct29), sl29⟩) (c29 : PySem.W.codeIn K cd29 "_law_world" = true) (k29 : PySem.W.keepIn K (.ref f29) = true)
    (a30 : PySem.W.nsIn K mainGlobals "_law_scene" = some (some (.ref f30))) (l30 : K.lookup f30 = some ⟨oc30, od30, .func (PySem.W.fnOf "_law_scene" "_law_scene" (defArgs s_law_scene) (defBody s_law_scene) (defScope s_law_scene) .none kV30 dc30 pm30 an30 cd30 ct30), sl30⟩) (c30 : PySem.W.codeIn K cd30 "_law_scene" = true) (k30 : PySem.W.keepIn K (.ref f30) = true)
    (a31 : PySem.W.nsIn K mainGlobals "rest_of" = some (some (.ref f31))) (l31 : K.lookup f31 = some ⟨oc31, od31, .func (PySem.W.fnOf "rest_of" "rest_of" (defArgs s_rest_of) (defBody s_rest_of) (defScope s_rest_of) .none kV31 dc31 pm31 an31 cd31 ct31), sl31⟩) (c31 : PySem.W.codeIn K cd31 "rest_of" = true) (k31 : PySem.W.keepIn K (.ref f31) = true)
    (a32 : PySem.W.nsIn K mainGlobals "_law_says" = some (some (.ref f32))) (l32 : K.lookup f32 = some ⟨oc32, od32, .func (PySem.W.fnOf "_law_says" "_law_says" (defArgs s_law_says) (defBody s_law_says) (defScope s_law_says) .none kV32 dc32 pm32 an32 cd32 ct32), sl32⟩) (c32 : PySem.W.codeIn K cd32 "_law_says" = true) (k32 : PySem.W.keepIn K (.ref f32) = true)
    (a33 : PySem.W.nsIn K mainGlobals "row_bar" = some (some (.ref f33))) (l33 : K.lookup f33 = some ⟨oc33, od33, .func (PySem.W.fnOf "row_bar" "row_bar" (defArgs s_row_bar) (defBody s_row_bar) (defScope s_row_bar) .none kV33 dc33 pm33 an33 cd33 ct33), sl33⟩) (c33 : PySem.W.codeIn K cd33 "row_bar" = true) (k33 : PySem.W.keepIn K (.ref f33) = true)
    (a34 : PySem.W.nsIn K mainGlobals "_law_true_for_one" = some (some (.ref f34))) (l34 : K.lookup f34 = some ⟨oc34, od34, .func (PySem.W.fnOf "_law_true_for_one" "_law_true_for_one" (defArgs s_law_true_for_one) (defBody s_law_true_for_one) (defScope s_law_true_for_one) .none kV34 dc34 pm34 an34 cd34 ct34), sl34⟩) (c34 : PySem.W.codeIn K cd34 "_law_true_for_one" = true) (k34 : PySem.W.keepIn K (.ref f34) = true)
    (a35 : PySem.W.nsIn K mainGlobals "_law_papers" = some (some (.ref f35))) (l35 : K.lookup f35 = some ⟨oc35, od35, .func (PySem.W.fnOf "_law_papers" "_law_papers" (defArgs s_law_papers) (defBody s_law_papers) (defScope s_law_papers) .none kV35 dc35 pm35 an35 cd35 ct35), sl35⟩) (c35 : PySem.W.codeIn K cd35 "_law_papers" = true) (k35 : PySem.W.keepIn K (.ref f35) = true)
    (a36 : PySem.W.nsIn K mainGlobals "law" = some (some (.ref f36))) (l36 : K.lookup f36 = some ⟨oc36, od36, .func (PySem.W.fnOf "law" "law" (defArgs s_law) (defBody s_law) (defScope s_law) .none kV36 dc36 pm36 an36 cd36 ct36), sl36⟩) (c36 : PySem.W.codeIn K cd36 "law" = true) (k36 : PySem.W.keepIn K (.ref f36) = true)
    (z_bool : PySem.W.nsIn K mainGlobals "bool" = some none)
    (z_enumerate : PySem.W.nsIn K mainGlobals "enumerate" = some none)
    (z_int : PySem.W.nsIn K mainGlobals "int" = some none)
    (z_isinstance : PySem.W.nsIn K mainGlobals "isinstance" = some none)
    (z_len : PySem.W.nsIn K mainGlobals "len" = some none)
    (z_list : PySem.W.nsIn K mainGlobals "list" = some none)
    (z_max : PySem.W.nsIn K mainGlobals "max" = some none)
    (z_range : PySem.W.nsIn K mainGlobals "range" = some none)
    (z_sorted : PySem.W.nsIn K mainGlobals "sorted" = some none)
    (z_str : PySem.W.nsIn K mainGlobals "str" = some none)
    (z_tuple : PySem.W.nsIn K mainGlobals "tuple" = some none)
    (z_zip : PySem.W.nsIn K mainGlobals "zip" = some none)
    : ∃ fd : FuncData, (∀ (s : Shared) (v : Value), BindsTo s fd ⟨[v], []⟩ [("script", v)]) ∧ ∀ base : Heap, K.In base → base.Ns mainGlobals mg → FnOk l.prog w K mg base CX0 8 fa fd ["script"] (spP K 1 [] m_law) := by
  have e := hfa.symm.trans (PySem.W.mg_of X G a36)
  cases e
  have F0 := fun_mk (st := s_is_nought) l0 c0 k0
  have b0 := F0.binds (ps := ["row", "some"]) fun _ _ _ _ _ _ us hl => match us, hl with | [_, _], _ => rfl
  have F1 := fun_mk (st := s_is_integer) l1 c1 k1
  have b1 := F1.binds (ps := ["thing"]) fun _ _ _ _ _ _ us hl => match us, hl with | [_], _ => rfl
  have F2 := fun_mk (st := s_is_nowhere_worse) l2 c2 k2
  have b2 := F2.binds (ps := ["row", "rule", "inside"]) fun _ _ _ _ _ _ us hl => match us, hl with | [_, _, _], _ => rfl
  have F3 := fun_mk (st := s_law_feed) l3 c3 k3
  have b3 := F3.binds (ps := ["script"]) fun _ _ _ _ _ _ us hl => match us, hl with | [_], _ => rfl
  have F4 := fun_mk (st := s_law_draw) l4 c4 k4
  have b4 := F4.binds (ps := ["feed", "many"]) fun _ _ _ _ _ _ us hl => match us, hl with | [_, _], _ => rfl
  have F5 := fun_mk (st := s_law_reach) l5 c5 k5
  have b5 := F5.binds (ps := ["many", "rows"]) fun _ _ _ _ _ _ us hl => match us, hl with | [_, _], _ => rfl
  have F6 := fun_mk (st := s_law_integers) l6 c6 k6
  have b6 := F6.binds (ps := ["thing", "most"]) fun _ _ _ _ _ _ us hl => match us, hl with | [_, _], _ => rfl
  have F7 := fun_mk (st := s_law_is_bar_row) l7 c7 k7
  have b7 := F7.binds (ps := ["row", "rules", "rule"]) fun _ _ _ _ _ _ us hl => match us, hl with | [_, _, _], _ => rfl
  have F8 := fun_mk (st := s_law_put) l8 c8 k8
  have b8 := F8.binds (ps := ["things", "place", "thing"]) fun _ _ _ _ _ _ us hl => match us, hl with | [_, _, _], _ => rfl
  have F9 := fun_mk (st := s_law_without) l9 c9 k9
  have b9 := F9.binds (ps := ["things", "place"]) fun _ _ _ _ _ _ us hl => match us, hl with | [_, _], _ => rfl
  have F10 := fun_mk (st := s_free_rules) l10 c10 k10
  have b10 := F10.binds (ps := ["many", "rows", "some"]) fun _ _ _ _ _ _ us hl => match us, hl with | [_, _, _], _ => rfl
  have F11 := fun_mk (st := s_integer_within) l11 c11 k11
  have b11 := F11.binds (ps := ["thing", "low", "high"]) fun _ _ _ _ _ _ us hl => match us, hl with | [_, _, _], _ => rfl
  have F12 := fun_mk (st := s_law_shuffled) l12 c12 k12
  have b12 := F12.binds (ps := ["feed", "things"]) fun _ _ _ _ _ _ us hl => match us, hl with | [_, _], _ => rfl
  have F13 := fun_mk (st := s_law_size) l13 c13 k13
  have b13 := F13.binds (ps := ["feed"]) fun _ _ _ _ _ _ us hl => match us, hl with | [_], _ => rfl
  have F14 := fun_mk (st := s_law_due) l14 c14 k14
  have b14 := F14.binds (ps := ["many", "rows"]) fun _ _ _ _ _ _ us hl => match us, hl with | [_, _], _ => rfl
  have F15 := fun_mk (st := s_law_judge) l15 c15 k15
  have b15 := F15.binds (ps := ["many", "rows", "thing"]) fun _ _ _ _ _ _ us hl => match us, hl with | [_, _, _], _ => rfl
  have F16 := fun_mk (st := s_law_same_bar) l16 c16 k16
  have b16 := F16.binds (ps := ["told", "due"]) fun _ _ _ _ _ _ us hl => match us, hl with | [_, _], _ => rfl
  have F17 := fun_mk (st := s_law_bent) l17 c17 k17
  have b17 := F17.binds (ps := ["feed", "many", "rows", "some", "base", "marks", "spots"]) fun _ _ _ _ _ _ us hl => match us, hl with | [_, _, _, _, _, _, _], _ => rfl
  have F18 := fun_mk (st := s_law_others) l18 c18 k18
  have b18 := F18.binds (ps := ["feed", "many", "rows", "some", "base"]) fun _ _ _ _ _ _ us hl => match us, hl with | [_, _, _, _, _], _ => rfl
  have F19 := fun_mk (st := s_law_odd) l19 c19 k19
  have b19 := F19.binds (ps := ["feed"]) fun _ _ _ _ _ _ us hl => match us, hl with | [_], _ => rfl
  have F20 := fun_mk (st := s_law_last_rows) l20 c20 k20
  have b20 := F20.binds (ps := ["many", "rows"]) fun _ _ _ _ _ _ us hl => match us, hl with | [_, _], _ => rfl
  have F21 := fun_mk (st := s_are_ascending) l21 c21 k21
  have b21 := F21.binds (ps := ["thing", "most"]) fun _ _ _ _ _ _ us hl => match us, hl with | [_, _], _ => rfl
  have F22 := fun_mk (st := s_strata_of) l22 c22 k22
  have b22 := F22.binds (ps := ["many", "rows"]) fun _ _ _ _ _ _ us hl => match us, hl with | [_, _], _ => rfl
  have F23 := fun_mk (st := s_are_row_papers) l23 c23 k23
  have b23 := F23.binds (ps := ["rows", "rules", "inside", "thing"]) fun _ _ _ _ _ _ us hl => match us, hl with | [_, _, _, _], _ => rfl
  have F24 := fun_mk (st := s_law_lead) l24 c24 k24
  have b24 := F24.binds (ps := ["feed", "order", "place"]) fun _ _ _ _ _ _ us hl => match us, hl with | [_, _, _], _ => rfl
  have F25 := fun_mk (st := s_law_plain) l25 c25 k25
  have b25 := F25.binds (ps := ["feed", "many"]) fun _ _ _ _ _ _ us hl => match us, hl with | [_, _], _ => rfl
  have F26 := fun_mk (st := s_law_bar_row) l26 c26 k26
  have b26 := F26.binds (ps := ["feed", "order", "top", "rule"]) fun _ _ _ _ _ _ us hl => match us, hl with | [_, _, _, _], _ => rfl
  have F27 := fun_mk (st := s_reach_of) l27 c27 k27
  have b27 := F27.binds (ps := ["many", "rows"]) fun _ _ _ _ _ _ us hl => match us, hl with | [_, _], _ => rfl
  have F28 := fun_mk (st := s_is_row_bar) l28 c28 k28
  have b28 := F28.binds (ps := ["many", "rows", "thing"]) fun _ _ _ _ _ _ us hl => match us, hl with | [_, _, _], _ => rfl
  have F29 := fun_mk (st := s_law_world) l29 c29 k29
  have b29 := F29.binds (ps := ["feed", "order", "top", "wide"]) fun _ _ _ _ _ _ us hl => match us, hl with | [_, _, _, _], _ => rfl
  have F30 := fun_mk (st := s_law_scene) l30 c30 k30
  have b30 := F30.binds (ps := ["feed", "many", "some", "wide"]) fun _ _ _ _ _ _ us hl => match us, hl with | [_, _, _, _], _ => rfl
  have F31 := fun_mk (st := s_rest_of) l31 c31 k31
  have b31 := F31.binds (ps := ["many", "rows"]) fun _ _ _ _ _ _ us hl => match us, hl with | [_, _], _ => rfl
  have F32 := fun_mk (st := s_law_says) l32 c32 k32
  have b32 := F32.binds (ps := ["many", "rows", "thing", "due", "counts"]) fun _ _ _ _ _ _ us hl => match us, hl with | [_, _, _, _, _], _ => rfl
  have F33 := fun_mk (st := s_row_bar) l33 c33 k33
  have b33 := F33.binds (ps := ["many", "rows"]) fun _ _ _ _ _ _ us hl => match us, hl with | [_, _], _ => rfl
  have F34 := fun_mk (st := s_law_true_for_one) l34 c34 k34
  have b34 := F34.binds (ps := ["feed"]) fun _ _ _ _ _ _ us hl => match us, hl with | [_], _ => rfl
  have F35 := fun_mk (st := s_law_papers) l35 c35 k35
  have b35 := F35.binds (ps := ["feed", "many", "wide"]) fun _ _ _ _ _ _ us hl => match us, hl with | [_, _, _], _ => rfl
  have F36 := fun_mk (st := s_law) l36 c36 k36
  have b36 := F36.binds (ps := ["script"]) fun _ _ _ _ _ _ us hl => match us, hl with | [_], _ => rfl
  exact ⟨_, fun s v => .of_eq rfl, fun base _ _ => ok_law (⟨⟨_, _, F0, b0, PySem.W.mg_of X G a0⟩,
    ⟨_, _, F1, b1, PySem.W.mg_of X G a1⟩,
    ⟨_, _, F2, b2, PySem.W.mg_of X G a2⟩,
    ⟨_, _, F3, b3, PySem.W.mg_of X G a3⟩,
    ⟨_, _, F4, b4, PySem.W.mg_of X G a4⟩,
    ⟨_, _, F5, b5, PySem.W.mg_of X G a5⟩,
    ⟨_, _, F6, b6, PySem.W.mg_of X G a6⟩,
    ⟨_, _, F7, b7, PySem.W.mg_of X G a7⟩,
    ⟨_, _, F8, b8, PySem.W.mg_of X G a8⟩,
    ⟨_, _, F9, b9, PySem.W.mg_of X G a9⟩,
    ⟨_, _, F10, b10, PySem.W.mg_of X G a10⟩,
    ⟨_, _, F11, b11, PySem.W.mg_of X G a11⟩,
    ⟨_, _, F12, b12, PySem.W.mg_of X G a12⟩,
    ⟨_, _, F13, b13, PySem.W.mg_of X G a13⟩,
    ⟨_, _, F14, b14, PySem.W.mg_of X G a14⟩,
    ⟨_, _, F15, b15, PySem.W.mg_of X G a15⟩,
    ⟨_, _, F16, b16, PySem.W.mg_of X G a16⟩,
    ⟨_, _, F17, b17, PySem.W.mg_of X G a17⟩,
    ⟨_, _, F18, b18, PySem.W.mg_of X G a18⟩,
    ⟨_, _, F19, b19, PySem.W.mg_of X G a19⟩,
    ⟨_, _, F20, b20, PySem.W.mg_of X G a20⟩,
    ⟨_, _, F21, b21, PySem.W.mg_of X G a21⟩,
    ⟨_, _, F22, b22, PySem.W.mg_of X G a22⟩,
    ⟨_, _, F23, b23, PySem.W.mg_of X G a23⟩,
    ⟨_, _, F24, b24, PySem.W.mg_of X G a24⟩,
    ⟨_, _, F25, b25, PySem.W.mg_of X G a25⟩,
    ⟨_, _, F26, b26, PySem.W.mg_of X G a26⟩,
    ⟨_, _, F27, b27, PySem.W.mg_of X G a27⟩,
    ⟨_, _, F28, b28, PySem.W.mg_of X G a28⟩,
    ⟨_, _, F29, b29, PySem.W.mg_of X G a29⟩,
    ⟨_, _, F30, b30, PySem.W.mg_of X G a30⟩,
    ⟨_, _, F31, b31, PySem.W.mg_of X G a31⟩,
    ⟨_, _, F32, b32, PySem.W.mg_of X G a32⟩,
    ⟨_, _, F33, b33, PySem.W.mg_of X G a33⟩,
    ⟨_, _, F34, b34, PySem.W.mg_of X G a34⟩,
    ⟨_, _, F35, b35, PySem.W.mg_of X G a35⟩,
    ⟨_, _, F36, b36, PySem.W.mg_of X G a36⟩,
    PySem.W.mg_none_of X G z_bool,
    PySem.W.mg_none_of X G z_enumerate,
    PySem.W.mg_none_of X G z_int,
    PySem.W.mg_none_of X G z_isinstance,
    PySem.W.mg_none_of X G z_len,
    PySem.W.mg_none_of X G z_list,
    PySem.W.mg_none_of X G z_max,
    PySem.W.mg_none_of X G z_range,
    PySem.W.mg_none_of X G z_sorted,
    PySem.W.mg_none_of X G z_str,
    PySem.W.mg_none_of X G z_tuple,
    PySem.W.mg_none_of X G z_zip⟩ : Top K mg) 0⟩
end K18
open PySem PySem.W PyProof.Rows
set_option maxHeartbeats 0 in
theorem PySem.Challenge.cw_nowhereworse_k18_row_bars_holds : PySem.Challenge.rw_nowhereworse_k18_row_bars.Holds := by
  w_on; o_law; k_head; (case hw => w_witness2)
  k_fill
  refine L2.walk_of (l := PySem.Challenge.rw_nowhereworse_k18_row_bars) (n := 63) (k := 8) (x := "script") (CX := fun _ => L2.CX0) (sp := fun w => Pm.spP _ 1 [] K18.m_law) rfl (by decide) rfl ⟨rfl, by decide, by decide⟩ (fun w h Y => PySem.W.kIn_of Y) ?F (fun _ _ a ns hl ho hS => K18.law_sp ho hS) (fun _ _ _ _ _ h => h)
  case F =>
    intro w mg fa h KX G hmg
    refine' K18.all_mk KX G hmg ?a0 ?l0 ?c0 ?k0 ?a1 ?l1 ?c1 ?k1 ?a2 ?l2 ?c2 ?k2 ?a3 ?l3 ?c3 ?k3 ?a4 ?l4 ?c4 ?k4 ?a5 ?l5 ?c5 ?k5 ?a6 ?l6 ?c6 ?k6 ?a7 ?l7 ?c7 ?k7 ?a8 ?l8 ?c8 ?k8 ?a9 ?l9 ?c9 ?k9 ?a10 ?l10 ?c10 ?k10 ?a11 ?l11 ?c11 ?k11 ?a12 ?l12 ?c12 ?k12 ?a13 ?l13 ?c13 ?k13 ?a14 ?l14 ?c14 ?k14 ?a15 ?l15 ?c15 ?k15 ?a16 ?l16 ?c16 ?k16 ?a17 ?l17 ?c17 ?k17 ?a18 ?l18 ?c18 ?k18 ?a19 ?l19 ?c19 ?k19 ?a20 ?l20 ?c20 ?k20 ?a21 ?l21 ?c21 ?k21 ?a22 ?l22 ?c22 ?k22 ?a23 ?l23 ?c23 ?k23 ?a24 ?l24 ?c24 ?k24 ?a25 ?l25 ?c25 ?k25 ?a26 ?l26 ?c26 ?k26 ?a27 ?l27 ?c27 ?k27 ?a28 ?l28 ?c28 ?k28 ?a29 ?l29 ?c29 ?k29 ?a30 ?l30 ?c30 ?k30 ?a31 ?l31 ?c31 ?k31 ?a32 ?l32 ?c32 ?k32 ?a33 ?l33 ?c33 ?k33 ?a34 ?l34 ?c34 ?k34 ?a35 ?l35 ?c35 ?k35 ?a36 ?l36 ?c36 ?k36 ?z_bool ?z_enumerate ?z_int ?z_isinstance ?z_len ?z_list ?z_max ?z_range ?z_sorted ?z_str ?z_tuple ?z_zip
    (case a0 => k_is); (case l0 => k_is); (case c0 => k_is); (case k0 => k_is); (case a1 => k_is); (case l1 => k_is); (case c1 => k_is); (case k1 => k_is); (case a2 => k_is); (case l2 => k_is); (case c2 => k_is); (case k2 => k_is); (case a3 => k_is); (case l3 => k_is); (case c3 => k_is); (case k3 => k_is); (case a4 => k_is); (case l4 => k_is); (case c4 => k_is); (case k4 => k_is); (case a5 => k_is); (case l5 => k_is); (case c5 => k_is); (case k5 => k_is); (case a6 => k_is); (case l6 => k_is); (case c6 => k_is); (case k6 => k_is); (case a7 => k_is); (case l7 => k_is); (case c7 => k_is); (case k7 => k_is); (case a8 => k_is); (case l8 => k_is); (case c8 => k_is); (case k8 => k_is); (case a9 => k_is); (case l9 => k_is); (case c9 => k_is); (case k9 => k_is); (case a10 => k_is); (case l10 => k_is); (case c10 => k_is); (case k10 => k_is); (case a11 => k_is); (case l11 => k_is); (case c11 => k_is); (case k11 => k_is); (case a12 => k_is); (case l12 => k_is); (case c12 => k_is); (case k12 => k_is); (case a13 => k_is); (case l13 => k_is); (case c13 => k_is); (case k13 => k_is); (case a14 => k_is); (case l14 => k_is); (case c14 => k_is); (case k14 => k_is); (case a15 => k_is); (case l15 => k_is); (case c15 => k_is); (case k15 => k_is); (case a16 => k_is); (case l16 => k_is); (case c16 => k_is); (case k16 => k_is); (case a17 => k_is); (case l17 => k_is); (case c17 => k_is); (case k17 => k_is); (case a18 => k_is); (case l18 => k_is); (case c18 => k_is); (case k18 => k_is); (case a19 => k_is); (case l19 => k_is); (case c19 => k_is); (case k19 => k_is); (case a20 => k_is); (case l20 => k_is); (case c20 => k_is); (case k20 => k_is); (case a21 => k_is); (case l21 => k_is); (case c21 => k_is); (case k21 => k_is); (case a22 => k_is); (case l22 => k_is); (case c22 => k_is); (case k22 => k_is); (case a23 => k_is); (case l23 => k_is); (case c23 => k_is); (case k23 => k_is); (case a24 => k_is); (case l24 => k_is); (case c24 => k_is); (case k24 => k_is); (case a25 => k_is); (case l25 => k_is); (case c25 => k_is); (case k25 => k_is); (case a26 => k_is); (case l26 => k_is); (case c26 => k_is); (case k26 => k_is); (case a27 => k_is); (case l27 => k_is); (case c27 => k_is); (case k27 => k_is); (case a28 => k_is); (case l28 => k_is); (case c28 => k_is); (case k28 => k_is); (case a29 => k_is); (case l29 => k_is); (case c29 => k_is); (case k29 => k_is); (case a30 => k_is); (case l30 => k_is); (case c30 => k_is); (case k30 => k_is); (case a31 => k_is); (case l31 => k_is); (case c31 => k_is); (case k31 => k_is); (case a32 => k_is); (case l32 => k_is); (case c32 => k_is); (case k32 => k_is); (case a33 => k_is); (case l33 => k_is); (case c33 => k_is); (case k33 => k_is); (case a34 => k_is); (case l34 => k_is); (case c34 => k_is); (case k34 => k_is); (case a35 => k_is); (case l35 => k_is); (case c35 => k_is); (case k35 => k_is); (case a36 => k_is); (case l36 => k_is); (case c36 => k_is); (case k36 => k_is); (case z_bool => k_is); (case z_enumerate => k_is); (case z_int => k_is); (case z_isinstance => k_is); (case z_len => k_is); (case z_list => k_is); (case z_max => k_is); (case z_range => k_is); (case z_sorted => k_is); (case z_str => k_is); (case z_tuple => k_is); (case z_zip => k_is)
