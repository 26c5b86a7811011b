import PyProof.Rows.All
import Wide.All
import OpenK.AllK
import Wide.FinOn
import HandS.ForMost
import HandS.Lambda
import HandS.Exc
import HandS.TupAny
import HandS.IsInst
import HandS.Wide
import HandS.Zip
import KE.GoesMore
import HandS.RevRange
import HandS.Conv
import HandS.SortInts
import PyProof.TupleOfSeq
import HandS.TupLe
import HandS.WordsExc
import HandS.CallSlots
import HandS.ExcInit
import HandS.TryMany
import HandS.ExcField
import HandS.ExcIs
import HandS.Dict
import HandS.DictComp
import PyProof.P3In
import HandS.Deep
import HandS.Style
import HandS.Remove
import KE.SortData
import KE.KDictSum
import KE.KDictCopyH
import HandS.List
import HandS.Text
import PyProof.Rows.SeqMore
import HandS.EndTab
import HandS.Nested
import KE.KDictDisplayH
import HandS.WideBits
import PySem.Challenge.RW_nowhereworse_k17_rankings_of_rows
set_option Elab.async false
set_option linter.all false
set_option maxRecDepth 100000
set_option maxHeartbeats 4000000
set_option autoImplicit true
namespace Pm
open PySem PySem.Spec L2

/-- data: what a value is, with what it holds. lst: a list that no one changes any more; own: a list that has one owner -/
inductive D where
  | non | bl (b : Bool) | int (i : Int) | str (x : Str)
  | tup (xs : List D) | lst (xs : List D) | own (xs : List D)
  | xo (c : Str) (ns : List Str) (vs : List D)
  | odc (t : Bool) (ks vs : List D) | fdc (t : Bool) (ks vs : List D)
  | fn
def keyD : Key → D
  | .inl i => .int i
  | .inr s => .str s
def tkD (k : List Key) : D := .tup (k.map keyD)
/-- a dict's object: its keys, its values; t: the keys are tuples -/
def DctIs (t : Bool) (ks : List D) (ws : List V) (u : HO) : Prop := match t with
  | false => ∃ kvs : List (Key × V), u = .dK kvs ∧ ks = kvs.map (fun p => keyD p.1) ∧ ws = kvs.map (·.2)
  | true => ∃ kvs : List (List Key × V), u = .dT kvs ∧ ks = kvs.map (fun p => tkD p.1) ∧ ws = kvs.map (·.2)
theorem DctIs.mut {t : Bool} {ks : List D} {ws : List V} {u : HO} (h : DctIs t ks ws u) : Mut (some u) := by
  cases t with
  | false => obtain ⟨kvs, e, _⟩ := h; subst e; trivial
  | true => obtain ⟨kvs, e, _⟩ := h; subst e; trivial
/-- a caught exception, known as it lies -/
def xoM : HO := .ext fun _ => True

/-- the names' data by slot -/
abbrev Ev := List (Option D)

/-- the end of a piece of code -/
inductive Rs (α : Type) where
  | ok (a : α) (w : Ev)
  | ex (c : Str) (fs : List (Str × D)) (w : Ev)
  | bad
abbrev PM (α : Type) := Ev → Rs α

def Rs.bind {α β : Type} (r : Rs α) (k : α → Ev → Rs β) : Rs β :=
  match r with
  | .ok a w => k a w
  | .ex c fs w => .ex c fs w
  | .bad => .bad
@[simp] theorem Rs.bind_ok {α β : Type} (a : α) (w : Ev) (k : α → Ev → Rs β) : (Rs.ok a w).bind k = k a w := rfl
@[simp] theorem Rs.bind_ex {α β : Type} (c : Str) (fs : List (Str × D)) (w : Ev) (k : α → Ev → Rs β) : (Rs.ex (α := α) c fs w).bind k = .ex c fs w := rfl
@[simp] theorem Rs.bind_bad {α β : Type} (k : α → Ev → Rs β) : (Rs.bad (α := α)).bind k = .bad := rfl

/-- a list that no one changes -/
def Fz (K : PySem.W.Frag) (H : Hp) (a : Addr) (xs : List V) : Prop :=
  (∃ o, H a = some (.frz o (.lst xs))) ∨
    ∃ (o : Obj) (its : Array Value) (n : Nat), K.lookup a = some o ∧ o.cls = .type "list" ∧ o.dict = none ∧ o.data = .seq its n ∧ its.size ≤ sizeLine ∧ Vals xs its.toList
theorem Fz.sq {K : PySem.W.Frag} {H : Hp} {a : Addr} {xs : List V} (h : Fz K H a xs) : SqL K H a xs := by
  rcases h with h | h
  · exact .inl (.inr h)
  · exact .inr h

/-- the tables of code objects that lambdas may lengthen, each with the name that its code objects bear; the function that a def was handed -/
class Tab0 (u : outParam Unit) where
  T : List (Addr × Str)
  fa : Addr
  fc : Addr
  fq : Str
variable {u0 : Unit} [Tab0 u0]
mutual
/-- the value v bears the data d; fp: the lists that d owns -/
def RV (K : PySem.W.Frag) (H : Hp) : D → V → List Addr → Prop
  | .non, v, fp => v = .non ∧ fp = []
  | .bl b, v, fp => v = .bl b ∧ fp = []
  | .int i, v, fp => v = .int i ∧ fp = []
  | .str x, v, fp => v = .str x ∧ fp = []
  | .tup xs, v, fp => ∃ a vs, v = .ref a ∧ H a = some (.tup vs) ∧ RVs K H xs vs fp
  | .lst xs, v, fp => ∃ a vs, v = .ref a ∧ Fz K H a vs ∧ RVs K H xs vs [] ∧ fp = []
  | .own xs, v, fp => ∃ a vs f, v = .ref a ∧ H a = some (.lst vs) ∧ RVs K H xs vs f ∧ fp = a :: f
  | .xo c ns vs, v, fp => ∃ (a : Addr) (oe : Obj) (C d : Addr) (us : List (Str × V)) (ws : List V), v = .ref a ∧ H a = some (.frz oe xoM) ∧ oe.cls = .ref C ∧ oe.dict = some d ∧ (∃ fl, oe.data = .fields fl) ∧ PySem.W.nsIn K mainGlobals c = some (some (.ref C)) ∧ H d = some (.xd us) ∧ RVs K H vs ws [] ∧ (∀ (i : Nat) (f : Str), ns[i]? = some f → ∃ v, ws[i]? = some v ∧ us.lookup f = some v) ∧ fp = []
  | .odc t ks vs, v, fp => ∃ a u ws f, v = .ref a ∧ H a = some u ∧ DctIs t ks ws u ∧ RVs K H vs ws f ∧ fp = a :: f
  | .fdc t ks vs, v, fp => ∃ a o u ws, v = .ref a ∧ H a = some (.frz o u) ∧ DctIs t ks ws u ∧ RVs K H vs ws [] ∧ fp = []
  | .fn, v, fp => v = .ref Tab0.fa ∧ H Tab0.fc = some (LamX.CodeO Tab0.fc Tab0.fq) ∧ fp = [Tab0.fc]
def RVs (K : PySem.W.Frag) (H : Hp) : List D → List V → List Addr → Prop
  | [], vs, fp => vs = [] ∧ fp = []
  | d :: ds, vs, fp => ∃ v r f g, vs = v :: r ∧ RV K H d v f ∧ RVs K H ds r g ∧ fp = f ++ g
end

abbrev TabsH (H : Hp) : Prop := LamX.Tabs Tab0.T H
/-- all but what stands at F is as it was; a table of code objects may be longer -/
structure Kp (F : List Addr) (H H' : Hp) : Prop where
  kp : ∀ a o, H a = some o → a ∉ F → (∀ ps, o ≠ .tbl ps) → H' a = some o
  tab : TabsH H → TabsH H'
theorem Kp.at {F : List Addr} {H H' : Hp} (k : Kp F H H') {a : Addr} {o : HO} (e : H a = some o) (n : a ∉ F) (ht : ∀ ps, o ≠ .tbl ps) : H' a = some o := k.kp a o e n ht
theorem Kp.mono {F G : List Addr} {H H' : Hp} (k : Kp F H H') (h : ∀ a ∈ F, a ∈ G) : Kp G H H' := ⟨fun a o e n ht => k.kp a o e (fun z => n (h a z)) ht, k.tab⟩
/-- an object that is no table, nor told by what is true of it -/
def Pln (u : HO) : Prop := (∀ φ, u ≠ .ext φ) ∧ ∀ ps, u ≠ .tbl ps
theorem Kp.of {F : List Addr} {H H' : Hp} (k : ∀ a o, H a = some o → a ∉ F → H' a = some o) (m : ∀ a ∈ F, ∃ u, H a = some u ∧ Pln u) : Kp F H H' := by
  refine ⟨fun a o e n _ => k a o e n, fun h p hp => ?_⟩
  obtain ⟨ps, h1, h2, h3⟩ := h p hp
  refine ⟨ps, k _ _ h1 fun z => ?_, h2, fun pos cv hc => ?_⟩
  · obtain ⟨u, e, m1, m2⟩ := m _ z
    rw [h1] at e
    exact m2 ps (Option.some.inj e).symm
  · obtain ⟨c, e1, e2⟩ := h3 pos cv hc
    refine ⟨c, e1, k _ _ e2 fun z => ?_⟩
    obtain ⟨u, e, m1, m2⟩ := m _ z
    rw [e2] at e
    exact m1 _ (Option.some.inj e).symm
theorem Kp.new {H : Hp} {p : Addr} {o : HO} (n : H p = none) : Kp [] H (upd H p o) := .of (fun a _ e _ => by rw [upd_ne (ne_of_none e n)]; exact e) nofun
theorem Kp.put {H : Hp} {a : Addr} {u o : HO} (e : H a = some u) (m : Pln u) : Kp [a] H (upd H a o) := .of (fun b _ eb n => by rw [upd_ne (fun z => n (by rw [z]; exact List.mem_cons_self))]; exact eb) fun b mb => ⟨u, by rw [List.mem_singleton.mp mb]; exact e, m⟩
theorem pln_lst {vs : List V} : Pln (.lst vs) := ⟨nofun, nofun⟩
theorem DctIs.pln {t : Bool} {ks : List D} {ws : List V} {u : HO} (h : DctIs t ks ws u) : Pln u := by
  cases t with
  | false => obtain ⟨kvs, e, _⟩ := h; subst e; exact ⟨nofun, nofun⟩
  | true => obtain ⟨kvs, e, _⟩ := h; subst e; exact ⟨nofun, nofun⟩
theorem Kp.rfl' {F : List Addr} {H : Hp} : Kp F H H := ⟨fun _ _ e _ _ => e, id⟩
/-- nothing stands there, or a table -/
def Nw (o : Option HO) : Prop := o = none ∨ ∃ ps, o = some (.tbl ps)
theorem Nw.no {o : Option HO} {P : Prop} (h : Nw o) (m : Mut o) : P := by
  rcases h with h | ⟨ps, h⟩ <;> (rw [h] at m; exact m.elim)
/-- a step: all but F is kept; what is owned behind it was owned or is new -/
structure Stp (F : List Addr) (H : Hp) (F' : List Addr) (H' : Hp) : Prop where
  keep : Kp F H H'
  new : ∀ a ∈ F', a ∈ F ∨ Nw (H a)
theorem Stp.refl {F F' : List Addr} {H : Hp} (h : ∀ a ∈ F', a ∈ F) : Stp F H F' H := ⟨.rfl', fun a m => .inl (h a m)⟩
theorem Stp.trans {F F1 F2 : List Addr} {H H1 H2 : Hp} (a : Stp F H F1 H1) (b : Stp F1 H1 F2 H2) : Stp F H F2 H2 := by
  refine ⟨⟨fun c o e n ht => b.keep.kp c o (a.keep.kp c o e n ht) (fun m => ?_) ht, fun h => b.keep.tab (a.keep.tab h)⟩, fun c m => ?_⟩
  · rcases a.new c m with z | z | ⟨ps, z⟩
    · exact n z
    · rw [e] at z; cases z
    · rw [e] at z; exact ht ps (Option.some.inj z)
  · rcases b.new c m with z | z
    · exact a.new c z
    · by_cases hc : c ∈ F
      · exact .inl hc
      · refine .inr ?_
        cases q : H c with
        | none => exact .inl rfl
        | some o =>
          by_cases ht : ∀ ps, o ≠ .tbl ps
          · have e := a.keep.kp c o q hc ht
            rw [e] at z
            rcases z with z | ⟨ps, z⟩
            · cases z
            · exact absurd (Option.some.inj z) (ht ps)
          · obtain ⟨ps, h⟩ := Classical.not_forall.mp ht
            exact .inr ⟨ps, congrArg some (Classical.not_not.mp h)⟩

section
variable {K : PySem.W.Frag} {H H' : Hp} {F : List Addr}
theorem sqT_kp {a : Addr} {vs : List V} (k : Kp F H H') (m : ∀ a ∈ F, Mut (H a)) (h : SqT K H a vs) : SqT K H' a vs := by
  rcases h with (h | ⟨o, h⟩) | h
  · exact .inl (.inl (k.at h (fun z => by have := m a z; rw [h] at this; exact this) nofun))
  · exact .inl (.inr ⟨o, k.at h (fun z => by have := m a z; rw [h] at this; exact this) nofun⟩)
  · exact .inr h
theorem fz_kp {a : Addr} {vs : List V} (k : Kp F H H') (m : ∀ a ∈ F, Mut (H a)) (h : Fz K H a vs) : Fz K H' a vs := by
  rcases h with ⟨o, h⟩ | h
  · exact .inl ⟨o, k.at h (fun z => by have := m a z; rw [h] at this; exact this) nofun⟩
  · exact .inr h
mutual
theorem RV.kp (k : Kp F H H') (m : ∀ a ∈ F, Mut (H a)) : ∀ (d : D) (v : V) (fp : List Addr), (∀ a ∈ fp, a ∉ F) → RV K H d v fp → RV K H' d v fp
  | .non, v, fp, _, h => h
  | .bl b, v, fp, _, h => h
  | .int i, v, fp, _, h => h
  | .str x, v, fp, _, h => h
  | .fn, v, fp, hd, h => ⟨h.1, k.at h.2.1 (hd _ (by rw [h.2.2]; exact List.mem_cons_self)) (fun ps => LamX.codeO_ne ps), h.2.2⟩
  | .tup xs, v, fp, hd, h => by
    obtain ⟨a, vs, e, q, r⟩ := h
    exact ⟨a, vs, e, k.at q (fun z => by have := m a z; rw [q] at this; exact this) nofun, RVs.kp k m xs vs fp hd r⟩
  | .lst xs, v, fp, hd, h => by
    obtain ⟨a, vs, e, q, r, e2⟩ := h
    exact ⟨a, vs, e, fz_kp k m q, RVs.kp k m xs vs [] (fun _ z => nomatch z) r, e2⟩
  | .own xs, v, fp, hd, h => by
    obtain ⟨a, vs, f, e, q, r, e2⟩ := h
    subst e2
    exact ⟨a, vs, f, e, k.at q (hd a List.mem_cons_self) nofun, RVs.kp k m xs vs f (fun b hb => hd b (List.mem_cons_of_mem _ hb)) r, rfl⟩
  | .xo c ns ds, v, fp, hd, h => by
    obtain ⟨a, oe, C, d, us, ws, e, q, c1, c2, c3, c4, q2, r, l, e2⟩ := h
    exact ⟨a, oe, C, d, us, ws, e, k.at q (fun z => by have := m a z; rw [q] at this; exact this) nofun, c1, c2, c3, c4, k.at q2 (fun z => by have := m d z; rw [q2] at this; exact this) nofun, RVs.kp k m ds ws [] (fun _ z => nomatch z) r, l, e2⟩
  | .odc t ks ds, v, fp, hd, h => by
    obtain ⟨a, u, ws, f, e, q, di, r, e2⟩ := h
    subst e2
    exact ⟨a, u, ws, f, e, k.at q (hd a List.mem_cons_self) (fun ps z => by have := di.mut; rw [z] at this; exact this), di, RVs.kp k m ds ws f (fun b hb => hd b (List.mem_cons_of_mem _ hb)) r, rfl⟩
  | .fdc t ks ds, v, fp, hd, h => by
    obtain ⟨a, o, u, ws, e, q, di, r, e2⟩ := h
    exact ⟨a, o, u, ws, e, k.at q (fun z => by have := m a z; rw [q] at this; exact this) nofun, di, RVs.kp k m ds ws [] (fun _ z => nomatch z) r, e2⟩
theorem RVs.kp (k : Kp F H H') (m : ∀ a ∈ F, Mut (H a)) : ∀ (ds : List D) (vs : List V) (fp : List Addr), (∀ a ∈ fp, a ∉ F) → RVs K H ds vs fp → RVs K H' ds vs fp
  | [], vs, fp, _, h => h
  | d :: ds, vs, fp, hd, h => by
    obtain ⟨v, r, f, g, e, q, t, e2⟩ := h
    subst e2
    exact ⟨v, r, f, g, e, RV.kp k m d v f (fun b hb => hd b (List.mem_append_left _ hb)) q, RVs.kp k m ds r g (fun b hb => hd b (List.mem_append_right _ hb)) t, rfl⟩
end
mutual
theorem RV.mut : ∀ (d : D) (v : V) (fp : List Addr), RV K H d v fp → ∀ a ∈ fp, Mut (H a)
  | .non, v, fp, h => by obtain ⟨_, e⟩ := h; subst e; exact fun _ z => nomatch z
  | .bl b, v, fp, h => by obtain ⟨_, e⟩ := h; subst e; exact fun _ z => nomatch z
  | .int i, v, fp, h => by obtain ⟨_, e⟩ := h; subst e; exact fun _ z => nomatch z
  | .str x, v, fp, h => by obtain ⟨_, e⟩ := h; subst e; exact fun _ z => nomatch z
  | .fn, v, fp, h => by
    obtain ⟨_, q, e⟩ := h
    subst e
    intro b hb
    rw [List.mem_singleton.mp hb, q]
    trivial
  | .tup xs, v, fp, h => by
    obtain ⟨a, vs, e, q, r⟩ := h
    exact RVs.mut xs vs fp r
  | .lst xs, v, fp, h => by
    obtain ⟨a, vs, e, q, r, e2⟩ := h
    subst e2
    exact fun _ z => nomatch z
  | .own xs, v, fp, h => by
    obtain ⟨a, vs, f, e, q, r, e2⟩ := h
    subst e2
    intro b hb
    rcases List.mem_cons.mp hb with z | z
    · subst z; rw [q]; trivial
    · exact RVs.mut xs vs f r b z
  | .xo c ns ds, v, fp, h => by
    obtain ⟨a, oe, C, d, us, ws, e, q, c1, c2, c3, c4, q2, r, l, e2⟩ := h
    subst e2
    exact fun _ z => nomatch z
  | .odc t ks ds, v, fp, h => by
    obtain ⟨a, u, ws, f, e, q, di, r, e2⟩ := h
    subst e2
    intro b hb
    rcases List.mem_cons.mp hb with z | z
    · subst z; rw [q]; exact di.mut
    · exact RVs.mut ds ws f r b z
  | .fdc t ks ds, v, fp, h => by
    obtain ⟨a, o, u, ws, e, q, di, r, e2⟩ := h
    subst e2
    exact fun _ z => nomatch z
theorem RVs.mut : ∀ (ds : List D) (vs : List V) (fp : List Addr), RVs K H ds vs fp → ∀ a ∈ fp, Mut (H a)
  | [], vs, fp, h => by obtain ⟨_, e⟩ := h; subst e; exact fun _ z => nomatch z
  | d :: ds, vs, fp, h => by
    obtain ⟨v, r, f, g, e, q, t, e2⟩ := h
    subst e2
    intro b hb
    rcases List.mem_append.mp hb with z | z
    · exact RV.mut d v f q b z
    · exact RVs.mut ds r g t b z
end
theorem mut_some {a : Addr} (h : Mut (H a)) : ∃ o, H a = some o := by
  cases q : H a with
  | none => rw [q] at h; exact h.elim
  | some o => exact ⟨o, rfl⟩
theorem RVs.length : ∀ {ds : List D} {vs : List V} {fp : List Addr}, RVs K H ds vs fp → ds.length = vs.length
  | [], vs, fp, h => by obtain ⟨e, _⟩ := h; subst e; rfl
  | d :: ds, vs, fp, h => by
    obtain ⟨v, r, f, g, e, q, t, e2⟩ := h
    subst e
    rw [List.length_cons, List.length_cons, RVs.length t]
theorem RVs.append : ∀ {ds ds' : List D} {vs vs' : List V} {f g : List Addr}, RVs K H ds vs f → RVs K H ds' vs' g → RVs K H (ds ++ ds') (vs ++ vs') (f ++ g)
  | [], ds', vs, vs', f, g, h, h' => by obtain ⟨e, e2⟩ := h; subst e; subst e2; exact h'
  | d :: ds, ds', vs, vs', f, g, h, h' => by
    obtain ⟨v, r, f1, g1, e, q, t, e2⟩ := h
    subst e
    subst e2
    exact ⟨v, r ++ vs', f1, g1 ++ g, rfl, q, RVs.append t h', by rw [List.append_assoc]⟩
theorem RVs.split : ∀ {ds ds' : List D} {vs : List V} {fp : List Addr}, RVs K H (ds ++ ds') vs fp → ∃ vs1 vs2 f g, vs = vs1 ++ vs2 ∧ fp = f ++ g ∧ RVs K H ds vs1 f ∧ RVs K H ds' vs2 g
  | [], ds', vs, fp, h => ⟨[], vs, [], fp, rfl, rfl, ⟨rfl, rfl⟩, h⟩
  | d :: ds, ds', vs, fp, h => by
    obtain ⟨v, r, f, g, e, q, t, e2⟩ := h
    subst e
    subst e2
    obtain ⟨vs1, vs2, f1, g1, e1, e2, h1, h2⟩ := RVs.split (ds := ds) (ds' := ds') t
    subst e1
    subst e2
    exact ⟨v :: vs1, vs2, f ++ f1, g1, rfl, by rw [List.append_assoc], ⟨v, vs1, f, f1, rfl, q, h1, rfl⟩, h2⟩
theorem RVs.one {d : D} {v : V} {f : List Addr} (h : RV K H d v f) : RVs K H [d] [v] f := ⟨v, [], f, [], rfl, h, ⟨rfl, rfl⟩, by rw [List.append_nil]⟩
theorem RVs.one' {d : D} {v : V} {f : List Addr} (h : RVs K H [d] [v] f) : RV K H d v f := by
  obtain ⟨v', r, f1, g, e, q, ⟨e3, e4⟩, e2⟩ := h
  injection e with e1 _
  subst e1; subst e2; subst e4
  rw [List.append_nil]; exact q
theorem RVs.get : ∀ {ds : List D} {vs : List V} {fp : List Addr} {i : Nat} {d : D}, RVs K H ds vs fp → ds[i]? = some d → ∃ v f, vs[i]? = some v ∧ RV K H d v f ∧ ∀ a ∈ f, a ∈ fp
  | [], vs, fp, i, d, h, e => by simp at e
  | d0 :: ds, vs, fp, 0, d, h, e => by
    obtain ⟨v, r, f, g, e1, q, t, e2⟩ := h
    simp at e
    subst e; subst e1; subst e2
    exact ⟨v, f, rfl, q, fun a m => List.mem_append_left _ m⟩
  | d0 :: ds, vs, fp, i + 1, d, h, e => by
    obtain ⟨v, r, f, g, e1, q, t, e2⟩ := h
    subst e1; subst e2
    obtain ⟨v', f', h1, h2, h3⟩ := RVs.get (i := i) (d := d) t (by simpa using e)
    exact ⟨v', f', by simpa using h1, h2, fun a m => List.mem_append_right _ (h3 a m)⟩
end

/-! data that own nothing -/
mutual
def pl : D → Bool
  | .tup xs => pls xs
  | .own _ => false
  | .odc _ _ _ => false
  | .fn => false
  | _ => true
def pls : List D → Bool
  | [] => true
  | d :: ds => pl d && pls ds
end
section
variable {K : PySem.W.Frag} {H : Hp}
mutual
theorem rv_pl : ∀ (d : D) (v : V) (fp : List Addr), pl d = true → RV K H d v fp → fp = []
  | .non, v, fp, _, h => h.2
  | .bl b, v, fp, _, h => h.2
  | .int i, v, fp, _, h => h.2
  | .str x, v, fp, _, h => h.2
  | .fn, v, fp, p, h => by
    exact absurd p (by unfold Pm.pl; exact Bool.false_ne_true)
  | .tup xs, v, fp, p, h => by
    obtain ⟨a, vs, e, q, r⟩ := h
    exact rvs_pl xs vs fp p r
  | .lst xs, v, fp, _, h => by
    obtain ⟨a, vs, e, q, r, e2⟩ := h
    exact e2
  | .own xs, v, fp, p, h => by
    exact absurd p (by unfold Pm.pl; exact Bool.false_ne_true)
  | .xo c ns ds, v, fp, _, h => by
    obtain ⟨a, oe, C, d, us, ws, e, q, c1, c2, c3, c4, q2, r, l, e2⟩ := h
    exact e2
  | .odc t ks ds, v, fp, p, h => by
    exact absurd p (by unfold Pm.pl; exact Bool.false_ne_true)
  | .fdc t ks ds, v, fp, _, h => by
    obtain ⟨a, o, u, ws, e, q, di, r, e2⟩ := h
    exact e2
theorem rvs_pl : ∀ (ds : List D) (vs : List V) (fp : List Addr), pls ds = true → RVs K H ds vs fp → fp = []
  | [], vs, fp, _, h => h.2
  | d :: ds, vs, fp, p, h => by
    obtain ⟨v, r, f, g, e, q, t, e2⟩ := h
    unfold Pm.pls at p
    rw [Bool.and_eq_true] at p
    subst e2
    rw [rv_pl d v f p.1 q, rvs_pl ds r g p.2 t]
    rfl
end
end

/-- the slots bear the names' data; fe: the lists that they own -/
def RE (K : PySem.W.Frag) (H : Hp) : Ev → St → List Addr → Prop
  | [], s, fe => s = [] ∧ fe = [] ∧ TabsH H
  | none :: r, s, fe => ∃ x t, s = x :: t ∧ RE K H r t fe
  | some d :: r, s, fe => ∃ v t f g, s = some v :: t ∧ RV K H d v f ∧ RE K H r t g ∧ fe = f ++ g
section
variable {K : PySem.W.Frag} {H H' : Hp} {F : List Addr}
theorem RE.kp (k : Kp F H H') (m : ∀ a ∈ F, Mut (H a)) : ∀ {w : Ev} {s : St} {fe : List Addr}, (∀ a ∈ fe, a ∉ F) → RE K H w s fe → RE K H' w s fe
  | [], s, fe, _, h => ⟨h.1, h.2.1, k.tab h.2.2⟩
  | none :: r, s, fe, hd, h => by
    obtain ⟨x, t, e, q⟩ := h
    exact ⟨x, t, e, RE.kp k m hd q⟩
  | some d :: r, s, fe, hd, h => by
    obtain ⟨v, t, f, g, e, q, q2, e2⟩ := h
    subst e2
    exact ⟨v, t, f, g, e, RV.kp k m d v f (fun b hb => hd b (List.mem_append_left _ hb)) q, RE.kp k m (fun b hb => hd b (List.mem_append_right _ hb)) q2, rfl⟩
theorem RE.mut : ∀ {w : Ev} {s : St} {fe : List Addr}, RE K H w s fe → ∀ a ∈ fe, Mut (H a)
  | [], s, fe, h => by obtain ⟨_, e, _⟩ := h; subst e; exact fun _ z => nomatch z
  | none :: r, s, fe, h => by
    obtain ⟨x, t, e, q⟩ := h
    exact RE.mut q
  | some d :: r, s, fe, h => by
    obtain ⟨v, t, f, g, e, q, q2, e2⟩ := h
    subst e2
    intro b hb
    rcases List.mem_append.mp hb with z | z
    · exact RV.mut d v f q b z
    · exact RE.mut q2 b z
theorem RE.length : ∀ {w : Ev} {s : St} {fe : List Addr}, RE K H w s fe → s.length = w.length
  | [], s, fe, h => by obtain ⟨e, _⟩ := h; subst e; rfl
  | none :: r, s, fe, h => by
    obtain ⟨x, t, e, q⟩ := h
    subst e
    rw [List.length_cons, List.length_cons, RE.length q]
  | some d :: r, s, fe, h => by
    obtain ⟨v, t, f, g, e, q, q2, e2⟩ := h
    subst e
    rw [List.length_cons, List.length_cons, RE.length q2]
theorem RE.tabs : ∀ {w : Ev} {s : St} {fe : List Addr}, RE K H w s fe → TabsH H
  | [], s, fe, h => h.2.2
  | none :: r, s, fe, h => by
    obtain ⟨x, t, e, q⟩ := h
    exact RE.tabs q
  | some d :: r, s, fe, h => by
    obtain ⟨v, t, f, g, e, q, q2, e2⟩ := h
    exact RE.tabs q2
/-- a slot's datum is taken out -/
theorem RE.take : ∀ {w : Ev} {s : St} {fe : List Addr} {i : Nat} {d : D}, RE K H w s fe → w[i]? = some (some d) →
    ∃ v f g, s[i]? = some (some v) ∧ RV K H d v f ∧ RE K H (w.set i none) s g ∧ fe.Perm (f ++ g)
  | [], s, fe, i, d, h, e => by simp at e
  | none :: r, s, fe, 0, d, h, e => by simp at e
  | none :: r, s, fe, i + 1, d, h, e => by
    obtain ⟨x, t, e1, q⟩ := h
    subst e1
    obtain ⟨v, f, g, h1, h2, h3, h4⟩ := RE.take (i := i) (d := d) q (by simpa using e)
    exact ⟨v, f, g, by simpa using h1, h2, ⟨x, t, rfl, h3⟩, h4⟩
  | some d0 :: r, s, fe, 0, d, h, e => by
    obtain ⟨v, t, f, g, e1, q, q2, e2⟩ := h
    simp at e
    subst e; subst e1; subst e2
    exact ⟨v, f, g, rfl, q, ⟨some v, t, rfl, q2⟩, .refl _⟩
  | some d0 :: r, s, fe, i + 1, d, h, e => by
    obtain ⟨v, t, f, g, e1, q, q2, e2⟩ := h
    subst e1; subst e2
    obtain ⟨v', f', g', h1, h2, h3, h4⟩ := RE.take (i := i) (d := d) q2 (by simpa using e)
    refine ⟨v', f', f ++ g', by simpa using h1, h2, ⟨v, t, f, g', rfl, q, h3, rfl⟩, ?_⟩
    refine (h4.append_left f).trans ?_
    rw [← List.append_assoc, ← List.append_assoc]
    exact (List.perm_append_comm (l₁ := f) (l₂ := f')).append_right g'
/-- a slot gets a datum (what it held is dropped) -/
theorem RE.put : ∀ {w : Ev} {s : St} {fe f : List Addr} {i : Nat} {d : D} {v : V}, RE K H w s fe → i < w.length → RV K H d v f →
    ∃ g, RE K H (w.set i (some d)) (s.set i (some v)) g ∧ ∃ g', (f ++ fe).Perm (g' ++ g)
  | [], s, fe, f, i, d, v, h, e, _ => by simp at e
  | none :: r, s, fe, f, 0, d, v, h, e, hv => by
    obtain ⟨x, t, e1, q⟩ := h
    subst e1
    exact ⟨f ++ fe, ⟨v, t, f, fe, rfl, hv, q, rfl⟩, [], .refl _⟩
  | none :: r, s, fe, f, i + 1, d, v, h, e, hv => by
    obtain ⟨x, t, e1, q⟩ := h
    subst e1
    obtain ⟨g, h1, g', h2⟩ := RE.put (i := i) q (by simpa using e) hv
    exact ⟨g, ⟨x, _, rfl, h1⟩, g', h2⟩
  | some d0 :: r, s, fe, f, 0, d, v, h, e, hv => by
    obtain ⟨v0, t, f0, g, e1, q, q2, e2⟩ := h
    subst e1; subst e2
    refine ⟨f ++ g, ⟨v, t, f, g, rfl, hv, q2, rfl⟩, f0, ?_⟩
    rw [← List.append_assoc, ← List.append_assoc]
    exact (List.perm_append_comm (l₁ := f) (l₂ := f0)).append_right g
  | some d0 :: r, s, fe, f, i + 1, d, v, h, e, hv => by
    obtain ⟨v0, t, f0, g, e1, q, q2, e2⟩ := h
    subst e1; subst e2
    obtain ⟨g1, h1, g', h2⟩ := RE.put (i := i) q2 (by simpa using e) hv
    refine ⟨f0 ++ g1, ⟨v0, _, f0, g1, rfl, q, h1, rfl⟩, g', ?_⟩
    have p1 : (f ++ (f0 ++ g)).Perm (f0 ++ (f ++ g)) := by
      rw [← List.append_assoc, ← List.append_assoc]
      exact (List.perm_append_comm (l₁ := f) (l₂ := f0)).append_right g
    have p2 : (f0 ++ (g' ++ g1)).Perm (g' ++ (f0 ++ g1)) := by
      rw [← List.append_assoc, ← List.append_assoc]
      exact (List.perm_append_comm (l₁ := f0) (l₂ := g')).append_right g1
    exact p1.trans ((h2.append_left f0).trans p2)
/-- a slot forgets -/
theorem RE.wipe : ∀ {w : Ev} {s : St} {fe : List Addr} (i : Nat), RE K H w s fe → ∃ g g', RE K H (w.set i none) s g ∧ fe.Perm (g' ++ g)
  | [], s, fe, i, h => ⟨fe, [], h, .refl _⟩
  | none :: r, s, fe, 0, h => ⟨fe, [], h, .refl _⟩
  | none :: r, s, fe, i + 1, h => by
    obtain ⟨x, t, e1, q⟩ := h
    subst e1
    obtain ⟨g, g', h1, h2⟩ := RE.wipe i q
    exact ⟨g, g', ⟨x, t, rfl, h1⟩, h2⟩
  | some d0 :: r, s, fe, 0, h => by
    obtain ⟨v0, t, f0, g, e1, q, q2, e2⟩ := h
    subst e1; subst e2
    exact ⟨g, f0, ⟨some v0, t, rfl, q2⟩, .refl _⟩
  | some d0 :: r, s, fe, i + 1, h => by
    obtain ⟨v0, t, f0, g, e1, q, q2, e2⟩ := h
    subst e1; subst e2
    obtain ⟨g1, g', h1, h2⟩ := RE.wipe i q2
    refine ⟨f0 ++ g1, g', ⟨v0, t, f0, g1, rfl, q, h1, rfl⟩, ?_⟩
    refine (h2.append_left f0).trans ?_
    rw [← List.append_assoc, ← List.append_assoc]
    exact (List.perm_append_comm (l₁ := f0) (l₂ := g')).append_right g1
/-- a slot's store, whose value was unknown -/
theorem RE.setNone : ∀ {w : Ev} {s : St} {fe : List Addr} (i : Nat) (x : Option V), RE K H w s fe → w[i]? = some none → RE K H w (s.set i x) fe
  | [], s, fe, i, x, h, e => by simp at e
  | none :: r, s, fe, 0, x, h, e => by
    obtain ⟨y, t, e1, q⟩ := h
    subst e1
    exact ⟨x, t, rfl, q⟩
  | none :: r, s, fe, i + 1, x, h, e => by
    obtain ⟨y, t, e1, q⟩ := h
    subst e1
    exact ⟨y, _, rfl, RE.setNone i x q (by simpa using e)⟩
  | some d0 :: r, s, fe, 0, x, h, e => by simp at e
  | some d0 :: r, s, fe, i + 1, x, h, e => by
    obtain ⟨v0, t, f0, g, e1, q, q2, e2⟩ := h
    subst e1; subst e2
    exact ⟨v0, _, f0, g, rfl, q, RE.setNone i x q2 (by simpa using e), rfl⟩
end

/-- the state: the names' data, and the data ds of values vs that are held beside; F: all that is owned -/
def Hold (K : PySem.W.Frag) (H : Hp) (w : Ev) (s : St) (ds : List D) (vs : List V) (F : List Addr) : Prop :=
  ∃ ft fe, RVs K H ds vs ft ∧ RE K H w s fe ∧ F.Perm (ft ++ fe) ∧ F.Nodup
section
variable {K : PySem.W.Frag} {H H' : Hp} {F F' : List Addr} {w w' : Ev} {s s' : St} {ds ds' : List D} {vs vs' : List V}
theorem Hold.mut (h : Hold K H w s ds vs F) : ∀ a ∈ F, Mut (H a) := by
  obtain ⟨ft, fe, h1, h2, p, nd⟩ := h
  intro a m
  rcases List.mem_append.mp (p.mem_iff.mp m) with z | z
  · exact RVs.mut _ _ _ h1 a z
  · exact h2.mut a z
theorem Hold.tabs (h : Hold K H w s ds vs F) : TabsH H := by
  obtain ⟨ft, fe, h1, h2, p, nd⟩ := h
  exact h2.tabs
theorem Hold.nd (h : Hold K H w s ds vs F) : F.Nodup := by
  obtain ⟨ft, fe, h1, h2, p, nd⟩ := h
  exact nd
/-- the held data are let go; F falls -/
theorem Hold.drop (h : Hold K H w s (ds ++ ds') (vs ++ vs') F) (hl : ds.length = vs.length) : ∃ F', Hold K H w s ds' vs' F' ∧ ∀ a ∈ F', a ∈ F := by
  obtain ⟨ft, fe, h1, h2, p, nd⟩ := h
  obtain ⟨vs1, vs2, f, g, e1, e2, q1, q2⟩ := RVs.split h1
  subst e2
  have hl2 := q1.length
  have e3 : vs = vs1 := by
    have := congrArg (List.take vs.length) e1
    rw [List.take_left, ← hl, hl2, List.take_left] at this
    exact this
  subst e3
  have e4 : vs' = vs2 := List.append_cancel_left e1
  subst e4
  refine ⟨g ++ fe, ⟨g, fe, q2, h2, .refl _, ?_⟩, fun a m => p.mem_iff.mpr ?_⟩
  · have := p.nodup_iff.mp nd
    rw [List.append_assoc] at this
    exact (List.nodup_append.mp this).2.1
  · rw [List.append_assoc]
    exact List.mem_append_right _ m
theorem Hold.drop0 (h : Hold K H w s ds vs F) : ∃ F', Hold K H w s [] [] F' ∧ ∀ a ∈ F', a ∈ F := by
  have hl : ds.length = vs.length := by
    obtain ⟨ft, fe, h1, _⟩ := h
    exact h1.length
  exact Hold.drop (ds' := []) (vs' := []) (by rw [List.append_nil, List.append_nil]; exact h) hl
/-- held data, and what a step from the rest of the state holds -/
theorem Hold.frame (h : Hold K H w s ds vs F) : ∃ F0, Hold K H w s [] [] F0 ∧ (∀ a ∈ F0, a ∈ F) ∧
    ∀ {H' : Hp} {w' : Ev} {s' : St} {ds' : List D} {vs' : List V} {F1 : List Addr}, Stp F0 H F1 H' → Hold K H' w' s' ds' vs' F1 →
      ∃ F', Hold K H' w' s' (ds ++ ds') (vs ++ vs') F' ∧ Stp F H F' H' := by
  have hm := h.mut
  obtain ⟨ft, fe, h1, h2, p, nd⟩ := h
  have nd2 := p.nodup_iff.mp nd
  obtain ⟨nd3, nd4, nd5⟩ := List.nodup_append.mp nd2
  refine ⟨fe, ⟨[], fe, ⟨rfl, rfl⟩, h2, .refl _, nd4⟩, fun a m => p.mem_iff.mpr (List.mem_append_right _ m), fun {H' w' s' ds' vs' F1} st h' => ?_⟩
  obtain ⟨ft', fe', h1', h2', p', nd'⟩ := h'
  have dj : ∀ a ∈ ft, a ∉ F1 := fun a m z => by
    rcases st.new a z with q | q
    · exact nd5 a m a q rfl
    · exact q.no (hm a (p.mem_iff.mpr (List.mem_append_left _ m)))
  have k1 : RVs K H' ds vs ft := RVs.kp st.keep (fun a m => hm a (p.mem_iff.mpr (List.mem_append_right _ m))) ds vs ft (fun a m z => nd5 a m a z rfl) h1
  refine ⟨ft ++ F1, ⟨ft ++ ft', fe', k1.append h1', h2', ?_, ?_⟩, ⟨st.keep.mono fun a z => p.mem_iff.mpr (List.mem_append_right _ z), fun a m => ?_⟩⟩
  · rw [List.append_assoc]
    exact p'.append_left ft
  · exact List.nodup_append.mpr ⟨nd3, nd', fun a m b n e => dj a m (e ▸ n)⟩
  · rcases List.mem_append.mp m with z | z
    · exact .inl (p.mem_iff.mpr (List.mem_append_left _ z))
    · rcases st.new a z with q | q
      · exact .inl (p.mem_iff.mpr (List.mem_append_right _ q))
      · exact .inr q
end
end Pm

set_option autoImplicit true
namespace Pm
open PySem PySem.Spec L2
variable {u0 : Unit} [Tab0 u0]

/-- an exception of a class of the program's, its fields fs -/
def ExR (K : PySem.W.Frag) (mg : Str → Option Value) (H : Hp) (c : Str) (fs : List (Str × D)) (cls : Value) (od : Option Addr) : Prop :=
  ∃ (C d : Addr) (us : List (Str × V)) (ws : List V), cls = .ref C ∧ PySem.W.nsIn K mainGlobals c = some (some (.ref C)) ∧ od = some d ∧ H d = some (.xd us) ∧ RVs K H (fs.map (·.2)) ws [] ∧
    ∀ (i : Nat) (f : Str), (fs.map (·.1))[i]? = some f → ∃ v, ws[i]? = some v ∧ us.lookup f = some v

section
variable (K : PySem.W.Frag) (mg : Str → Option Value) (Eh : WX)
/-- what must hold behind code that ends as r -/
def Po (H : Hp) (F : List Addr) (s : L2.St) {α : Type} (r : Rs α) (Q : α → Ev → Prop) : Prop :=
  match r with
  | .ok a w => Q a w
  | .ex c fs w => ∀ cls od H' F', Stp F H F' H' → Hold K H' w s [] [] F' → ExR K mg H' c fs cls od → Eh cls od s H'
  | .bad => False
/-- an expression whose value is handed out with what it owns -/
def tP (f : PM D) : TE := fun s H Q => ∃ w F, Hold K H w s [] [] F ∧ Po K mg Eh H F s (f w) fun d w' => ∀ v H' F', Stp F H F' H' → Hold K H' w' s [d] [v] F' → Q v H'
/-- a list of them -/
def tA (f : PM (List D)) : TA := fun s H Q => ∃ w F, Hold K H w s [] [] F ∧ Po K mg Eh H F s (f w) fun ds w' => ∀ vs H' F', Stp F H F' H' → Hold K H' w' s ds vs F' → Q vs H'
/-- a test -/
def tT (f : PM Bool) : TT := fun s H Q => ∃ w F, Hold K H w s [] [] F ∧ Po K mg Eh H F s (f w) fun b w' => ∀ H' F', Stp F H F' H' → Hold K H' w' s [] [] F' → Q b H'
/-- a place: nothing happens, the value stays where it is -/
def tB (K : PySem.W.Frag) (q : Ev → Option D) : TE := fun s H Q => ∃ w F d, Hold K H w s [] [] F ∧ q w = some d ∧ ∀ v f, RV K H d v f → (∀ a ∈ f, a ∈ F) → Q v H
end
def slot (w : Ev) (j : Nat) : Option D := match w[j]? with
  | some (some d) => some d
  | _ => none
theorem slot_some {w : Ev} {j : Nat} {d : D} (h : slot w j = some d) : w[j]? = some (some d) := by
  unfold slot at h
  split at h
  · rename_i e; rw [e]; cases h; rfl
  · cases h
/-- a name's slot -/
def tV (K : PySem.W.Frag) (j : Nat) : TE := fun s H Q => ∃ w F d, Hold K H w s [] [] F ∧ slot w j = some d ∧ ∀ v, s[j]? = some (some v) → Q v H

section
variable {X : Cx} {Eh : WX}
theorem _root_.L2.PE.imp {e : Expr} {t t' : TE} (h : PE X e t) (i : ∀ s H Q, t' s H Q → t s H Q) : PE X e t' := ⟨fun pins s σ H Q I q => h.run pins s σ H Q I (i _ _ _ q)⟩
theorem _root_.L2.PT.imp {e : Expr} {t t' : TT} (h : PT X e t) (i : ∀ s H Q, t' s H Q → t s H Q) : PT X e t' := ⟨fun pins s σ H Q I q => h.run pins s σ H Q I (i _ _ _ q)⟩
theorem _root_.L2.PW.imp {e : Expr} {t t' : TT} (h : PW X e t) (i : ∀ s H Q, t' s H Q → t s H Q) : PW X e t' := ⟨fun wh pins s σ H Q I q => h.run wh pins s σ H Q I (i _ _ _ q)⟩
theorem _root_.L2.PA.imp {es : List Expr} {t t' : TA} (h : PA X es t) (i : ∀ s H Q, t' s H Q → t s H Q) : PA X es t' := ⟨fun pos pins s σ H Q I q => h.run pos pins s σ H Q I (i _ _ _ q)⟩
theorem _root_.L2.PS.imp {e : Stmt} {t t' : TS} (h : PS X e t) (i : ∀ D s H, t' D s H → t D s H) : PS X e t' := ⟨fun pins s σ H D I q => h.run pins s σ H D I (i _ _ _ q)⟩
theorem _root_.L2.PSs.imp {e : List Stmt} {t t' : TS} (h : PSs X e t) (i : ∀ D s H, t' D s H → t D s H) : PSs X e t' := ⟨fun pins s σ H D I q => h.run pins s σ H D I (i _ _ _ q)⟩

variable {H H1 H2 : Hp} {F F1 F2 : List Addr} {s : L2.St} {α β : Type}
theorem Stp.mono {F F' F0 : List Addr} {H H' : Hp} (h : Stp F0 H F' H') (m : ∀ a ∈ F0, a ∈ F) : Stp F H F' H' :=
  ⟨h.keep.mono m, fun a q => (h.new a q).imp (m a) id⟩
/-- a part of code runs, data ds held beside it -/
theorem tP_run {f : PM D} {k : D → Ev → Rs β} {Q' : β → Ev → Prop} {R : VK} {w1 : Ev} {ds : List D} {vs : List V}
    (hold : Hold X.K H1 w1 s ds vs F1) (st : Stp F H F1 H1) (h : Po X.K X.mg Eh H F s ((f w1).bind k) Q')
    (c : ∀ d w2 v H2 F2, f w1 = .ok d w2 → Stp F H F2 H2 → Hold X.K H2 w2 s (ds ++ [d]) (vs ++ [v]) F2 → Po X.K X.mg Eh H F s (k d w2) Q' → R v H2) : tP X.K X.mg Eh f s H1 R := by
  obtain ⟨F0, h0, sub, fr⟩ := hold.frame
  refine ⟨w1, F0, h0, ?_⟩
  cases e : f w1 with
  | ok d w2 =>
    rw [e] at h
    intro v H' F' st' h'
    obtain ⟨F2, h2, st2⟩ := fr st' h'
    exact c d w2 v H' F2 e (st.trans st2) h2 h
  | ex cc fs w2 =>
    rw [e] at h
    intro cls od H' F' st' h' x
    exact h cls od H' F' (st.trans (st'.mono sub)) h' x
  | bad => rw [e] at h; exact h
theorem tA_run {f : PM (List D)} {k : List D → Ev → Rs β} {Q' : β → Ev → Prop} {R : List V → Hp → Prop} {w1 : Ev} {ds : List D} {vs : List V}
    (hold : Hold X.K H1 w1 s ds vs F1) (st : Stp F H F1 H1) (h : Po X.K X.mg Eh H F s ((f w1).bind k) Q')
    (c : ∀ es w2 us H2 F2, f w1 = .ok es w2 → Stp F H F2 H2 → Hold X.K H2 w2 s (ds ++ es) (vs ++ us) F2 → Po X.K X.mg Eh H F s (k es w2) Q' → R us H2) : tA X.K X.mg Eh f s H1 R := by
  obtain ⟨F0, h0, sub, fr⟩ := hold.frame
  refine ⟨w1, F0, h0, ?_⟩
  cases e : f w1 with
  | ok d w2 =>
    rw [e] at h
    intro v H' F' st' h'
    obtain ⟨F2, h2, st2⟩ := fr st' h'
    exact c d w2 v H' F2 e (st.trans st2) h2 h
  | ex cc fs w2 =>
    rw [e] at h
    intro cls od H' F' st' h' x
    exact h cls od H' F' (st.trans (st'.mono sub)) h' x
  | bad => rw [e] at h; exact h
theorem tT_run {f : PM Bool} {k : Bool → Ev → Rs β} {Q' : β → Ev → Prop} {R : Bool → Hp → Prop} {w1 : Ev} {ds : List D} {vs : List V}
    (hold : Hold X.K H1 w1 s ds vs F1) (st : Stp F H F1 H1) (h : Po X.K X.mg Eh H F s ((f w1).bind k) Q')
    (c : ∀ b w2 H2 F2, f w1 = .ok b w2 → Stp F H F2 H2 → Hold X.K H2 w2 s ds vs F2 → Po X.K X.mg Eh H F s (k b w2) Q' → R b H2) : tT X.K X.mg Eh f s H1 R := by
  obtain ⟨F0, h0, sub, fr⟩ := hold.frame
  refine ⟨w1, F0, h0, ?_⟩
  cases e : f w1 with
  | ok d w2 =>
    rw [e] at h
    intro H' F' st' h'
    obtain ⟨F2, h2, st2⟩ := fr st' h'
    rw [List.append_nil, List.append_nil] at h2
    exact c d w2 H' F2 e (st.trans st2) h2 h
  | ex cc fs w2 =>
    rw [e] at h
    intro cls od H' F' st' h' x
    exact h cls od H' F' (st.trans (st'.mono sub)) h' x
  | bad => rw [e] at h; exact h
theorem Hold.atSlot {K : PySem.W.Frag} {w : Ev} {ds : List D} {vs : List V} {j : Nat} {d : D} (h : Hold K H w s ds vs F) (e : slot w j = some d) : ∃ v f, s[j]? = some (some v) ∧ RV K H d v f ∧ ∀ a ∈ f, a ∈ F := by
  obtain ⟨ft, fe, h1, h2, p, nd⟩ := h
  obtain ⟨v, f, g, a, b, _, q⟩ := h2.take (slot_some e)
  exact ⟨v, f, a, b, fun c m => p.mem_iff.mpr (List.mem_append_right _ (q.mem_iff.mpr (List.mem_append_left _ m)))⟩
include u0 in
theorem tV_run {R : VK} {w1 : Ev} {ds : List D} {vs : List V} {j : Nat} {d : D}
    (hold : Hold X.K H1 w1 s ds vs F1) (e : slot w1 j = some d) (c : ∀ v f, s[j]? = some (some v) → RV X.K H1 d v f → (∀ a ∈ f, a ∈ F1) → R v H1) : tV X.K j s H1 R := by
  obtain ⟨F0, h0, sub, fr⟩ := hold.frame
  obtain ⟨v0, f, e0, r, m⟩ := hold.atSlot e
  refine ⟨w1, F0, d, h0, e, fun v hv => ?_⟩
  rw [e0] at hv
  cases hv
  exact c _ f e0 r m
include u0 in
theorem tB_run {R : VK} {w1 : Ev} {ds : List D} {vs : List V} {q : Ev → Option D} {d : D}
    (hold : Hold X.K H1 w1 s ds vs F1) (e : q w1 = some d) (c : ∀ v f, RV X.K H1 d v f → (∀ a ∈ f, a ∈ F1) → R v H1) : tB X.K q s H1 R := by
  obtain ⟨F0, h0, sub, fr⟩ := hold.frame
  exact ⟨w1, F0, d, h0, e, fun v f r m => c v f r fun a z => sub a (m a z)⟩

/-- new: all that was is kept, the value owns new things alone -/
def NewV (K : PySem.W.Frag) (H H' : Hp) (z : D) (v : V) : Prop := Kp [] H H' ∧ ∃ f, RV K H' z v f ∧ f.Nodup ∧ ∀ a ∈ f, H a = none
theorem NewV.plain {K : PySem.W.Frag} {z : D} {v : V} (h : RV K H z v []) : NewV K H H z v := ⟨.rfl', [], h, .nil, fun _ z => nomatch z⟩
theorem NewV.mine {K : PySem.W.Frag} {z : D} {v : V} {f : List Addr} (h : RV K H z v f) (p : pl z = true) : NewV K H H z v := by
  have e := rv_pl z v f p h
  subst e
  exact .plain h
theorem fin_new {w : Ev} {z : D} {v : V} {Q : VK} {ds : List D} {vs : List V} (q : ∀ v H' F', Stp F H F' H' → Hold X.K H' w s [z] [v] F' → Q v H') (st : Stp F H F2 H2) (hold : Hold X.K H2 w s ds vs F2) (n : NewV X.K H2 H1 z v) : Q v H1 := by
  obtain ⟨F0, h0, sub⟩ := hold.drop0
  have hm := h0.mut
  obtain ⟨k, f, rv, nd, fr⟩ := n
  obtain ⟨ft, fe, h1, h2, p, nd0⟩ := h0
  have e0 : ft = [] := h1.2
  subst e0
  have k2 : RE X.K H1 w s fe := h2.kp (F := []) k (fun _ z => nomatch z) fun _ _ z => nomatch z
  refine q v H1 (f ++ fe) (st.trans (F1 := F2) ⟨k.mono (fun _ z => nomatch z), fun a m => ?_⟩) ⟨f, fe, RVs.one rv, k2, .refl _, ?_⟩
  · rcases List.mem_append.mp m with z | z
    · exact .inr (.inl (fr a z))
    · exact .inl (sub a (p.mem_iff.mpr z))
  · refine List.nodup_append.mpr ⟨nd, p.nodup_iff.mp nd0, fun a m b m2 e => ?_⟩
    subst e
    have := hm a (p.mem_iff.mpr m2)
    rw [fr a m] at this
    exact this

/-! ### constants and names -/
def xC (d : D) : PM D := fun w => .ok d w
theorem pp_c {e : Expr} {v : V} {d : D} (h : PE X e (tC v)) (r : ∀ K H, RV K H d v []) : PE X e (tP X.K X.mg Eh (xC d)) := h.imp fun s H Q ⟨w, F, hold, q⟩ =>
  fin_new q (Stp.refl fun _ m => m) hold (.plain (r _ _))
theorem pp_int {i j pos} : PE X (.Constant (.int i) j pos) (tP X.K X.mg Eh (xC (.int i))) := pp_c pe_int fun _ _ => ⟨rfl, rfl⟩
theorem pp_bl {b j pos} : PE X (.Constant (.bool b) j pos) (tP X.K X.mg Eh (xC (.bl b))) := pp_c pe_bl fun _ _ => ⟨rfl, rfl⟩
theorem pp_non {j pos} : PE X (.Constant .none j pos) (tP X.K X.mg Eh (xC .non)) := pp_c pe_non fun _ _ => ⟨rfl, rfl⟩
theorem pp_str {x j pos} : PE X (.Constant (.str x) j pos) (tP X.K X.mg Eh (xC (.str x))) := pp_c pe_str fun _ _ => ⟨rfl, rfl⟩
def qV (j : Nat) : Ev → Option D := fun w => slot w j
theorem pv_var {e : Expr} {j : Nat} (h : PE X e (tVar j)) : PE X e (tV X.K j) := h.imp fun s H Q ⟨w, F, d, hold, e, q⟩ => by
  obtain ⟨v, f, e1, r, m⟩ := hold.atSlot e
  exact ⟨v, e1, q v e1⟩
theorem pb_var {e : Expr} {j : Nat} (h : PE X e (tVar j)) : PE X e (tB X.K (qV j)) := h.imp fun s H Q ⟨w, F, d, hold, e, q⟩ => by
  obtain ⟨v, f, e1, r, m⟩ := hold.atSlot e
  exact ⟨v, e1, q v f r m⟩
/-- a place's value, which owns nothing -/
def xP (q : Ev → Option D) : PM D := fun w => match q w with
  | some d => if pl d = true then .ok d w else .bad
  | none => .bad
theorem xP_ok {q : Ev → Option D} {w : Ev} {d : D} (h : q w = some d) (p : pl d = true) : xP q w = .ok d w := by unfold xP; rw [h]; exact if_pos p
theorem pp_place {e : Expr} {q : Ev → Option D} (h : PE X e (tB X.K q)) : PE X e (tP X.K X.mg Eh (xP q)) := h.imp fun s H Q ⟨w, F, hold, q0⟩ => by
  cases e : q w with
  | none => rw [show xP q w = .bad by unfold xP; rw [e]] at q0; exact q0.elim
  | some d =>
    by_cases p : pl d = true
    · rw [xP_ok e p] at q0
      exact ⟨w, F, d, hold, e, fun v f r m => fin_new q0 (Stp.refl fun _ m => m) hold (.mine r p)⟩
    · rw [show xP q w = .bad by unfold xP; rw [e]; exact if_neg p] at q0; exact q0.elim
/-- an owned thing leaves its slot -/
def xT (j : Nat) : PM D := fun w => match slot w j with
  | some d => .ok d (w.set j none)
  | none => .bad
theorem pp_take {e : Expr} {j : Nat} (h : PE X e (tVar j)) : PE X e (tP X.K X.mg Eh (xT j)) := h.imp fun s H Q ⟨w, F, hold, q0⟩ => by
  cases e : slot w j with
  | none => rw [show xT j w = .bad by unfold xT; rw [e]] at q0; exact q0.elim
  | some d =>
    rw [show xT j w = .ok d (w.set j none) by unfold xT; rw [e]] at q0
    obtain ⟨ft, fe, h1, h2, p, nd⟩ := hold
    have e0 : ft = [] := h1.2
    subst e0
    obtain ⟨v, f, g, a, b, c, pp⟩ := h2.take (slot_some e)
    refine ⟨v, a, q0 v H F (Stp.refl fun _ m => m) ⟨f, g, RVs.one b, c, p.trans pp, nd⟩⟩

/-! ### operations that read -/
def Ro1 (K : PySem.W.Frag) (r : V → Hp → VK → Prop) (op : D → Option D) : Prop := ∀ H x dx fx z Q, RV K H dx x fx → op dx = some z → (∀ v H', NewV K H H' z v → Q v H') → r x H Q
def Ro2 (K : PySem.W.Frag) (r : V → V → Hp → VK → Prop) (op : D → D → Option D) : Prop := ∀ H x y dx dy fx fy z Q, RV K H dx x fx → RV K H dy y fy → op dx dy = some z → (∀ v H', NewV K H H' z v → Q v H') → r x y H Q
def back (o : Option D) (w : Ev) : Rs D := match o with
  | some z => .ok z w
  | none => .bad
@[simp] theorem back_some (z : D) (w : Ev) : back (some z) w = .ok z w := rfl
@[simp] theorem back_none (w : Ev) : back none w = .bad := rfl
def x1g (op : D → Option D) (f : PM D) : PM D := fun w => (f w).bind fun x w1 => back (op x) w1
def x1p (op : D → Option D) (q : Ev → Option D) : PM D := fun w => back ((q w).bind op) w
def x2gg (op : D → D → Option D) (f g : PM D) : PM D := fun w => (f w).bind fun x w1 => (g w1).bind fun y w2 => back (op x y) w2
def x2gp (op : D → D → Option D) (f : PM D) (q : Ev → Option D) : PM D := fun w => (f w).bind fun x w1 => back ((q w1).bind (op x)) w1
def x2vg (op : D → D → Option D) (j : Nat) (g : PM D) : PM D := fun w => match slot w j with
  | some _ => (g w).bind fun y w2 => back ((slot w2 j).bind fun x => op x y) w2
  | none => .bad
def x2pp (op : D → D → Option D) (q1 q2 : Ev → Option D) : PM D := fun w => back ((q1 w).bind fun x => (q2 w).bind (op x)) w

theorem Hold.last {K : PySem.W.Frag} {w : Ev} {ds : List D} {vs : List V} {d : D} {v : V} (h : Hold K H w s (ds ++ [d]) (vs ++ [v]) F) (hl : ds.length = vs.length) : ∃ f, RV K H d v f ∧ ∀ a ∈ f, a ∈ F := by
  obtain ⟨F', h', sub⟩ := h.drop hl
  obtain ⟨ft, fe, h1, h2, p, nd⟩ := h'
  exact ⟨ft, h1.one', fun a m => sub a (p.mem_iff.mpr (List.mem_append_left _ m))⟩
theorem Hold.two {K : PySem.W.Frag} {w : Ev} {d e : D} {v u : V} (h : Hold K H w s [d, e] [v, u] F) : ∃ f g, RV K H d v f ∧ RV K H e u g ∧ (∀ a ∈ f, a ∈ F) ∧ ∀ a ∈ g, a ∈ F := by
  obtain ⟨ft, fe, h1, h2, p, nd⟩ := h
  obtain ⟨v', r, f, g, e1, q, q2, e2⟩ := h1
  injection e1 with e3 e4
  subst e3; subst e4; subst e2
  exact ⟨f, g, q, q2.one', fun a m => p.mem_iff.mpr (List.mem_append_left _ (List.mem_append_left _ m)), fun a m => p.mem_iff.mpr (List.mem_append_left _ (List.mem_append_right _ m))⟩
theorem Hold.one {K : PySem.W.Frag} {w : Ev} {d : D} {v : V} (h : Hold K H w s [d] [v] F) : ∃ f, RV K H d v f ∧ ∀ a ∈ f, a ∈ F := Hold.last (ds := []) (vs := []) h rfl
theorem back_po {o : Option D} {w : Ev} {Q : D → Ev → Prop} (h : Po X.K X.mg Eh H F s (back o w) Q) : ∃ z, o = some z ∧ Q z w := by
  cases o with
  | none => exact h.elim
  | some z => exact ⟨z, rfl, h⟩
theorem imp1g {r : V → Hp → VK → Prop} {op : D → Option D} {f : PM D} (hr : Ro1 X.K r op) {Q : VK} (h : tP X.K X.mg Eh (x1g op f) s H Q) : tP X.K X.mg Eh f s H fun x H1 => r x H1 Q := by
  obtain ⟨w, F, hold, q⟩ := h
  refine tP_run hold (Stp.refl fun _ m => m) q fun d w2 v H2 F2 e st h2 q2 => ?_
  obtain ⟨z, hz, q3⟩ := back_po q2
  obtain ⟨fx, rx, _⟩ := Hold.one h2
  exact hr H2 v d fx z Q rx hz fun u H' n => fin_new q3 st h2 n
theorem imp1p {r : V → Hp → VK → Prop} {op : D → Option D} {p : Ev → Option D} (hr : Ro1 X.K r op) {Q : VK} (h : tP X.K X.mg Eh (x1p op p) s H Q) : tB X.K p s H fun x H1 => r x H1 Q := by
  obtain ⟨w, F, hold, q⟩ := h
  obtain ⟨z, hz, q3⟩ := back_po q
  obtain ⟨d, hd, hz⟩ := Option.bind_eq_some_iff.mp hz
  exact tB_run hold hd fun v f r m => hr H v d f z Q r hz fun u H' n => fin_new q3 (Stp.refl fun _ m => m) hold n
theorem imp2gg {r : V → V → Hp → VK → Prop} {op : D → D → Option D} {f g : PM D} (hr : Ro2 X.K r op) {Q : VK} (h : tP X.K X.mg Eh (x2gg op f g) s H Q) :
    tP X.K X.mg Eh f s H fun x H1 => tP X.K X.mg Eh g s H1 fun y H2 => r x y H2 Q := by
  obtain ⟨w, F, hold, q⟩ := h
  refine tP_run hold (Stp.refl fun _ m => m) q fun d w2 v H2 F2 e st h2 q2 => ?_
  refine tP_run h2 st q2 fun d' w3 v' H3 F3 e' st' h3 q3 => ?_
  obtain ⟨z, hz, q4⟩ := back_po q3
  obtain ⟨fx, fy, rx, ry, _⟩ := Hold.two h3
  exact hr H3 v v' d d' fx fy z Q rx ry hz fun u H' n => fin_new q4 st' h3 n
theorem imp2gp {r : V → V → Hp → VK → Prop} {op : D → D → Option D} {f : PM D} {p : Ev → Option D} (hr : Ro2 X.K r op) {Q : VK} (h : tP X.K X.mg Eh (x2gp op f p) s H Q) :
    tP X.K X.mg Eh f s H fun x H1 => tB X.K p s H1 fun y H2 => r x y H2 Q := by
  obtain ⟨w, F, hold, q⟩ := h
  refine tP_run hold (Stp.refl fun _ m => m) q fun d w2 v H2 F2 e st h2 q2 => ?_
  obtain ⟨z, hz, q3⟩ := back_po q2
  obtain ⟨d', hd, hz⟩ := Option.bind_eq_some_iff.mp hz
  obtain ⟨fx, rx, _⟩ := Hold.one h2
  exact tB_run h2 hd fun v' f r m => hr H2 v v' d d' fx f z Q rx r hz fun u H' n => fin_new q3 st h2 n
theorem imp2vg {r : V → V → Hp → VK → Prop} {op : D → D → Option D} {j : Nat} {g : PM D} (hr : Ro2 X.K r op) {Q : VK} (h : tP X.K X.mg Eh (x2vg op j g) s H Q) :
    tV X.K j s H fun x H1 => tP X.K X.mg Eh g s H1 fun y H2 => r x y H2 Q := by
  obtain ⟨w, F, hold, q⟩ := h
  unfold x2vg at q
  cases e : slot w j with
  | none => rw [e] at q; exact q.elim
  | some d0 =>
    rw [e] at q
    refine tV_run hold e fun v f ej _ _ => ?_
    refine tP_run hold (Stp.refl fun _ m => m) q fun d' w3 v' H3 F3 e' st' h3 q3 => ?_
    obtain ⟨z, hz, q4⟩ := back_po q3
    obtain ⟨d, hd, hz⟩ := Option.bind_eq_some_iff.mp hz
    obtain ⟨v2, f2, ej2, r2, _⟩ := h3.atSlot hd
    rw [ej] at ej2
    cases ej2
    obtain ⟨fy, ry, _⟩ := Hold.one h3
    exact hr H3 v v' d d' f2 fy z Q r2 ry hz fun u H' n => fin_new q4 st' h3 n
theorem imp2pp {r : V → V → Hp → VK → Prop} {op : D → D → Option D} {p p' : Ev → Option D} (hr : Ro2 X.K r op) {Q : VK} (h : tP X.K X.mg Eh (x2pp op p p') s H Q) :
    tB X.K p s H fun x H1 => tB X.K p' s H1 fun y H2 => r x y H2 Q := by
  obtain ⟨w, F, hold, q⟩ := h
  obtain ⟨z, hz, q3⟩ := back_po q
  obtain ⟨d, hd, hz⟩ := Option.bind_eq_some_iff.mp hz
  obtain ⟨d', hd', hz⟩ := Option.bind_eq_some_iff.mp hz
  exact tB_run hold hd fun v f r m => tB_run hold hd' fun v' f' r' m' => hr H v v' d d' f f' z Q r r' hz fun u H' n => fin_new q3 (Stp.refl fun _ m => m) hold n

/-! ### lists of arguments, handed over -/
def xNil : PM (List D) := fun w => .ok [] w
def xCons (f : PM D) (g : PM (List D)) : PM (List D) := fun w => (f w).bind fun d w1 => (g w1).bind fun ds w2 => .ok (d :: ds) w2
theorem pa0 : PA X [] (tA X.K X.mg Eh xNil) := pa_nil.imp fun s H Q ⟨w, F, hold, q⟩ => q [] H F (Stp.refl fun _ m => m) hold
theorem pa1 {e : Expr} {es : List Expr} {f : PM D} {g : PM (List D)} (h : PE X e (tP X.K X.mg Eh f)) (hr : PA X es (tA X.K X.mg Eh g)) (hs : starEach (e :: es) X.env = (false, eval e X.env) :: starEach es X.env := by rfl) : PA X (e :: es) (tA X.K X.mg Eh (xCons f g)) :=
  (pa_cons h hr hs).imp fun s H Q ⟨w, F, hold, q⟩ => by
    refine tP_run hold (Stp.refl fun _ m => m) q fun d w2 v H2 F2 e st h2 q2 => ?_
    refine tA_run h2 st q2 fun ds w3 vs H3 F3 e' st' h3 q3 => ?_
    exact q3 (v :: vs) H3 F3 st' h3
end
end Pm

set_option autoImplicit true
namespace Pm
open PySem PySem.Spec L2
variable {u0 : Unit} [Tab0 u0]

section
variable {K : PySem.W.Frag} {H : Hp}
theorem new_tup {xs : List D} {vs : List V} {p : Addr} (r : RVs K H xs vs []) (n : H p = none) : NewV K H (upd H p (.tup vs)) (.tup xs) (.ref p) := by
  have k : Kp [] H (upd H p (.tup vs)) := .new n
  exact ⟨k, [], ⟨p, vs, rfl, upd_same, RVs.kp k (fun _ z => nomatch z) _ _ _ (fun _ z => nomatch z) r⟩, .nil, fun _ z => nomatch z⟩
theorem new_own {xs : List D} {vs : List V} {p : Addr} (r : RVs K H xs vs []) (n : H p = none) : NewV K H (upd H p (.lst vs)) (.own xs) (.ref p) := by
  have k : Kp [] H (upd H p (.lst vs)) := .new n
  refine ⟨k, [p], ⟨p, vs, [], rfl, upd_same, RVs.kp k (fun _ z => nomatch z) _ _ _ (fun _ z => nomatch z) r, rfl⟩, by simp, fun a m => ?_⟩
  have e : a = p := by simpa using m
  rw [e]; exact n
theorem RVs.nil_of {xs : List D} {vs : List V} {f : List Addr} (r : RVs K H xs vs f) (p : pls xs = true) : RVs K H xs vs [] := by
  have e := rvs_pl xs vs f p r
  subst e
  exact r
theorem RV.nil_of {d : D} {v : V} {f : List Addr} (r : RV K H d v f) (p : pl d = true) : RV K H d v [] := by
  have e := rv_pl d v f p r
  subst e
  exact r
end
theorem pls_get : ∀ {xs : List D} {i : Nat} {d : D}, pls xs = true → xs[i]? = some d → pl d = true
  | [], i, d, _, e => by simp at e
  | x :: xs, 0, d, p, e => by
    unfold pls at p
    rw [Bool.and_eq_true] at p
    simp at e; subst e; exact p.1
  | x :: xs, i + 1, d, p, e => by
    unfold pls at p
    rw [Bool.and_eq_true] at p
    exact pls_get (i := i) p.2 (by simpa using e)
theorem pls_append {xs ys : List D} : pls (xs ++ ys) = (pls xs && pls ys) := by
  induction xs with
  | nil => rfl
  | cons x xs ih => show (pl x && pls (xs ++ ys)) = _; rw [ih, ← Bool.and_assoc]; rfl
theorem pls_all {xs : List D} : pls xs = true ↔ ∀ d ∈ xs, pl d = true := by
  induction xs with
  | nil => exact Iff.intro (fun _ d m => absurd m (by simp)) (fun _ => rfl)
  | cons x xs ih =>
    show (pl x && pls xs) = true ↔ _
    rw [Bool.and_eq_true, ih]
    exact ⟨fun ⟨a, b⟩ d m => (List.mem_cons.mp m).elim (fun e => e ▸ a) (b d), fun h => ⟨h x List.mem_cons_self, fun d m => h d (List.mem_cons_of_mem _ m)⟩⟩

/-- the items of a list or tuple -/
def seqD : D → Option (List D)
  | .tup xs => some xs
  | .lst xs => some xs
  | .own xs => some xs
  | _ => none
theorem seqD_rv {K : PySem.W.Frag} {H : Hp} {d : D} {v : V} {f : List Addr} {xs : List D} (r : RV K H d v f) (e : seqD d = some xs) : ∃ a vs g, v = .ref a ∧ (SqL K H a vs ∨ SqT K H a vs) ∧ RVs K H xs vs g := by
  cases d with
  | tup ys => cases e; obtain ⟨a, vs, e, q, r⟩ := r; exact ⟨a, vs, f, e, .inr (.inl (.inl q)), r⟩
  | lst ys => cases e; obtain ⟨a, vs, e, q, r, _⟩ := r; exact ⟨a, vs, [], e, .inl q.sq, r⟩
  | own ys => cases e; obtain ⟨a, vs, g, e, q, r, _⟩ := r; exact ⟨a, vs, g, e, .inl (.of q), r⟩
  | xo _ _ _ => cases e
  | odc _ _ _ => cases e
  | fdc _ _ _ => cases e
  | fn => cases e
  | non => cases e
  | bl b => cases e
  | int i => cases e
  | str x => cases e

/-! ### ints -/
def dI (g : Int → Int → Option D) : D → D → Option D
  | .int i, .int j => g i j
  | _, _ => none
theorem dI_some {g : Int → Int → Option D} {x y z : D} (h : dI g x y = some z) : ∃ i j, x = .int i ∧ y = .int j ∧ g i j = some z := by
  cases x <;> cases y <;> first
    | exact ⟨_, _, rfl, rfl, h⟩
    | cases h
theorem ro_I0 {K : PySem.W.Frag} {g : Int → Int → Int} : Ro2 K (rI0 fun i j => .int (g i j)) (dI fun i j => some (.int (g i j))) := fun H x y dx dy fx fy z Q rx ry e q => by
  obtain ⟨i, j, rfl, rfl, e⟩ := dI_some e
  cases e
  exact ⟨i, j, rx.1, ry.1, q _ _ (.plain ⟨rfl, rfl⟩)⟩
theorem ro_B0 {K : PySem.W.Frag} {g : Int → Int → Bool} : Ro2 K (rI0 fun i j => .bl (g i j)) (dI fun i j => some (.bl (g i j))) := fun H x y dx dy fx fy z Q rx ry e q => by
  obtain ⟨i, j, rfl, rfl, e⟩ := dI_some e
  cases e
  exact ⟨i, j, rx.1, ry.1, q _ _ (.plain ⟨rfl, rfl⟩)⟩
theorem ro_IC {K : PySem.W.Frag} {C : Int → Int → Prop} {g : Int → Int → Int} {c : Int → Int → Bool} (hc : ∀ i j, c i j = true → C i j) : Ro2 K (rI C fun i j => .int (g i j)) (dI fun i j => if c i j = true then some (.int (g i j)) else none) := fun H x y dx dy fx fy z Q rx ry e q => by
  obtain ⟨i, j, hx, hy, e2⟩ := dI_some e
  clear e
  subst hx; subst hy
  replace e2 : (if c i j = true then some (D.int (g i j)) else none) = some z := e2
  by_cases h : c i j = true
  · rw [if_pos h] at e2
    cases e2
    exact ⟨i, j, rx.1, ry.1, hc i j h, q _ _ (.plain ⟨rfl, rfl⟩)⟩
  · rw [if_neg h] at e2; cases e2
theorem Ro2.or {K : PySem.W.Frag} {r r' : R2} {op op' : D → D → Option D} (h : Ro2 K r op) (h' : Ro2 K r' op') : Ro2 K (fun x y H Q => r x y H Q ∨ r' x y H Q) fun x y => (op x y).orElse fun _ => op' x y := fun H x y dx dy fx fy z Q rx ry e q => by
  replace e : ((op dx dy).orElse fun _ => op' dx dy) = some z := e
  cases e1 : op dx dy with
  | some z1 => rw [e1] at e; cases e; exact .inl (h H x y dx dy fx fy z Q rx ry e1 q)
  | none => rw [e1] at e; exact .inr (h' H x y dx dy fx fy z Q rx ry e q)
theorem Ro2.ext {K : PySem.W.Frag} {r : R2} {op op' : D → D → Option D} (h : Ro2 K r op) (e : ∀ x y, op' x y = op x y) : Ro2 K r op' := fun H x y dx dy fx fy z Q rx ry e1 q => h H x y dx dy fx fy z Q rx ry (by rw [← e]; exact e1) q

/-! ### + -/
def dCatT : D → D → Option D
  | .tup xs, .tup ys => if pls xs = true ∧ pls ys = true ∧ xs.length + ys.length ≤ sizeLine then some (.tup (xs ++ ys)) else none
  | _, _ => none
theorem ro_catT {K : PySem.W.Frag} : Ro2 K (rCatA K) dCatT := fun H x y dx dy fx fy z Q rx ry e q => by
  cases dx <;> cases dy <;> first
    | cases e
    | skip
  rename_i xs ys
  dsimp only [dCatT] at e
  by_cases c : pls xs = true ∧ pls ys = true ∧ xs.length + ys.length ≤ sizeLine
  · rw [if_pos c] at e
    cases e
    obtain ⟨a, vs, ea, qa, ra⟩ := rx
    obtain ⟨b, us, eb, qb, rb⟩ := ry
    have ra0 := ra.nil_of c.1
    have rb0 := rb.nil_of c.2.1
    have la := ra.length
    have lb := rb.length
    refine ⟨a, b, vs, us, ea, eb, .inl (.inl qa), .inl (.inl qb), by omega, fun h => ?_, fun h h2 => ?_, fun h h2 p n => ?_⟩
    · have h0 : xs = [] := List.length_eq_zero_iff.mp (by rw [la, h]; rfl)
      subst h0
      exact q _ _ (.plain ⟨b, us, rfl, qb, rb0⟩)
    · have h0 : ys = [] := List.length_eq_zero_iff.mp (by rw [lb, h2]; rfl)
      subst h0
      rw [List.append_nil] at q
      exact q _ _ (.plain ⟨a, vs, rfl, qa, ra0⟩)
    · exact q _ _ (new_tup (by exact ra0.append rb0) n)
  · rw [if_neg c] at e; cases e
def dCatL : D → D → Option D
  | .own xs, .own ys => if pls xs = true ∧ pls ys = true ∧ xs.length + ys.length ≤ sizeLine then some (.own (xs ++ ys)) else none
  | _, _ => none
theorem ro_catL {K : PySem.W.Frag} : Ro2 K rCat dCatL := fun H x y dx dy fx fy z Q rx ry e q => by
  cases dx <;> cases dy <;> first
    | cases e
    | skip
  rename_i xs ys
  dsimp only [dCatL] at e
  by_cases c : pls xs = true ∧ pls ys = true ∧ xs.length + ys.length ≤ sizeLine
  · rw [if_pos c] at e
    cases e
    obtain ⟨a, vs, f, ea, qa, ra, _⟩ := rx
    obtain ⟨b, us, g, eb, qb, rb, _⟩ := ry
    have ra0 := ra.nil_of c.1
    have rb0 := rb.nil_of c.2.1
    have la := ra.length
    have lb := rb.length
    exact ⟨a, b, vs, us, ea, eb, qa, qb, by omega, fun p n => q _ _ (new_own (by exact ra0.append rb0) n)⟩
  · rw [if_neg c] at e; cases e
def dCatS : D → D → Option D
  | .str x, .str y => if x.length + y.length ≤ sizeLine then some (.str (x ++ y)) else none
  | _, _ => none
def rCatS : R2 := fun x y H Q => ∃ i j, x = .str i ∧ y = .str j ∧ i.length + j.length ≤ sizeLine ∧ Q (.str (i ++ j)) H
theorem ro_catS {K : PySem.W.Frag} : Ro2 K rCatS dCatS := fun H x y dx dy fx fy z Q rx ry e q => by
  cases dx <;> cases dy <;> first
    | cases e
    | skip
  rename_i xs ys
  dsimp only [dCatS] at e
  by_cases c : xs.length + ys.length ≤ sizeLine
  · rw [if_pos c] at e
    cases e
    exact ⟨xs, ys, rx.1, ry.1, c, q _ _ (.plain ⟨rfl, rfl⟩)⟩
  · rw [if_neg c] at e; cases e
def dAdd : D → D → Option D
  | .int i, .int j => some (.int (i + j))
  | .tup xs, .tup ys => if pls xs = true ∧ pls ys = true ∧ xs.length + ys.length ≤ sizeLine then some (.tup (xs ++ ys)) else none
  | .own xs, .own ys => if pls xs = true ∧ pls ys = true ∧ xs.length + ys.length ≤ sizeLine then some (.own (xs ++ ys)) else none
  | .str x, .str y => if x.length + y.length ≤ sizeLine then some (.str (x ++ y)) else none
  | _, _ => none
def rAdd' (K : PySem.W.Frag) : R2 := fun x y H Q => (rI0 (fun i j => .int (i + j)) x y H Q ∨ rCatA K x y H Q) ∨ (rCat x y H Q ∨ rCatS x y H Q)
theorem op_add' {X : Cx} : OpR X (binaryOp .Add) (rAdd' X.K) := (op_add.or op_catA).or (op_cat.or op_add_str)
theorem orN {α : Type} (o : Option α) : (o.orElse fun _ => none) = o := by cases o <;> rfl
theorem ro_add {K : PySem.W.Frag} : Ro2 K (rAdd' K) dAdd := ((ro_I0.or ro_catT).or (ro_catL.or ro_catS)).ext fun x y => by
  cases x with
  | int i => cases y <;> rfl
  | tup xs => cases y with
    | tup ys => unfold dAdd; simp only [dI, dCatT, dCatL, dCatS, Option.orElse_none, Option.orElse_some, orN] <;> (split <;> rfl)
    | _ => rfl
  | own xs => cases y with
    | own ys => unfold dAdd; simp only [dI, dCatT, dCatL, dCatS, Option.orElse_none, Option.orElse_some, orN] <;> (split <;> rfl)
    | _ => rfl
  | str xs => cases y with
    | str ys => unfold dAdd; simp only [dI, dCatT, dCatL, dCatS, Option.orElse_none, Option.orElse_some, orN] <;> (split <;> rfl)
    | _ => rfl
  | _ => rfl

/-! ### -, *, //, %, ** -/
def dSub : D → D → Option D := dI fun i j => some (.int (i - j))
def mulC (i j : Int) : Bool := decide (i.natAbs.log2 + j.natAbs.log2 < 1000000)
def dMul : D → D → Option D := dI fun i j => if mulC i j = true then some (.int (i * j)) else none
def divC (i j : Int) : Bool := decide (0 < j ∧ j < 1073741824)
def dDiv : D → D → Option D := dI fun i j => if divC i j = true then some (.int (i / j)) else none
def modC (i j : Int) : Bool := decide (0 < j)
def dMod : D → D → Option D := dI fun i j => if modC i j = true then some (.int (i % j)) else none
def CPowW (i j : Int) : Prop := 0 ≤ j ∧ (Builtin.Int.intBits i : Int) * j ≤ 2 ^ 27
def powC (i j : Int) : Bool := decide (0 ≤ j ∧ (Builtin.Int.intBits i : Int) * j ≤ 2 ^ 27)
def dPow : D → D → Option D := dI fun i j => if powC i j = true then some (.int (i ^ j.toNat)) else none
theorem op_powW {X : Cx} : OpR X (binaryOp .Pow) (rI CPowW fun i j => .int (i ^ j.toNat)) := opI fun _ _ _ _ _ _ _ hc q => PyProof.Rows.pow_int hc.1 hc.2 q
section
variable {K : PySem.W.Frag}
theorem ro_sub : Ro2 K (rI0 fun i j => .int (i - j)) dSub := ro_I0
theorem ro_mul : Ro2 K (rI CMulW fun i j => .int (i * j)) dMul := ro_IC fun i j h => of_decide_eq_true (p := i.natAbs.log2 + j.natAbs.log2 < 1000000) h
theorem ro_div : Ro2 K (rI CDiv fun i j => .int (i / j)) dDiv := ro_IC fun i j h => of_decide_eq_true (p := 0 < j ∧ j < 1073741824) h
theorem ro_mod : Ro2 K (rI (fun _ j => 0 < j) fun i j => .int (i % j)) dMod := ro_IC fun i j h => of_decide_eq_true (p := 0 < j) h
theorem ro_pow : Ro2 K (rI CPowW fun i j => .int (i ^ j.toNat)) dPow := ro_IC fun i j h => of_decide_eq_true (p := 0 ≤ j ∧ (Builtin.Int.intBits i : Int) * j ≤ 2 ^ 27) h
end
def dNeg : D → Option D
  | .int i => some (.int (-i))
  | _ => none
theorem ro_neg {K : PySem.W.Frag} : Ro1 K (rU fun i => .int (-i)) dNeg := fun H x dx fx z Q rx e q => by
  cases dx <;> first
    | cases e
    | skip
  exact ⟨_, rx.1, q _ _ (.plain ⟨rfl, rfl⟩)⟩

/-! ### comparisons -/
mutual
def toPy : D → PyData
  | .non => .none
  | .bl b => .bool b
  | .int i => .int i
  | .str x => .str x
  | .tup xs => .tuple (toPys xs)
  | .lst xs => .list (toPys xs)
  | .own xs => .list (toPys xs)
  | .xo _ _ _ => .dict []
  | .odc _ _ _ => .dict []
  | .fdc _ _ _ => .dict []
  | .fn => .dict []
def toPys : List D → List PyData
  | [] => []
  | d :: ds => toPy d :: toPys ds
end
section
variable {K : PySem.W.Frag} {H : Hp}
mutual
theorem dp_of : ∀ (d : D) (v : V) (f : List Addr), PyData.canLay0 (toPy d) = true → RV K H d v f → Dp K H v (toPy d)
  | .non, v, f, cl, h => by obtain ⟨e, _⟩ := h; subst e; exact .non
  | .bl b, v, f, cl, h => by obtain ⟨e, _⟩ := h; subst e; exact .bl b
  | .int i, v, f, cl, h => by obtain ⟨e, _⟩ := h; subst e; exact .int i
  | .str x, v, f, cl, h => by obtain ⟨e, _⟩ := h; subst e; exact .str x
  | .tup xs, v, f, cl, h => by
    obtain ⟨a, vs, e, q, r⟩ := h
    subst e
    exact .tup (.inl (.inl q)) (dps_of xs vs f cl r)
  | .lst xs, v, f, cl, h => by
    obtain ⟨a, vs, e, q, r, _⟩ := h
    subst e
    exact .lst q.sq (dps_of xs vs [] cl r)
  | .own xs, v, f, cl, h => by
    obtain ⟨a, vs, g, e, q, r, _⟩ := h
    subst e
    exact .lst (.of q) (dps_of xs vs g cl r)
  | .xo _ _ _, v, f, cl, h => absurd cl (by unfold toPy; exact Bool.false_ne_true)
  | .odc _ _ _, v, f, cl, h => absurd cl (by unfold toPy; exact Bool.false_ne_true)
  | .fdc _ _ _, v, f, cl, h => absurd cl (by unfold toPy; exact Bool.false_ne_true)
  | .fn, v, f, cl, h => absurd cl (by unfold toPy; exact Bool.false_ne_true)
theorem dps_of : ∀ (ds : List D) (vs : List V) (f : List Addr), PyData.canLayAll0 (toPys ds) = true → RVs K H ds vs f → DpAll K H vs (toPys ds)
  | [], vs, f, _, h => by obtain ⟨e, _⟩ := h; subst e; exact .nil
  | d :: ds, vs, f, cl, h => by
    obtain ⟨v, r, f1, g, e, q, t, _⟩ := h
    subst e
    obtain ⟨c1, c2⟩ := Bool.and_eq_true_iff.mp cl
    exact .cons (dp_of d v f1 c1 q) (dps_of ds r g c2 t)
end
end
def dEq (x y : D) : Option D := if SeqAt.shaped (toPy x) = true ∧ SeqAt.shaped (toPy y) = true then some (.bl (PyData.eqv (toPy x) (toPy y))) else none
def dNe (x y : D) : Option D := if SeqAt.shaped (toPy x) = true ∧ SeqAt.shaped (toPy y) = true then some (.bl (!PyData.eqv (toPy x) (toPy y))) else none
theorem ro_eq {K : PySem.W.Frag} : Ro2 K (rEqD K) dEq := fun H x y dx dy fx fy z Q rx ry e q => by
  unfold dEq at e
  by_cases c : SeqAt.shaped (toPy dx) = true ∧ SeqAt.shaped (toPy dy) = true
  · rw [if_pos c] at e
    cases e
    exact ⟨toPy dx, toPy dy, dp_of _ _ _ (SeqAt.canLay_of_shaped c.1) rx, dp_of _ _ _ (SeqAt.canLay_of_shaped c.2) ry, c.1, c.2, q _ _ (.plain ⟨rfl, rfl⟩)⟩
  · rw [if_neg c] at e; cases e
theorem ro_ne {K : PySem.W.Frag} : Ro2 K (rNeD K) dNe := fun H x y dx dy fx fy z Q rx ry e q => by
  unfold dNe at e
  by_cases c : SeqAt.shaped (toPy dx) = true ∧ SeqAt.shaped (toPy dy) = true
  · rw [if_pos c] at e
    cases e
    exact ⟨toPy dx, toPy dy, dp_of _ _ _ (SeqAt.canLay_of_shaped c.1) rx, dp_of _ _ _ (SeqAt.canLay_of_shaped c.2) ry, c.1, c.2, q _ _ (.plain ⟨rfl, rfl⟩)⟩
  · rw [if_neg c] at e; cases e
@[simp] theorem dEq_int (i j : Int) : dEq (.int i) (.int j) = some (.bl (i == j)) := rfl
@[simp] theorem dNe_int (i j : Int) : dNe (.int i) (.int j) = some (.bl (!(i == j))) := rfl
@[simp] theorem dEq_bl (i j : Bool) : dEq (.bl i) (.bl j) = some (.bl (i == j)) := rfl
def dLt : D → D → Option D := dI fun i j => some (.bl (decide (i < j)))
def dLe : D → D → Option D := dI fun i j => some (.bl (decide (i ≤ j)))
def dGt : D → D → Option D := dI fun i j => some (.bl (decide (j < i)))
def dGe : D → D → Option D := dI fun i j => some (.bl (decide (j ≤ i)))
section
variable {K : PySem.W.Frag}
theorem ro_lt : Ro2 K (rI0 fun i j => .bl (decide (i < j))) dLt := ro_B0
theorem ro_le : Ro2 K (rI0 fun i j => .bl (decide (i ≤ j))) dLe := ro_B0
theorem ro_gt : Ro2 K (rI0 fun i j => .bl (decide (j < i))) dGt := ro_B0
theorem ro_ge : Ro2 K (rI0 fun i j => .bl (decide (j ≤ i))) dGe := ro_B0
end
/-- is None -/
def isN : D → Bool
  | .non => true
  | _ => false
def dIs (x y : D) : Option D := match y with
  | .non => some (.bl (isN x))
  | _ => none
def dIsNot (x y : D) : Option D := match y with
  | .non => some (.bl (!isN x))
  | _ => none
theorem isN_rv {K : PySem.W.Frag} {H : Hp} {d : D} {v : V} {f : List Addr} (r : RV K H d v f) : decide (v = V.non) = isN d := by
  cases d with
  | non => rw [r.1]; rfl
  | bl b => rw [r.1]; rfl
  | int i => rw [r.1]; rfl
  | str x => rw [r.1]; rfl
  | tup xs => obtain ⟨a, vs, e, _⟩ := r; rw [e]; rfl
  | lst xs => obtain ⟨a, vs, e, _⟩ := r; rw [e]; rfl
  | own xs => obtain ⟨a, vs, g, e, _⟩ := r; rw [e]; rfl
  | xo c ns vs => obtain ⟨a, _, _, _, _, _, e, _⟩ := r; rw [e]; rfl
  | odc t ks vs => obtain ⟨a, _, _, _, e, _⟩ := r; rw [e]; rfl
  | fdc t ks vs => obtain ⟨a, _, _, _, e, _⟩ := r; rw [e]; rfl
  | fn => rw [r.1]; rfl
def rIsN : R2 := fun x y H Q => y = .non ∧ Q (.bl (decide (x = .non))) H
def rNotN : R2 := fun x y H Q => y = .non ∧ Q (.bl (!decide (x = .non))) H
theorem ro_is {K : PySem.W.Frag} : Ro2 K rIsN dIs := fun H x y dx dy fx fy z Q rx ry e q => by
  cases dy <;> first
    | cases e
    | skip
  exact ⟨ry.1, by rw [isN_rv rx]; exact q _ _ (.plain ⟨rfl, rfl⟩)⟩
theorem ro_isnot {K : PySem.W.Frag} : Ro2 K rNotN dIsNot := fun H x y dx dy fx fy z Q rx ry e q => by
  cases dy <;> first
    | cases e
    | skip
  exact ⟨ry.1, by rw [isN_rv rx]; exact q _ _ (.plain ⟨rfl, rfl⟩)⟩
/-- in, not in: flat things -/
def flatD : D → Bool
  | .non => true
  | .bl _ => true
  | .int _ => true
  | .str _ => true
  | _ => false
def eqD : D → D → Bool
  | .non, .non => true
  | .bl a, .bl b => a == b
  | .bl a, .int b => (if a then 1 else 0) == b
  | .int a, .bl b => a == (if b then 1 else 0)
  | .int a, .int b => a == b
  | .str a, .str b => a == b
  | _, _ => false
def inD (x : D) (xs : List D) : Bool := xs.any fun y => eqD y x
def dIn (neg : Bool) (x y : D) : Option D := match seqD y with
  | some ys => if flatD x = true ∧ ys.all flatD = true then some (.bl (if neg then !inD x ys else inD x ys)) else none
  | none => none
section
variable {K : PySem.W.Frag} {H : Hp}
theorem flat_rv {d : D} {v : V} {f : List Addr} (r : RV K H d v f) (h : flatD d = true) : flatV v = true := by
  cases d <;> first
    | exact absurd h Bool.false_ne_true
    | (rw [r.1]; rfl)
theorem eq_rv {d e : D} {v u : V} {f g : List Addr} (r : RV K H d v f) (r' : RV K H e u g) (h : flatD d = true) (h' : flatD e = true) : eqV v u = eqD d e := by
  cases d <;> first
    | exact absurd h Bool.false_ne_true
    | (cases e <;> first
        | exact absurd h' Bool.false_ne_true
        | (rw [r.1, r'.1]; rfl))
theorem flats_rv : ∀ {ds : List D} {vs : List V} {f : List Addr}, RVs K H ds vs f → ds.all flatD = true → vs.all flatV = true
  | [], vs, f, r, _ => by rw [r.1]; rfl
  | d :: ds, vs, f, r, h => by
    obtain ⟨v, t, f1, g, e, q, q2, _⟩ := r
    subst e
    rw [List.all_cons, Bool.and_eq_true] at h ⊢
    exact ⟨flat_rv q h.1, flats_rv q2 h.2⟩
theorem in_rv {x : D} {v : V} {g : List Addr} (r' : RV K H x v g) (h' : flatD x = true) : ∀ {ds : List D} {vs : List V} {f : List Addr}, RVs K H ds vs f → ds.all flatD = true → inV v vs = inD x ds
  | [], vs, f, r, _ => by rw [r.1]; rfl
  | d :: ds, vs, f, r, h => by
    obtain ⟨u, t, f1, g, e, q, q2, _⟩ := r
    subst e
    rw [List.all_cons, Bool.and_eq_true] at h
    show (eqV u v || inV v t) = (eqD d x || inD x ds)
    rw [eq_rv q r' h.1 h', in_rv r' h' q2 h.2]
end
theorem ro_in {K : PySem.W.Frag} (neg : Bool) : Ro2 K (rIn K neg) (dIn neg) := fun H x y dx dy fx fy z Q rx ry e q => by
  unfold dIn at e
  cases e1 : seqD dy with
  | none => rw [e1] at e; cases e
  | some ys =>
    rw [e1] at e
    obtain ⟨a, vs, g, ea, qa, ra⟩ := seqD_rv ry e1
    by_cases c : flatD dx = true ∧ ys.all flatD = true
    · replace e : (if flatD dx = true ∧ ys.all flatD = true then some (D.bl (if neg then !inD dx ys else inD dx ys)) else none) = some z := e
      rw [if_pos c] at e
      cases e
      refine ⟨a, vs, ea, qa, flat_rv rx c.1, flats_rv ra c.2, ?_⟩
      rw [in_rv rx c.1 ra c.2]
      exact q _ _ (.plain ⟨rfl, rfl⟩)
    · replace e : (if flatD dx = true ∧ ys.all flatD = true then some (D.bl (if neg then !inD dx ys else inD dx ys)) else none) = some z := e
      rw [if_neg c] at e; cases e

/-! ### items -/
def dIx (x y : D) : Option D := match x, y with
  | .str s, .int i => if s.length ≤ sizeLine then (atI s.cps.toList i).map fun c => D.str ⟨#[c]⟩ else none
  | x, .int i => match seqD x with
    | some xs => match atI xs i with
      | some d => if pl d = true then some d else none
      | none => none
    | none => none
  | _, _ => none
theorem atI_rv {K : PySem.W.Frag} {H : Hp} {xs : List D} {vs : List V} {f : List Addr} {i : Int} {d : D} (r : RVs K H xs vs f) (e : atI xs i = some d) : ∃ v g, atI vs i = some v ∧ RV K H d v g := by
  unfold atI at e ⊢
  obtain ⟨j, h1, h2⟩ := Option.bind_eq_some_iff.mp e
  obtain ⟨v, g, h3, h4, _⟩ := r.get h2
  exact ⟨v, g, by rw [← r.length, h1]; exact h3, h4⟩
theorem ro_ix {K : PySem.W.Frag} : Ro2 K (rIx K) dIx := fun H x y dx dy fx fy z Q rx ry e q => by
  cases dy <;> first
    | (cases dx <;> cases e)
    | skip
  rename_i i
  have seqs : ∀ {dx : D} {fx : List Addr} {xs : List D}, RV K H dx x fx → seqD dx = some xs → (match atI xs i with
      | some d => if pl d = true then some d else none
      | none => none) = some z → rIx K x y H Q := fun {dx fx xs} rx h1 h2 => by
    obtain ⟨a, vs, g, ea, qa, ra⟩ := seqD_rv rx h1
    cases e2 : atI xs i with
    | none => rw [e2] at h2; cases h2
    | some d =>
      rw [e2] at h2
      by_cases p : pl d = true
      · replace h2 : (if pl d = true then some d else none) = some z := h2
        rw [if_pos p] at h2
        cases h2
        obtain ⟨v, g', e3, r3⟩ := atI_rv ra e2
        rcases qa with qa | qa
        · exact .inl ⟨a, vs, i, v, ea, ry.1, qa, e3, q _ _ (.mine r3 p)⟩
        · exact .inr (.inl ⟨a, vs, i, v, ea, ry.1, qa, e3, q _ _ (.mine r3 p)⟩)
      · replace h2 : (if pl d = true then some d else none) = some z := h2
        rw [if_neg p] at h2; cases h2
  cases dx with
  | str s =>
    replace e : (if s.length ≤ sizeLine then (atI s.cps.toList i).map fun c => D.str ⟨#[c]⟩ else none) = some z := e
    by_cases c : s.length ≤ sizeLine
    · rw [if_pos c] at e
      obtain ⟨ch, h1, h2⟩ := Option.map_eq_some_iff.mp e
      subst h2
      exact .inr (.inr ⟨s, i, ch, rx.1, ry.1, c, h1, q _ _ (.plain ⟨rfl, rfl⟩)⟩)
    · rw [if_neg c] at e; cases e
  | tup xs => exact seqs rx rfl e
  | lst xs => exact seqs rx rfl e
  | own xs => exact seqs rx rfl e
  | non => cases e
  | bl b => cases e
  | int j => cases e
  | xo _ _ _ => cases e
  | odc _ _ _ => cases e
  | fdc _ _ _ => cases e
  | fn => cases e

/-! ### built-ins of one argument -/
def r1' (r : List V → Hp → VK → Prop) : V → Hp → VK → Prop := fun x H Q => r [x] H Q
def dLen : D → Option D
  | .str s => if s.length ≤ sizeLine then some (.int s.length) else none
  | x => (seqD x).map fun xs => .int xs.length
def rLen (K : PySem.W.Frag) : List V → Hp → VK → Prop := fun xs H Q => ∃ x n, xs = [x] ∧ LenV K x H n ∧ Q (.int n) H
theorem ro_len {K : PySem.W.Frag} : Ro1 K (r1' (rLen K)) dLen := fun H x dx fx z Q rx e q => by
  have seqs : ∀ {dx : D} {fx : List Addr}, RV K H dx x fx → ((seqD dx).map fun xs => D.int xs.length) = some z → r1' (rLen K) x H Q := fun {dx fx} rx h1 => by
    obtain ⟨xs, h2, h3⟩ := Option.map_eq_some_iff.mp h1
    subst h3
    obtain ⟨a, vs, g, ea, qa, ra⟩ := seqD_rv rx h2
    subst ea
    refine ⟨.ref a, xs.length, rfl, ?_, q _ _ (.plain ⟨rfl, rfl⟩)⟩
    rcases qa with qa | qa
    · exact .inl ⟨vs, qa, ra.length⟩
    · exact .inr ⟨vs, qa, ra.length⟩
  cases dx with
  | str s =>
    replace e : (if s.length ≤ sizeLine then some (D.int s.length) else none) = some z := e
    by_cases c : s.length ≤ sizeLine
    · rw [if_pos c] at e
      cases e
      exact ⟨.str s, s.length, by rw [rx.1], ⟨c, rfl⟩, q _ _ (.plain ⟨rfl, rfl⟩)⟩
    · rw [if_neg c] at e; cases e
  | tup xs => exact seqs rx e
  | lst xs => exact seqs rx e
  | own xs => exact seqs rx e
  | non => cases e
  | bl b => cases e
  | int j => cases e
  | xo _ _ _ => cases e
  | odc _ _ _ => cases e
  | fdc _ _ _ => cases e
  | fn => cases e
def dTuple : D → Option D
  | .tup xs => if pls xs = true then some (.tup xs) else none
  | .lst xs => if pls xs = true then some (.tup xs) else none
  | .own xs => if pls xs = true then some (.tup xs) else none
  | _ => none
def rTuple (K : PySem.W.Frag) : List V → Hp → VK → Prop := fun xs H Q => ∃ p ys, xs = [.ref p] ∧ ((SqL K H p ys ∧ ∀ l, H l = none → Q (.ref l) (upd H l (.tup ys))) ∨ (SqT K H p ys ∧ Q (.ref p) H))
theorem ro_tuple {K : PySem.W.Frag} : Ro1 K (r1' (rTuple K)) dTuple := fun H x dx fx z Q rx e q => by
  cases dx with
  | tup xs =>
    replace e : (if pls xs = true then some (D.tup xs) else none) = some z := e
    by_cases c : pls xs = true
    · rw [if_pos c] at e
      cases e
      obtain ⟨a, vs, ea, qa, ra⟩ := rx
      exact ⟨a, vs, by rw [ea], .inr ⟨.inl (.inl qa), q _ _ (.plain ⟨a, vs, rfl, qa, ra.nil_of c⟩)⟩⟩
    · rw [if_neg c] at e; cases e
  | lst xs =>
    replace e : (if pls xs = true then some (D.tup xs) else none) = some z := e
    by_cases c : pls xs = true
    · rw [if_pos c] at e
      cases e
      obtain ⟨a, vs, ea, qa, ra, _⟩ := rx
      exact ⟨a, vs, by rw [ea], .inl ⟨qa.sq, fun p n => q _ _ (new_tup ra n)⟩⟩
    · rw [if_neg c] at e; cases e
  | own xs =>
    replace e : (if pls xs = true then some (D.tup xs) else none) = some z := e
    by_cases c : pls xs = true
    · rw [if_pos c] at e
      cases e
      obtain ⟨a, vs, g, ea, qa, ra, _⟩ := rx
      exact ⟨a, vs, by rw [ea], .inl ⟨.of qa, fun p n => q _ _ (new_tup (ra.nil_of c) n)⟩⟩
    · rw [if_neg c] at e; cases e
  | non => cases e
  | bl b => cases e
  | int j => cases e
  | str s => cases e
  | xo _ _ _ => cases e
  | odc _ _ _ => cases e
  | fdc _ _ _ => cases e
  | fn => cases e
def dList (x : D) : Option D := match seqD x with
  | some xs => if pls xs = true then some (.own xs) else none
  | none => none
def rList (K : PySem.W.Frag) : List V → Hp → VK → Prop := fun xs H Q => ∃ p ys, xs = [.ref p] ∧ (SqL K H p ys ∨ SqT K H p ys) ∧ ∀ l, H l = none → Q (.ref l) (upd H l (.lst ys))
theorem ro_list {K : PySem.W.Frag} : Ro1 K (r1' (rList K)) dList := fun H x dx fx z Q rx e q => by
  unfold dList at e
  cases e1 : seqD dx with
  | none => rw [e1] at e; cases e
  | some xs =>
    rw [e1] at e
    replace e : (if pls xs = true then some (D.own xs) else none) = some z := e
    by_cases c : pls xs = true
    · rw [if_pos c] at e
      cases e
      obtain ⟨a, vs, g, ea, qa, ra⟩ := seqD_rv rx e1
      exact ⟨a, vs, by rw [ea], qa, fun p n => q _ _ (new_own (ra.nil_of c) n)⟩
    · rw [if_neg c] at e; cases e
def dInt : D → Option D
  | .int i => some (.int i)
  | .bl b => some (.int (if b then 1 else 0))
  | _ => none
def rInt : List V → Hp → VK → Prop := fun xs H Q => (∃ i, xs = [.int i] ∧ Q (.int i) H) ∨ ∃ k, xs = [.bl k] ∧ Q (.int (if k then 1 else 0)) H
theorem ro_int {K : PySem.W.Frag} : Ro1 K (r1' rInt) dInt := fun H x dx fx z Q rx e q => by
  cases dx with
  | int i => cases e; exact .inl ⟨_, by rw [rx.1], q _ _ (.plain ⟨rfl, rfl⟩)⟩
  | bl i => cases e; exact .inr ⟨i, by rw [rx.1], q _ _ (.plain ⟨rfl, rfl⟩)⟩
  | non => cases e
  | str i => cases e
  | tup i => cases e
  | lst i => cases e
  | own i => cases e
  | xo _ _ _ => cases e
  | odc _ _ _ => cases e
  | fdc _ _ _ => cases e
  | fn => cases e
/-- a value's truth -/
def truD : D → Option Bool
  | .non => some false
  | .bl b => some b
  | .int i => some (i != 0)
  | .str s => if s.length ≤ sizeLine then some ((s.length : Int) != 0) else none
  | x => (seqD x).map fun xs => !xs.isEmpty
theorem tru_rv {K : PySem.W.Frag} {H : Hp} {d : D} {v : V} {f : List Addr} {b : Bool} (r : RV K H d v f) (e : truD d = some b) : TruV K v H b := by
  have seqs : ∀ {d : D} {f : List Addr}, RV K H d v f → ((seqD d).map fun xs => !xs.isEmpty) = some b → TruV K v H b := fun {d f} rx h1 => by
    obtain ⟨xs, h2, h3⟩ := Option.map_eq_some_iff.mp h1
    subst h3
    obtain ⟨a, vs, g, ea, qa, ra⟩ := seqD_rv rx h2
    subst ea
    have hl : (!xs.isEmpty) = !vs.isEmpty := by
      have := ra.length
      cases xs <;> cases vs <;> first | rfl | simp at this
    rcases qa with qa | qa
    · exact .inl ⟨vs, qa, hl⟩
    · exact .inr (.inl ⟨vs, qa, hl⟩)
  cases d with
  | non => cases e; rw [r.1]; rfl
  | bl b => cases e; rw [r.1]; rfl
  | int i => cases e; rw [r.1]; rfl
  | str s =>
    replace e : (if s.length ≤ sizeLine then some ((s.length : Int) != 0) else none) = some b := e
    by_cases c : s.length ≤ sizeLine
    · rw [if_pos c] at e
      cases e
      rw [r.1]
      exact ⟨c, rfl⟩
    · rw [if_neg c] at e; cases e
  | tup xs => exact seqs r e
  | lst xs => exact seqs r e
  | own xs => exact seqs r e
  | xo _ _ _ => cases e
  | odc _ _ _ => cases e
  | fdc _ _ _ => cases e
  | fn => cases e
/-- isinstance(x, T), T a built-in type -/
def tyD : D → String
  | .non => "NoneType"
  | .bl _ => "bool"
  | .int _ => "int"
  | .str _ => "str"
  | .tup _ => "tuple"
  | .lst _ => "list"
  | .own _ => "list"
  | _ => ""
def hasTy : D → Bool
  | .xo _ _ _ => false
  | .odc _ _ _ => false
  | .fdc _ _ _ => false
  | .fn => false
  | _ => true
theorem ty_rv {K : PySem.W.Frag} {H : Hp} {d : D} {v : V} {f : List Addr} (ht : hasTy d = true) (r : RV K H d v f) : TyX K H v (.type (tyD d)) := by
  cases d with
  | non => rw [r.1]; exact .base .non
  | bl b => rw [r.1]; exact .base (.bl b)
  | int i => rw [r.1]; exact .base (.int i)
  | str x => rw [r.1]; exact .base (.str x)
  | tup xs =>
    obtain ⟨a, vs, e, q, _⟩ := r
    subst e
    exact .base (.tup q)
  | lst xs =>
    obtain ⟨a, vs, e, q, _⟩ := r
    subst e
    rcases q with ⟨o, q⟩ | ⟨o, its, n, q, c, _⟩
    · exact .base (.frz q)
    · exact .kList q c
  | own xs =>
    obtain ⟨a, vs, g, e, q, _⟩ := r
    subst e
    exact .base (.lst q)
  | xo _ _ _ => cases ht
  | odc _ _ _ => cases ht
  | fdc _ _ _ => cases ht
  | fn => cases ht
def dIsi (T : String) (x : D) : Option D := if hasTy x = true then (kitB (tyD x) T).map .bl else none
def rIsiC (K : PySem.W.Frag) (T : String) : V → Hp → VK → Prop := fun x H Q => rIsi K [x, .ty T] H Q
theorem ro_isi {K : PySem.W.Frag} (T : String) : Ro1 K (rIsiC K T) (dIsi T) := fun H x dx fx z Q rx e q => by
  unfold dIsi at e
  by_cases c : hasTy dx = true
  · rw [if_pos c] at e
    obtain ⟨b, h1, h2⟩ := Option.map_eq_some_iff.mp e
    subst h2
    exact ⟨x, .ty T, _, _, b, rfl, .ty T, ty_rv c rx, kit_ty h1, q _ _ (.plain ⟨rfl, rfl⟩)⟩
  · rw [if_neg c] at e; cases e
end Pm

set_option autoImplicit true
namespace Pm
open PySem PySem.Spec L2
variable {u0 : Unit} [Tab0 u0]

/-! ### expressions of two parts -/
section
variable {X : Cx} {Eh : WX} {a b : Expr} {pos : Pos} {op : Operator} {cop : CmpOp} {r : R2} {d : D → D → Option D} {f g : PM D} {p q : Ev → Option D} {j : Nat}
theorem bin_gg (ho : OpR X (binaryOp op) r) (hr : Ro2 X.K r d) (ha : PE X a (tP X.K X.mg Eh f)) (hb : PE X b (tP X.K X.mg Eh g)) : PE X (.BinOp a op b pos) (tP X.K X.mg Eh (x2gg d f g)) := (pe_op ho ha hb).imp fun _ _ _ h => imp2gg hr h
theorem bin_gp (ho : OpR X (binaryOp op) r) (hr : Ro2 X.K r d) (ha : PE X a (tP X.K X.mg Eh f)) (hb : PE X b (tB X.K q)) : PE X (.BinOp a op b pos) (tP X.K X.mg Eh (x2gp d f q)) := (pe_op ho ha hb).imp fun _ _ _ h => imp2gp hr h
theorem bin_vg (ho : OpR X (binaryOp op) r) (hr : Ro2 X.K r d) (ha : PE X a (tV X.K j)) (hb : PE X b (tP X.K X.mg Eh g)) : PE X (.BinOp a op b pos) (tP X.K X.mg Eh (x2vg d j g)) := (pe_op ho ha hb).imp fun _ _ _ h => imp2vg hr h
theorem bin_pp (ho : OpR X (binaryOp op) r) (hr : Ro2 X.K r d) (ha : PE X a (tB X.K p)) (hb : PE X b (tB X.K q)) : PE X (.BinOp a op b pos) (tP X.K X.mg Eh (x2pp d p q)) := (pe_op ho ha hb).imp fun _ _ _ h => imp2pp hr h
theorem cmp_gg (ho : OpR X (compareOp cop) r) (hr : Ro2 X.K r d) (ha : PE X a (tP X.K X.mg Eh f)) (hb : PE X b (tP X.K X.mg Eh g)) (hm : behindInMarks cop b = false) : PE X (.Compare a [cop] [b] pos) (tP X.K X.mg Eh (x2gg d f g)) := (pe_cmpR ho ha hb hm).imp fun _ _ _ h => imp2gg hr h
theorem cmp_gp (ho : OpR X (compareOp cop) r) (hr : Ro2 X.K r d) (ha : PE X a (tP X.K X.mg Eh f)) (hb : PE X b (tB X.K q)) (hm : behindInMarks cop b = false) : PE X (.Compare a [cop] [b] pos) (tP X.K X.mg Eh (x2gp d f q)) := (pe_cmpR ho ha hb hm).imp fun _ _ _ h => imp2gp hr h
theorem cmp_vg (ho : OpR X (compareOp cop) r) (hr : Ro2 X.K r d) (ha : PE X a (tV X.K j)) (hb : PE X b (tP X.K X.mg Eh g)) (hm : behindInMarks cop b = false) : PE X (.Compare a [cop] [b] pos) (tP X.K X.mg Eh (x2vg d j g)) := (pe_cmpR ho ha hb hm).imp fun _ _ _ h => imp2vg hr h
theorem cmp_pp (ho : OpR X (compareOp cop) r) (hr : Ro2 X.K r d) (ha : PE X a (tB X.K p)) (hb : PE X b (tB X.K q)) (hm : behindInMarks cop b = false) : PE X (.Compare a [cop] [b] pos) (tP X.K X.mg Eh (x2pp d p q)) := (pe_cmpR ho ha hb hm).imp fun _ _ _ h => imp2pp hr h
theorem ix_gg (ha : PE X a (tP X.K X.mg Eh f)) (hb : PE X b (tP X.K X.mg Eh g)) (hs : PlainIx b) : PE X (.Subscript a b pos) (tP X.K X.mg Eh (x2gg dIx f g)) := (pe_ix ix_seq ha hb hs).imp fun _ _ _ h => imp2gg ro_ix h
theorem ix_gp (ha : PE X a (tP X.K X.mg Eh f)) (hb : PE X b (tB X.K q)) (hs : PlainIx b) : PE X (.Subscript a b pos) (tP X.K X.mg Eh (x2gp dIx f q)) := (pe_ix ix_seq ha hb hs).imp fun _ _ _ h => imp2gp ro_ix h
theorem ix_vg (ha : PE X a (tV X.K j)) (hb : PE X b (tP X.K X.mg Eh g)) (hs : PlainIx b) : PE X (.Subscript a b pos) (tP X.K X.mg Eh (x2vg dIx j g)) := (pe_ix ix_seq ha hb hs).imp fun _ _ _ h => imp2vg ro_ix h
theorem ix_pp (ha : PE X a (tB X.K p)) (hb : PE X b (tB X.K q)) (hs : PlainIx b) : PE X (.Subscript a b pos) (tP X.K X.mg Eh (x2pp dIx p q)) := (pe_ix ix_seq ha hb hs).imp fun _ _ _ h => imp2pp ro_ix h
theorem neg_g (ha : PE X a (tP X.K X.mg Eh f)) : PE X (.UnaryOp .USub a pos) (tP X.K X.mg Eh (x1g dNeg f)) := (pe_un un_neg ha).imp fun _ _ _ h => imp1g ro_neg h

/-! ### built-ins of one argument -/
variable {x : Str} {pp : Pos} {id T : String} {rr : List V → Hp → VK → Prop} {d1 : D → Option D}
theorem tCons_nil {ta : TE} {s : L2.St} {H : Hp} {Q : VK} (h : ta s H fun x H1 => rr [x] H1 Q) : tCB rr (tCons ta tNil) s H Q := h
theorem bi_g (hc : CallR X (.builtin id) rr) (hr : Ro1 X.K (r1' rr) d1) (hg : Gl X x) (hm : X.mg x = none) (hv : bootBuiltins x = some (.builtin id)) (ha : PE X a (tP X.K X.mg Eh f)) (hn : x ≠ "__name__" := by decide) (hdb : (x == ("__debug__" : Str)) = false := by decide)
    (he : starEach [a] X.env = (false, eval a X.env) :: starEach [] X.env := by rfl) (hpl : (backTo pos (starEach [] X.env)).any (·.1) = false := by rfl) : PE X (.Call (.Name x pp) [a] [] pos) (tP X.K X.mg Eh (x1g d1 f)) :=
  (pe_callB hc hg hm hv (pa_cons ha pa_nil he) hn hdb he hpl).imp fun _ _ _ h => imp1g hr h
theorem bi_p (hc : CallR X (.builtin id) rr) (hr : Ro1 X.K (r1' rr) d1) (hg : Gl X x) (hm : X.mg x = none) (hv : bootBuiltins x = some (.builtin id)) (ha : PE X a (tB X.K q)) (hn : x ≠ "__name__" := by decide) (hdb : (x == ("__debug__" : Str)) = false := by decide)
    (he : starEach [a] X.env = (false, eval a X.env) :: starEach [] X.env := by rfl) (hpl : (backTo pos (starEach [] X.env)).any (·.1) = false := by rfl) : PE X (.Call (.Name x pp) [a] [] pos) (tP X.K X.mg Eh (x1p d1 q)) :=
  (pe_callB hc hg hm hv (pa_cons ha pa_nil he) hn hdb he hpl).imp fun _ _ _ h => imp1p hr h
theorem bt_g (hc : CallR X (.type T) rr) (hr : Ro1 X.K (r1' rr) d1) (hg : Gl X x) (hm : X.mg x = none) (hv : bootBuiltins x = some (.type T)) (ha : PE X a (tP X.K X.mg Eh f)) (hn : x ≠ "__name__" := by decide) (hdb : (x == ("__debug__" : Str)) = false := by decide)
    (he : starEach [a] X.env = (false, eval a X.env) :: starEach [] X.env := by rfl) (hpl : (backTo pos (starEach [] X.env)).any (·.1) = false := by rfl) : PE X (.Call (.Name x pp) [a] [] pos) (tP X.K X.mg Eh (x1g d1 f)) :=
  (pe_callTy hc hg hm hv (pa_cons ha pa_nil he) hn hdb he hpl).imp fun _ _ _ h => imp1g hr h
theorem bt_p (hc : CallR X (.type T) rr) (hr : Ro1 X.K (r1' rr) d1) (hg : Gl X x) (hm : X.mg x = none) (hv : bootBuiltins x = some (.type T)) (ha : PE X a (tB X.K q)) (hn : x ≠ "__name__" := by decide) (hdb : (x == ("__debug__" : Str)) = false := by decide)
    (he : starEach [a] X.env = (false, eval a X.env) :: starEach [] X.env := by rfl) (hpl : (backTo pos (starEach [] X.env)).any (·.1) = false := by rfl) : PE X (.Call (.Name x pp) [a] [] pos) (tP X.K X.mg Eh (x1p d1 q)) :=
  (pe_callTy hc hg hm hv (pa_cons ha pa_nil he) hn hdb he hpl).imp fun _ _ _ h => imp1p hr h
/-- isinstance(e, T) -/
theorem isi_g {y : Str} {py : Pos} (hg : Gl X "isinstance") (hm : X.mg "isinstance" = none) (hgy : Gl X y) (hmy : X.mg y = none) (hvy : bootBuiltins y = some (.type T)) (ha : PE X a (tP X.K X.mg Eh f)) (hn : y ≠ "__name__" := by decide) (hdb : (y == ("__debug__" : Str)) = false := by decide)
    (he : starEach [a, .Name y py] X.env = (false, eval a X.env) :: starEach [.Name y py] X.env := by rfl) (he2 : starEach [.Name y py] X.env = (false, eval (.Name y py) X.env) :: starEach [] X.env := by rfl)
    (hpl : (backTo pos (starEach [.Name y py] X.env)).any (·.1) = false := by rfl) : PE X (.Call (.Name "isinstance" pp) [a, .Name y py] [] pos) (tP X.K X.mg Eh (x1g (dIsi T) f)) :=
  (pe_callB call_isi hg hm (by decide +kernel) (pa_cons ha (pa_cons (pe_bltn (v := .ty T) hgy hmy hvy rfl hn hdb) pa_nil he2) he) (by decide) (by decide) he hpl).imp fun _ _ _ h => imp1g (ro_isi T) h
theorem isi_p {y : Str} {py : Pos} (hg : Gl X "isinstance") (hm : X.mg "isinstance" = none) (hgy : Gl X y) (hmy : X.mg y = none) (hvy : bootBuiltins y = some (.type T)) (ha : PE X a (tB X.K q)) (hn : y ≠ "__name__" := by decide) (hdb : (y == ("__debug__" : Str)) = false := by decide)
    (he : starEach [a, .Name y py] X.env = (false, eval a X.env) :: starEach [.Name y py] X.env := by rfl) (he2 : starEach [.Name y py] X.env = (false, eval (.Name y py) X.env) :: starEach [] X.env := by rfl)
    (hpl : (backTo pos (starEach [.Name y py] X.env)).any (·.1) = false := by rfl) : PE X (.Call (.Name "isinstance" pp) [a, .Name y py] [] pos) (tP X.K X.mg Eh (x1p (dIsi T) q)) :=
  (pe_callB call_isi hg hm (by decide +kernel) (pa_cons ha (pa_cons (pe_bltn (v := .ty T) hgy hmy hvy rfl hn hdb) pa_nil he2) he) (by decide) (by decide) he hpl).imp fun _ _ _ h => imp1p (ro_isi T) h
end

/-! ### displays -/
def mkTup (ds : List D) : Option D := if ds.length ≤ sizeLine then some (.tup ds) else none
def mkOwn (ds : List D) : Option D := if ds.length ≤ sizeLine then some (.own ds) else none
def xTup (f : PM (List D)) : PM D := fun w => (f w).bind fun ds w1 => back (mkTup ds) w1
def xOwn (f : PM (List D)) : PM D := fun w => (f w).bind fun ds w1 => back (mkOwn ds) w1
section
variable {X : Cx} {Eh : WX} {es : List Expr} {pos : Pos} {f : PM (List D)}
include u0 in
theorem hold_upd {K : PySem.W.Frag} {H : Hp} {w : Ev} {s : L2.St} {ds : List D} {vs : List V} {F : List Addr} {p : Addr} {o : HO} (h : Hold K H w s ds vs F) (n : H p = none) : Hold K (upd H p o) w s ds vs F := by
  obtain ⟨ft, fe, h1, h2, q, nd⟩ := h
  have k : Kp [] H (upd H p o) := .new n
  exact ⟨ft, fe, RVs.kp k (fun _ z => nomatch z) _ _ _ (fun _ _ z => nomatch z) h1, h2.kp k (fun _ z => nomatch z) (fun _ _ z => nomatch z), q, nd⟩
theorem stp_upd {H : Hp} {F : List Addr} {p : Addr} {o : HO} (n : H p = none) : Stp F H F (upd H p o) := ⟨(Kp.new n).mono (fun _ z => nomatch z), fun a m => .inl m⟩
theorem stp_upd' {H : Hp} {F : List Addr} {p : Addr} {o : HO} (n : H p = none) : Stp F H (p :: F) (upd H p o) := ⟨(Kp.new n).mono (fun _ z => nomatch z), fun a m => (List.mem_cons.mp m).elim (fun e => .inr (.inl (by rw [e]; exact n))) .inl⟩
include u0 in
theorem hold_tup {K : PySem.W.Frag} {H : Hp} {w : Ev} {s : L2.St} {ds : List D} {vs : List V} {F : List Addr} {p : Addr} (h : Hold K H w s ds vs F) (n : H p = none) : Hold K (upd H p (.tup vs)) w s [.tup ds] [.ref p] F := by
  obtain ⟨ft, fe, h1, h2, q, nd⟩ := hold_upd (o := .tup vs) h n
  exact ⟨ft, fe, RVs.one ⟨p, vs, rfl, upd_same, h1⟩, h2, q, nd⟩
include u0 in
theorem hold_own {K : PySem.W.Frag} {H : Hp} {w : Ev} {s : L2.St} {ds : List D} {vs : List V} {F : List Addr} {p : Addr} (h : Hold K H w s ds vs F) (n : H p = none) : Hold K (upd H p (.lst vs)) w s [.own ds] [.ref p] (p :: F) := by
  have hm := h.mut
  obtain ⟨ft, fe, h1, h2, q, nd⟩ := hold_upd (o := .lst vs) h n
  refine ⟨p :: ft, fe, RVs.one ⟨p, vs, ft, rfl, upd_same, h1, rfl⟩, h2, q.cons p, List.nodup_cons.mpr ⟨fun m => ?_, nd⟩⟩
  have := hm p m
  rw [n] at this
  exact this
theorem hold_len {K : PySem.W.Frag} {H : Hp} {w : Ev} {s : L2.St} {ds : List D} {vs : List V} {F : List Addr} (h : Hold K H w s ds vs F) : ds.length = vs.length := by
  obtain ⟨ft, fe, h1, h2, q, nd⟩ := h
  exact h1.length
theorem pp_tup {x1} (h : PA X es (tA X.K X.mg Eh f)) : PE X (.Tuple es x1 pos) (tP X.K X.mg Eh (xTup f)) := (pe_tup h).imp fun s H Q ⟨w, F, hold, q⟩ => by
  refine tA_run hold (Stp.refl fun _ m => m) q fun ds w2 vs H2 F2 e st h2 q2 => ?_
  replace h2 : Hold X.K H2 w2 s ds vs F2 := h2
  obtain ⟨z, hz, q3⟩ := back_po q2
  unfold mkTup at hz
  by_cases c : ds.length ≤ sizeLine
  · rw [if_pos c] at hz
    cases hz
    exact ⟨by rw [← hold_len h2]; exact c, fun p n => q3 _ _ F2 (st.trans (stp_upd n)) (hold_tup h2 n)⟩
  · rw [if_neg c] at hz; cases hz
theorem pp_own (h : PA X es (tA X.K X.mg Eh f)) : PE X (.List es pos) (tP X.K X.mg Eh (xOwn f)) := (pe_lst h).imp fun s H Q ⟨w, F, hold, q⟩ => by
  refine tA_run hold (Stp.refl fun _ m => m) q fun ds w2 vs H2 F2 e st h2 q2 => ?_
  replace h2 : Hold X.K H2 w2 s ds vs F2 := h2
  obtain ⟨z, hz, q3⟩ := back_po q2
  unfold mkOwn at hz
  by_cases c : ds.length ≤ sizeLine
  · rw [if_pos c] at hz
    cases hz
    exact ⟨by rw [← hold_len h2]; exact c, fun p n => q3 _ _ _ (st.trans (stp_upd' n)) (hold_own h2 n)⟩
  · rw [if_neg c] at hz; cases hz
end

/-! ### tests -/
def backB (o : Option Bool) (w : Ev) : Rs Bool := match o with
  | some b => .ok b w
  | none => .bad
@[simp] theorem backB_some (b : Bool) (w : Ev) : backB (some b) w = .ok b w := rfl
@[simp] theorem backB_none (w : Ev) : backB none w = .bad := rfl
def blD : D → Option Bool
  | .bl b => some b
  | _ => none
/-- a bool's own truth; any value's -/
def tBl (f : PM D) : PM Bool := fun w => (f w).bind fun d w1 => backB (blD d) w1
def tTru (f : PM D) : PM Bool := fun w => (f w).bind fun d w1 => backB (truD d) w1
def tTruP (q : Ev → Option D) : PM Bool := fun w => backB ((q w).bind truD) w
def tNotF (f : PM Bool) : PM Bool := fun w => (f w).bind fun b w1 => .ok (!b) w1
def tAndF (f g : PM Bool) : PM Bool := fun w => (f w).bind fun b w1 => if b = true then g w1 else .ok false w1
def tOrF (f g : PM Bool) : PM Bool := fun w => (f w).bind fun b w1 => if b = true then .ok true w1 else g w1
/-- a test as a value -/
def xBl (f : PM Bool) : PM D := fun w => (f w).bind fun b w1 => .ok (.bl b) w1
section
variable {X : Cx} {Eh : WX} {s : L2.St} {H : Hp}
theorem backB_po {F : List Addr} {o : Option Bool} {w : Ev} {Q : Bool → Ev → Prop} (h : Po X.K X.mg Eh H F s (backB o w) Q) : ∃ z, o = some z ∧ Q z w := by
  cases o with
  | none => exact h.elim
  | some z => exact ⟨z, rfl, h⟩
theorem bl_rv {K : PySem.W.Frag} {d : D} {v : V} {f : List Addr} {b : Bool} (r : RV K H d v f) (e : blD d = some b) : v = .bl b := by
  cases d with
  | bl c => cases e; exact r.1
  | non => cases e
  | int i => cases e
  | str x => cases e
  | tup x => cases e
  | lst x => cases e
  | own x => cases e
  | xo _ _ _ => cases e
  | odc _ _ _ => cases e
  | fdc _ _ _ => cases e
  | fn => cases e
theorem tBl_imp {f : PM D} {Q : Bool → Hp → Prop} (h : tT X.K X.mg Eh (tBl f) s H Q) : tP X.K X.mg Eh f s H fun x H1 => ∃ k, x = .bl k ∧ Q k H1 := by
  obtain ⟨w, F, hold, q⟩ := h
  refine tP_run hold (Stp.refl fun _ m => m) q fun d w2 v H2 F2 e st h2 q2 => ?_
  obtain ⟨z, hz, q3⟩ := backB_po q2
  obtain ⟨fx, rx, _⟩ := Hold.one h2
  obtain ⟨F3, h3, sub⟩ := h2.drop0
  exact ⟨z, bl_rv rx hz, q3 H2 F3 (st.trans (Stp.refl sub)) h3⟩
theorem tTru_imp {f : PM D} {Q : Bool → Hp → Prop} (h : tT X.K X.mg Eh (tTru f) s H Q) : tP X.K X.mg Eh f s H fun x H1 => ∃ k, TruV X.K x H1 k ∧ Q k H1 := by
  obtain ⟨w, F, hold, q⟩ := h
  refine tP_run hold (Stp.refl fun _ m => m) q fun d w2 v H2 F2 e st h2 q2 => ?_
  obtain ⟨z, hz, q3⟩ := backB_po q2
  obtain ⟨fx, rx, _⟩ := Hold.one h2
  obtain ⟨F3, h3, sub⟩ := h2.drop0
  exact ⟨z, tru_rv rx hz, q3 H2 F3 (st.trans (Stp.refl sub)) h3⟩
theorem tTruP_imp {p : Ev → Option D} {Q : Bool → Hp → Prop} (h : tT X.K X.mg Eh (tTruP p) s H Q) : tB X.K p s H fun x H1 => ∃ k, TruV X.K x H1 k ∧ Q k H1 := by
  obtain ⟨w, F, hold, q⟩ := h
  obtain ⟨z, hz, q3⟩ := backB_po q
  obtain ⟨d, hd, hz⟩ := Option.bind_eq_some_iff.mp hz
  exact tB_run hold hd fun v f r m => ⟨z, tru_rv r hz, q3 H F (Stp.refl fun _ m => m) hold⟩
variable {a b e : Expr} {pos : Pos} {cop : CmpOp} {r : R2} {d : D → D → Option D} {f g : PM D} {p q : Ev → Option D} {j : Nat} {rest : List Expr}
theorem pt_gg (ho : OpR X (compareOp cop) r) (hr : Ro2 X.K r d) (ha : PE X a (tP X.K X.mg Eh f)) (hb : PE X b (tP X.K X.mg Eh g)) (hm : behindInMarks cop b = false) : PT X (.Compare a [cop] [b] pos) (tT X.K X.mg Eh (tBl (x2gg d f g))) := (pt_cmpR ho ha hb hm).imp fun _ _ _ h => imp2gg hr (tBl_imp h)
theorem pt_gp (ho : OpR X (compareOp cop) r) (hr : Ro2 X.K r d) (ha : PE X a (tP X.K X.mg Eh f)) (hb : PE X b (tB X.K q)) (hm : behindInMarks cop b = false) : PT X (.Compare a [cop] [b] pos) (tT X.K X.mg Eh (tBl (x2gp d f q))) := (pt_cmpR ho ha hb hm).imp fun _ _ _ h => imp2gp hr (tBl_imp h)
theorem pt_vg (ho : OpR X (compareOp cop) r) (hr : Ro2 X.K r d) (ha : PE X a (tV X.K j)) (hb : PE X b (tP X.K X.mg Eh g)) (hm : behindInMarks cop b = false) : PT X (.Compare a [cop] [b] pos) (tT X.K X.mg Eh (tBl (x2vg d j g))) := (pt_cmpR ho ha hb hm).imp fun _ _ _ h => imp2vg hr (tBl_imp h)
theorem pt_pp (ho : OpR X (compareOp cop) r) (hr : Ro2 X.K r d) (ha : PE X a (tB X.K p)) (hb : PE X b (tB X.K q)) (hm : behindInMarks cop b = false) : PT X (.Compare a [cop] [b] pos) (tT X.K X.mg Eh (tBl (x2pp d p q))) := (pt_cmpR ho ha hb hm).imp fun _ _ _ h => imp2pp hr (tBl_imp h)
theorem pt_tru (ha : PE X a (tP X.K X.mg Eh f)) (he : ∀ whole, PySem.isTrue a X.env whole = (do let v ← whole; standAt a.pos; holding [v] (truthy v)) := by intro _; rfl) : PT X a (tT X.K X.mg Eh (tTru f)) := (pt_truth ha he).imp fun _ _ _ h => tTru_imp h
theorem pt_truP (ha : PE X a (tB X.K p)) (he : ∀ whole, PySem.isTrue a X.env whole = (do let v ← whole; standAt a.pos; holding [v] (truthy v)) := by intro _; rfl) : PT X a (tT X.K X.mg Eh (tTruP p)) := (pt_truth ha he).imp fun _ _ _ h => tTruP_imp h
theorem pt_no {t : PM Bool} (ha : PT X a (tT X.K X.mg Eh t)) : PT X (.UnaryOp .Not a pos) (tT X.K X.mg Eh (tNotF t)) := (pt_not ha).imp fun s H Q ⟨w, F, hold, q⟩ => by
  refine tT_run hold (Stp.refl fun _ m => m) q fun c w2 H2 F2 e st h2 q2 => ?_
  exact q2 H2 F2 st h2
theorem tT_two {t : PM Bool} {k : Bool → Ev → Rs Bool} {Q : Bool → Hp → Prop} {R : Bool → Hp → Prop} {w : Ev} {F : List Addr} (hold : Hold X.K H w s [] [] F)
    (q : Po X.K X.mg Eh H F s ((t w).bind k) fun b w' => ∀ H' F', Stp F H F' H' → Hold X.K H' w' s [] [] F' → Q b H')
    (c : ∀ b w2 H2 F2, Stp F H F2 H2 → Hold X.K H2 w2 s [] [] F2 → Po X.K X.mg Eh H F s (k b w2) (fun b w' => ∀ H' F', Stp F H F' H' → Hold X.K H' w' s [] [] F' → Q b H') → R b H2) : tT X.K X.mg Eh t s H R :=
  tT_run hold (Stp.refl fun _ m => m) q fun b w2 H2 F2 e st h2 q2 => c b w2 H2 F2 st h2 q2
theorem po_back {H2 : Hp} {F F2 : List Addr} {w2 : Ev} {u : PM Bool} {Q : Bool → Hp → Prop} (st : Stp F H F2 H2) (h2 : Hold X.K H2 w2 s [] [] F2)
    (q : Po X.K X.mg Eh H F s (u w2) fun b w' => ∀ H' F', Stp F H F' H' → Hold X.K H' w' s [] [] F' → Q b H') : tT X.K X.mg Eh u s H2 Q := by
  refine ⟨w2, F2, h2, ?_⟩
  cases e : u w2 with
  | ok b w3 =>
    rw [e] at q
    intro H' F' st' h'
    exact q H' F' (st.trans st') h'
  | ex c fs w3 =>
    rw [e] at q
    intro cls od H' F' st' h' x
    exact q cls od H' F' (st.trans st') h' x
  | bad => rw [e] at q; exact q
theorem pw_an {t u : PM Bool} (ha : PT X a (tT X.K X.mg Eh t)) (hb : PW X (.BoolOp .And (b :: rest) pos) (tT X.K X.mg Eh u)) : PW X (.BoolOp .And (a :: b :: rest) pos) (tT X.K X.mg Eh (tAndF t u)) := (pw_and ha hb).imp fun s H Q ⟨w, F, hold, q⟩ => by
  refine tT_two hold q fun c w2 H2 F2 st h2 q2 => ?_
  cases c with
  | true => rw [if_pos rfl] at q2 ⊢; exact po_back st h2 q2
  | false =>
    rw [if_neg Bool.false_ne_true] at q2 ⊢
    exact q2 H2 F2 st h2
theorem pw_orr {t u : PM Bool} (ha : PT X a (tT X.K X.mg Eh t)) (hb : PW X (.BoolOp .Or (b :: rest) pos) (tT X.K X.mg Eh u)) : PW X (.BoolOp .Or (a :: b :: rest) pos) (tT X.K X.mg Eh (tOrF t u)) := (pw_or ha hb).imp fun s H Q ⟨w, F, hold, q⟩ => by
  refine tT_two hold q fun c w2 H2 F2 st h2 q2 => ?_
  cases c with
  | true =>
    rw [if_pos rfl] at q2 ⊢
    exact q2 H2 F2 st h2
  | false => rw [if_neg Bool.false_ne_true] at q2 ⊢; exact po_back st h2 q2
end

/-! ### and, or, not, if .. else as values (bools) -/
def xAnd (f g : PM D) : PM D := fun w => (f w).bind fun d w1 => match blD d with
  | some true => g w1
  | some false => .ok (.bl false) w1
  | none => .bad
def xOr (f g : PM D) : PM D := fun w => (f w).bind fun d w1 => match blD d with
  | some true => .ok (.bl true) w1
  | some false => g w1
  | none => .bad
def dNot : D → Option D
  | .bl b => some (.bl (!b))
  | _ => none
def xIf (t : PM Bool) (f g : PM D) : PM D := fun w => (t w).bind fun b w1 => if b = true then f w1 else g w1
section
variable {X : Cx} {Eh : WX} {a b c : Expr} {pos : Pos} {f g : PM D} {t : PM Bool} {rest : List Expr}
theorem pe_back {s : L2.St} {H H2 : Hp} {F F2 : List Addr} {w2 : Ev} {u : PM D} {Q : VK} (st : Stp F H F2 H2) (h2 : Hold X.K H2 w2 s [] [] F2)
    (q : Po X.K X.mg Eh H F s (u w2) fun d w' => ∀ v H' F', Stp F H F' H' → Hold X.K H' w' s [d] [v] F' → Q v H') : tP X.K X.mg Eh u s H2 Q := by
  refine ⟨w2, F2, h2, ?_⟩
  cases e : u w2 with
  | ok b w3 =>
    rw [e] at q
    intro v H' F' st' h'
    exact q v H' F' (st.trans st') h'
  | ex c fs w3 =>
    rw [e] at q
    intro cls od H' F' st' h' x
    exact q cls od H' F' (st.trans st') h' x
  | bad => rw [e] at q; exact q
theorem pp_and (ha : PE X a (tP X.K X.mg Eh f)) (hb : PE X (.BoolOp .And (b :: rest) pos) (tP X.K X.mg Eh g)) : PE X (.BoolOp .And (a :: b :: rest) pos) (tP X.K X.mg Eh (xAnd f g)) := (pe_and ha hb).imp fun s H Q ⟨w, F, hold, q⟩ => by
  refine tP_run hold (Stp.refl fun _ m => m) q fun d w2 v H2 F2 e st h2 q2 => ?_
  obtain ⟨fx, rx, _⟩ := Hold.one h2
  cases eb : blD d with
  | none => rw [eb] at q2; exact q2.elim
  | some k =>
    rw [eb] at q2
    refine ⟨k, bl_rv rx eb, ?_⟩
    obtain ⟨F3, h3, sub⟩ := h2.drop0
    cases k with
    | true => rw [if_pos rfl]; exact pe_back (st.trans (Stp.refl sub)) h3 q2
    | false => rw [if_neg Bool.false_ne_true]; exact fin_new q2 st h2 (.plain ⟨rfl, rfl⟩)
theorem pp_or (ha : PE X a (tP X.K X.mg Eh f)) (hb : PE X (.BoolOp .Or (b :: rest) pos) (tP X.K X.mg Eh g)) : PE X (.BoolOp .Or (a :: b :: rest) pos) (tP X.K X.mg Eh (xOr f g)) := (pe_or ha hb).imp fun s H Q ⟨w, F, hold, q⟩ => by
  refine tP_run hold (Stp.refl fun _ m => m) q fun d w2 v H2 F2 e st h2 q2 => ?_
  obtain ⟨fx, rx, _⟩ := Hold.one h2
  cases eb : blD d with
  | none => rw [eb] at q2; exact q2.elim
  | some k =>
    rw [eb] at q2
    refine ⟨k, bl_rv rx eb, ?_⟩
    obtain ⟨F3, h3, sub⟩ := h2.drop0
    cases k with
    | true => rw [if_pos rfl]; exact fin_new q2 st h2 (.plain ⟨rfl, rfl⟩)
    | false => rw [if_neg Bool.false_ne_true]; exact pe_back (st.trans (Stp.refl sub)) h3 q2
theorem pp_not (ha : PE X a (tP X.K X.mg Eh f)) : PE X (.UnaryOp .Not a pos) (tP X.K X.mg Eh (x1g dNot f)) := (pe_not ha).imp fun s H Q ⟨w, F, hold, q⟩ => by
  refine tP_run hold (Stp.refl fun _ m => m) q fun d w2 v H2 F2 e st h2 q2 => ?_
  obtain ⟨z, hz, q3⟩ := back_po q2
  obtain ⟨fx, rx, _⟩ := Hold.one h2
  cases d with
  | bl k => cases hz; exact ⟨k, rx.1, fin_new q3 st h2 (.plain ⟨rfl, rfl⟩)⟩
  | non => cases hz
  | int i => cases hz
  | str x => cases hz
  | tup x => cases hz
  | lst x => cases hz
  | own x => cases hz
  | xo _ _ _ => cases hz
  | odc _ _ _ => cases hz
  | fdc _ _ _ => cases hz
  | fn => cases hz
theorem pp_if (hc : PT X c (tT X.K X.mg Eh t)) (ha : PE X a (tP X.K X.mg Eh f)) (hb : PE X b (tP X.K X.mg Eh g)) : PE X (.IfExp c a b pos) (tP X.K X.mg Eh (xIf t f g)) := (pe_ifExp hc ha hb).imp fun s H Q ⟨w, F, hold, q⟩ => by
  refine tT_run hold (Stp.refl fun _ m => m) q fun k w2 H2 F2 e st h2 q2 => ?_
  cases k with
  | true => rw [if_pos rfl] at q2 ⊢; exact pe_back st h2 q2
  | false => rw [if_neg Bool.false_ne_true] at q2 ⊢; exact pe_back st h2 q2
end
end Pm

set_option autoImplicit true
namespace Pm
open PySem PySem.Spec L2
variable {u0 : Unit} [Tab0 u0]

/-! ### slots that are owned: taken and put back -/
section
variable {K : PySem.W.Frag} {H : Hp} {w : Ev} {s : L2.St} {ds : List D} {vs : List V} {F : List Addr}
theorem Hold.takeS {j : Nat} {d : D} (h : Hold K H w s ds vs F) (e : slot w j = some d) : ∃ v, s[j]? = some (some v) ∧ Hold K H (w.set j none) s (d :: ds) (v :: vs) F := by
  obtain ⟨ft, fe, h1, h2, p, nd⟩ := h
  obtain ⟨v, f, g, a, b, c, q⟩ := h2.take (slot_some e)
  refine ⟨v, a, f ++ ft, g, ⟨v, vs, f, ft, rfl, b, h1, rfl⟩, c, ?_, nd⟩
  refine p.trans ((q.append_left ft).trans ?_)
  rw [← List.append_assoc]
  exact (List.perm_append_comm (l₁ := ft) (l₂ := f)).append_right g
theorem Hold.put {j : Nat} {d : D} {v : V} (h : Hold K H w s (d :: ds) (v :: vs) F) (hj : j < w.length) : ∃ F', Hold K H (w.set j (some d)) (s.set j (some v)) ds vs F' ∧ ∀ a ∈ F', a ∈ F := by
  obtain ⟨ft, fe, h1, h2, p, nd⟩ := h
  obtain ⟨v', r, f, g, e1, q, q2, e2⟩ := h1
  injection e1 with e3 e4
  subst e3; subst e4; subst e2
  obtain ⟨g2, h3, g3, pp⟩ := h2.put hj q
  have p2 : F.Perm (g ++ (g3 ++ g2)) := by
    refine p.trans ?_
    rw [List.append_assoc]
    refine (List.perm_append_comm (l₁ := f) (l₂ := g ++ fe)).trans ?_
    rw [List.append_assoc]
    exact ((List.perm_append_comm (l₁ := fe) (l₂ := f)).trans pp).append_left g
  refine ⟨g ++ g2, ⟨g, g2, q2, h3, .refl _, ?_⟩, fun a m => p2.mem_iff.mpr ?_⟩
  · have n2 := p2.nodup_iff.mp nd
    obtain ⟨n3, n4, n5⟩ := List.nodup_append.mp n2
    obtain ⟨n6, n7, n8⟩ := List.nodup_append.mp n4
    exact List.nodup_append.mpr ⟨n3, n7, fun a m b m2 e => n5 a m b (List.mem_append_right _ m2) e⟩
  · rcases List.mem_append.mp m with z | z
    · exact List.mem_append_left _ z
    · exact List.mem_append_right _ (List.mem_append_right _ z)
theorem set_self {α : Type} {s : List α} {j : Nat} {x : α} (h : s[j]? = some x) : s.set j x = s := by
  obtain ⟨hj, e⟩ := List.getElem?_eq_some_iff.mp h
  rw [← e]
  exact List.set_getElem_self hj
theorem Hold.putS {j : Nat} {d : D} {v : V} (h : Hold K H w s (d :: ds) (v :: vs) F) (e : s[j]? = some (some v)) : ∃ F', Hold K H (w.set j (some d)) s ds vs F' ∧ ∀ a ∈ F', a ∈ F := by
  have hl : s.length = w.length := by
    obtain ⟨ft, fe, h1, h2, p, nd⟩ := h
    exact h2.length
  have hj : j < w.length := by rw [← hl]; exact (List.getElem?_eq_some_iff.mp e).1
  obtain ⟨F', h', m⟩ := h.put hj
  rw [set_self e] at h'
  exact ⟨F', h', m⟩
theorem Hold.wipe (h : Hold K H w s ds vs F) (j : Nat) : ∃ F', Hold K H (w.set j none) s ds vs F' ∧ ∀ a ∈ F', a ∈ F := by
  obtain ⟨ft, fe, h1, h2, p, nd⟩ := h
  obtain ⟨g, g', h3, q⟩ := h2.wipe j
  have p2 : F.Perm (ft ++ (g' ++ g)) := p.trans (q.append_left ft)
  refine ⟨ft ++ g, ⟨ft, g, h1, h3, .refl _, ?_⟩, fun a m => p2.mem_iff.mpr ?_⟩
  · have n2 := p2.nodup_iff.mp nd
    obtain ⟨n3, n4, n5⟩ := List.nodup_append.mp n2
    obtain ⟨n6, n7, n8⟩ := List.nodup_append.mp n4
    exact List.nodup_append.mpr ⟨n3, n7, fun a m b m2 e => n5 a m b (List.mem_append_right _ m2) e⟩
  · rcases List.mem_append.mp m with z | z
    · exact List.mem_append_left _ z
    · exact List.mem_append_right _ (List.mem_append_right _ z)
theorem Hold.setNone {j : Nat} {x : Option V} (h : Hold K H w s ds vs F) (e : w[j]? = some none) : Hold K H w (s.set j x) ds vs F := by
  obtain ⟨ft, fe, h1, h2, p, nd⟩ := h
  exact ⟨ft, fe, h1, h2.setNone j x e, p, nd⟩
/-- an owned list that is held is written anew -/
theorem Hold.wr {xs xs' : List D} {a : Addr} {us' : List V} (h : Hold K H w s (.own xs :: ds) (.ref a :: vs) F) :
    ∃ us, H a = some (.lst us) ∧ xs.length = us.length ∧ a ∈ F ∧ Mut (H a) ∧
      ∀ xs' us', (∀ H', Kp [a] H H' → ∀ ft f, RVs K H' ds vs ft → RVs K H' xs us f → ∃ f', RVs K H' xs' us' f' ∧ ∃ g, (f ++ ft).Perm (g ++ f')) →
        ∃ F', Hold K (upd H a (.lst us')) w s [.own xs'] [.ref a] F' ∧ (∀ a ∈ F', a ∈ F) ∧ Stp F H F' (upd H a (.lst us')) := by
  obtain ⟨ft0, fe, h1, h2, p, nd⟩ := h
  obtain ⟨v', r, f0, ft, e1, q, q2, e2⟩ := h1
  injection e1 with e3 e4
  subst e3; subst e4; subst e2
  obtain ⟨a', us, f, e5, q5, r5, e6⟩ := q
  cases e5
  subst e6
  have ma : a ∈ F := p.mem_iff.mpr (List.mem_append_left _ (List.mem_append_left _ List.mem_cons_self))
  refine ⟨us, q5, r5.length, ma, by rw [q5]; trivial, fun xs' us' hx => ?_⟩
  have k : Kp [a] H (upd H a (.lst us')) := .put q5 pln_lst
  have mk : ∀ b ∈ [a], Mut (H b) := fun b m => by
    have e : b = a := by simpa using m
    rw [e, q5]; trivial
  have n0 : (a :: (f ++ (ft ++ fe))).Nodup := by
    have := p.nodup_iff.mp nd
    rw [List.append_assoc] at this
    exact this
  obtain ⟨na, n1⟩ := List.nodup_cons.mp n0
  have apart : ∀ (l : List Addr), (∀ b ∈ l, b ∈ f ++ (ft ++ fe)) → ∀ b ∈ l, b ∉ [a] := fun l m b mb z => by
    have e : b = a := by simpa using z
    exact na (e ▸ m b mb)
  have rf := RVs.kp k mk xs us f (apart f fun b m => List.mem_append_left _ m) r5
  have rt := RVs.kp k mk ds vs ft (apart ft fun b m => List.mem_append_right _ (List.mem_append_left _ m)) q2
  have re := h2.kp k mk (apart fe fun b m => List.mem_append_right _ (List.mem_append_right _ m))
  obtain ⟨f', r', g, pg⟩ := hx _ k ft f rt rf
  have pF : F.Perm (a :: (g ++ f') ++ fe) := by
    refine p.trans ?_
    show (a :: (f ++ ft) ++ fe).Perm (a :: (g ++ f') ++ fe)
    exact (pg.cons a).append_right fe
  refine ⟨a :: f' ++ fe, ⟨a :: f', fe, RVs.one ⟨a, us', f', rfl, upd_same, r', rfl⟩, re, .refl _, ?_⟩, ?_⟩
  · have n2 := pF.nodup_iff.mp nd
    rw [List.cons_append] at n2
    obtain ⟨nb, n3⟩ := List.nodup_cons.mp n2
    rw [List.append_assoc] at n3 nb
    obtain ⟨n4, n5, n6⟩ := List.nodup_append.mp n3
    rw [List.cons_append]
    exact List.nodup_cons.mpr ⟨fun z => nb (List.mem_append_right _ z), n5⟩
  · have sub : ∀ b ∈ a :: f' ++ fe, b ∈ F := fun b m => pF.mem_iff.mpr (by
      rw [List.cons_append] at m
      rcases List.mem_cons.mp m with z | z
      · rw [z]; exact List.mem_append_left _ List.mem_cons_self
      · rcases List.mem_append.mp z with z | z
        · exact List.mem_append_left _ (List.mem_cons_of_mem _ (List.mem_append_right _ z))
        · exact List.mem_append_right _ z)
    exact ⟨sub, k.mono fun b z => (by
      have e2 : b = a := by simpa using z
      rw [e2]; exact ma), fun b m => .inl (sub b m)⟩
theorem RVs.setD : ∀ {xs : List D} {us : List V} {f ft : List Addr} {k : Nat} {d : D} {v : V}, RVs K H xs us f → RV K H d v ft → k < xs.length → ∃ f', RVs K H (xs.set k d) (us.set k v) f' ∧ ∃ g, (f ++ ft).Perm (g ++ f')
  | [], us, f, ft, k, d, v, r, rv, hk => absurd hk (by simp)
  | x :: xs, us, f, ft, 0, d, v, r, rv, hk => by
    obtain ⟨u, t, f1, g1, e, q, q2, e2⟩ := r
    subst e; subst e2
    refine ⟨ft ++ g1, ⟨v, t, ft, g1, rfl, rv, q2, rfl⟩, f1, ?_⟩
    rw [List.append_assoc]
    exact (List.perm_append_comm (l₁ := g1) (l₂ := ft)).append_left f1
  | x :: xs, us, f, ft, k + 1, d, v, r, rv, hk => by
    obtain ⟨u, t, f1, g1, e, q, q2, e2⟩ := r
    subst e; subst e2
    obtain ⟨f', r', g, pg⟩ := RVs.setD (k := k) q2 rv (by simpa using hk)
    refine ⟨f1 ++ f', ⟨u, _, f1, f', rfl, q, r', rfl⟩, g, ?_⟩
    rw [List.append_assoc]
    refine (pg.append_left f1).trans ?_
    rw [← List.append_assoc, ← List.append_assoc]
    exact (List.perm_append_comm (l₁ := f1) (l₂ := g)).append_right f'
theorem RVs.erase : ∀ {xs : List D} {us : List V} {f : List Addr} {k : Nat} {d : D}, RVs K H xs us f → xs[k]? = some d → ∃ v f1 f2, us[k]? = some v ∧ RV K H d v f1 ∧ RVs K H (xs.eraseIdx k) (us.eraseIdx k) f2 ∧ f.Perm (f1 ++ f2)
  | [], us, f, k, d, r, hk => by simp at hk
  | x :: xs, us, f, 0, d, r, hk => by
    obtain ⟨u, t, f1, g1, e, q, q2, e2⟩ := r
    subst e; subst e2
    simp at hk
    subst hk
    exact ⟨u, f1, g1, rfl, q, q2, .refl _⟩
  | x :: xs, us, f, k + 1, d, r, hk => by
    obtain ⟨u, t, f1, g1, e, q, q2, e2⟩ := r
    subst e; subst e2
    obtain ⟨v, h1, h2, e3, r3, r4, p⟩ := RVs.erase (k := k) q2 (by simpa using hk)
    refine ⟨v, h1, f1 ++ h2, by simpa using e3, r3, ⟨u, _, f1, h2, rfl, q, r4, rfl⟩, ?_⟩
    refine (p.append_left f1).trans ?_
    rw [← List.append_assoc, ← List.append_assoc]
    exact (List.perm_append_comm (l₁ := f1) (l₂ := h1)).append_right h2
end

/-! ### statements -/
inductive Fl where
  | nx | bk | ct | rt (d : D)
def Agr (wr : List Nat) (s s' : L2.St) : Prop := s'.length = s.length ∧ ∀ i, i ∉ wr → s'[i]? = s[i]?
theorem Agr.refl (wr : List Nat) (s : L2.St) : Agr wr s s := ⟨rfl, fun _ _ => rfl⟩
theorem Agr.trans {wr : List Nat} {a b c : L2.St} (h : Agr wr a b) (h' : Agr wr b c) : Agr wr a c := ⟨h'.1.trans h.1, fun i n => (h'.2 i n).trans (h.2 i n)⟩
theorem Agr.mono {wr wr' : List Nat} {a b : L2.St} (h : Agr wr a b) (m : ∀ i ∈ wr, i ∈ wr') : Agr wr' a b := ⟨h.1, fun i n => h.2 i fun z => n (m i z)⟩
theorem Agr.set {wr : List Nat} {s : L2.St} {i : Nat} {x : Option V} (m : i ∈ wr) : Agr wr s (s.set i x) := ⟨List.length_set, fun k n => by
  rw [List.getElem?_set_ne]
  exact fun e => n (e ▸ m)⟩
section
variable (K : PySem.W.Frag) (mg : Str → Option Value) (Eh : WX) (wr : List Nat)
def PoS (H : Hp) (F : List Addr) (s : L2.St) (r : Rs Fl) (E : Ends) : Prop :=
  match r with
  | .ok .nx w => ∀ s' H' F', Stp F H F' H' → Agr wr s s' → Hold K H' w s' [] [] F' → E.nx s' H'
  | .ok .bk w => ∀ s' H' F', Stp F H F' H' → Agr wr s s' → Hold K H' w s' [] [] F' → E.bk s' H'
  | .ok .ct w => ∀ s' H' F', Stp F H F' H' → Agr wr s s' → Hold K H' w s' [] [] F' → E.ct s' H'
  | .ok (.rt d) w => ∀ v s' H' F', Stp F H F' H' → Agr wr s s' → Hold K H' w s' [d] [v] F' → E.rt v H'
  | .ex c fs w => ∀ cls od s' H' F', Stp F H F' H' → Agr wr s s' → Hold K H' w s' [] [] F' → ExR K mg H' c fs cls od → Eh cls od s' H'
  | .bad => False
def tS (f : PM Fl) : TS := fun E s H => ∃ w F, Hold K H w s [] [] F ∧ PoS K mg Eh wr H F s (f w) E
end
section
variable {X : Cx} {Eh : WX} {wr wr' wr1 wr2 : List Nat} {H H1 : Hp} {F F1 : List Addr} {s s1 : L2.St} {E : Ends}
/-- behind a step -/
theorem PoS.step {r : Rs Fl} (h : PoS X.K X.mg Eh wr H F s r E) (st : Stp F H F1 H1) (ag : Agr wr s s1) : PoS X.K X.mg Eh wr H1 F1 s1 r E := by
  cases r with
  | ok fl w =>
    cases fl with
    | nx => exact fun s' H' F' st' ag' h' => h s' H' F' (st.trans st') (ag.trans ag') h'
    | bk => exact fun s' H' F' st' ag' h' => h s' H' F' (st.trans st') (ag.trans ag') h'
    | ct => exact fun s' H' F' st' ag' h' => h s' H' F' (st.trans st') (ag.trans ag') h'
    | rt d => exact fun v s' H' F' st' ag' h' => h v s' H' F' (st.trans st') (ag.trans ag') h'
  | ex c fs w => exact fun cls od s' H' F' st' ag' h' x => h cls od s' H' F' (st.trans st') (ag.trans ag') h' x
  | bad => exact h
theorem PoS.weak {r : Rs Fl} (h : PoS X.K X.mg Eh wr' H F s r E) (m : ∀ i ∈ wr, i ∈ wr') : PoS X.K X.mg Eh wr H F s r E := by
  cases r with
  | ok fl w =>
    cases fl with
    | nx => exact fun s' H' F' st' ag' h' => h s' H' F' st' (ag'.mono m) h'
    | bk => exact fun s' H' F' st' ag' h' => h s' H' F' st' (ag'.mono m) h'
    | ct => exact fun s' H' F' st' ag' h' => h s' H' F' st' (ag'.mono m) h'
    | rt d => exact fun v s' H' F' st' ag' h' => h v s' H' F' st' (ag'.mono m) h'
  | ex c fs w => exact fun cls od s' H' F' st' ag' h' x => h cls od s' H' F' st' (ag'.mono m) h' x
  | bad => exact h
theorem tS_of {f : PM Fl} {w : Ev} (hold : Hold X.K H w s [] [] F) (m : ∀ i ∈ wr, i ∈ wr') (h : PoS X.K X.mg Eh wr' H F s (f w) E) : tS X.K X.mg Eh wr f E s H := ⟨w, F, hold, h.weak m⟩
/-- an expression ahead of the rest of a statement -/
theorem tP_runS {f : PM D} {k : D → Ev → Rs Fl} {R : VK} {w1 : Ev} {ds : List D} {vs : List V}
    (hold : Hold X.K H1 w1 s ds vs F1) (st : Stp F H F1 H1) (h : PoS X.K X.mg Eh wr H F s ((f w1).bind k) E)
    (c : ∀ d w2 v H2 F2, f w1 = .ok d w2 → Stp F H F2 H2 → Hold X.K H2 w2 s (ds ++ [d]) (vs ++ [v]) F2 → PoS X.K X.mg Eh wr H F s (k d w2) E → R v H2) : tP X.K X.mg Eh f s H1 R := by
  obtain ⟨F0, h0, sub, fr⟩ := hold.frame
  refine ⟨w1, F0, h0, ?_⟩
  cases e : f w1 with
  | ok d w2 =>
    rw [e] at h
    intro v H' F' st' h'
    obtain ⟨F2, h2, st2⟩ := fr st' h'
    exact c d w2 v H' F2 e (st.trans st2) h2 h
  | ex cc fs w2 =>
    rw [e] at h
    intro cls od H' F' st' h' x
    exact h cls od s H' F' (st.trans (st'.mono sub)) (.refl _ _) h' x
  | bad => rw [e] at h; exact h
theorem tA_runS {f : PM (List D)} {k : List D → Ev → Rs Fl} {R : List V → Hp → Prop} {w1 : Ev} {ds : List D} {vs : List V}
    (hold : Hold X.K H1 w1 s ds vs F1) (st : Stp F H F1 H1) (h : PoS X.K X.mg Eh wr H F s ((f w1).bind k) E)
    (c : ∀ es w2 us H2 F2, f w1 = .ok es w2 → Stp F H F2 H2 → Hold X.K H2 w2 s (ds ++ es) (vs ++ us) F2 → PoS X.K X.mg Eh wr H F s (k es w2) E → R us H2) : tA X.K X.mg Eh f s H1 R := by
  obtain ⟨F0, h0, sub, fr⟩ := hold.frame
  refine ⟨w1, F0, h0, ?_⟩
  cases e : f w1 with
  | ok d w2 =>
    rw [e] at h
    intro v H' F' st' h'
    obtain ⟨F2, h2, st2⟩ := fr st' h'
    exact c d w2 v H' F2 e (st.trans st2) h2 h
  | ex cc fs w2 =>
    rw [e] at h
    intro cls od H' F' st' h' x
    exact h cls od s H' F' (st.trans (st'.mono sub)) (.refl _ _) h' x
  | bad => rw [e] at h; exact h
theorem tT_runS {f : PM Bool} {k : Bool → Ev → Rs Fl} {R : Bool → Hp → Prop} {w1 : Ev}
    (hold : Hold X.K H1 w1 s [] [] F1) (st : Stp F H F1 H1) (h : PoS X.K X.mg Eh wr H F s ((f w1).bind k) E)
    (c : ∀ b w2 H2 F2, f w1 = .ok b w2 → Stp F H F2 H2 → Hold X.K H2 w2 s [] [] F2 → PoS X.K X.mg Eh wr H F s (k b w2) E → R b H2) : tT X.K X.mg Eh f s H1 R := by
  refine ⟨w1, F1, hold, ?_⟩
  cases e : f w1 with
  | ok d w2 =>
    rw [e] at h
    intro H' F' st' h'
    exact c d w2 H' F' e (st.trans st') h' h
  | ex cc fs w2 =>
    rw [e] at h
    intro cls od H' F' st' h' x
    exact h cls od s H' F' (st.trans st') (.refl _ _) h' x
  | bad => rw [e] at h; exact h

/-! small statements -/
def sNx : PM Fl := fun w => .ok .nx w
def sBk : PM Fl := fun w => .ok .bk w
def sCt : PM Fl := fun w => .ok .ct w
def sSeq (f g : PM Fl) : PM Fl := fun w => (f w).bind fun fl w1 => match fl with
  | .nx => g w1
  | o => .ok o w1
def sIf (t : PM Bool) (f g : PM Fl) : PM Fl := fun w => (t w).bind fun b w1 => if b = true then f w1 else g w1
def sRet (f : PM D) : PM Fl := fun w => (f w).bind fun d w1 => .ok (.rt d) w1
def sExpr (f : PM D) : PM Fl := fun w => (f w).bind fun _ w1 => .ok .nx w1
def setE (w : Ev) (i : Nat) (d : D) : Option Ev := if i < w.length then some (w.set i (some d)) else none
def backW (o : Option Ev) : Rs Fl := match o with
  | some w => .ok .nx w
  | none => .bad
@[simp] theorem backW_some (w : Ev) : backW (some w) = .ok .nx w := rfl
@[simp] theorem backW_none : backW none = .bad := rfl
def sSet (i : Nat) (f : PM D) : PM Fl := fun w => (f w).bind fun d w1 => backW (setE w1 i d)
theorem ss_nil : PSs X [] (tS X.K X.mg Eh [] sNx) := pss_nil.imp fun E s H ⟨w, F, hold, q⟩ => q s H F (Stp.refl fun _ m => m) (.refl _ _) hold
theorem ss_pass {pos : Pos} : PS X (.Pass pos) (tS X.K X.mg Eh [] sNx) := ps_pass.imp fun E s H ⟨w, F, hold, q⟩ => q s H F (Stp.refl fun _ m => m) (.refl _ _) hold
theorem ss_break {pos : Pos} : PS X (.Break pos) (tS X.K X.mg Eh [] sBk) := ps_break.imp fun E s H ⟨w, F, hold, q⟩ => q s H F (Stp.refl fun _ m => m) (.refl _ _) hold
theorem ss_cont {pos : Pos} : PS X (.Continue pos) (tS X.K X.mg Eh [] sCt) := ps_continue.imp fun E s H ⟨w, F, hold, q⟩ => q s H F (Stp.refl fun _ m => m) (.refl _ _) hold
/-- a statement, with what follows it -/
theorem tS_run {f : PM Fl} {k : Fl → Ev → Rs Fl} {R : L2.St → Hp → Prop} {w1 : Ev} (hold : Hold X.K H1 w1 s1 [] [] F1) (st : Stp F H F1 H1) (ag : Agr wr s s1) (m : ∀ i ∈ wr1, i ∈ wr)
    (h : PoS X.K X.mg Eh wr H F s ((f w1).bind k) E) (hk : ∀ fl w, fl ≠ .nx → k fl w = .ok fl w)
    (c : ∀ w2 s2 H2 F2, Stp F H F2 H2 → Agr wr s s2 → Hold X.K H2 w2 s2 [] [] F2 → PoS X.K X.mg Eh wr H F s (k .nx w2) E → R s2 H2) : tS X.K X.mg Eh wr1 f { E with nx := R } s1 H1 := by
  refine ⟨w1, F1, hold, ?_⟩
  cases e : f w1 with
  | bad => rw [e] at h; exact h
  | ex cc fs w2 =>
    rw [e] at h
    exact fun cls od s' H' F' st' ag' h' x => h cls od s' H' F' (st.trans st') (ag.trans (ag'.mono m)) h' x
  | ok fl w2 =>
    rw [e] at h
    rw [Rs.bind_ok] at h
    cases fl with
    | nx => exact fun s' H' F' st' ag' h' => c w2 s' H' F' (st.trans st') (ag.trans (ag'.mono m)) h' h
    | bk => rw [hk .bk w2 (by intro z; cases z)] at h; exact fun s' H' F' st' ag' h' => h s' H' F' (st.trans st') (ag.trans (ag'.mono m)) h'
    | ct => rw [hk .ct w2 (by intro z; cases z)] at h; exact fun s' H' F' st' ag' h' => h s' H' F' (st.trans st') (ag.trans (ag'.mono m)) h'
    | rt d => rw [hk (.rt d) w2 (by intro z; cases z)] at h; exact fun v s' H' F' st' ag' h' => h v s' H' F' (st.trans st') (ag.trans (ag'.mono m)) h'
theorem ss_cons {st : Stmt} {rest : List Stmt} {f g : PM Fl} (h1 : PS X st (tS X.K X.mg Eh wr1 f)) (h2 : PSs X rest (tS X.K X.mg Eh wr2 g)) : PSs X (st :: rest) (tS X.K X.mg Eh (wr1 ++ wr2) (sSeq f g)) := (pss_cons h1 h2).imp fun E s H ⟨w, F, hold, q⟩ => by
  refine tS_run hold (Stp.refl fun _ m => m) (.refl _ _) (fun i m => List.mem_append_left _ m) q (fun fl w n => ?_) fun w2 s2 H2 F2 st ag h2 q2 => ?_
  · cases fl with
    | nx => exact absurd rfl n
    | bk => rfl
    | ct => rfl
    | rt d => rfl
  · exact tS_of h2 (fun i m => List.mem_append_right _ m) (q2.step st ag)
theorem ss_one {st : Stmt} {f : PM Fl} (h1 : PS X st (tS X.K X.mg Eh wr f)) : PSs X [st] (tS X.K X.mg Eh wr f) := pss_one h1
theorem ss_if {c : Expr} {a b : List Stmt} {pos : Pos} {t : PM Bool} {f g : PM Fl} (hc : PT X c (tT X.K X.mg Eh t)) (ha : PSs X a (tS X.K X.mg Eh wr1 f)) (hb : PSs X b (tS X.K X.mg Eh wr2 g)) : PS X (.If c a b pos) (tS X.K X.mg Eh (wr1 ++ wr2) (sIf t f g)) := (ps_if hc ha hb).imp fun E s H ⟨w, F, hold, q⟩ => by
  refine tT_runS hold (Stp.refl fun _ m => m) q fun k w2 H2 F2 e st h2 q2 => ?_
  cases k with
  | true => rw [if_pos rfl] at q2 ⊢; exact tS_of h2 (fun i m => List.mem_append_left _ m) (q2.step st (.refl _ _))
  | false => rw [if_neg Bool.false_ne_true] at q2 ⊢; exact tS_of h2 (fun i m => List.mem_append_right _ m) (q2.step st (.refl _ _))
theorem ss_ret {e : Expr} {pos : Pos} {f : PM D} (he : PE X e (tP X.K X.mg Eh f)) : PS X (.Return (some e) pos) (tS X.K X.mg Eh [] (sRet f)) := (ps_ret he).imp fun E s H ⟨w, F, hold, q⟩ => by
  refine tP_runS hold (Stp.refl fun _ m => m) q fun d w2 v H2 F2 e st h2 q2 => ?_
  exact q2 v s H2 F2 st (.refl _ _) h2
theorem ss_retN {pos : Pos} : PS X (.Return none pos) (tS X.K X.mg Eh [] (sRet (xC .non))) := ps_retN.imp fun E s H ⟨w, F, hold, q⟩ => by
  obtain ⟨ft, fe, h1, h2, p, nd⟩ := hold
  have e0 : ft = [] := h1.2
  subst e0
  exact q .non s H F (Stp.refl fun _ m => m) (.refl _ _) ⟨[], fe, RVs.one ⟨rfl, rfl⟩, h2, p, nd⟩
theorem ss_expr {e : Expr} {pos : Pos} {f : PM D} (he : PE X e (tP X.K X.mg Eh f)) (hs : swapsWith e none pos.line X.env = pure false := by rfl) : PS X (.Expr e pos) (tS X.K X.mg Eh [] (sExpr f)) := (ps_expr he hs).imp fun E s H ⟨w, F, hold, q⟩ => by
  refine tP_runS hold (Stp.refl fun _ m => m) q fun d w2 v H2 F2 e st h2 q2 => ?_
  obtain ⟨F3, h3, sub⟩ := h2.drop0
  exact q2 s H2 F3 (st.trans (Stp.refl sub)) (.refl _ _) h3
/-- a name's store -/
theorem set_po {i : Nat} {d : D} {v : V} {w : Ev} {H2 : Hp} {F2 : List Addr} (hi : i ∈ wr) (st : Stp F H F2 H2) (ag : Agr wr s s1) (h2 : Hold X.K H2 w s1 [d] [v] F2) (q : PoS X.K X.mg Eh wr H F s (backW (setE w i d)) E) : E.nx (s1.set i (some v)) H2 := by
  unfold setE at q
  by_cases c : i < w.length
  · rw [if_pos c] at q
    obtain ⟨F3, h3, sub⟩ := h2.put c
    exact q _ H2 F3 (st.trans (Stp.refl sub)) (ag.trans (.set hi)) h3
  · rw [if_neg c] at q; exact q.elim
theorem set_imp {i : Nat} {f : PM D} (h : tS X.K X.mg Eh [i] (sSet i f) E s H) : tAsg (tP X.K X.mg Eh f) (gName i) E s H := by
  obtain ⟨w, F, hold, q⟩ := h
  refine tP_runS hold (Stp.refl fun _ m => m) q fun d w2 v H2 F2 e st h2 q2 => ?_
  exact set_po List.mem_cons_self st (.refl _ _) h2 q2
theorem ss_set {i : Nat} {x : Str} {e : Expr} {f : PM D} {pos pos' : Pos} (hN : X.N.Nodup) (hi : X.N[i]? = some x) (hx : Loc X.env.scope x) (he : PE X e (tP X.K X.mg Eh f)) (hs : swapsWith e (some (.Name x pos')) pos.line X.env = pure false := by rfl) (hf : X.fn x = true ∨ X.env.scope.names.lookup x = some .local := by first | exact .inl rfl | exact .inr rfl | assumption) :
    PS X (.Assign [.Name x pos'] e pos) (tS X.K X.mg Eh [i] (sSet i f)) := (ps_set hN hi hx he hs hf).imp fun E s H h => set_imp h
end

/-! ### methods that change a slot's list -/
def ownD : D → Option (List D)
  | .own xs => some xs
  | _ => none
theorem ownD_some {d : D} {xs : List D} (h : ownD d = some xs) : d = .own xs := by
  cases d with
  | own ys => cases h; rfl
  | non => cases h
  | bl i => cases h
  | int i => cases h
  | str x => cases h
  | tup x => cases h
  | lst x => cases h
  | xo _ _ _ => cases h
  | odc _ _ _ => cases h
  | fdc _ _ _ => cases h
  | fn => cases h
/-- x.append(e), x in slot j -/
def xApp (j : Nat) (f : PM D) : PM D := fun w => match (slot w j).bind ownD with
  | some _ => (f w).bind fun d w1 => match (slot w1 j).bind ownD with
    | some xs => if xs.length < sizeLine then .ok .non (w1.set j (some (.own (xs ++ [d])))) else .bad
    | none => .bad
  | none => .bad
/-- x.pop(e), x in slot j -/
def xPopAt (j : Nat) (f : PM D) : PM D := fun w => match (slot w j).bind ownD with
  | some _ => (f w).bind fun d w1 => match (slot w1 j).bind ownD, d with
    | some xs, .int i => match ixN xs.length i with
      | some k => match xs[k]? with
        | some y => if xs.length ≤ sizeLine then .ok y (w1.set j (some (.own (xs.eraseIdx k)))) else .bad
        | none => .bad
      | none => .bad
    | _, _ => .bad
  | none => .bad
/-- x.pop() -/
def xPop (j : Nat) : PM D := fun w => match (slot w j).bind ownD with
  | some xs => match xs[xs.length - 1]? with
    | some y => .ok y (w.set j (some (.own (xs.eraseIdx (xs.length - 1)))))
    | none => .bad
  | none => .bad
/-- x[g] = f -/
def sSetI (j : Nat) (f g : PM D) : PM Fl := fun w => (f w).bind fun d w1 => match slot w1 j with
  | some _ => (g w1).bind fun i w2 => match (slot w2 j).bind ownD, i with
    | some xs, .int n => match ixN xs.length n with
      | some k => .ok .nx (w2.set j (some (.own (xs.set k d))))
      | none => .bad
    | _, _ => .bad
  | none => .bad
theorem ixN_lt {n : Nat} {i : Int} {k : Nat} (h : ixN n i = some k) : k < n := (ixN_seq h).2.1
section
variable {X : Cx} {Eh : WX} {wr : List Nat} {H : Hp} {F : List Addr} {s : L2.St} {E : Ends} {o e : Expr} {apos cpos : Pos} {j : Nat} {f g : PM D}
theorem slotOwn {w : Ev} {xs : List D} (h : (slot w j).bind ownD = some xs) : slot w j = some (.own xs) := by
  obtain ⟨d, h1, h2⟩ := Option.bind_eq_some_iff.mp h
  rw [h1, ownD_some h2]
theorem own_at {K : PySem.W.Frag} {w : Ev} {xs : List D} {ds : List D} {vs : List V} (hold : Hold K H w s ds vs F) (h : slot w j = some (.own xs)) : ∃ a us, s[j]? = some (some (.ref a)) ∧ H a = some (.lst us) := by
  obtain ⟨v, f, e1, r, m⟩ := hold.atSlot h
  obtain ⟨a, us, g, e2, q, _⟩ := r
  exact ⟨a, us, by rw [e1, e2], q⟩
theorem pp_app (ho : PE X o (tV X.K j)) (ha : PE X e (tP X.K X.mg Eh f))
    (hbase : attributeBase o "append" X.env (eval o X.env) = eval o X.env := by rfl)
    (hfew : ((backTo cpos (starEach (e :: []) X.env)).all (fun x => !x.1) && (backToKw cpos (keywordEach [] X.env)).all (fun x => x.1.isSome)
      && decide ((e :: []).length + ([] : List Keyword).length + (if ([] : List Keyword).isEmpty then 0 else 1) < 30)) = true := by rfl)
    (hline : (apos.endLine == cpos.line) = true := by rfl) (hs : starEach (e :: []) X.env = (false, eval e X.env) :: starEach [] X.env := by rfl) (hplain : (backTo cpos (starEach [] X.env)).any (·.1) = false := by rfl) :
    PE X (.Call (.Attribute o "append" apos) [e] [] cpos) (tP X.K X.mg Eh (xApp j f)) :=
  (pe_bm PySem.F.plainAttrs_list PySem.F.slot_list_append PySem.F.type_list_append mt_append ho (pa_cons ha pa_nil hs) hbase hfew hline hs hplain).imp fun s H Q ⟨w, F, hold, q⟩ => by
    unfold xApp at q
    cases e0 : (slot w j).bind ownD with
    | none => rw [e0] at q; exact q.elim
    | some xs0 =>
      rw [e0] at q
      refine tV_run hold (slotOwn e0) fun v0 f0 ej r0 _ => ?_
      obtain ⟨a, us0, g0, ea, qa, _⟩ := r0
      subst ea
      refine ⟨.inl ⟨rfl, us0, .of qa⟩, ?_⟩
      refine tP_run hold (Stp.refl fun _ m => m) q fun d w2 v H2 F2 e st h2 q2 => ?_
      cases e1 : (slot w2 j).bind ownD with
      | none => rw [e1] at q2; exact q2.elim
      | some xs =>
        rw [e1] at q2
        by_cases c : xs.length < sizeLine
        · replace q2 := (show Po X.K X.mg Eh _ _ _ (if xs.length < sizeLine then Rs.ok D.non (w2.set j (some (.own (xs ++ [d])))) else .bad) _ from q2)
          rw [if_pos c] at q2
          obtain ⟨v', ej', h3⟩ := Hold.takeS (ds := [d]) (vs := [v]) h2 (slotOwn e1)
          rw [ej] at ej'
          cases ej'
          obtain ⟨us, hu, hl, _, _, wrt⟩ := Hold.wr (xs' := xs) (us' := us0) h3
          obtain ⟨F4, h4, sub, st4⟩ := wrt (xs ++ [d]) (us ++ [v]) fun H' k ft f r1 r2 => ⟨f ++ ft, r2.append r1, [], .refl _⟩
          refine ⟨a, us, v, rfl, rfl, hu, by rw [← hl]; exact c, ?_⟩
          obtain ⟨F5, h5, sub5⟩ := Hold.putS h4 ej
          rw [List.set_set] at h5
          exact fin_new q2 ((st.trans st4).trans (Stp.refl sub5)) h5 (.plain ⟨rfl, rfl⟩)
        · replace q2 := (show Po X.K X.mg Eh _ _ _ (if xs.length < sizeLine then Rs.ok D.non (w2.set j (some (.own (xs ++ [d])))) else .bad) _ from q2)
          rw [if_neg c] at q2; exact q2.elim
theorem pp_popAt (ho : PE X o (tV X.K j)) (ha : PE X e (tP X.K X.mg Eh f))
    (hbase : attributeBase o "pop" X.env (eval o X.env) = eval o X.env := by rfl)
    (hfew : ((backTo cpos (starEach (e :: []) X.env)).all (fun x => !x.1) && (backToKw cpos (keywordEach [] X.env)).all (fun x => x.1.isSome)
      && decide ((e :: []).length + ([] : List Keyword).length + (if ([] : List Keyword).isEmpty then 0 else 1) < 30)) = true := by rfl)
    (hline : (apos.endLine == cpos.line) = true := by rfl) (hs : starEach (e :: []) X.env = (false, eval e X.env) :: starEach [] X.env := by rfl) (hplain : (backTo cpos (starEach [] X.env)).any (·.1) = false := by rfl) :
    PE X (.Call (.Attribute o "pop" apos) [e] [] cpos) (tP X.K X.mg Eh (xPopAt j f)) :=
  (pe_bm PySem.F.plainAttrs_list PySem.F.slot_list_pop PySem.F.type_list_pop mt_popAt ho (pa_cons ha pa_nil hs) hbase hfew hline hs hplain).imp fun s H Q ⟨w, F, hold, q⟩ => by
    unfold xPopAt at q
    cases e0 : (slot w j).bind ownD with
    | none => rw [e0] at q; exact q.elim
    | some xs0 =>
      rw [e0] at q
      refine tV_run hold (slotOwn e0) fun v0 f0 ej r0 _ => ?_
      obtain ⟨a, us0, g0, ea, qa, _⟩ := r0
      subst ea
      refine ⟨.inl ⟨rfl, us0, .of qa⟩, ?_⟩
      refine tP_run hold (Stp.refl fun _ m => m) q fun d w2 v H2 F2 e st h2 q2 => ?_
      cases e1 : (slot w2 j).bind ownD with
      | none => rw [e1] at q2; exact q2.elim
      | some xs =>
        rw [e1] at q2
        cases d with
        | int i =>
          dsimp only at q2
          cases e2 : ixN xs.length i with
          | none => rw [e2] at q2; exact q2.elim
          | some k =>
            rw [e2] at q2
            dsimp only at q2
            cases e3 : xs[k]? with
            | none => rw [e3] at q2; exact q2.elim
            | some y =>
              rw [e3] at q2
              dsimp only at q2
              by_cases c : xs.length ≤ sizeLine
              · rw [if_pos c] at q2
                obtain ⟨fx, rx, _⟩ := Hold.one h2
                obtain ⟨F2', h2', sub2⟩ := h2.drop0
                obtain ⟨v', ej', h3⟩ := Hold.takeS (ds := []) (vs := []) h2' (slotOwn e1)
                rw [ej] at ej'
                cases ej'
                -- the item leaves the list
                obtain ⟨ft0, fe, k1, k2, p, nd⟩ := h3
                obtain ⟨a', us, f, e5, q5, r5, e6⟩ := k1.one'
                cases e5
                obtain ⟨u, f1, f2, e7, r6, r7, p2⟩ := RVs.erase r5 e3
                have hl := r5.length
                have line : sizeLine < 2 ^ 63 := line63
                obtain ⟨z1, z2, z3, z4⟩ := ixN_seq e2
                refine ⟨a, us, i, k, u, rfl, by rw [rx.1], q5, by omega, by omega, by rw [← hl]; exact z1, e7, ?_⟩
                have kk : Kp [a] H2 (upd H2 a (.lst (us.eraseIdx k))) := .put q5 pln_lst
                have mk : ∀ b ∈ [a], Mut (H2 b) := fun b m => by
                  have e : b = a := by simpa using m
                  rw [e, q5]; trivial
                subst e6
                have n0 := p.nodup_iff.mp nd
                rw [List.cons_append] at n0
                obtain ⟨na, n1⟩ := List.nodup_cons.mp n0
                have pF : F2'.Perm (a :: (f1 ++ f2) ++ fe) := p.trans ((p2.cons a).append_right fe)
                have apart : ∀ (l : List Addr), (∀ b ∈ l, b ∈ f ++ fe) → ∀ b ∈ l, b ∉ [a] := fun l m b mb z => by
                  have e : b = a := by simpa using z
                  exact na (e ▸ m b mb)
                have i1 : ∀ b ∈ f1, b ∈ f := fun b m => p2.mem_iff.mpr (List.mem_append_left _ m)
                have i2 : ∀ b ∈ f2, b ∈ f := fun b m => p2.mem_iff.mpr (List.mem_append_right _ m)
                have R1 := RV.kp kk mk y u f1 (apart f1 fun b m => List.mem_append_left _ (i1 b m)) r6
                have R2 := RVs.kp kk mk _ _ f2 (apart f2 fun b m => List.mem_append_left _ (i2 b m)) r7
                have R3 := k2.kp kk mk (apart fe fun b m => List.mem_append_right _ m)
                have h5 : Hold X.K (upd H2 a (.lst (us.eraseIdx k))) (w2.set j none) s [.own (xs.eraseIdx k), y] [.ref a, u] F2' := by
                  refine ⟨(a :: f2) ++ f1, fe, ⟨.ref a, [u], a :: f2, f1, rfl, ⟨a, _, f2, rfl, upd_same, R2, rfl⟩, RVs.one R1, rfl⟩, R3, pF.trans ?_, nd⟩
                  exact ((List.perm_append_comm (l₁ := f1) (l₂ := f2)).cons a).append_right fe
                have ma : a ∈ F2' := pF.mem_iff.mpr (List.mem_append_left _ List.mem_cons_self)
                obtain ⟨F5, h6, sub5⟩ := Hold.putS h5 ej
                rw [List.set_set] at h6
                refine q2 u _ F5 ((st.trans (Stp.refl sub2)).trans (F1 := F2') ⟨kk.mono fun b z => ?_, fun b m => .inl (sub5 b m)⟩) h6
                have e : b = a := by simpa using z
                rw [e]; exact ma
              · rw [if_neg c] at q2; exact q2.elim
        | non => exact q2.elim
        | bl i => exact q2.elim
        | str x => exact q2.elim
        | tup x => exact q2.elim
        | lst x => exact q2.elim
        | own x => exact q2.elim
        | xo _ _ _ => exact q2.elim
        | odc _ _ _ => exact q2.elim
        | fdc _ _ _ => exact q2.elim
        | fn => exact q2.elim
theorem setI_imp {tpos : Pos} (h : tS X.K X.mg Eh [] (sSetI j f g) E s H) : tAsg (tP X.K X.mg Eh f) (gSub (tV X.K j) (tP X.K X.mg Eh g) rSetL) E s H := by
  obtain ⟨w, F, hold, q⟩ := h
  refine tP_runS hold (Stp.refl fun _ m => m) q fun d w1 v H1 F1 e st h1 q1 => ?_
  cases e0 : slot w1 j with
  | none => rw [e0] at q1; exact q1.elim
  | some d0 =>
    rw [e0] at q1
    refine tV_run h1 e0 fun v0 f0 ej r0 _ => ?_
    refine tP_runS h1 st q1 fun i w2 vi H2 F2 e st h2 q2 => ?_
    cases e1 : (slot w2 j).bind ownD with
    | none => rw [e1] at q2; exact q2.elim
    | some xs =>
      rw [e1] at q2
      cases i with
      | int n =>
        dsimp only at q2
        cases e2 : ixN xs.length n with
        | none => rw [e2] at q2; exact q2.elim
        | some k =>
          rw [e2] at q2
          obtain ⟨fd, fi, rd, ri, _, _⟩ := Hold.two h2
          -- the index is let go
          have h2b : Hold X.K H2 w2 s [d] [v] F2 := by
            obtain ⟨ft, fe, k1, k2, p, nd⟩ := h2
            obtain ⟨v', r, f, g, e1, q, q2, e2⟩ := k1
            injection e1 with e3 e4
            subst e3; subst e4; subst e2
            have := q2.one'.2
            subst this
            rw [List.append_nil] at p
            exact ⟨f, fe, RVs.one q, k2, p, nd⟩
          obtain ⟨v', ej', h3⟩ := Hold.takeS (ds := [d]) (vs := [v]) h2b (slotOwn e1)
          rw [ej] at ej'
          cases ej'
          obtain ⟨a, us0, eja, _⟩ := own_at h2b (slotOwn e1)
          rw [ej] at eja
          cases eja
          obtain ⟨us, hu, hl, _, _, wrt⟩ := Hold.wr (xs' := xs) (us' := us0) h3
          obtain ⟨F4, h4, sub, st4⟩ := wrt (xs.set k d) (us.set k v) fun H' kk ft f r1 r2 => RVs.setD r2 r1.one' (ixN_lt e2)
          refine ⟨a, us, n, k, rfl, ri.1, hu, by rw [← hl]; exact e2, ?_⟩
          obtain ⟨F5, h5, sub5⟩ := Hold.putS h4 ej
          rw [List.set_set] at h5
          exact q2 s _ F5 ((st.trans st4).trans (Stp.refl sub5)) (.refl _ _) h5
      | non => exact q2.elim
      | bl i => exact q2.elim
      | str x => exact q2.elim
      | tup x => exact q2.elim
      | lst x => exact q2.elim
      | own x => exact q2.elim
      | xo _ _ _ => exact q2.elim
      | odc _ _ _ => exact q2.elim
      | fdc _ _ _ => exact q2.elim
      | fn => exact q2.elim
theorem ss_setI {i : Expr} {pos tpos : Pos} (he : PE X e (tP X.K X.mg Eh f)) (ho : PE X o (tV X.K j)) (hi : PE X i (tP X.K X.mg Eh g))
    (ha : ∀ v, assign (.Subscript o i tpos) X.env v = (do
      let ov ← holding [v] (eval o X.env)
      let iv ← holding [v, ov] (eval i X.env)
      standAt tpos
      holding [v, ov, iv] (setItem ov iv v)
      release [v, ov, iv] []) := by intro _; rfl)
    (hs : swapsWithSole [.Subscript o i tpos] e pos.line X.env = pure false := by rfl) (hw : swappedStores [.Subscript o i tpos] e X.env = pure none := by rfl)
    (h1 : (assignEach [.Subscript o i tpos] X.env).map (·.2) = [assign (.Subscript o i tpos) X.env] := by rfl) : PS X (.Assign [.Subscript o i tpos] e pos) (tS X.K X.mg Eh [] (sSetI j f g)) :=
  (ps_asg he (pg_sub ho hi set_list ha) hs hw h1).imp fun E s H h => setI_imp (tpos := tpos) h
end
end Pm

set_option autoImplicit true
/-! More rules of the hand layer: what is walked whether it is a list or a tuple; enumerate over a tuple. -/
namespace Pm
open PySem PySem.Spec PyProof.Rows L2
section
variable {X : Cx} {tg : Expr}
def iSeq (K : PySem.W.Frag) (tl : TE) : TI := fun s H R => tl s H fun x H1 => ∃ a, x = .ref a ∧ (((∃ xs, SqL K H1 a xs) ∧ R (Itl K a) H1) ∨ ((∃ xs, SqT K H1 a xs) ∧ R (Itt K a) H1))
theorem pi_seq {l : Expr} {tl : TE} (hl : PE X l tl) : PI X tg l (iSeq X.K tl) := by
  refine ⟨fun pins s σ H R I h => ?_⟩
  refine thn (hl.run pins s σ H _ I h) fun v s1 ⟨x, H1, I1, r1, q1⟩ => ?_
  obtain ⟨a, e, q⟩ := q1
  subst e
  cases r1
  rcases q with ⟨⟨xs, hq⟩, q⟩ | ⟨⟨xs, hq⟩, q⟩
  · obtain ⟨its, rv, p, hz⟩ := I1.list hq
    refine wpAny_pyIter_list p.isList ?_
    refine ⟨s1.heap.objs.size, [s1.heap.objs.size], _, _, H1, rfl, I1.kept (t' := s1.toks) fun b o e => Heap.get?_push_of_some _ e, turn_list a _, ⟨_, Heap.get?_push_size _ rfl, rfl, rfl⟩, fun b hb => ?_, q⟩
    have e : b = s1.heap.objs.size := by simpa using hb
    subst e
    exact I1.fpOk (Nat.le_refl _) (I1.hok.fresh (Nat.le_refl _))
  · obtain ⟨its, rv, p, hz⟩ := I1.tuple hq
    refine wpAny_pyIter_tuple (show s1.heap.IsTuple a its.toArray from p) ?_
    refine ⟨s1.heap.objs.size, [s1.heap.objs.size], _, _, H1, rfl, I1.kept (t' := s1.toks) fun b o e => Heap.get?_push_of_some _ e, turn_tuple a _, ⟨_, Heap.get?_push_size _ rfl, rfl, rfl⟩, fun b hb => ?_, q⟩
    have e : b = s1.heap.objs.size := by simpa using hb
    subst e
    exact I1.fpOk (Nat.le_refl _) (I1.hok.fresh (Nat.le_refl _))
end

/-! ### enumerate of a tuple -/
theorem meets_enumerate_newT (l : Addr) (items : Array Value) (n : Nat) (dct : Option Addr) (sl : Array (Option Value)) :
    Meets (Builtin.«enumerate.__new__» ⟨[.type "enumerate", .ref l], []⟩) (fun _ R s => s.heap.get? l = some { cls := .type "tuple", dict := dct, data := .seq items n, slots := sl } ∧
      R (.ok (.ret (.ref (s.heap.push { cls := .type "tuple_iterator", data := .fields #[.ref l, .int 0 0] }).objs.size)))
        { s with heap := (s.heap.push { cls := .type "tuple_iterator", data := .fields #[.ref l, .int 0 0] }).push { cls := .type "enumerate", data := .fields #[.none, .bool false, .ref s.heap.objs.size, rawInt 0, .none, .none] } }) :=
  .of_wp fun prog w A R s h => by
    obtain ⟨hp, g, d, tk, os⟩ := s; obtain ⟨hl, h⟩ := h
    have hsub := sub_enumerate
    have hL : Heap.IsTuple (Shared.heap ⟨hp, g, d, tk, os⟩) l items := ⟨_, hl, rfl, n, rfl⟩
    wp_walk using AutoSeq1.wpAny_loadPart' hl
    refine wpAny_stack_any fun st => wpAny_pure ?_
    split
    · rename_i c _ _ _ _ _
      cases (c == Value.type "enumerate")
      · wp_walk using AutoSeq1.wpAny_loadPart' hl, wpAny_pyIter_tuple hL
        exact ⟨_, rfl, h⟩
      · wp_walk using AutoSeq1.wpAny_loadPart' hl, wpAny_pyIter_tuple hL
        exact ⟨_, rfl, h⟩
    · wp_walk using AutoSeq1.wpAny_loadPart' hl, wpAny_pyIter_tuple hL
      exact ⟨_, rfl, h⟩
theorem call_enumerate_tuple {prog : Program} {w : World} {A : Around} {E : Value → Shared → Prop} {s : Shared} {l : Addr} {items : Array Value} {Q : Value → Shared → Prop} (hL : s.heap.IsTuple l items)
    (h : ∀ h', IsEnum h' (s.heap.objs.size + 1) s.heap.objs.size 0 .none → h'.IsTupleIter s.heap.objs.size l 0 → h'.objs.size = s.heap.objs.size + 2 →
      (∀ b o, s.heap.get? b = some o → h'.get? b = some o) → Q (.ref (s.heap.objs.size + 1)) { s with heap := h' }) :
    wpAny (model prog w) A (call (.type "enumerate") [.ref l]) Q E s := by
  obtain ⟨⟨c, dct, dt, sl⟩, hl, hc, n, hd⟩ := hL
  replace hc : c = .type "tuple" := hc
  replace hd : dt = .seq items n := hd
  subst hc hd
  refine callType_new F.called_enumerate (by decide) (F.typeCall_enumerate_1 _) (F.newCall_enumerate_1 _) (fun obj => F.args_object_init_2 obj _) F.entry_enumerate_new
    (meets_enumerate_newT l items n dct sl) ⟨hl, ?_⟩
  have hz : (s.heap.push { cls := .type "tuple_iterator", data := .fields #[.ref l, .int 0 0] }).objs.size = s.heap.objs.size + 1 := Heap.size_push ..
  show _ ∧ _
  rw [hz]
  have he : IsEnum ((s.heap.push { cls := .type "tuple_iterator", data := .fields #[.ref l, .int 0 0] }).push
      { cls := .type "enumerate", data := .fields #[.none, .bool false, .ref s.heap.objs.size, rawInt 0, .none, .none] }) (s.heap.objs.size + 1) s.heap.objs.size 0 .none := by
    have := Heap.get?_push_size (s.heap.push { cls := .type "tuple_iterator", data := .fields #[.ref l, .int 0 0] })
      (o := { cls := .type "enumerate", data := .fields #[.none, .bool false, .ref s.heap.objs.size, rawInt 0, .none, .none] }) rfl
    rw [hz] at this; exact this
  refine ⟨⟨_, he, rfl⟩, h _ he ⟨_, Heap.get?_push_of_some _ (Heap.get?_push_size _ rfl), rfl, rfl⟩ (by rw [Heap.size_push, hz]) fun b o x => Heap.get?_push_of_some _ (Heap.get?_push_of_some _ x)⟩
def IteT (K : PySem.W.Frag) (a : Addr) : It :=
  ⟨fun i H => ∃ (xs : List V) (x : V), SqT K H a xs ∧ xs[i]? = some x, fun i H v H' => ∃ T x, v = .ref T ∧ H T = none ∧ H' = upd H T (.tup [.int (i : Nat), x]) ∧ ∀ xs, SqT K H a xs → xs[i]? = some x, fun i H => ∃ xs : List V, SqT K H a xs ∧ xs.length = i⟩
theorem enum_apart {h : Heap} {e it a : Addr} {i : Int} {old : Value} {its : Array Value} (he : IsEnum h e it i old) (p : h.IsTuple a its) : e ≠ a := fun z => by
  subst z
  obtain ⟨o, ho, _, n, hd⟩ := p
  have q : some o = some _ := ho.symm.trans he
  cases q
  cases hd
theorem titer_apart {h : Heap} {it a b : Addr} {i : Nat} {its : Array Value} (he : h.IsTupleIter it b i) (p : h.IsTuple a its) : a ≠ it := fun z => by
  subst z
  obtain ⟨o, ho, _, n, hd⟩ := p
  obtain ⟨o', ho', _, hd'⟩ := he
  rw [ho] at ho'
  cases ho'
  rw [hd] at hd'
  cases hd'
theorem turn_enumT {P : Program} {w : World} {K : PySem.W.Frag} {elts : List Expr} {kk : Nat} {tpos : Pos} (a e it : Addr) :
    Turn P w K (.Tuple elts kk tpos) (IteT K a) [e, it] e (fun i h => (∃ old, IsEnum h e it ((i : Nat) : Int) old) ∧ h.IsTupleIter it a i ∧ e ≠ it) where
  mem := by simp
  obj := fun i h st b hb => by
    obtain ⟨⟨old, he⟩, ⟨o, ho, hc, hd⟩, _⟩ := st
    have e' : b = e ∨ b = it := by simpa using hb
    rcases e' with z | z
    · rw [z]; exact ⟨_, he, fun v q => nomatch q⟩
    · rw [z]; exact ⟨o, ho, fun v q => by rw [hd] at q; cases q⟩
  keep := fun i h h' st k => let ⟨⟨old, he⟩, hi, hne⟩ := st; ⟨⟨old, k e (by simp) _ he⟩, hi.at fun o q => k it (by simp) o q, hne⟩
  item := by
    intro X hP hw hK hc i pins s σ H E I hf st hg
    subst hP hw hK
    obtain ⟨⟨old, he⟩, hit, hne⟩ := st
    obtain ⟨xs, x, hq, hx⟩ := hg
    obtain ⟨its, rv, p, hz⟩ := I.tuple hq
    obtain ⟨u, hu, ru⟩ := rv.get hx
    have hel : e < s.heap.objs.size := Heap.lt_size he
    have hil : it < s.heap.objs.size := by obtain ⟨_, q, _⟩ := hit; exact Heap.lt_size q
    have pT : s.heap.IsTuple a its.toArray := p
    have hea : e ≠ a := enum_apart he pT
    have hia : a ≠ it := titer_apart hit pT
    have hlt : i < its.toArray.size := by
      have := (List.getElem?_eq_some_iff.mp hu).1
      simpa using this
    refine wpAny_pyNext_enum_itemD (Draws.tuple (A := X.A.in1) (by have := I.ok.hd hc; exact this) it a hia its.toArray) he ⟨hit, pT⟩ hlt hne (by simp [hne, hea]) fun y h' tk hP ho hs' hT hsz hk => ?_
    have hy : y = u := by
      have q : its.toArray[i]? = some y := hP
      have q2 : its.toArray[i]? = some u := by simpa using hu
      rw [q] at q2
      exact Option.some.inj q2
    subst hy
    refine ⟨_, rfl, wpAny_letOwnedTupleGo_enum (s := { s with heap := h', toks := tk + 1 }) ho fun h'' he' sb => ?_⟩
    have hT2 : h''.get? s.heap.objs.size = some { cls := .type "tuple", data := .seq #[.int i tk, y] } := (sb.2 _ (Nat.ne_of_gt hel)).trans hT
    have new : ObjOk X.prog X.w (upd H s.heap.objs.size (.tup [.int (i : Nat), x])) h'' s.heap.objs.size (.tup [.int (i : Nat), x]) :=
      ⟨by show 2 ≤ sizeLine; decide, [.int i tk, y], .cons ⟨_, rfl⟩ (.cons ru .nil), ⟨_, hT2, rfl, _, rfl⟩⟩
    have I1 : Inv X pins σ (upd H s.heap.objs.size (.tup [.int (i : Nat), x])) { s with heap := h'', toks := tk + 1 } :=
      I.turnedNew (ch := [e, it]) (fun b ob hb q => (sb.2 b (fun z => hb (by simp [z]))).trans (hk b ob (fun z => hb (by simp [z])) (fun z => hb (by simp [z])) q)) hf (Nat.le_refl _) new
    refine ⟨.ref s.heap.objs.size, _, I1, rfl, ⟨_, x, rfl, I.hok.fresh (Nat.le_refl _), rfl, fun ys hy => by rw [I.tuple_inj hy hq]; exact hx⟩, ⟨⟨y, ?_⟩, hs'.1.at fun o q => (sb.2 it (Ne.symm hne)).trans q, hne⟩, fun b hb => ?_⟩
    · have e1 : ((i + 1 : Nat) : Int) = (i : Int) + 1 := by omega
      rw [e1]; exact he'
    · have hb' : b < s.heap.objs.size := by
        have e' : b = e ∨ b = it := by simpa using hb
        rcases e' with z | z
        · rw [z]; exact hel
        · rw [z]; exact hil
      rw [upd_ne (Nat.ne_of_lt hb')]
      exact (hf b hb).1
  done := by
    intro X hP hw hK hc i pins s σ H E I hf st hg
    subst hP hw hK
    obtain ⟨⟨old, he⟩, hit, hne⟩ := st
    obtain ⟨xs, hq, hx⟩ := hg
    obtain ⟨its, rv, p, hz⟩ := I.tuple hq
    have pT : s.heap.IsTuple a its.toArray := p
    have hia : a ≠ it := titer_apart hit pT
    obtain ⟨f0, f1, f2, f3, f4, f5⟩ := hf it (by simp)
    have hl := rv.length
    have hn : its.toArray.size = i := by simp; omega
    exact wpAny_pyNext_enum_endD (Draws.tuple (A := X.A.in1) (by have := I.ok.hd hc; exact this) it a hia its.toArray) he (by rw [hn]; exact ⟨hit, pT⟩) fun h' eb => ⟨rfl, I.turned (t' := s.toks) (fun b o hb q => eb b o hb q) f0 f1 f3 f4 f5⟩
  self := fun A i s Q E st h => let ⟨⟨_, he⟩, _⟩ := st; wpAny_pyIter_enum he h
def iEnumA (K : PySem.W.Frag) (ta : TA) : TI := fun s H R => ta s H fun vs H1 => ∃ a xs, vs = [.ref a] ∧ ((SqL K H1 a xs ∧ R (Ite K a) H1) ∨ (SqT K H1 a xs ∧ R (IteT K a) H1))
theorem pi_enumA {X : Cx} {e : Expr} {ta : TA} {p pos tpos : Pos} {elts : List Expr} {kk : Nat} (hg : Gl X "enumerate") (hm : X.mg "enumerate" = none) (ha : PA X [e] ta) (hs : starEach [e] X.env = [(false, eval e X.env)] := by rfl) :
    PI X (.Tuple elts kk tpos) (.Call (.Name "enumerate" p) [e] [] pos) (iEnumA X.K ta) := by
  refine ⟨fun pins s σ H R I h => ?_⟩
  refine Call_ (ld_blt I hg hm boot_enumerate (PyProof.Rows.callWith_type1 (thn (ha.run pos pins s σ H _ I h) fun us s1 ⟨vs, H1, I1, r1, q1⟩ => ?_) hs rfl))
  obtain ⟨a, xs, ex, q⟩ := q1
  subst ex
  cases r1 with
  | cons r rr =>
    cases rr
    cases r
    have fpk : ∀ b ∈ [s1.heap.objs.size + 1, s1.heap.objs.size], FpOk X pins H1 b := fun b hb => by
      have e' : b = s1.heap.objs.size + 1 ∨ b = s1.heap.objs.size := by simpa using hb
      have hle : s1.heap.objs.size ≤ b := by
        rcases e' with z | z
        · rw [z]; exact Nat.le_add_right _ _
        · rw [z]; exact Nat.le_refl _
      exact I1.fpOk hle (I1.hok.fresh hle)
    rcases q with ⟨hq, q⟩ | ⟨hq, q⟩
    · obtain ⟨its, rv, p', hz⟩ := I1.list hq
      refine call_enumerate_list p'.isList fun h' he hit hsz hk => wpAny_pyIter_enum he ?_
      have I2 : Inv X pins σ H1 { s1 with heap := h' } := I1.kept (t' := s1.toks) hk
      exact ⟨s1.heap.objs.size + 1, [s1.heap.objs.size + 1, s1.heap.objs.size], _, _, H1, rfl, I2, turn_enum a (s1.heap.objs.size + 1) s1.heap.objs.size, ⟨⟨.none, he⟩, hit, Nat.succ_ne_self _⟩, fpk, q⟩
    · obtain ⟨its, rv, p', hz⟩ := I1.tuple hq
      refine call_enumerate_tuple (show s1.heap.IsTuple a its.toArray from p') fun h' he hit hsz hk => wpAny_pyIter_enum he ?_
      have I2 : Inv X pins σ H1 { s1 with heap := h' } := I1.kept (t' := s1.toks) hk
      exact ⟨s1.heap.objs.size + 1, [s1.heap.objs.size + 1, s1.heap.objs.size], _, _, H1, rfl, I2, turn_enumT a (s1.heap.objs.size + 1) s1.heap.objs.size, ⟨⟨.none, he⟩, hit, Nat.succ_ne_self _⟩, fpk, q⟩
end Pm

set_option autoImplicit true
namespace Pm
open PySem PySem.Spec L2
variable {u0 : Unit} [Tab0 u0]

/-! ### targets -/
inductive Tgt where
  | nm (i : Nat) | tp (is : List Nat)
def setA : List Nat → List D → Ev → Option Ev
  | [], [], w => some w
  | i :: is, d :: ds, w => (setE w i d).bind (setA is ds)
  | _, _, _ => none
def setT : Tgt → D → Ev → Option Ev
  | .nm i, d, w => setE w i d
  | .tp is, .tup xs, w => setA is xs w
  | .tp _, _, _ => none
def wrT : Tgt → List Nat
  | .nm i => [i]
  | .tp is => is
/-- a target's reading, for data that own nothing -/
def TgR (K : PySem.W.Frag) (g : TG) (tg : Tgt) : Prop := ∀ (v : V) (s : L2.St) (H : Hp) (Q : L2.St → Hp → Prop) (w w1 : Ev) (F : List Addr) (ds : List D) (vs : List V) (d : D),
  RV K H d v [] → pl d = true → Hold K H w s ds vs F → setT tg d w = some w1 → (∀ s' F', Agr (wrT tg) s s' → (∀ a ∈ F', a ∈ F) → Hold K H w1 s' ds vs F' → Q s' H) → g v s H Q
theorem Hold.addP {K : PySem.W.Frag} {H : Hp} {w : Ev} {s : L2.St} {ds : List D} {vs : List V} {F : List Addr} {d : D} {v : V} (h : Hold K H w s ds vs F) (r : RV K H d v []) : Hold K H w s (d :: ds) (v :: vs) F := by
  obtain ⟨ft, fe, h1, h2, p, nd⟩ := h
  exact ⟨ft, fe, ⟨v, vs, [], ft, rfl, r, h1, rfl⟩, h2, p, nd⟩
theorem tgr_name {K : PySem.W.Frag} (i : Nat) : TgR K (gName i) (.nm i) := fun v s H Q w w1 F ds vs d r p h e c => by
  change setE w i d = some w1 at e
  unfold setE at e
  by_cases hi : i < w.length
  · rw [if_pos hi] at e
    cases e
    obtain ⟨F', h', sub⟩ := (h.addP r).put hi
    exact c _ F' (.set List.mem_cons_self) sub h'
  · rw [if_neg hi] at e; cases e
def TgsR (K : PySem.W.Frag) (g : TGs) (is : List Nat) : Prop := ∀ (us : List V) (s : L2.St) (H : Hp) (Q : L2.St → Hp → Prop) (w w1 : Ev) (F : List Addr) (ds : List D) (vs : List V) (xs : List D),
  RVs K H xs us [] → pls xs = true → Hold K H w s ds vs F → setA is xs w = some w1 → (∀ s' F', Agr is s s' → (∀ a ∈ F', a ∈ F) → Hold K H w1 s' ds vs F' → Q s' H) → g us s H Q
theorem tgs_nil {K : PySem.W.Frag} : TgsR K gNil [] := fun us s H Q w w1 F ds vs xs r p h e c => by
  cases xs with
  | cons x xs => cases e
  | nil =>
    cases e
    exact ⟨r.1, c s F (.refl _ _) (fun _ m => m) h⟩
theorem tgs_cons {K : PySem.W.Frag} {i : Nat} {is : List Nat} {g : TGs} (hg : TgsR K g is) : TgsR K (gCons (gName i) g) (i :: is) := fun us s H Q w w1 F ds vs xs r p h e c => by
  cases xs with
  | nil => cases e
  | cons x xs =>
    obtain ⟨w0, e1, e2⟩ := Option.bind_eq_some_iff.mp (show (setE w i x).bind (setA is xs) = some w1 from e)
    obtain ⟨u, t, f, f2, e3, r1, r2, e4⟩ := r
    have e5 : f = [] := List.append_eq_nil_iff.mp e4.symm |>.1
    have e6 : f2 = [] := List.append_eq_nil_iff.mp e4.symm |>.2
    subst e5; subst e6
    have pp : pl x = true ∧ pls xs = true := by
      unfold pls at p
      rw [Bool.and_eq_true] at p
      exact p
    refine ⟨u, t, e3, tgr_name i u s H _ w w0 F ds vs x r1 pp.1 h e1 fun s' F' ag sub h' => ?_⟩
    refine hg t s' H _ w0 w1 F' ds vs xs r2 pp.2 h' e2 fun s2 F2 ag2 sub2 h2 => ?_
    exact c s2 F2 ((ag.mono fun k m => by
      have : k = i := by simpa [wrT] using m
      rw [this]; exact List.mem_cons_self).trans (ag2.mono fun k m => List.mem_cons_of_mem _ m)) (fun a m => sub a (sub2 a m)) h2
theorem setA_len : ∀ {is : List Nat} {xs : List D} {w w1 : Ev}, setA is xs w = some w1 → xs.length = is.length
  | [], [], _, _, _ => rfl
  | [], _ :: _, _, _, h => by cases h
  | _ :: _, [], _, _, h => by cases h
  | i :: is, x :: xs, w, w1, h => by
    obtain ⟨w0, e1, e2⟩ := Option.bind_eq_some_iff.mp (show (setE w i x).bind (setA is xs) = some w1 from h)
    rw [List.length_cons, List.length_cons, setA_len e2]
theorem tgr_tup {K : PySem.W.Frag} {is : List Nat} {g : TGs} {n : Nat} (hg : TgsR K g is) (hn : is.length = n := by rfl) : TgR K (gTup K n g) (.tp is) := fun v s H Q w w1 F ds vs d r p h e c => by
  cases d with
  | tup xs =>
    obtain ⟨a, us, e1, q, r1⟩ := r
    have e2 := setA_len (show setA is xs w = some w1 from e)
    exact ⟨a, us, e1, .inl (.inl q), by rw [← r1.length, e2, hn], hg us s H Q w w1 F ds vs xs r1 p h e c⟩
  | non => cases e
  | bl i => cases e
  | int i => cases e
  | str x => cases e
  | lst x => cases e
  | own x => cases e
  | xo _ _ _ => cases e
  | odc _ _ _ => cases e
  | fdc _ _ _ => cases e
  | fn => cases e

/-! ### what is walked -/
/-- the walk J goes over the items, as long as what it walks (tds at tvs) stands -/
structure Src (K : PySem.W.Frag) (J : It) (items tds : List D) (tvs : List V) : Prop where
  pl : ∀ (i : Nat) d, items[i]? = some d → pl d = true
  go : ∀ H f i, RVs K H tds tvs f → i < items.length → J.go i H
  stop : ∀ H f, RVs K H tds tvs f → J.stop items.length H
  yld : ∀ H f i d x H', RVs K H tds tvs f → items[i]? = some d → J.yld i H x H' → Kp [] H H' ∧ RV K H' d x []
/-- the links of what is walked to slots -/
def Lnk (s : L2.St) (ks : List (Option Nat)) (vs : List V) : Prop := ∀ (k j : Nat) (v : V), ks[k]? = some (some j) → vs[k]? = some v → s[j]? = some (some v)
def tI (K : PySem.W.Frag) (mg : Str → Option Value) (Eh : WX) (ks : List (Option Nat)) (f : PM (List D × List D)) : TI := fun s H R => ∃ w F, Hold K H w s [] [] F ∧ Po K mg Eh H F s (f w) fun p w' =>
  ∀ J H' F' tvs, Stp F H F' H' → Hold K H' w' s p.2 tvs F' → Src K J p.1 p.2 tvs → Lnk s ks tvs → R J H'
/-- an argument that is walked: a slot's datum, taken if it is owned and put back behind -/
def xK (j : Nat) : PM D := fun w => match slot w j with
  | some d => if pl d = true then .ok d w else .ok d (w.set j none)
  | none => .bad
/-- arguments with links -/
def tAL (K : PySem.W.Frag) (mg : Str → Option Value) (Eh : WX) (ks : List (Option Nat)) (f : PM (List D)) : TA := fun s H Q => ∃ w F, Hold K H w s [] [] F ∧ Po K mg Eh H F s (f w) fun ds w' =>
  ∀ vs H' F', Stp F H F' H' → Hold K H' w' s ds vs F' → Lnk s ks vs → Q vs H'
/-- what walks over one value, by items -/
def putB : List (Option Nat) → List D → Ev → Ev
  | some j :: ks, d :: ds, w => putB ks ds (w.set j (some d))
  | none :: ks, _ :: ds, w => putB ks ds w
  | _, _, w => w
section
variable {X : Cx} {Eh : WX} {s : L2.St} {H H1 : Hp} {F F1 : List Addr} {β : Type}
theorem tAL_run {ks : List (Option Nat)} {f : PM (List D)} {k : List D → Ev → Rs β} {Q' : β → Ev → Prop} {R : List V → Hp → Prop} {w1 : Ev} {ds : List D} {vs : List V}
    (hold : Hold X.K H1 w1 s ds vs F1) (st : Stp F H F1 H1) (h : Po X.K X.mg Eh H F s ((f w1).bind k) Q')
    (c : ∀ es w2 us H2 F2, f w1 = .ok es w2 → Stp F H F2 H2 → Hold X.K H2 w2 s (ds ++ es) (vs ++ us) F2 → Lnk s ks us → Po X.K X.mg Eh H F s (k es w2) Q' → R us H2) : tAL X.K X.mg Eh ks f s H1 R := by
  obtain ⟨F0, h0, sub, fr⟩ := hold.frame
  refine ⟨w1, F0, h0, ?_⟩
  cases e : f w1 with
  | ok d w2 =>
    rw [e] at h
    intro v H' F' st' h' l
    obtain ⟨F2, h2, st2⟩ := fr st' h'
    exact c d w2 v H' F2 e (st.trans st2) h2 l h
  | ex cc fs w2 =>
    rw [e] at h
    intro cls od H' F' st' h' x
    exact h cls od H' F' (st.trans (st'.mono sub)) h' x
  | bad => rw [e] at h; exact h
theorem pal0 : PA X [] (tAL X.K X.mg Eh [] xNil) := pa_nil.imp fun s H Q ⟨w, F, hold, q⟩ => q [] H F (Stp.refl fun _ m => m) hold fun k j v e _ => by simp at e
theorem lnk_cons {ks : List (Option Nat)} {o : Option Nat} {v : V} {vs : List V} (h : ∀ j, o = some j → s[j]? = some (some v)) (l : Lnk s ks vs) : Lnk s (o :: ks) (v :: vs) := fun k j u e e2 => by
  cases k with
  | zero =>
    have a : o = some j := by simpa using e
    have b : v = u := by simpa using e2
    rw [← b]
    exact h j a
  | succ k => exact l k j u (by simpa using e) (by simpa using e2)
theorem pal1 {e : Expr} {es : List Expr} {ks : List (Option Nat)} {f : PM D} {g : PM (List D)} (h : PE X e (tP X.K X.mg Eh f)) (hr : PA X es (tAL X.K X.mg Eh ks g)) (hs : starEach (e :: es) X.env = (false, eval e X.env) :: starEach es X.env := by rfl) : PA X (e :: es) (tAL X.K X.mg Eh (none :: ks) (xCons f g)) :=
  (pa_cons h hr hs).imp fun s H Q ⟨w, F, hold, q⟩ => by
    refine tP_run hold (Stp.refl fun _ m => m) q fun d w2 v H2 F2 e st h2 q2 => ?_
    refine tAL_run h2 st q2 fun ds w3 vs H3 F3 e' st' h3 l q3 => ?_
    exact q3 (v :: vs) H3 F3 st' h3 (lnk_cons (fun j z => nomatch z) l)
theorem xK_run {j : Nat} {k : D → Ev → Rs β} {Q' : β → Ev → Prop} {R : VK} {w : Ev} (hold : Hold X.K H w s [] [] F) (q : Po X.K X.mg Eh H F s ((xK j w).bind k) Q')
    (c : ∀ d w2 v F2, (∀ a ∈ F2, a ∈ F) → s[j]? = some (some v) → Hold X.K H w2 s [d] [v] F2 → Po X.K X.mg Eh H F s (k d w2) Q' → R v H) : ∃ v, s[j]? = some (some v) ∧ R v H := by
  cases e : slot w j with
  | none => rw [show xK j w = .bad by unfold xK; rw [e]] at q; exact q.elim
  | some d =>
    obtain ⟨v, ej, h2⟩ := hold.takeS e
    by_cases p : pl d = true
    · rw [show xK j w = .ok d w by unfold xK; rw [e]; exact if_pos p] at q
      obtain ⟨v', f, ej', r, m⟩ := hold.atSlot e
      rw [ej] at ej'
      cases ej'
      exact ⟨v, ej, c d w v F (fun _ m => m) ej (hold.addP (r.nil_of p)) q⟩
    · rw [show xK j w = .ok d (w.set j none) by unfold xK; rw [e]; exact if_neg p] at q
      exact ⟨v, ej, c d _ v F (fun _ m => m) ej h2 q⟩
theorem palk {e : Expr} {es : List Expr} {ks : List (Option Nat)} {j : Nat} {g : PM (List D)} (h : PE X e (tVar j)) (hr : PA X es (tAL X.K X.mg Eh ks g)) (hs : starEach (e :: es) X.env = (false, eval e X.env) :: starEach es X.env := by rfl) : PA X (e :: es) (tAL X.K X.mg Eh (some j :: ks) (xCons (xK j) g)) :=
  (pa_cons h hr hs).imp fun s H Q ⟨w, F, hold, q⟩ => by
    refine xK_run (R := fun x H1 => tAL X.K X.mg Eh ks g s H1 fun xs H2 => Q (x :: xs) H2) hold q fun d w2 v F2 sub ej h2 q2 => ?_
    refine tAL_run h2 (Stp.refl sub) q2 fun ds w3 vs H3 F3 e' st' h3 l q3 => ?_
    exact q3 (v :: vs) H3 F3 st' h3 (lnk_cons (fun i z => by cases z; exact ej) l)
theorem Hold.putL {K : PySem.W.Frag} : ∀ {ks : List (Option Nat)} {ds : List D} {vs : List V} {w : Ev} {F : List Addr}, Hold K H w s ds vs F → Lnk s ks vs → ∃ F', Hold K H (putB ks ds w) s [] [] F' ∧ ∀ a ∈ F', a ∈ F
  | [], ds, vs, w, F, h, l => by
    have e : putB [] ds w = w := by unfold putB; rfl
    rw [e]
    exact h.drop0
  | o :: ks, [], vs, w, F, h, l => by
    have e : putB (o :: ks) [] w = w := by cases o <;> (unfold putB; rfl)
    rw [e]
    exact h.drop0
  | o :: ks, d :: ds, vs, w, F, h, l => by
    cases vs with
    | nil =>
      have := hold_len h
      cases this
    | cons v vs =>
      have l2 : Lnk s ks vs := fun k j u e e2 => l (k + 1) j u (by simpa using e) (by simpa using e2)
      cases o with
      | none =>
        obtain ⟨F1, h1, s1⟩ := Hold.drop (ds := [d]) (vs := [v]) h rfl
        obtain ⟨F2, h2, s2⟩ := Hold.putL (ks := ks) h1 l2
        exact ⟨F2, h2, fun a m => s1 a (s2 a m)⟩
      | some j =>
        obtain ⟨F1, h1, s1⟩ := h.putS (l 0 j v rfl rfl)
        obtain ⟨F2, h2, s2⟩ := Hold.putL (ks := ks) h1 l2
        exact ⟨F2, h2, fun a m => s1 a (s2 a m)⟩
end

/-! ### sources -/
def rngD (n : Nat) : List D := (List.range n).map fun (i : Nat) => D.int (i : Int)
def rngD2 (lo : Int) (n : Nat) : List D := (List.range n).map fun (i : Nat) => D.int (lo + (i : Int))
def enumD (xs : List D) : List D := xs.zipIdx.map fun p => .tup [.int (p.2 : Nat), p.1]
def zipD (xs ys : List D) : List D := (xs.zip ys).map fun p => .tup [p.1, p.2]
/-- from the arguments' data: the items, and what stands behind them -/
def iW (k : List D → Option (List D × List D)) (f : PM (List D)) : PM (List D × List D) := fun w => (f w).bind fun ds w1 => match k ds with
  | some p => .ok p w1
  | none => .bad
def rngC (j : Int) : Bool := decide (-(2 ^ 62) ≤ j ∧ j < 2 ^ 62)
def seqP (d : D) : Option (List D) := (seqD d).bind fun xs => if pls xs = true then some xs else none
def qG : List D → Option (List D × List D)
  | [d] => (seqP d).map fun xs => (xs, [d])
  | _ => none
def qR1 : List D → Option (List D × List D)
  | [.int n] => if rngC n = true then some (rngD n.toNat, []) else none
  | _ => none
def qR2 : List D → Option (List D × List D)
  | [.int lo, .int hi] => if rngC lo = true ∧ rngC hi = true then some (rngD2 lo (hi - lo).toNat, []) else none
  | _ => none
def qEn : List D → Option (List D × List D)
  | [d] => (seqP d).map fun xs => (enumD xs, [d])
  | _ => none
def sameK : D → D → Bool
  | .tup _, .tup _ => true
  | .tup _, _ => false
  | _, .tup _ => false
  | _, _ => true
def qZp : List D → Option (List D × List D)
  | [d, e] => if sameK d e = true then (seqP d).bind fun xs => (seqP e).map fun ys => (zipD xs ys, [d, e]) else none
  | _ => none
theorem seqP_some {d : D} {xs : List D} (h : seqP d = some xs) : seqD d = some xs ∧ pls xs = true := by
  obtain ⟨ys, h1, h2⟩ := Option.bind_eq_some_iff.mp h
  by_cases c : pls ys = true
  · rw [if_pos c] at h2; cases h2; exact ⟨h1, c⟩
  · rw [if_neg c] at h2; cases h2
theorem qG_some {ds : List D} {p : List D × List D} (h : qG ds = some p) : ∃ d xs, ds = [d] ∧ seqD d = some xs ∧ pls xs = true ∧ p = (xs, [d]) := by
  unfold qG at h
  split at h
  · obtain ⟨xs, h1, h2⟩ := Option.map_eq_some_iff.mp h
    exact ⟨_, xs, rfl, (seqP_some h1).1, (seqP_some h1).2, h2.symm⟩
  · cases h
theorem qR1_some {ds : List D} {p : List D × List D} (h : qR1 ds = some p) : ∃ n, ds = [.int n] ∧ rngC n = true ∧ p = (rngD n.toNat, []) := by
  unfold qR1 at h
  split at h
  · split at h
    · rename_i c; cases h; exact ⟨_, rfl, c, rfl⟩
    · cases h
  · cases h
theorem qR2_some {ds : List D} {p : List D × List D} (h : qR2 ds = some p) : ∃ lo hi, ds = [.int lo, .int hi] ∧ rngC lo = true ∧ rngC hi = true ∧ p = (rngD2 lo (hi - lo).toNat, []) := by
  unfold qR2 at h
  split at h
  · split at h
    · rename_i c; cases h; exact ⟨_, _, rfl, c.1, c.2, rfl⟩
    · cases h
  · cases h
theorem qEn_some {ds : List D} {p : List D × List D} (h : qEn ds = some p) : ∃ d xs, ds = [d] ∧ seqD d = some xs ∧ pls xs = true ∧ p = (enumD xs, [d]) := by
  unfold qEn at h
  split at h
  · obtain ⟨xs, h1, h2⟩ := Option.map_eq_some_iff.mp h
    exact ⟨_, xs, rfl, (seqP_some h1).1, (seqP_some h1).2, h2.symm⟩
  · cases h
theorem qZp_some {ds : List D} {p : List D × List D} (h : qZp ds = some p) : ∃ d e xs ys, ds = [d, e] ∧ sameK d e = true ∧ seqD d = some xs ∧ pls xs = true ∧ seqD e = some ys ∧ pls ys = true ∧ p = (zipD xs ys, [d, e]) := by
  unfold qZp at h
  split at h
  · split at h
    · rename_i c
      obtain ⟨xs, h1, h2⟩ := Option.bind_eq_some_iff.mp h
      obtain ⟨ys, h3, h4⟩ := Option.map_eq_some_iff.mp h2
      exact ⟨_, _, xs, ys, rfl, c, (seqP_some h1).1, (seqP_some h1).2, (seqP_some h3).1, (seqP_some h3).2, h4.symm⟩
    · cases h
  · cases h
section
variable {X : Cx} {Eh : WX} {s : L2.St} {H H1 : Hp} {F F1 : List Addr} {tg : Expr} {ks : List (Option Nat)}
theorem src_list {K : PySem.W.Frag} {d : D} {v : V} {xs : List D} {a : Addr} (hp : pls xs = true) (hv : v = .ref a) (hl : ∀ H f, RV K H d v f → ∃ vs g, SqL K H a vs ∧ RVs K H xs vs g) : Src K (Itl K a) xs [d] [v] where
  pl := fun i d e => pls_get hp e
  go := fun H f i r hi => by
    obtain ⟨vs, g, q, rs⟩ := hl H f r.one'
    have : i < vs.length := by rw [← rs.length]; exact hi
    exact ⟨vs, vs[i], q, List.getElem?_eq_getElem this⟩
  stop := fun H f r => by
    obtain ⟨vs, g, q, rs⟩ := hl H f r.one'
    exact ⟨vs, q, by rw [rs.length]; exact Nat.le_refl _⟩
  yld := fun H f i d' x H' r hi y => by
    obtain ⟨vs, g, q, rs⟩ := hl H f r.one'
    obtain ⟨e, y⟩ := y
    subst e
    obtain ⟨u, g2, h1, h2, _⟩ := rs.get hi
    have := y vs q
    rw [h1] at this
    cases this
    exact ⟨.rfl', h2.nil_of (pls_get hp hi)⟩
theorem src_tup {K : PySem.W.Frag} {d : D} {v : V} {xs : List D} {a : Addr} (hp : pls xs = true) (hv : v = .ref a) (hl : ∀ H f, RV K H d v f → ∃ vs g, SqT K H a vs ∧ RVs K H xs vs g) : Src K (Itt K a) xs [d] [v] where
  pl := fun i d e => pls_get hp e
  go := fun H f i r hi => by
    obtain ⟨vs, g, q, rs⟩ := hl H f r.one'
    have : i < vs.length := by rw [← rs.length]; exact hi
    exact ⟨vs, vs[i], q, List.getElem?_eq_getElem this⟩
  stop := fun H f r => by
    obtain ⟨vs, g, q, rs⟩ := hl H f r.one'
    exact ⟨vs, q, by rw [rs.length]; exact Nat.le_refl _⟩
  yld := fun H f i d' x H' r hi y => by
    obtain ⟨vs, g, q, rs⟩ := hl H f r.one'
    obtain ⟨e, y⟩ := y
    subst e
    obtain ⟨u, g2, h1, h2, _⟩ := rs.get hi
    have := y vs q
    rw [h1] at this
    cases this
    exact ⟨.rfl', h2.nil_of (pls_get hp hi)⟩
/-- where a value's items stand: a list or a tuple at a, at every heap -/
theorem seq_kind {K : PySem.W.Frag} {d : D} {v : V} {f : List Addr} {xs : List D} (r : RV K H d v f) (e : seqD d = some xs) :
    ∃ a, v = .ref a ∧ ((∀ H f, RV K H d v f → ∃ vs g, SqL K H a vs ∧ RVs K H xs vs g) ∧ (∃ ys, d = .lst ys ∨ d = .own ys) ∨ (∀ H f, RV K H d v f → ∃ vs g, SqT K H a vs ∧ RVs K H xs vs g) ∧ ∃ ys, d = .tup ys) := by
  cases d with
  | tup ys =>
    cases e
    obtain ⟨a, vs, e, q, r⟩ := r
    subst e
    exact ⟨a, rfl, .inr ⟨fun H f r => by obtain ⟨b, us, e, q, r⟩ := r; cases e; exact ⟨us, f, .inl (.inl q), r⟩, _, rfl⟩⟩
  | lst ys =>
    cases e
    obtain ⟨a, vs, e, q, r⟩ := r
    subst e
    exact ⟨a, rfl, .inl ⟨fun H f r => by obtain ⟨b, us, e, q, r, _⟩ := r; cases e; exact ⟨us, [], q.sq, r⟩, _, .inl rfl⟩⟩
  | own ys =>
    cases e
    obtain ⟨a, vs, g, e, q, r⟩ := r
    subst e
    exact ⟨a, rfl, .inl ⟨fun H f r => by obtain ⟨b, us, g, e, q, r, _⟩ := r; cases e; exact ⟨us, g, .of q, r⟩, _, .inr rfl⟩⟩
  | non => cases e
  | bl b => cases e
  | int i => cases e
  | str x => cases e
  | xo _ _ _ => cases e
  | odc _ _ _ => cases e
  | fdc _ _ _ => cases e
  | fn => cases e
theorem src_nil {K : PySem.W.Frag} {lo : Int} {n : Nat} {items : List D} (hl : items.length = n) (hi : ∀ i d, items[i]? = some d → d = D.int (lo + (i : Nat))) : Src K (Itr lo n) items [] [] where
  pl := fun i d e => by rw [hi i d e]; rfl
  go := fun H f i r h => by show i < n; omega
  stop := fun H f r => by show n ≤ items.length; omega
  yld := fun H f i d x H' r e y => by
    obtain ⟨e1, e2⟩ := y
    subst e1
    have := hi i d e
    subst this
    exact ⟨.rfl', e2, rfl⟩
theorem rngD_len (n : Nat) : (rngD n).length = n := by unfold rngD; simp
theorem rngD2_len (lo : Int) (n : Nat) : (rngD2 lo n).length = n := by unfold rngD2; simp
theorem rngD_get {n i : Nat} {d : D} (h : (rngD n)[i]? = some d) : d = D.int (0 + (i : Nat)) := by
  unfold rngD at h
  rw [List.getElem?_map] at h
  obtain ⟨k, h1, h2⟩ := Option.map_eq_some_iff.mp h
  have := List.getElem?_eq_some_iff.mp h1
  obtain ⟨h3, h4⟩ := this
  rw [List.getElem_range] at h4
  rw [← h2, ← h4, Int.zero_add]
theorem rngD2_get {lo : Int} {n i : Nat} {d : D} (h : (rngD2 lo n)[i]? = some d) : d = D.int (lo + (i : Nat)) := by
  unfold rngD2 at h
  rw [List.getElem?_map] at h
  obtain ⟨k, h1, h2⟩ := Option.map_eq_some_iff.mp h
  obtain ⟨h3, h4⟩ := List.getElem?_eq_some_iff.mp h1
  rw [List.getElem_range] at h4
  rw [← h2, ← h4]
end
end Pm

set_option autoImplicit true
namespace Pm
open PySem PySem.Spec L2
variable {u0 : Unit} [Tab0 u0]

/-! ### what is walked, as rules -/
theorem _root_.L2.PI.imp {X : Cx} {tg e : Expr} {t t' : TI} (h : PI X tg e t) (i : ∀ s H R, t' s H R → t s H R) : PI X tg e t' := ⟨fun pins s σ H R I q => h.run pins s σ H R I (i _ _ _ q)⟩
theorem hold_kp {K : PySem.W.Frag} {H H' : Hp} {w : Ev} {s : L2.St} {ds : List D} {vs : List V} {F : List Addr} (h : Hold K H w s ds vs F) (k : Kp [] H H') : Hold K H' w s ds vs F := by
  obtain ⟨ft, fe, h1, h2, q, nd⟩ := h
  exact ⟨ft, fe, RVs.kp k (fun _ z => nomatch z) _ _ _ (fun _ _ z => nomatch z) h1, h2.kp k (fun _ z => nomatch z) (fun _ _ z => nomatch z), q, nd⟩
theorem stp_kp {H H' : Hp} {F : List Addr} (k : Kp [] H H') : Stp F H F H' := ⟨k.mono (fun _ z => nomatch z), fun a m => .inl m⟩
section
variable {X : Cx} {Eh : WX} {s : L2.St} {H H1 : Hp} {F F1 : List Addr} {tg e e2 : Expr} {f g : PM D} {j : Nat} {p pos tpos : Pos}
theorem seq_end {R : It → Hp → Prop} {w : Ev} {d : D} {v : V} {xs : List D} {ks : List (Option Nat)} (h1 : Hold X.K H1 w s [d] [v] F1) (hs : seqD d = some xs) (hp : pls xs = true)
    (q : ∀ J, Src X.K J xs [d] [v] → R J H1) : ∃ a, v = .ref a ∧ (((∃ ys, SqL X.K H1 a ys) ∧ R (Itl X.K a) H1) ∨ ((∃ ys, SqT X.K H1 a ys) ∧ R (Itt X.K a) H1)) := by
  obtain ⟨f, r, _⟩ := Hold.one h1
  obtain ⟨a, ev, hk⟩ := seq_kind r hs
  refine ⟨a, ev, ?_⟩
  rcases hk with ⟨hk, _⟩ | ⟨hk, _⟩
  · obtain ⟨vs, g, sq, _⟩ := hk H1 f r
    exact .inl ⟨⟨vs, sq⟩, q _ (src_list hp ev hk)⟩
  · obtain ⟨vs, g, sq, _⟩ := hk H1 f r
    exact .inr ⟨⟨vs, sq⟩, q _ (src_tup hp ev hk)⟩
theorem lnk1 {v : V} : Lnk s [none] [v] := fun k j u e e2 => by
  cases k with
  | zero => cases e
  | succ k => cases e
theorem lnkj {v : V} (h : s[j]? = some (some v)) : Lnk s [some j] [v] := fun k i u e e2 => by
  cases k with
  | zero =>
    have a : j = i := by simpa using e
    have b : v = u := by simpa using e2
    rw [← a, ← b]; exact h
  | succ k => cases e
theorem back_iw {R : List D × List D → Ev → Prop} {o : Option (List D × List D)} {w : Ev} (h : Po X.K X.mg Eh H F s (match o with
    | some p => Rs.ok p w
    | none => .bad) R) : ∃ p, o = some p ∧ R p w := by
  cases o with
  | none => exact h.elim
  | some p => exact ⟨p, rfl, h⟩
theorem x1_eq {α : Type} {f : PM D} {w : Ev} {k : List D → Ev → Rs α} : ((xCons f xNil w).bind k) = (f w).bind fun d w1 => k [d] w1 := by
  unfold xCons xNil
  cases f w <;> rfl
theorem it_g (h : PE X e (tP X.K X.mg Eh f)) : PI X tg e (tI X.K X.mg Eh [none] (iW qG (xCons f xNil))) := (pi_seq h).imp fun s H R ⟨w, F, hold, q⟩ => by
  unfold iW at q
  rw [x1_eq] at q
  refine tP_run hold (Stp.refl fun _ m => m) q fun d w2 v H2 F2 e st h2 q2 => ?_
  obtain ⟨p, h1, h3⟩ := back_iw q2
  obtain ⟨d', xs, e1, e2, e3, e4⟩ := qG_some h1
  cases e1
  subst e4
  exact seq_end (ks := [none]) h2 e2 e3 fun J src => h3 J H2 F2 [v] st h2 src lnk1
theorem it_v (h : PE X e (tVar j)) : PI X tg e (tI X.K X.mg Eh [some j] (iW qG (xCons (xK j) xNil))) := (pi_seq h).imp fun s H R ⟨w, F, hold, q⟩ => by
  unfold iW at q
  rw [x1_eq] at q
  refine xK_run (R := fun x H1 => ∃ a, x = .ref a ∧ (((∃ xs, SqL X.K H1 a xs) ∧ R (Itl X.K a) H1) ∨ ((∃ xs, SqT X.K H1 a xs) ∧ R (Itt X.K a) H1))) hold q fun d w2 v F2 sub ej h2 q2 => ?_
  obtain ⟨p, h1, h3⟩ := back_iw q2
  obtain ⟨d', xs, e1, e2, e3, e4⟩ := qG_some h1
  cases e1
  subst e4
  exact seq_end (ks := [some j]) h2 e2 e3 fun J src => h3 J H F2 [v] (Stp.refl sub) h2 src (lnkj ej)
variable {a b : Expr} {fs : PM (List D)} {ks : List (Option Nat)}
theorem lnk0 {ks : List (Option Nat)} : Lnk s ks [] := fun k j u e e2 => by simp at e2
theorem hold1 {K : PySem.W.Frag} {w : Ev} {d : D} {us : List V} (h : Hold K H w s [d] us F) : ∃ v, us = [v] := by
  have := hold_len h
  match us, this with
  | [v], _ => exact ⟨v, rfl⟩
theorem hold2 {K : PySem.W.Frag} {w : Ev} {d d' : D} {us : List V} (h : Hold K H w s [d, d'] us F) : ∃ v v', us = [v, v'] := by
  have := hold_len h
  match us, this with
  | [v, v'], _ => exact ⟨v, v', rfl⟩
theorem it_r1 (hg : Gl X "range") (hm : X.mg "range" = none) (ha : PA X [a] (tAL X.K X.mg Eh ks fs)) (hs : starEach [a] X.env = [(false, eval a X.env)] := by rfl) :
    PI X tg (.Call (.Name "range" p) [a] [] pos) (tI X.K X.mg Eh ks (iW qR1 fs)) := (pi_range1 hg hm ha hs).imp fun s H R ⟨w, F, hold, q⟩ => by
  unfold iW at q
  refine tAL_run hold (Stp.refl fun _ m => m) q fun ds w2 us H2 F2 e st h2 l q2 => ?_
  replace h2 : Hold X.K H2 w2 s ds us F2 := h2
  obtain ⟨p, h1, h3⟩ := back_iw q2
  obtain ⟨n, e1, c, e2⟩ := qR1_some h1
  subst e1; subst e2
  have hc := of_decide_eq_true (p := -(2 ^ 62) ≤ n ∧ n < 2 ^ 62) c
  obtain ⟨F3, h4, sub⟩ := h2.drop0
  obtain ⟨v, ev⟩ := hold1 h2
  subst ev
  obtain ⟨fx, rx, _⟩ := Hold.one h2
  exact ⟨n, by rw [rx.1], hc.1, hc.2, h3 _ H2 F3 [] (st.trans (Stp.refl sub)) h4 (src_nil (rngD_len _) fun i d h => rngD_get h) lnk0⟩
theorem it_r2 (hg : Gl X "range") (hm : X.mg "range" = none) (ha : PA X [a, b] (tAL X.K X.mg Eh ks fs)) (hs : starEach [a, b] X.env = [(false, eval a X.env), (false, eval b X.env)] := by rfl) (hs2 : starEach [b] X.env = [(false, eval b X.env)] := by rfl) :
    PI X tg (.Call (.Name "range" p) [a, b] [] pos) (tI X.K X.mg Eh ks (iW qR2 fs)) := (pi_range2 hg hm ha hs hs2).imp fun s H R ⟨w, F, hold, q⟩ => by
  unfold iW at q
  refine tAL_run hold (Stp.refl fun _ m => m) q fun ds w2 us H2 F2 e st h2 l q2 => ?_
  replace h2 : Hold X.K H2 w2 s ds us F2 := h2
  obtain ⟨p, h1, h3⟩ := back_iw q2
  obtain ⟨lo, hi, e1, c1, c2, e2⟩ := qR2_some h1
  subst e1; subst e2
  have hc := of_decide_eq_true (p := -(2 ^ 62) ≤ lo ∧ lo < 2 ^ 62) c1
  have hc2 := of_decide_eq_true (p := -(2 ^ 62) ≤ hi ∧ hi < 2 ^ 62) c2
  obtain ⟨F3, h4, sub⟩ := h2.drop0
  obtain ⟨v, v', ev⟩ := hold2 h2
  subst ev
  obtain ⟨fx, fy, rx, ry, _⟩ := Hold.two h2
  exact ⟨lo, hi, by rw [rx.1, ry.1], ⟨hc.1, hc.2, hc2.1, hc2.2⟩, h3 _ H2 F3 [] (st.trans (Stp.refl sub)) h4 (src_nil (rngD2_len _ _) fun i d h => rngD2_get h) lnk0⟩
theorem pair_rv {K : PySem.W.Frag} {d d' : D} {x y : V} {T : Addr} (r : RV K H d x []) (r' : RV K H d' y []) (n : H T = none) : Kp [] H (upd H T (.tup [x, y])) ∧ RV K (upd H T (.tup [x, y])) (.tup [d, d']) (.ref T) [] := by
  obtain ⟨k, f, rv, _, fr⟩ := new_tup (K := K) (H := H) (xs := [d, d']) (vs := [x, y]) (p := T) ⟨x, [y], [], [], rfl, r, ⟨y, [], [], [], rfl, r', ⟨rfl, rfl⟩, rfl⟩, rfl⟩ n
  refine ⟨k, ?_⟩
  obtain ⟨a, vs, e, q, rs⟩ := rv
  cases e
  refine ⟨T, [x, y], rfl, upd_same, ?_⟩
  have r1 := RV.kp k (fun _ z => nomatch z) d x [] (fun _ z => nomatch z) r
  have r2 := RV.kp k (fun _ z => nomatch z) d' y [] (fun _ z => nomatch z) r'
  exact ⟨x, [y], [], [], rfl, r1, ⟨y, [], [], [], rfl, r2, ⟨rfl, rfl⟩, rfl⟩, rfl⟩
theorem enumD_get {xs : List D} {i : Nat} {d : D} (h : (enumD xs)[i]? = some d) : ∃ x, xs[i]? = some x ∧ d = .tup [.int (i : Nat), x] := by
  unfold enumD at h
  rw [List.getElem?_map, List.getElem?_zipIdx] at h
  obtain ⟨q, h1, h2⟩ := Option.map_eq_some_iff.mp h
  obtain ⟨x, h3, h4⟩ := Option.map_eq_some_iff.mp h1
  subst h4
  exact ⟨x, h3, by rw [← h2]; simp⟩
theorem enumD_len (xs : List D) : (enumD xs).length = xs.length := by unfold enumD; simp
theorem zipD_len (xs ys : List D) : (zipD xs ys).length = min xs.length ys.length := by unfold zipD; simp
theorem zipD_get {xs ys : List D} {i : Nat} {d : D} (h : (zipD xs ys)[i]? = some d) : ∃ x y, xs[i]? = some x ∧ ys[i]? = some y ∧ d = .tup [x, y] := by
  unfold zipD at h
  rw [List.getElem?_map] at h
  obtain ⟨q, h1, h2⟩ := Option.map_eq_some_iff.mp h
  rw [List.getElem?_zip_eq_some] at h1
  exact ⟨q.1, q.2, h1.1, h1.2, h2.symm⟩
theorem src_enum {K : PySem.W.Frag} {d : D} {v : V} {xs : List D} {a : Addr} (hp : pls xs = true) (hl : ∀ H f, RV K H d v f → ∃ vs g, SqL K H a vs ∧ RVs K H xs vs g) : Src K (Ite K a) (enumD xs) [d] [v] where
  pl := fun i d e => by
    obtain ⟨x, h1, h2⟩ := enumD_get e
    rw [h2]
    show (true && (pl x && true)) = true
    rw [pls_get hp h1]; rfl
  go := fun H f i r hi => by
    obtain ⟨vs, g, q, rs⟩ := hl H f r.one'
    have : i < vs.length := by rw [← rs.length]; rw [enumD_len] at hi; exact hi
    exact ⟨vs, vs[i], q, List.getElem?_eq_getElem this⟩
  stop := fun H f r => by
    obtain ⟨vs, g, q, rs⟩ := hl H f r.one'
    exact ⟨vs, q, by rw [enumD_len, rs.length]; exact Nat.le_refl _⟩
  yld := fun H f i d' x H' r hi y => by
    obtain ⟨vs, g, q, rs⟩ := hl H f r.one'
    obtain ⟨T, z, e1, e2, e3, e4⟩ := y
    obtain ⟨x0, h1, h2⟩ := enumD_get hi
    obtain ⟨u, g2, h3, h4, _⟩ := rs.get h1
    have := e4 vs q
    rw [h3] at this
    cases this
    subst e1; subst e3; subst h2
    exact pair_rv ⟨rfl, rfl⟩ (h4.nil_of (pls_get hp h1)) e2
theorem src_enumT {K : PySem.W.Frag} {d : D} {v : V} {xs : List D} {a : Addr} (hp : pls xs = true) (hl : ∀ H f, RV K H d v f → ∃ vs g, SqT K H a vs ∧ RVs K H xs vs g) : Src K (IteT K a) (enumD xs) [d] [v] where
  pl := fun i d e => by
    obtain ⟨x, h1, h2⟩ := enumD_get e
    rw [h2]
    show (true && (pl x && true)) = true
    rw [pls_get hp h1]; rfl
  go := fun H f i r hi => by
    obtain ⟨vs, g, q, rs⟩ := hl H f r.one'
    have : i < vs.length := by rw [← rs.length]; rw [enumD_len] at hi; exact hi
    exact ⟨vs, vs[i], q, List.getElem?_eq_getElem this⟩
  stop := fun H f r => by
    obtain ⟨vs, g, q, rs⟩ := hl H f r.one'
    exact ⟨vs, q, by rw [enumD_len, rs.length]⟩
  yld := fun H f i d' x H' r hi y => by
    obtain ⟨vs, g, q, rs⟩ := hl H f r.one'
    obtain ⟨T, z, e1, e2, e3, e4⟩ := y
    obtain ⟨x0, h1, h2⟩ := enumD_get hi
    obtain ⟨u, g2, h3, h4, _⟩ := rs.get h1
    have := e4 vs q
    rw [h3] at this
    cases this
    subst e1; subst e3; subst h2
    exact pair_rv ⟨rfl, rfl⟩ (h4.nil_of (pls_get hp h1)) e2
theorem it_en {elts : List Expr} {kk : Nat} (hg : Gl X "enumerate") (hm : X.mg "enumerate" = none) (ha : PA X [a] (tAL X.K X.mg Eh ks fs)) (hs : starEach [a] X.env = [(false, eval a X.env)] := by rfl) :
    PI X (.Tuple elts kk tpos) (.Call (.Name "enumerate" p) [a] [] pos) (tI X.K X.mg Eh ks (iW qEn fs)) := (pi_enumA hg hm ha hs).imp fun s H R ⟨w, F, hold, q⟩ => by
  unfold iW at q
  refine tAL_run hold (Stp.refl fun _ m => m) q fun ds w2 us H2 F2 e st h2 l q2 => ?_
  replace h2 : Hold X.K H2 w2 s ds us F2 := h2
  obtain ⟨p, h1, h3⟩ := back_iw q2
  obtain ⟨d, xs, e1, e2, e3, e4⟩ := qEn_some h1
  subst e1; subst e4
  obtain ⟨v, ev⟩ := hold1 h2
  subst ev
  obtain ⟨fx, rx, _⟩ := Hold.one h2
  obtain ⟨a, ev, hk⟩ := seq_kind rx e2
  subst ev
  rcases hk with ⟨hk, _⟩ | ⟨hk, _⟩
  · obtain ⟨vs, g, sq, _⟩ := hk H2 fx rx
    exact ⟨a, vs, rfl, .inl ⟨sq, h3 _ H2 F2 _ st h2 (src_enum e3 hk) l⟩⟩
  · obtain ⟨vs, g, sq, _⟩ := hk H2 fx rx
    exact ⟨a, vs, rfl, .inr ⟨sq, h3 _ H2 F2 _ st h2 (src_enumT e3 hk) l⟩⟩
theorem src_zip {K : PySem.W.Frag} {d d' : D} {v v' : V} {xs ys : List D} {a b : Addr} (hp : pls xs = true) (hp' : pls ys = true) (hl : ∀ H f, RV K H d v f → ∃ vs g, SqL K H a vs ∧ RVs K H xs vs g) (hl' : ∀ H f, RV K H d' v' f → ∃ vs g, SqL K H b vs ∧ RVs K H ys vs g) : Src K (Itz K a b) (zipD xs ys) [d, d'] [v, v'] where
  pl := fun i d e => by
    obtain ⟨x, y, h1, h2, h3⟩ := zipD_get e
    rw [h3]
    show (pl x && (pl y && true)) = true
    rw [pls_get hp h1, pls_get hp' h2]; rfl
  go := fun H f i r hi => by
    obtain ⟨_, _, f1, g1, e, r1, r2, _⟩ := r
    cases e
    obtain ⟨vs, g, q, rs⟩ := hl H _ r1
    obtain ⟨vs', g', q', rs'⟩ := hl' H _ r2.one'
    rw [zipD_len] at hi
    have h1 : i < vs.length := by rw [← rs.length]; omega
    have h2 : i < vs'.length := by rw [← rs'.length]; omega
    exact ⟨vs, vs', vs[i], vs'[i], q, q', List.getElem?_eq_getElem h1, List.getElem?_eq_getElem h2⟩
  stop := fun H f r => by
    obtain ⟨_, _, f1, g1, e, r1, r2, _⟩ := r
    cases e
    obtain ⟨vs, g, q, rs⟩ := hl H _ r1
    obtain ⟨vs', g', q', rs'⟩ := hl' H _ r2.one'
    refine ⟨vs, vs', q, q', ?_⟩
    rw [zipD_len, ← rs.length, ← rs'.length]
    omega
  yld := fun H f i d' x H' r hi y => by
    obtain ⟨_, _, f1, g1, e, r1, r2, _⟩ := r
    cases e
    obtain ⟨vs, g, q, rs⟩ := hl H _ r1
    obtain ⟨vs', g', q', rs'⟩ := hl' H _ r2.one'
    obtain ⟨T, z, z', e1, e2, e3, e4, e5⟩ := y
    obtain ⟨x0, y0, h1, h2, h3⟩ := zipD_get hi
    obtain ⟨u, g2, h4, h5, _⟩ := rs.get h1
    obtain ⟨u', g2', h4', h5', _⟩ := rs'.get h2
    have t1 := e4 vs q
    have t2 := e5 vs' q'
    rw [h4] at t1
    rw [h4'] at t2
    cases t1; cases t2
    subst e1; subst e3; subst h3
    exact pair_rv (h5.nil_of (pls_get hp h1)) (h5'.nil_of (pls_get hp' h2)) e2
theorem src_zipT {K : PySem.W.Frag} {d d' : D} {v v' : V} {xs ys : List D} {a b : Addr} (hp : pls xs = true) (hp' : pls ys = true) (hl : ∀ H f, RV K H d v f → ∃ vs g, SqT K H a vs ∧ RVs K H xs vs g) (hl' : ∀ H f, RV K H d' v' f → ∃ vs g, SqT K H b vs ∧ RVs K H ys vs g) : Src K (RZ.ItzT K a b) (zipD xs ys) [d, d'] [v, v'] where
  pl := fun i d e => by
    obtain ⟨x, y, h1, h2, h3⟩ := zipD_get e
    rw [h3]
    show (pl x && (pl y && true)) = true
    rw [pls_get hp h1, pls_get hp' h2]; rfl
  go := fun H f i r hi => by
    obtain ⟨_, _, f1, g1, e, r1, r2, _⟩ := r
    cases e
    obtain ⟨vs, g, q, rs⟩ := hl H _ r1
    obtain ⟨vs', g', q', rs'⟩ := hl' H _ r2.one'
    rw [zipD_len] at hi
    have h1 : i < vs.length := by rw [← rs.length]; omega
    have h2 : i < vs'.length := by rw [← rs'.length]; omega
    exact ⟨vs, vs', vs[i], vs'[i], q, q', List.getElem?_eq_getElem h1, List.getElem?_eq_getElem h2⟩
  stop := fun H f r => by
    obtain ⟨_, _, f1, g1, e, r1, r2, _⟩ := r
    cases e
    obtain ⟨vs, g, q, rs⟩ := hl H _ r1
    obtain ⟨vs', g', q', rs'⟩ := hl' H _ r2.one'
    refine ⟨vs, vs', q, q', ?_⟩
    rw [zipD_len, ← rs.length, ← rs'.length]
    omega
  yld := fun H f i d' x H' r hi y => by
    obtain ⟨_, _, f1, g1, e, r1, r2, _⟩ := r
    cases e
    obtain ⟨vs, g, q, rs⟩ := hl H _ r1
    obtain ⟨vs', g', q', rs'⟩ := hl' H _ r2.one'
    obtain ⟨T, z, z', e1, e2, e3, e4, e5⟩ := y
    obtain ⟨x0, y0, h1, h2, h3⟩ := zipD_get hi
    obtain ⟨u, g2, h4, h5, _⟩ := rs.get h1
    obtain ⟨u', g2', h4', h5', _⟩ := rs'.get h2
    have t1 := e4 vs q
    have t2 := e5 vs' q'
    rw [h4] at t1
    rw [h4'] at t2
    cases t1; cases t2
    subst e1; subst e3; subst h3
    exact pair_rv (h5.nil_of (pls_get hp h1)) (h5'.nil_of (pls_get hp' h2)) e2
theorem it_zp {elts : List Expr} {kk : Nat} (hg : Gl X "zip") (hm : X.mg "zip" = none) (ha : PA X [a, b] (tAL X.K X.mg Eh ks fs)) (hs : starEach [a, b] X.env = (false, eval a X.env) :: starEach [b] X.env := by rfl) (hpl : (backTo pos (starEach [b] X.env)).any (·.1) = false := by rfl) :
    PI X (.Tuple elts kk tpos) (.Call (.Name "zip" p) [a, b] [] pos) (tI X.K X.mg Eh ks (iW qZp fs)) := (RZ.pi_zipA hg hm ha hs hpl).imp fun s H R ⟨w, F, hold, q⟩ => by
  unfold iW at q
  refine tAL_run hold (Stp.refl fun _ m => m) q fun ds w2 us H2 F2 e st h2 l q2 => ?_
  replace h2 : Hold X.K H2 w2 s ds us F2 := h2
  obtain ⟨p, h1, h3⟩ := back_iw q2
  obtain ⟨d, d', xs, ys, e1, c, e2, e3, e4, e5, e6⟩ := qZp_some h1
  subst e1; subst e6
  obtain ⟨v, v', ev⟩ := hold2 h2
  subst ev
  obtain ⟨fx, fy, rx, ry, _⟩ := Hold.two h2
  obtain ⟨a, ev, hk⟩ := seq_kind rx e2
  obtain ⟨b, ev', hk'⟩ := seq_kind ry e4
  subst ev; subst ev'
  rcases hk with ⟨hk, zs, hz⟩ | ⟨hk, zs, hz⟩
  · rcases hk' with ⟨hk', zs', hz'⟩ | ⟨hk', zs', hz'⟩
    · obtain ⟨vs, g, sq, _⟩ := hk H2 fx rx
      obtain ⟨vs', g', sq', _⟩ := hk' H2 fy ry
      exact ⟨a, b, vs, vs', rfl, .inl ⟨sq, sq', h3 _ H2 F2 _ st h2 (src_zip e3 e5 hk hk') l⟩⟩
    · subst hz'
      rcases hz with hz | hz <;> (subst hz; cases c)
  · subst hz
    rcases hk' with ⟨hk', zs', hz'⟩ | ⟨hk', zs', hz'⟩
    · rcases hz' with hz' | hz' <;> (subst hz'; cases c)
    · obtain ⟨vs, g, sq, _⟩ := hk H2 fx rx
      obtain ⟨vs', g', sq', _⟩ := hk' H2 fy ry
      exact ⟨a, b, vs, vs', rfl, .inr ⟨sq, sq', h3 _ H2 F2 _ st h2 (src_zipT e3 e5 hk hk') l⟩⟩
end
end Pm

set_option autoImplicit true
namespace Pm
open PySem PySem.Spec L2
variable {u0 : Unit} [Tab0 u0]

/-! ### for -/
def forL (tg : Tgt) (body : PM Fl) : List D → PM Fl
  | [] => fun w => .ok .nx w
  | d :: ds => fun w => match setT tg d w with
    | some w1 => (body w1).bind fun fl w2 => match fl with
      | .nx => forL tg body ds w2
      | .ct => forL tg body ds w2
      | .bk => .ok .nx w2
      | .rt v => .ok (.rt v) w2
    | none => .bad
theorem forL_nil {tg : Tgt} {body : PM Fl} {w : Ev} : forL tg body [] w = .ok .nx w := rfl
theorem forL_cons {tg : Tgt} {body : PM Fl} {d : D} {ds : List D} {w : Ev} : forL tg body (d :: ds) w = match setT tg d w with
    | some w1 => (body w1).bind fun fl w2 => match fl with
      | .nx => forL tg body ds w2
      | .ct => forL tg body ds w2
      | .bk => .ok .nx w2
      | .rt v => .ok (.rt v) w2
    | none => .bad := rfl
def putR (ks : List (Option Nat)) (tds : List D) (r : Rs Fl) : Rs Fl := match r with
  | .ok fl w => .ok fl (putB ks tds w)
  | .ex c fs w => .ex c fs (putB ks tds w)
  | .bad => .bad
def sFor (ks : List (Option Nat)) (it : PM (List D × List D)) (tg : Tgt) (body : PM Fl) : PM Fl := fun w => (it w).bind fun p w1 => putR ks p.2 (forL tg body p.1 w1)

theorem Hold.putL2 {K : PySem.W.Frag} {H : Hp} {s : L2.St} {es : List D} {us : List V} : ∀ {ks : List (Option Nat)} {ds : List D} {vs : List V} {w : Ev} {F : List Addr}, Hold K H w s (ds ++ es) (vs ++ us) F → ds.length = vs.length → Lnk s ks vs → ∃ F', Hold K H (putB ks ds w) s es us F' ∧ ∀ a ∈ F', a ∈ F
  | [], ds, vs, w, F, h, hl, l => by
    have e : putB [] ds w = w := by unfold putB; rfl
    rw [e]
    exact h.drop hl
  | o :: ks, [], vs, w, F, h, hl, l => by
    have e : putB (o :: ks) [] w = w := by cases o <;> (unfold putB; rfl)
    rw [e]
    exact h.drop hl
  | o :: ks, d :: ds, vs, w, F, h, hl, l => by
    cases vs with
    | nil => cases hl
    | cons v vs =>
      have hl2 : ds.length = vs.length := by simpa using hl
      have l2 : Lnk s ks vs := fun k j u e e2 => l (k + 1) j u (by simpa using e) (by simpa using e2)
      cases o with
      | none =>
        obtain ⟨F1, h1, s1⟩ := Hold.drop (ds := [d]) (vs := [v]) h rfl
        obtain ⟨F2, h2, s2⟩ := Hold.putL2 (ks := ks) h1 hl2 l2
        exact ⟨F2, h2, fun a m => s1 a (s2 a m)⟩
      | some j =>
        obtain ⟨F1, h1, s1⟩ := Hold.putS h (l 0 j v rfl rfl)
        obtain ⟨F2, h2, s2⟩ := Hold.putL2 (ks := ks) h1 hl2 l2
        exact ⟨F2, h2, fun a m => s1 a (s2 a m)⟩
theorem lnk_agr {s s' : L2.St} {ks : List (Option Nat)} {vs : List V} {wr : List Nat} (l : Lnk s ks vs) (ag : Agr wr s s') (h : ∀ j, some j ∈ ks → j ∉ wr) : Lnk s' ks vs := fun k j v e e2 => by
  rw [ag.2 j (h j (List.mem_of_getElem? e))]
  exact l k j v e e2
theorem Hold.rvs {K : PySem.W.Frag} {H : Hp} {w : Ev} {s : L2.St} {ds : List D} {vs : List V} {F : List Addr} (h : Hold K H w s ds vs F) : ∃ f, RVs K H ds vs f := by
  obtain ⟨ft, fe, h1, _⟩ := h
  exact ⟨ft, h1⟩
section
variable {X : Cx} {Eh : WX} {s : L2.St} {H : Hp} {E : Ends}
theorem for_imp {K : PySem.W.Frag} {mg : Str → Option Value} {g : TG} {tg : Tgt} {body : PM Fl} {wrB : List Nat} {ks : List (Option Nat)} {it : PM (List D × List D)} (hg : TgR K g tg) (hj : ∀ j, some j ∈ ks → j ∉ wrT tg ++ wrB)
    (h : tS K mg Eh (wrT tg ++ wrB) (sFor ks it tg body) E s H) : tFor (tI K mg Eh ks it) g (tS K mg Eh wrB body) E s H := by
  obtain ⟨w, F, hold, q⟩ := h
  unfold sFor at q
  refine ⟨w, F, hold, ?_⟩
  cases e : it w with
  | bad => rw [e] at q; exact q
  | ex c fs w1 =>
    rw [e] at q
    exact fun cls od H' F' st h' x => q cls od s H' F' st (.refl _ _) h' x
  | ok p w1 =>
    rw [e] at q
    replace q : PoS K mg Eh (wrT tg ++ wrB) H F s (putR ks p.2 (forL tg body p.1 w1)) E := q
    intro J H1 F1 tvs st h1 src lnk
    refine ⟨fun i m s2 H2 => m + i = p.1.length ∧ i ≤ p.1.length ∧ ∃ w2 F2, Stp F H F2 H2 ∧ Agr (wrT tg ++ wrB) s s2 ∧ Hold K H2 w2 s2 p.2 tvs F2 ∧
      PoS K mg Eh (wrT tg ++ wrB) H F s (putR ks p.2 (forL tg body (p.1.drop i) w2)) E, ⟨p.1.length, by omega, by omega, w1, F1, st, .refl _ _, h1, q⟩, ?_⟩
    rintro i m s2 H2 ⟨e1, e2, w2, F2, st2, ag2, h2, q2⟩
    obtain ⟨ft, rt⟩ := h2.rvs
    have hlen := hold_len h2
    have lnk2 := lnk_agr lnk ag2 hj
    by_cases hi : i < p.1.length
    · have hd : p.1[i]? = some p.1[i] := List.getElem?_eq_getElem hi
      have hdr : p.1.drop i = p.1[i] :: p.1.drop (i + 1) := List.drop_eq_getElem_cons hi
      rw [hdr] at q2
      refine .inr ⟨src.go H2 ft i rt hi, fun s' H' => ∃ w3 F3, Stp F H F3 H' ∧ Agr (wrT tg ++ wrB) s s' ∧ Hold K H' w3 s' p.2 tvs F3 ∧
        PoS K mg Eh (wrT tg ++ wrB) H F s (putR ks p.2 (forL tg body (p.1.drop (i + 1)) w3)) E, fun s' H' hN => ⟨m - 1, by omega, by omega, hi, hN⟩, fun x H' hy => ?_⟩
      obtain ⟨kp, rx⟩ := src.yld H2 ft i _ x H' rt hd hy
      cases et : setT tg p.1[i] w2 with
      | none =>
        have : putR ks p.2 (forL tg body (p.1[i] :: p.1.drop (i + 1)) w2) = .bad := by rw [forL_cons, et]; rfl
        rw [this] at q2; exact q2.elim
      | some w3 =>
        refine hg x s2 H' _ w2 w3 F2 p.2 tvs p.1[i] rx (src.pl i _ hd) (hold_kp h2 kp) et fun s3 F3 ag3 sub3 h3 => ?_
        have st3 : Stp F H F3 H' := (st2.trans (stp_kp kp)).trans (Stp.refl sub3)
        have ag3' : Agr (wrT tg ++ wrB) s s3 := ag2.trans (ag3.mono fun k m => List.mem_append_left _ m)
        obtain ⟨F0, h0, sub0, fr⟩ := h3.frame
        refine ⟨w3, F0, h0, ?_⟩
        have q3 : PoS K mg Eh (wrT tg ++ wrB) H F s (putR ks p.2 ((body w3).bind fun fl w2 => match fl with
            | .nx => forL tg body (p.1.drop (i + 1)) w2
            | .ct => forL tg body (p.1.drop (i + 1)) w2
            | .bk => .ok .nx w2
            | .rt v => .ok (.rt v) w2)) E := by
          have z : forL tg body (p.1[i] :: p.1.drop (i + 1)) w2 = (body w3).bind fun fl w2 => match fl with
            | .nx => forL tg body (p.1.drop (i + 1)) w2
            | .ct => forL tg body (p.1.drop (i + 1)) w2
            | .bk => .ok .nx w2
            | .rt v => .ok (.rt v) w2 := by
            rw [forL_cons, et]
          rw [z] at q2
          exact q2
        clear q2
        have agB : ∀ {s'}, Agr wrB s3 s' → Agr (wrT tg ++ wrB) s s' := fun ag => ag3'.trans (ag.mono fun k m => List.mem_append_right _ m)
        cases eb : body w3 with
        | bad => rw [eb] at q3; exact q3
        | ex c fs w4 =>
          rw [eb] at q3
          intro cls od s' H4 F4 st4 ag4 h4 x
          obtain ⟨F5, h5, st5⟩ := fr st4 h4
          rw [List.append_nil, List.append_nil] at h5
          obtain ⟨F6, h6, sub6⟩ := Hold.putL h5 (lnk_agr lnk (agB ag4) hj)
          exact q3 cls od s' H4 F6 ((st3.trans st5).trans (Stp.refl sub6)) (agB ag4) h6 x
        | ok fl w4 =>
          rw [eb] at q3
          cases fl with
          | nx =>
            intro s' H4 F4 st4 ag4 h4
            obtain ⟨F5, h5, st5⟩ := fr st4 h4
            rw [List.append_nil, List.append_nil] at h5
            exact ⟨w4, F5, st3.trans st5, agB ag4, h5, q3⟩
          | ct =>
            intro s' H4 F4 st4 ag4 h4
            obtain ⟨F5, h5, st5⟩ := fr st4 h4
            rw [List.append_nil, List.append_nil] at h5
            exact ⟨w4, F5, st3.trans st5, agB ag4, h5, q3⟩
          | bk =>
            intro s' H4 F4 st4 ag4 h4
            obtain ⟨F5, h5, st5⟩ := fr st4 h4
            rw [List.append_nil, List.append_nil] at h5
            obtain ⟨F6, h6, sub6⟩ := Hold.putL h5 (lnk_agr lnk (agB ag4) hj)
            exact q3 s' H4 F6 ((st3.trans st5).trans (Stp.refl sub6)) (agB ag4) h6
          | rt v =>
            intro x' s' H4 F4 st4 ag4 h4
            obtain ⟨F5, h5, st5⟩ := fr st4 h4
            obtain ⟨F6, h6, sub6⟩ := Hold.putL2 h5 hlen (lnk_agr lnk (agB ag4) hj)
            exact q3 x' s' H4 F6 ((st3.trans st5).trans (Stp.refl sub6)) (agB ag4) h6
    · have ei : i = p.1.length := by omega
      subst ei
      refine .inl ⟨src.stop H2 ft rt, ?_⟩
      rw [List.drop_length] at q2
      obtain ⟨F6, h6, sub6⟩ := Hold.putL h2 lnk2
      exact q2 s2 H2 F6 (st2.trans (Stp.refl sub6)) ag2 h6
def lkOk (ks : List (Option Nat)) (wr : List Nat) : Bool := ks.all fun o => match o with
  | some j => !wr.contains j
  | none => true
theorem lkOk_of {ks : List (Option Nat)} {wr : List Nat} (h : lkOk ks wr = true) : ∀ j, some j ∈ ks → j ∉ wr := fun j m z => by
  have := List.all_eq_true.mp h _ m
  simp at this
  exact this z
theorem ss_for {tgE iter : Expr} {b : List Stmt} {pos : Pos} {g : TG} {tg : Tgt} {body : PM Fl} {wrB : List Nat} {ks : List (Option Nat)} {it : PM (List D × List D)} (hp : PassesOwn (model X.prog X.w) X.A X.env X.xe) (hc : X.calm = true)
    (hi : PI X tgE iter (tI X.K X.mg Eh ks it)) (hg : PG X tgE g) (hr : TgR X.K g tg) (hb : PSs X b (tS X.K X.mg Eh wrB body)) (hj : lkOk ks (wrT tg ++ wrB) = true := by rfl)
    (hs : ∀ x, foldedSetIterable iter X.env x = pure x := by intro _; rfl) : PS X (.For tgE iter b [] pos) (tS X.K X.mg Eh (wrT tg ++ wrB) (sFor ks it tg body)) :=
  (ps_for hp hc hi hg hb hs).imp fun E s H h => for_imp hr (lkOk_of hj) h

/-! ### while -/
def whL (t : PM Bool) (body : PM Fl) : Nat → PM Fl
  | 0 => fun _ => .bad
  | n + 1 => fun w => (t w).bind fun b w1 => if b = true then (body w1).bind fun fl w2 => match fl with
      | .nx => whL t body n w2
      | .ct => whL t body n w2
      | .bk => .ok .nx w2
      | .rt v => .ok (.rt v) w2
    else .ok .nx w1
open Classical in
noncomputable def sWh (t : PM Bool) (body : PM Fl) : PM Fl := fun w => if h : ∃ n, whL t body n w ≠ .bad then whL t body (Classical.choose h) w else .bad
theorem whL_more {t : PM Bool} {body : PM Fl} : ∀ {n k : Nat} {w : Ev}, whL t body n w ≠ .bad → whL t body (n + k) w = whL t body n w
  | 0, k, w, h => absurd rfl h
  | n + 1, k, w, h => by
    rw [show n + 1 + k = (n + k) + 1 by omega]
    unfold whL at h ⊢
    cases et : t w with
    | bad => rfl
    | ex c fs w1 => rfl
    | ok b w1 =>
      rw [et] at h
      rw [Rs.bind_ok] at h ⊢
      rw [Rs.bind_ok]
      cases b with
      | false => rfl
      | true =>
        rw [if_pos rfl] at h ⊢
        rw [if_pos rfl]
        cases eb : body w1 with
        | bad => rfl
        | ex c fs w2 => rfl
        | ok fl w2 =>
          rw [eb] at h
          rw [Rs.bind_ok] at h ⊢
          rw [Rs.bind_ok]
          cases fl with
          | nx => exact whL_more (k := k) h
          | ct => exact whL_more (k := k) h
          | bk => rfl
          | rt v => rfl
theorem sWh_eq {t : PM Bool} {body : PM Fl} {w : Ev} (n : Nat) (h : whL t body n w ≠ .bad) : sWh t body w = whL t body n w := by
  have hx : ∃ n, whL t body n w ≠ .bad := ⟨n, h⟩
  unfold sWh
  rw [dif_pos hx]
  have hm := Classical.choose_spec hx
  rcases Nat.le_total n (Classical.choose hx) with z | z
  · obtain ⟨k, e⟩ := Nat.exists_eq_add_of_le z
    rw [e]
    exact whL_more h
  · obtain ⟨k, e⟩ := Nat.exists_eq_add_of_le z
    have := whL_more (k := k) hm
    rw [← e] at this
    exact this.symm
theorem while_imp {K : PySem.W.Frag} {mg : Str → Option Value} {t : PM Bool} {body : PM Fl} {wr : List Nat} (h : tS K mg Eh wr (sWh t body) E s H) : tWhile (tT K mg Eh t) (tS K mg Eh wr body) E s H := by
  obtain ⟨w, F, hold, q⟩ := h
  unfold sWh at q
  by_cases hx : ∃ n, whL t body n w ≠ .bad
  · rw [dif_pos hx] at q
    refine ⟨fun m s2 H2 => ∃ w2 F2, Stp F H F2 H2 ∧ Agr wr s s2 ∧ Hold K H2 w2 s2 [] [] F2 ∧ PoS K mg Eh wr H F s (whL t body m w2) E, ⟨_, w, F, Stp.refl fun _ m => m, .refl _ _, hold, q⟩, ?_⟩
    rintro m s2 H2 ⟨w2, F2, st2, ag2, h2, q2⟩
    cases m with
    | zero => exact q2.elim
    | succ m =>
      unfold whL at q2
      refine ⟨w2, F2, h2, ?_⟩
      cases et : t w2 with
      | bad => rw [et] at q2; exact q2
      | ex c fs w3 =>
        rw [et] at q2
        exact fun cls od H' F' st' h' x => q2 cls od s2 H' F' (st2.trans st') ag2 h' x
      | ok b w3 =>
        rw [et] at q2
        rw [Rs.bind_ok] at q2
        intro H3 F3 st3 h3
        cases b with
        | false => rw [if_neg Bool.false_ne_true] at q2 ⊢; exact q2 s2 H3 F3 (st2.trans st3) ag2 h3
        | true =>
          rw [if_pos rfl] at q2 ⊢
          refine ⟨fun s' H' => ∃ w2 F2, Stp F H F2 H' ∧ Agr wr s s' ∧ Hold K H' w2 s' [] [] F2 ∧ PoS K mg Eh wr H F s (whL t body m w2) E, fun s' H' hN => ⟨m, Nat.lt_succ_self _, hN⟩, w3, F3, h3, ?_⟩
          cases eb : body w3 with
          | bad => rw [eb] at q2; exact q2
          | ex c fs w4 =>
            rw [eb] at q2
            exact fun cls od s' H' F' st' ag' h' x => q2 cls od s' H' F' ((st2.trans st3).trans st') (ag2.trans ag') h' x
          | ok fl w4 =>
            rw [eb] at q2
            cases fl with
            | nx => exact fun s' H' F' st' ag' h' => ⟨w4, F', (st2.trans st3).trans st', ag2.trans ag', h', q2⟩
            | ct => exact fun s' H' F' st' ag' h' => ⟨w4, F', (st2.trans st3).trans st', ag2.trans ag', h', q2⟩
            | bk => exact fun s' H' F' st' ag' h' => q2 s' H' F' ((st2.trans st3).trans st') (ag2.trans ag') h'
            | rt v => exact fun x s' H' F' st' ag' h' => q2 x s' H' F' ((st2.trans st3).trans st') (ag2.trans ag') h'
  · rw [dif_neg hx] at q; exact q.elim
theorem ss_while {c : Expr} {b : List Stmt} {pos : Pos} {t : PM Bool} {body : PM Fl} {wr : List Nat} (hp : PassesOwn (model X.prog X.w) X.A X.env X.xe) (hc : PT X c (tT X.K X.mg Eh t)) (hb : PSs X b (tS X.K X.mg Eh wr body)) :
    PS X (.While c b [] pos) (tS X.K X.mg Eh wr (sWh t body)) := (ps_while hp hc hb).imp fun E s H h => while_imp h
end

/-! ### comprehensions -/
def wipeE (w : Ev) : List Nat → Ev
  | [] => w
  | v :: vs => (wipeE w vs).set v none
def Rs.bindN {α β : Type} (r : Rs α) (k : α → Ev → Rs β) : Rs β := match r with
  | .ok a w => k a w
  | _ => .bad
@[simp] theorem Rs.bindN_ok {α β : Type} (a : α) (w : Ev) (k : α → Ev → Rs β) : (Rs.ok a w).bindN k = k a w := rfl
def cmpL (tg : Tgt) (c : PM Bool) (elt : PM D) (vs : List Nat) : List D → List D → PM (List D)
  | [], acc => fun w => .ok acc w
  | d :: ds, acc => fun w => match setT tg d (wipeE w vs) with
    | some w1 => (c w1).bindN fun b w2 => if b = true then (elt w2).bindN fun e w3 => if acc.length < sizeLine then cmpL tg c elt vs ds (acc ++ [e]) w3 else .bad
      else cmpL tg c elt vs ds acc w2
    | none => .bad
theorem cmpL_nil {tg : Tgt} {c : PM Bool} {elt : PM D} {vs : List Nat} {acc : List D} {w : Ev} : cmpL tg c elt vs [] acc w = .ok acc w := rfl
theorem cmpL_cons {tg : Tgt} {c : PM Bool} {elt : PM D} {vs : List Nat} {d : D} {ds acc : List D} {w : Ev} : cmpL tg c elt vs (d :: ds) acc w = match setT tg d (wipeE w vs) with
    | some w1 => (c w1).bindN fun b w2 => if b = true then (elt w2).bindN fun e w3 => if acc.length < sizeLine then cmpL tg c elt vs ds (acc ++ [e]) w3 else .bad
      else cmpL tg c elt vs ds acc w2
    | none => .bad := rfl
def xComp (ks : List (Option Nat)) (it : PM (List D × List D)) (tg : Tgt) (c : PM Bool) (elt : PM D) (vs : List Nat) : PM D := fun w => (it w).bind fun p w1 => (cmpL tg c elt vs p.1 [] w1).bindN fun acc w2 => Rs.ok (D.own acc) (putB ks p.2 (wipeE w2 vs))
def tYesF : PM Bool := fun w => .ok true w
theorem wipeE_some {w : Ev} {i : Nat} {d : D} : ∀ {vs : List Nat}, (wipeE w vs)[i]? = some (some d) → w[i]? = some (some d) ∧ i ∉ vs
  | [], h => ⟨h, fun z => nomatch z⟩
  | v :: vs, h => by
    unfold wipeE at h
    by_cases hi : v = i
    · subst hi
      rw [List.getElem?_set] at h
      rw [if_pos rfl] at h
      split at h <;> cases h
    · rw [List.getElem?_set_ne hi] at h
      obtain ⟨h1, h2⟩ := wipeE_some h
      exact ⟨h1, fun z => (List.mem_cons.mp z).elim (fun e => hi e.symm) h2⟩
theorem wipe_get {s : L2.St} {i : Nat} : ∀ {vs : List Nat}, i ∉ vs → (wipe s vs)[i]? = s[i]?
  | [], _ => rfl
  | v :: vs, h => by
    unfold wipe
    rw [List.getElem?_set_ne (fun e => h (by rw [← e]; exact List.mem_cons_self))]
    exact wipe_get fun z => h (List.mem_cons_of_mem _ z)
theorem wipe_in {s : L2.St} {i : Nat} (hi : i < s.length) : ∀ {vs : List Nat}, i ∈ vs → (wipe s vs)[i]? = some none
  | [], h => nomatch h
  | v :: vs, h => by
    unfold wipe
    by_cases e : v = i
    · subst e
      rw [List.getElem?_set_self (by rw [wipe_length]; exact hi)]
    · rw [List.getElem?_set_ne e]
      exact wipe_in hi ((List.mem_cons.mp h).elim (fun z => absurd z.symm e) id)
theorem wipe_ext {a b : L2.St} {vs : List Nat} (hl : a.length = b.length) (h : ∀ i, i ∉ vs → a[i]? = b[i]?) : wipe a vs = wipe b vs := by
  refine List.ext_getElem? fun i => ?_
  by_cases m : i ∈ vs
  · by_cases hi : i < a.length
    · rw [wipe_in hi m, wipe_in (by rw [← hl]; exact hi) m]
    · rw [List.getElem?_eq_none (by rw [wipe_length]; omega), List.getElem?_eq_none (by rw [wipe_length]; omega)]
  · rw [wipe_get m, wipe_get m, h i m]
theorem RE.agree {K : PySem.W.Frag} {H : Hp} : ∀ {w : Ev} {s s' : L2.St} {fe : List Addr}, RE K H w s fe → s'.length = s.length → (∀ (i : Nat) (d : D), w[i]? = some (some d) → s'[i]? = s[i]?) → RE K H w s' fe
  | [], s, s', fe, h, hl, _ => by
    obtain ⟨e, e2⟩ := h
    subst e
    exact ⟨List.length_eq_zero_iff.mp hl, e2⟩
  | none :: r, s, s', fe, h, hl, hx => by
    obtain ⟨x, t, e, q⟩ := h
    subst e
    match s', hl, hx with
    | y :: t', hl, hx => exact ⟨y, t', rfl, RE.agree q (by simpa using hl) fun i d e => by simpa using hx (i + 1) d (by simpa using e)⟩
  | some d :: r, s, s', fe, h, hl, hx => by
    obtain ⟨v, t, f, g, e, q, q2, e2⟩ := h
    subst e
    match s', hl, hx with
    | y :: t', hl, hx =>
      have e3 : y = some v := by simpa using hx 0 d rfl
      subst e3
      exact ⟨v, t', f, g, rfl, q, RE.agree q2 (by simpa using hl) fun i d e => by simpa using hx (i + 1) d (by simpa using e), e2⟩
theorem Hold.agree {K : PySem.W.Frag} {H : Hp} {w : Ev} {s s' : L2.St} {ds : List D} {vs : List V} {F : List Addr} (h : Hold K H w s ds vs F) (hl : s'.length = s.length) (hx : ∀ (i : Nat) (d : D), w[i]? = some (some d) → s'[i]? = s[i]?) : Hold K H w s' ds vs F := by
  obtain ⟨ft, fe, h1, h2, p, nd⟩ := h
  exact ⟨ft, fe, h1, h2.agree hl hx, p, nd⟩
theorem Hold.wipes {K : PySem.W.Frag} {H : Hp} {w : Ev} {s : L2.St} {ds : List D} {vs : List V} {F : List Addr} (h : Hold K H w s ds vs F) : ∀ l : List Nat, ∃ F', Hold K H (wipeE w l) s ds vs F' ∧ ∀ a ∈ F', a ∈ F
  | [] => ⟨F, h, fun _ m => m⟩
  | v :: l => by
    obtain ⟨F1, h1, s1⟩ := Hold.wipes h l
    obtain ⟨F2, h2, s2⟩ := h1.wipe v
    exact ⟨F2, h2, fun a m => s1 a (s2 a m)⟩
/-- the state of a turn: from any state alike but for the comprehension's own names -/
theorem Hold.turn {K : PySem.W.Frag} {H : Hp} {w : Ev} {s s' : L2.St} {ds : List D} {vs : List V} {F : List Addr} {l : List Nat} (h : Hold K H w s' ds vs F) (e : L2.wipe s' l = L2.wipe s l) : ∃ F', Hold K H (wipeE w l) (L2.wipe s l) ds vs F' ∧ Hold K H (wipeE w l) s ds vs F' ∧ ∀ a ∈ F', a ∈ F := by
  obtain ⟨F1, h1, s1⟩ := h.wipes l
  have hl : s.length = s'.length := by rw [← wipe_length s l, ← e, wipe_length]
  have hx : ∀ (i : Nat) (d : D), (wipeE w l)[i]? = some (some d) → s[i]? = s'[i]? := fun i d z => by
    have n := (wipeE_some z).2
    rw [← wipe_get n, ← e, wipe_get n]
  exact ⟨F1, h1.agree (by rw [wipe_length, hl]) fun i d z => by rw [wipe_get (wipeE_some z).2, hx i d z], h1.agree hl hx, s1⟩
theorem Hold.comm {K : PySem.W.Frag} {H : Hp} {w : Ev} {s : L2.St} {ds es : List D} {vs us : List V} {F : List Addr} (h : Hold K H w s (ds ++ es) (vs ++ us) F) (hl : ds.length = vs.length) : Hold K H w s (es ++ ds) (us ++ vs) F := by
  obtain ⟨ft, fe, h1, h2, p, nd⟩ := h
  obtain ⟨vs1, vs2, f, g, e1, e2, q1, q2⟩ := RVs.split h1
  have hl2 := q1.length
  have e3 : vs = vs1 := by
    have := congrArg (List.take vs.length) e1
    rw [List.take_left, ← hl, hl2, List.take_left] at this
    exact this
  subst e3
  have e4 : us = vs2 := List.append_cancel_left e1
  subst e4; subst e2
  exact ⟨g ++ f, fe, q2.append q1, h2, p.trans ((List.perm_append_comm (l₁ := f) (l₂ := g)).append_right fe), nd⟩
/-- the last item held goes into the first one's list -/
theorem Hold.grow {K : PySem.W.Frag} {H : Hp} {w : Ev} {s : L2.St} {xs ds : List D} {vs : List V} {F : List Addr} {a : Addr} {d : D} {v : V} (h : Hold K H w s ((.own xs :: ds) ++ [d]) ((.ref a :: vs) ++ [v]) F) (hl : ds.length = vs.length) :
    ∃ us, H a = some (.lst us) ∧ xs.length = us.length ∧ ∃ F', Hold K (upd H a (.lst (us ++ [v]))) w s (.own (xs ++ [d]) :: ds) (.ref a :: vs) F' ∧ (∀ a ∈ F', a ∈ F) ∧ Stp F H F' (upd H a (.lst (us ++ [v]))) := by
  obtain ⟨ft0, fe, h1, h2, p, nd⟩ := Hold.comm h (by simp [hl])
  obtain ⟨v', r, fd, ft1, e1, qd, q1, e2⟩ := h1
  injection e1 with e3 e4
  subst e3; subst e4; subst e2
  obtain ⟨v2, r2, f0, ft, e5, q, q2, e6⟩ := q1
  injection e5 with e7 e8
  subst e7; subst e8; subst e6
  obtain ⟨a', us, f, e9, q5, r5, e10⟩ := q
  cases e9
  subst e10
  refine ⟨us, q5, r5.length, ?_⟩
  have k : Kp [a] H (upd H a (.lst (us ++ [v]))) := .put q5 pln_lst
  have mk : ∀ b ∈ [a], Mut (H b) := fun b m => by
    have e : b = a := by simpa using m
    rw [e, q5]; trivial
  have p2 : F.Perm (a :: (fd ++ (f ++ (ft ++ fe)))) := by
    refine p.trans ?_
    show ((fd ++ (a :: f ++ ft)) ++ fe).Perm _
    rw [List.append_assoc, List.cons_append, List.cons_append, List.append_assoc]
    exact List.perm_middle
  have n0 := p2.nodup_iff.mp nd
  obtain ⟨na, n1⟩ := List.nodup_cons.mp n0
  have apart : ∀ (l : List Addr), (∀ b ∈ l, b ∈ fd ++ (f ++ (ft ++ fe))) → ∀ b ∈ l, b ∉ [a] := fun l m b mb z => by
    have e : b = a := by simpa using z
    exact na (e ▸ m b mb)
  have r1 := RV.kp k mk d v fd (apart fd fun b m => List.mem_append_left _ m) qd
  have r2 := RVs.kp k mk xs us f (apart f fun b m => List.mem_append_right _ (List.mem_append_left _ m)) r5
  have r3 := RVs.kp k mk ds vs ft (apart ft fun b m => List.mem_append_right _ (List.mem_append_right _ (List.mem_append_left _ m))) q2
  have r4 := h2.kp k mk (apart fe fun b m => List.mem_append_right _ (List.mem_append_right _ (List.mem_append_right _ m)))
  have p3 : F.Perm ((a :: (f ++ fd) ++ ft) ++ fe) := by
    refine p2.trans (List.Perm.cons a ?_)
    show (fd ++ (f ++ (ft ++ fe))).Perm (((f ++ fd) ++ ft) ++ fe)
    rw [List.append_assoc, List.append_assoc, ← List.append_assoc, ← List.append_assoc f]
    exact (List.perm_append_comm (l₁ := fd) (l₂ := f)).append_right (ft ++ fe)
  refine ⟨F, ⟨a :: (f ++ fd) ++ ft, fe, ⟨.ref a, vs, a :: (f ++ fd), ft, rfl, ⟨a, us ++ [v], f ++ fd, rfl, upd_same, r2.append (RVs.one r1), rfl⟩, r3, rfl⟩, r4, p3, nd⟩, fun _ m => m, k.mono fun b z => ?_, fun b m => .inl m⟩
  have e : b = a := by simpa using z
  rw [e]
  exact p3.mem_iff.mpr (List.mem_append_left _ (List.mem_append_left _ List.mem_cons_self))
section
variable {X : Cx} {Eh : WX} {s : L2.St} {H H1 : Hp} {F F1 : List Addr}
theorem tP_runN {K : PySem.W.Frag} {mg : Str → Option Value} {f : PM D} {R : VK} {w1 w2 : Ev} {d : D} {ds : List D} {vs : List V} (hold : Hold K H1 w1 s ds vs F1) (e : f w1 = .ok d w2)
    (c : ∀ v H2 F2, Stp F1 H1 F2 H2 → Hold K H2 w2 s (ds ++ [d]) (vs ++ [v]) F2 → R v H2) : tP K mg Eh f s H1 R := by
  obtain ⟨F0, h0, sub, fr⟩ := hold.frame
  refine ⟨w1, F0, h0, ?_⟩
  rw [e]
  intro v H' F' st' h'
  obtain ⟨F2, h2, st2⟩ := fr st' h'
  exact c v H' F2 st2 h2
theorem tT_runN {K : PySem.W.Frag} {mg : Str → Option Value} {f : PM Bool} {R : Bool → Hp → Prop} {w1 w2 : Ev} {b : Bool} {ds : List D} {vs : List V} (hold : Hold K H1 w1 s ds vs F1) (e : f w1 = .ok b w2)
    (c : ∀ H2 F2, Stp F1 H1 F2 H2 → Hold K H2 w2 s ds vs F2 → R b H2) : tT K mg Eh f s H1 R := by
  obtain ⟨F0, h0, sub, fr⟩ := hold.frame
  refine ⟨w1, F0, h0, ?_⟩
  rw [e]
  intro H' F' st' h'
  obtain ⟨F2, h2, st2⟩ := fr st' h'
  rw [List.append_nil, List.append_nil] at h2
  exact c H' F2 st2 h2
abbrev EhN : WX := fun _ _ _ _ => False
theorem comp_imp {K : PySem.W.Frag} {mg : Str → Option Value} {g : TG} {tg : Tgt} {c : PM Bool} {elt : PM D} {vs : List Nat} {ks : List (Option Nat)} {it : PM (List D × List D)} (hg : TgR K g tg) (hv : ∀ i ∈ wrT tg, i ∈ vs) {Q : VK}
    (h : tP K mg Eh (xComp ks it tg c elt vs) s H Q) : tLc (tI K mg Eh ks it) g (tT K mg EhN c) (tP K mg EhN elt) vs s H Q := by
  obtain ⟨w, F, hold, q⟩ := h
  unfold xComp at q
  refine ⟨w, F, hold, ?_⟩
  cases e : it w with
  | bad => rw [e] at q; exact q
  | ex cc fs w1 =>
    rw [e] at q
    exact q
  | ok p w1 =>
    rw [e] at q
    replace q : Po K mg Eh H F s ((cmpL tg c elt vs p.1 [] w1).bindN fun acc w2 => Rs.ok (D.own acc) (putB ks p.2 (wipeE w2 vs))) (fun d w' => ∀ v H' F', Stp F H F' H' → Hold K H' w' s [d] [v] F' → Q v H') := q
    intro J H1 F1 tvs st h1 src lnk Da nDa
    have hlen := hold_len h1
    have hnew : Hold K (upd H1 Da (.lst [])) w1 s (.own [] :: p.2) (.ref Da :: tvs) (Da :: F1) := by
      have hm := h1.mut
      obtain ⟨ft, fe, k1, k2, pp, nd⟩ := hold_upd (o := .lst []) h1 nDa
      refine ⟨Da :: ft, fe, ⟨.ref Da, tvs, [Da], ft, rfl, ⟨Da, [], [], rfl, upd_same, ⟨rfl, rfl⟩, rfl⟩, k1, rfl⟩, k2, pp.cons Da, List.nodup_cons.mpr ⟨fun m => ?_, nd⟩⟩
      have := hm Da m
      rw [nDa] at this
      exact this
    refine ⟨fun i m H2 => m + i = p.1.length ∧ i ≤ p.1.length ∧ ∃ w2 s2 F2 acc, Stp F H F2 H2 ∧ wipe s2 vs = wipe s vs ∧ Hold K H2 w2 s2 (.own acc :: p.2) (.ref Da :: tvs) F2 ∧
      Po K mg Eh H F s ((cmpL tg c elt vs (p.1.drop i) acc w2).bindN fun acc w2 => Rs.ok (D.own acc) (putB ks p.2 (wipeE w2 vs))) (fun d w' => ∀ v H' F', Stp F H F' H' → Hold K H' w' s [d] [v] F' → Q v H'),
      ⟨p.1.length, by omega, by omega, w1, s, Da :: F1, [], st.trans (stp_upd' nDa), rfl, hnew, q⟩, ?_⟩
    rintro i m H2 ⟨e1, e2, w2, s2, F2, acc, st2, ag2, h2, q2⟩
    obtain ⟨ft, rt⟩ := h2.rvs
    obtain ⟨v0, r0, f0, ft2, e3, rD, rT, e4⟩ := rt
    injection e3 with e5 e6
    subst e5; subst e6
    obtain ⟨F3, h3, h3s, sub3⟩ := h2.turn ag2
    by_cases hi : i < p.1.length
    · have hd : p.1[i]? = some p.1[i] := List.getElem?_eq_getElem hi
      have hdr : p.1.drop i = p.1[i] :: p.1.drop (i + 1) := List.drop_eq_getElem_cons hi
      rw [hdr] at q2
      refine .inr ⟨src.go H2 _ i rT hi, fun H' => ∃ w2 s2 F2 acc, Stp F H F2 H' ∧ wipe s2 vs = wipe s vs ∧ Hold K H' w2 s2 (.own acc :: p.2) (.ref Da :: tvs) F2 ∧
        Po K mg Eh H F s ((cmpL tg c elt vs (p.1.drop (i + 1)) acc w2).bindN fun acc w2 => Rs.ok (D.own acc) (putB ks p.2 (wipeE w2 vs))) (fun d w' => ∀ v H' F', Stp F H F' H' → Hold K H' w' s [d] [v] F' → Q v H'), fun H' hN => ⟨m - 1, by omega, by omega, hi, hN⟩, fun x H' hy => ?_⟩
      obtain ⟨kp, rx⟩ := src.yld H2 _ i _ x H' rT hd hy
      rw [cmpL_cons] at q2
      cases et : setT tg p.1[i] (wipeE w2 vs) with
      | none => rw [et] at q2; exact q2.elim
      | some w3 =>
        rw [et] at q2
        dsimp only at q2
        refine hg x (wipe s vs) H' _ (wipeE w2 vs) w3 F3 (.own acc :: p.2) (.ref Da :: tvs) p.1[i] rx (src.pl i _ hd) (hold_kp h3 kp) et fun s3 F4 ag3 sub4 h4 => ?_
        have ew : wipe s3 vs = wipe s vs := by
          refine wipe_ext (by rw [ag3.1, wipe_length]) fun k n => ?_
          rw [ag3.2 k (fun z => n (hv k z)), wipe_get n]
        refine ⟨ew, ?_⟩
        have st4 : Stp F H F4 H' := ((st2.trans (Stp.refl sub3)).trans (stp_kp kp)).trans (Stp.refl sub4)
        cases ec : c w3 with
        | bad => rw [ec] at q2; exact q2.elim
        | ex _ _ _ => rw [ec] at q2; exact q2.elim
        | ok b w4 =>
          rw [ec] at q2
          refine tT_runN h4 ec fun H5 F5 st5 h5 => ?_
          cases b with
          | false =>
            rw [if_neg Bool.false_ne_true]
            rw [Rs.bindN_ok, if_neg Bool.false_ne_true] at q2
            exact ⟨w4, s3, F5, acc, st4.trans st5, ew, h5, q2⟩
          | true =>
            rw [if_pos rfl]
            rw [Rs.bindN_ok, if_pos rfl] at q2
            cases ee : elt w4 with
            | bad => rw [ee] at q2; exact q2.elim
            | ex _ _ _ => rw [ee] at q2; exact q2.elim
            | ok d w5 =>
              rw [ee] at q2
              refine tP_runN h5 ee fun y H6 F6 st6 h6 => ?_
              obtain ⟨us, hu, hlu, F7, h7, sub7, st7⟩ := Hold.grow h6 hlen
              rw [Rs.bindN_ok] at q2
              by_cases cl : acc.length < sizeLine
              · rw [if_pos cl] at q2
                exact ⟨us, hu, by rw [← hlu]; exact cl, w5, s3, F7, acc ++ [d], ((st4.trans st5).trans st6).trans st7, ew, h7, q2⟩
              · rw [if_neg cl] at q2; exact q2.elim
    · have ei : i = p.1.length := by omega
      subst ei
      refine .inl ⟨src.stop H2 _ rT, ?_⟩
      rw [List.drop_length] at q2
      replace q2 : ∀ v H' F', Stp F H F' H' → Hold K H' (putB ks p.2 (wipeE w2 vs)) s [.own acc] [v] F' → Q v H' := q2
      have h8 := Hold.comm (ds := [.own acc]) (vs := [.ref Da]) h3s rfl
      obtain ⟨F9, h9, sub9⟩ := Hold.putL2 h8 hlen lnk
      exact q2 _ H2 F9 ((st2.trans (Stp.refl sub3)).trans (Stp.refl sub9)) h9
theorem pp_comp {elt tgE iter : Expr} {ifs : List Expr} {scope : Scope} {own : List (Str × Nat)} {pos : Pos} {g : TG} {tg : Tgt} {c : PM Bool} {el : PM D} {ks : List (Option Nat)} {it : PM (List D × List D)} (hc : X.calm = true) (hN : X.N.Nodup)
    (hi : PI X tgE iter (tI X.K X.mg Eh ks it)) (ok : BlkOk X.N X.env.scope scope own) (hr : TgR X.K g tg)
    (hg : ∀ (s : Shared) (H : Hp) (C : Addr) (cl : List (Str × Addr)) (fp : List Addr), PG (X.blk s H scope (compEnvC scope cl C X.env) fp) tgE g)
    (ht : ∀ (s : Shared) (H : Hp) (C : Addr) (cl : List (Str × Addr)) (fp : List Addr), PTs (X.blk s H scope (compEnvC scope cl C X.env) fp) ifs (tT X.K X.mg EhN c))
    (he : ∀ (s : Shared) (H : Hp) (C : Addr) (cl : List (Str × Addr)) (fp : List Addr), PE (X.blk s H scope (compEnvC scope cl C X.env) fp) elt (tP X.K X.mg EhN el))
    (hv : ∀ i ∈ wrT tg, i ∈ own.map (·.2) := by decide) (hs : ∀ x, foldedSetIterable iter X.env x = pure x := by intro _; rfl) : PE X (.ListComp elt [⟨tgE, iter, ifs, 0⟩] scope pos) (tP X.K X.mg Eh (xComp ks it tg c el (own.map (·.2)))) :=
  (pe_lc hc hN hi ok hg ht he hs).imp fun s H Q h => comp_imp hr hv h
theorem yes_imp {K : PySem.W.Frag} {mg : Str → Option Value} {Q : Bool → Hp → Prop} (h : tT K mg Eh tYesF s H Q) : tYes s H Q := by
  obtain ⟨w, F, hold, q⟩ := h
  exact q H F (Stp.refl fun _ m => m) hold
theorem _root_.L2.PTs.imp {X : Cx} {ifs : List Expr} {t t' : TT} (h : PTs X ifs t) (i : ∀ s H Q, t' s H Q → t s H Q) : PTs X ifs t' := ⟨fun pins s σ H Q I q => h.run pins s σ H Q I (i _ _ _ q)⟩
theorem pts0 : PTs X [] (tT X.K X.mg Eh tYesF) := pts_nil.imp fun _ _ _ h => yes_imp h
theorem pts1 {e : Expr} {t : TT} (h : PT X e t) : PTs X [e] t := pts_one h
theorem ss_setLc {i : Nat} {y : Str} {py : Pos} {elt tgE iter : Expr} {ifs : List Expr} {scope : Scope} {own : List (Str × Nat)} {pos spos : Pos} {g : TG} {tg : Tgt} {c : PM Bool} {el : PM D} {ks : List (Option Nat)} {it : PM (List D × List D)} (hc : X.calm = true) (hN : X.N.Nodup) (hy : X.N[i]? = some y) (hyl : X.env.scope.names.lookup y = some .local)
    (hsw : swapsWith (.ListComp elt [⟨tgE, iter, ifs, 0⟩] scope pos) (some (.Name y py)) spos.line X.env = pure true) (hi : PI X tgE iter (tI X.K X.mg Eh ks it)) (ok : BlkOk X.N X.env.scope scope own) (hr : TgR X.K g tg)
    (hg : ∀ (s : Shared) (H : Hp) (C : Addr) (cl : List (Str × Addr)) (fp : List Addr), PG (X.blk s H scope (compEnvC scope cl C X.env) fp) tgE g)
    (ht : ∀ (s : Shared) (H : Hp) (C : Addr) (cl : List (Str × Addr)) (fp : List Addr), PTs (X.blk s H scope (compEnvC scope cl C X.env) fp) ifs (tT X.K X.mg EhN c))
    (he : ∀ (s : Shared) (H : Hp) (C : Addr) (cl : List (Str × Addr)) (fp : List Addr), PE (X.blk s H scope (compEnvC scope cl C X.env) fp) elt (tP X.K X.mg EhN el))
    (hv : ∀ i ∈ wrT tg, i ∈ own.map (·.2) := by decide) (hs : ∀ x, foldedSetIterable iter X.env x = pure x := by intro _; rfl) : PS X (.Assign [.Name y py] (.ListComp elt [⟨tgE, iter, ifs, 0⟩] scope pos) spos) (tS X.K X.mg Eh [i] (sSet i (xComp ks it tg c el (own.map (·.2))))) :=
  (ps_setLc hc hN hy hyl hsw hi ok hg ht he hs).imp fun E s H h => by
    have q := set_imp h
    exact comp_imp hr hv q
end
end Pm

set_option autoImplicit false
namespace Pm
open PySem PySem.Spec L2
variable {u0 : Unit} [Tab0 u0]

/-! ### defs -/
inductive Rd where
  | ok (d : D) (outs : List D)
  | ex (c : Str) (fs : List (Str × D)) (outs : List D)
  | bad
/-- what the slots io hold at the end -/
def outsOf : List Nat → Ev → Option (List D)
  | [], _ => some []
  | k :: r, w => match slot w k, outsOf r w with
    | some d, some ds => some (d :: ds)
    | _, _ => none
def startE (N : Nat) (ds : List D) : Ev := ds.map some ++ List.replicate (N - ds.length) none
def endD (d : D) (o : Option (List D)) : Rd := match o with
  | some os => .ok d os
  | none => .bad
def endX (c : Str) (fs : List (Str × D)) (o : Option (List D)) : Rd := match o with
  | some os => .ex c fs os
  | none => .bad
def mkDef (N np : Nat) (io : List Nat) (body : PM Fl) (ds : List D) : Rd := if ds.length = np then match body (startE N ds) with
    | .ok (.rt d) w => endD d (outsOf io w)
    | .ok .nx w => endD .non (outsOf io w)
    | .ok _ _ => .bad
    | .ex c fs w => endX c fs (outsOf io w)
    | .bad => .bad
  else .bad
/-- the promise of a def that lets nothing out -/
def spP (K : PySem.W.Frag) (np : Nat) (io : List Nat) (m : List D → Rd) : Sp := fun vs H Q _ => vs.length = np ∧ TabsH H ∧ ∃ ds F, RVs K H ds vs F ∧ F.Nodup ∧ match m ds with
  | .ok d outs => ∀ v H' F', Stp F H F' H' → RVs K H' (d :: outs) (v :: io.map fun k => vs.getD k .non) F' → F'.Nodup → Q v H'
  | _ => False
theorem outsOf_set : ∀ {io : List Nat} {k : Nat} {w : Ev} {x : Option D}, k ∉ io → outsOf io (w.set k x) = outsOf io w
  | [], k, w, x, _ => rfl
  | i :: io, k, w, x, h => by
    have h1 : k ≠ i := fun e => h (by rw [e]; exact List.mem_cons_self)
    have e1 : slot (w.set k x) i = slot w i := by unfold slot; rw [List.getElem?_set_ne h1]
    unfold outsOf
    rw [e1, outsOf_set fun z => h (List.mem_cons_of_mem _ z)]
theorem outsOf_cons {k : Nat} {io : List Nat} {w : Ev} {os : List D} (h : outsOf (k :: io) w = some os) : ∃ d ds, os = d :: ds ∧ slot w k = some d ∧ outsOf io w = some ds := by
  unfold outsOf at h
  cases e1 : slot w k with
  | none => rw [e1] at h; cases h
  | some d =>
    cases e2 : outsOf io w with
    | none => rw [e1, e2] at h; cases h
    | some ds => rw [e1, e2] at h; cases h; exact ⟨d, ds, rfl, rfl, rfl⟩
theorem Hold.outs {K : PySem.W.Frag} {H : Hp} {s : L2.St} {g : Nat → V} : ∀ {io : List Nat} {w : Ev} {ds os : List D} {vs : List V} {F : List Addr}, Hold K H w s ds vs F → outsOf io w = some os → io.Nodup → (∀ k ∈ io, s[k]? = some (some (g k))) →
    ∃ F', RVs K H (ds ++ os) (vs ++ io.map g) F' ∧ F'.Nodup ∧ ∀ a ∈ F', a ∈ F
  | [], w, ds, os, vs, F, h, e, _, _ => by
    cases e
    obtain ⟨ft, fe, h1, h2, p, nd⟩ := h
    refine ⟨ft, by rw [List.append_nil]; show RVs K H ds (vs ++ []) ft; rw [List.append_nil]; exact h1, (List.nodup_append.mp (p.nodup_iff.mp nd)).1, fun a m => p.mem_iff.mpr (List.mem_append_left _ m)⟩
  | k :: io, w, ds, os, vs, F, h, e, nd, hs => by
    obtain ⟨d, ds', e1, e2, e3⟩ := outsOf_cons e
    subst e1
    obtain ⟨n1, n2⟩ := List.nodup_cons.mp nd
    obtain ⟨v, ev, h2⟩ := h.takeS e2
    rw [hs k List.mem_cons_self] at ev
    cases ev
    have h3 := Hold.comm (ds := [d]) (vs := [g k]) h2 rfl
    obtain ⟨F', r, nd', sub⟩ := Hold.outs (io := io) h3 (by rw [outsOf_set n1]; exact e3) n2 fun i m => hs i (List.mem_cons_of_mem _ m)
    refine ⟨F', ?_, nd', sub⟩
    rw [List.append_assoc, List.append_assoc] at r
    exact r
theorem re_start {K : PySem.W.Frag} {H : Hp} (hT : TabsH H) : ∀ {ds : List D} {vs : List V} {F : List Addr} {n : Nat}, RVs K H ds vs F → RE K H (ds.map some ++ List.replicate n none) (vs.map some ++ List.replicate n none) F
  | [], vs, F, n, h => by
    obtain ⟨e, e2⟩ := h
    subst e; subst e2
    show RE K H (List.replicate n none) (List.replicate n none) []
    induction n with
    | zero => exact ⟨rfl, rfl, hT⟩
    | succ n ih => exact ⟨none, _, rfl, ih⟩
  | d :: ds, vs, F, n, h => by
    obtain ⟨v, r, f, g, e, q, t, e2⟩ := h
    subst e; subst e2
    exact ⟨v, _, f, g, rfl, q, re_start hT t, rfl⟩
section
variable {P : Program} {w : World} {K : PySem.W.Frag} {mg : Str → Option Value} {base : Heap}
theorem fn_p {x qual : Str} {st : Stmt} {f : Addr} {fd : FuncData} {N ps : List Str} {k : Nat} {io wr : List Nat} {body : PM Fl} (F : Fun K x qual st f fd) (S : FnScope N ps (defScope st))
    (hb : ∀ (cdv : Value) (A : Around) (outer : List Env) (s : Shared) (H : Hp) (E : XK), Room k (A.deeper (PyProof.Rows.envOfC qual (defScope st) s.heap.objs.size f cdv)) →
      PSs (cxOf CX0 P w K mg base N qual (defScope st) f cdv A outer s H E).nox (defBody st) (tS K mg EhN wr body))
    (hio : ∀ i ∈ io, i ∉ wr ∧ i < ps.length := by decide) (hnd : io.Nodup := by decide) :
    FnOk P w K mg base CX0 (k + 1) f fd ps (spP K ps.length io (mkDef N.length ps.length io body)) := by
  refine F.ok S (fun vs H Q E h => h.1) fun cdv A outer s H vs Q E hr h => ⟨_, hb cdv A outer s H E hr, ?_⟩
  obtain ⟨hl, hT, ds, FF, rv, nd, q⟩ := h
  have hdl : ds.length = vs.length := rv.length
  unfold mkDef at q
  rw [if_pos (hdl.trans hl)] at q
  have es : start N vs = vs.map some ++ List.replicate (N.length - vs.length) none := rfl
  refine ⟨startE N.length ds, FF, ⟨[], FF, ⟨rfl, rfl⟩, ?_, .refl _, nd⟩, ?_⟩
  · rw [es]
    unfold startE
    rw [hdl]
    exact re_start hT rv
  · have slots : ∀ {s' : L2.St}, Agr wr (start N vs) s' → ∀ i ∈ io, s'[i]? = some (some (vs.getD i .non)) := fun {s'} ag i m => by
      obtain ⟨n1, n2⟩ := hio i m
      rw [ag.2 i n1, es]
      have hi : i < vs.length := by rw [hl]; exact n2
      rw [List.getElem?_append_left (by simpa using hi), List.getElem?_map, List.getElem?_eq_getElem hi]
      rw [List.getD_eq_getElem?_getD, List.getElem?_eq_getElem hi]
      rfl
    have fin : ∀ {d : D} {w' : Ev} {v : V} {s' : L2.St} {H' : Hp} {F' : List Addr}, (match endD d (outsOf io w') with
        | .ok d outs => ∀ v H' F', Stp FF H F' H' → RVs K H' (d :: outs) (v :: io.map fun k => vs.getD k .non) F' → F'.Nodup → Q v H'
        | _ => False) → Stp FF H F' H' → Agr wr (start N vs) s' → Hold K H' w' s' [d] [v] F' → Q v H' := fun {d w' v s' H' F'} q st ag h' => by
      cases e : outsOf io w' with
      | none => rw [e] at q; exact q.elim
      | some os =>
        rw [e] at q
        obtain ⟨F2, r, nd2, sub⟩ := Hold.outs (g := fun k => vs.getD k .non) h' e hnd (slots ag)
        exact q v H' F2 (st.trans (Stp.refl sub)) r nd2
    cases e : body (startE N.length ds) with
    | bad => rw [e] at q; exact q.elim
    | ex c fs w' =>
      rw [e] at q
      dsimp only at q
      cases e2 : outsOf io w' with
      | none => rw [e2] at q; exact q.elim
      | some os => rw [e2] at q; exact q.elim
    | ok fl w' =>
      rw [e] at q
      cases fl with
      | nx =>
        intro s' H' F' st ag h'
        refine fin (v := .non) q st ag ?_
        obtain ⟨ft, fe, h1, h2, p, nd⟩ := h'
        have e0 : ft = [] := h1.2
        subst e0
        exact ⟨[], fe, RVs.one ⟨rfl, rfl⟩, h2, p, nd⟩
      | rt d => exact fun v s' H' F' st ag h' => fin q st ag h'
      | bk => exact q.elim
      | ct => exact q.elim
end

/-! ### calls -/
def xCall (np : Nat) (js : List Nat) (m : List D → Rd) (f : PM (List D)) : PM D := fun w => (f w).bind fun ds w1 => if ds.length = np then match m ds with
    | .ok d outs => .ok d (putB (js.map some) outs w1)
    | _ => .bad
  else .bad
theorem Hold.call {K : PySem.W.Frag} {H : Hp} {w : Ev} {s : L2.St} {ds : List D} {vs : List V} {F : List Addr} (h : Hold K H w s ds vs F) : ∃ ft, RVs K H ds vs ft ∧ ft.Nodup ∧
    ∀ {H' : Hp} {ds' : List D} {vs' : List V} {F1 : List Addr}, Stp ft H F1 H' → RVs K H' ds' vs' F1 → F1.Nodup → ∃ F', Hold K H' w s ds' vs' F' ∧ Stp F H F' H' := by
  have hm := h.mut
  obtain ⟨ft, fe, h1, h2, p, nd⟩ := h
  obtain ⟨nd3, nd4, nd5⟩ := List.nodup_append.mp (p.nodup_iff.mp nd)
  refine ⟨ft, h1, nd3, fun {H' ds' vs' F1} st h' nd' => ?_⟩
  have dj : ∀ a ∈ fe, a ∉ F1 := fun a m z => by
    rcases st.new a z with q | q
    · exact nd5 a q a m rfl
    · exact q.no (hm a (p.mem_iff.mpr (List.mem_append_right _ m)))
  have k1 : RE K H' w s fe := h2.kp st.keep (fun a m => hm a (p.mem_iff.mpr (List.mem_append_left _ m))) fun a m z => nd5 a z a m rfl
  refine ⟨F1 ++ fe, ⟨F1, fe, h', k1, .refl _, List.nodup_append.mpr ⟨nd', nd4, fun a m b n e => dj b n (e ▸ m)⟩⟩, ⟨st.keep.mono fun a z => p.mem_iff.mpr (List.mem_append_left _ z), fun a m => ?_⟩⟩
  rcases List.mem_append.mp m with z | z
  · rcases st.new a z with q | q
    · exact .inl (p.mem_iff.mpr (List.mem_append_left _ q))
    · exact .inr q
  · exact .inl (p.mem_iff.mpr (List.mem_append_right _ z))
theorem ds_list {K : PySem.W.Frag} {H : Hp} {w : Ev} {s : L2.St} {ds : List D} {vs : List V} {F : List Addr} (h : Hold K H w s ds vs F) : ds.length = vs.length := hold_len h
section
variable {X : Cx} {Eh : WX}
theorem call_imp {s : L2.St} {H : Hp} {K : PySem.W.Frag} {mg : Str → Option Value} {np : Nat} {io js : List Nat} {ks : List (Option Nat)} {m : List D → Rd} {f : PM (List D)} {Q : VK} {E : XK} (X : Cx) (hK : X.K = K) (hM : X.mg = mg) (hks : js.map some = io.map fun k => (ks[k]?).getD none) (hio : ∀ k ∈ io, k < np)
    (h : tP K mg Eh (xCall np js m f) s H Q) : tAL K mg Eh ks f s H fun vs H1 => spP K np io m (vs ++ []) H1 Q E := by
  subst hK; subst hM
  obtain ⟨w, F, hold, q⟩ := h
  unfold xCall at q
  refine tAL_run hold (Stp.refl fun _ m => m) q fun ds w2 us H2 F2 e st h2 l q2 => ?_
  replace h2 : Hold X.K H2 w2 s ds us F2 := h2
  by_cases c : ds.length = np
  · rw [if_pos c] at q2
    rw [List.append_nil]
    obtain ⟨ft, rt, nd, fr⟩ := h2.call
    refine ⟨by rw [← hold_len h2]; exact c, h2.tabs, ds, ft, rt, nd, ?_⟩
    cases em : m ds with
    | bad => rw [em] at q2; exact q2
    | ex _ _ _ => rw [em] at q2; exact q2
    | ok d outs =>
      rw [em] at q2
      intro v H' F' st' r nd'
      obtain ⟨F3, h3, st3⟩ := fr st' r nd'
      have h4 := Hold.comm (ds := [d]) (vs := [v]) h3 rfl
      have hl : outs.length = (io.map fun k => us.getD k .non).length := by
        have := r.length
        simpa using this
      have lk : Lnk s (js.map some) (io.map fun k => us.getD k .non) := fun i j u e1 e2 => by
        rw [hks, List.getElem?_map] at e1
        rw [List.getElem?_map] at e2
        obtain ⟨k, e3, e4⟩ := Option.map_eq_some_iff.mp e1
        rw [e3] at e2
        have e5 : us.getD k .non = u := by simpa using e2
        have e6 : ks[k]? = some (some j) := by
          cases z : ks[k]? with
          | none => rw [z] at e4; cases e4
          | some o => rw [z] at e4; exact congrArg some e4
        have hkl : k < us.length := by
          rw [← hold_len h2, c]
          exact hio k (List.mem_of_getElem? e3)
        exact l k j u e6 (by rw [← e5, List.getD_eq_getElem?_getD, List.getElem?_eq_getElem hkl]; rfl)
      obtain ⟨F5, h5, sub5⟩ := Hold.putL2 h4 hl lk
      exact q2 v H' F5 ((st.trans st3).trans (Stp.refl sub5)) h5
  · rw [if_neg c] at q2; exact q2.elim
theorem pp_call {k : Nat} {f : Addr} {fd : FuncData} {ps : List Str} {io js : List Nat} {ks : List (Option Nat)} {m : List D → Rd} {g : PM (List D)} {x : Str} {p pos : Pos} {e : Expr} {es : List Expr} (np : Nat) (F : FnOk X.prog X.w X.K X.mg X.base CX0 k f fd ps (spP X.K np io m)) (hr : Room k X.A) (hg : Gl X x) (hm : X.mg x = some (.ref f)) (hk : PySem.W.keepIn X.K (.ref f) = true) (hb : Binds X.K fd ps [])
    (ha : PA X (e :: es) (tAL X.K X.mg Eh ks g)) (hks : js.map some = io.map fun k => (ks[k]?).getD none := by rfl) (hio : ∀ k ∈ io, k < np := by decide) (hdb : (x == ("__debug__" : Str)) = false := by decide) (he : starEach (e :: es) X.env = (false, eval e X.env) :: starEach es X.env := by rfl) (hpl : (backTo pos (starEach es X.env)).any (·.1) = false := by rfl) :
    PE X (.Call (.Name x p) (e :: es) [] pos) (tP X.K X.mg Eh (xCall np js m g)) :=
  (pe_call F hr hg hm hk hb .nil pass0 ha hdb he hpl).imp fun s H Q h => call_imp X rfl rfl hks hio h
theorem pp_call0 {k : Nat} {f : Addr} {fd : FuncData} {ps : List Str} {m : List D → Rd} {x : Str} {p pos : Pos} (F : FnOk X.prog X.w X.K X.mg X.base CX0 k f fd ps (spP X.K 0 [] m)) (hr : Room k X.A) (hg : Gl X x) (hm : X.mg x = some (.ref f)) (hk : PySem.W.keepIn X.K (.ref f) = true) (hb : Binds X.K fd ps [])
    (hdb : (x == ("__debug__" : Str)) = false := by decide) :
    PE X (.Call (.Name x p) [] [] pos) (tP X.K X.mg Eh (xCall 0 [] m xNil)) :=
  (pe_call0 F hr hg hm hk hb .nil pass0 hdb).imp fun s H Q ⟨w, F, hold, q⟩ => by
    unfold xCall xNil at q
    refine ⟨rfl, hold.tabs, [], [], ⟨rfl, rfl⟩, .nil, ?_⟩
    replace q : Po X.K X.mg Eh H F s (match m [] with
      | .ok d outs => Rs.ok d (putB (([] : List Nat).map some) outs w)
      | _ => .bad) (fun d w' => ∀ v H' F', Stp F H F' H' → Hold X.K H' w' s [d] [v] F' → Q v H') := q
    cases em : m [] with
    | bad => rw [em] at q; exact q
    | ex _ _ _ => rw [em] at q; exact q
    | ok d outs =>
      rw [em] at q
      intro v H' F' st' r nd'
      obtain ⟨ft, r0, nd0, fr⟩ := hold.call
      have e0 : ft = [] := r0.2
      subst e0
      obtain ⟨F3, h3, st3⟩ := fr st' r nd'
      have hl : outs.length = 0 := by simpa using r.length
      have eo : outs = [] := List.length_eq_zero_iff.mp hl
      subst eo
      exact q v H' F3 st3 h3
end
end Pm

set_option autoImplicit false
namespace Pm
open PySem PySem.Spec L2
variable {u0 : Unit} [Tab0 u0]

/-! ### a list freezes -/
theorem pe_ice {X : Cx} {e : Expr} {t : TE} (h : PE X e t) : PE X e (fun s H Q => t s H fun v H1 => Q v H1 ∨ ∃ d u, H1 d = some u ∧ Mut (some u) ∧ ∀ od, Q v (upd H1 d (.frz od u))) := by
  refine ⟨fun pins s σ H Q I hw => ?_⟩
  refine thn (h.run pins s σ H _ I hw) fun u s1 ⟨v, H1, I1, r, q⟩ => ?_
  rcases q with q | ⟨d, o, hd, mu, q⟩
  · exact ⟨v, H1, I1, r, q⟩
  · obtain ⟨od, I2⟩ := I1.lock hd mu
    exact ⟨v, _, I2, r, q od⟩
/-- what a thing of one owner becomes when it freezes -/
def iceO : D → Option D
  | .own xs => if pls xs = true then some (.lst xs) else none
  | .odc t ks vs => if pls vs = true then some (.fdc t ks vs) else none
  | _ => none
include u0 in
theorem iceO_rv {K : PySem.W.Frag} {H : Hp} {d d' : D} {v : V} {f : List Addr} (e : iceO d = some d') (r : RV K H d v f) : ∃ a u, v = .ref a ∧ H a = some u ∧ Mut (some u) ∧ f = [a] ∧ (∀ od, RV K (upd H a (.frz od u)) d' (.ref a) []) ∧ Pln u := by
  have kk : ∀ {a : Addr} {u : HO} (od : Obj), H a = some u → Pln u → Kp [a] H (upd H a (.frz od u)) := fun _ e m => .put e m
  have mk : ∀ {a : Addr} {u : HO}, H a = some u → Mut (some u) → ∀ b ∈ [a], Mut (H b) := fun {a u} h m b mb => by
    have e : b = a := by simpa using mb
    rw [e, h]; exact m
  cases d with
  | own xs =>
    replace e : (if pls xs = true then some (D.lst xs) else none) = some d' := e
    by_cases p : pls xs = true
    · rw [if_pos p] at e
      cases e
      obtain ⟨a, us, g, e5, q5, r5, e6⟩ := r
      have r6 := r5.nil_of p
      have ef : g = [] := rvs_pl xs us g p r5
      subst ef
      exact ⟨a, _, e5, q5, trivial, e6, fun od => ⟨a, us, rfl, .inl ⟨od, upd_same⟩, RVs.kp (kk od q5 pln_lst) (mk q5 trivial) xs us [] (fun _ z => nomatch z) r6, rfl⟩, pln_lst⟩
    · rw [if_neg p] at e; cases e
  | odc t ks vs =>
    replace e : (if pls vs = true then some (D.fdc t ks vs) else none) = some d' := e
    by_cases p : pls vs = true
    · rw [if_pos p] at e
      cases e
      obtain ⟨a, u, ws, g, e5, q5, di, r5, e6⟩ := r
      have r6 := r5.nil_of p
      have ef : g = [] := rvs_pl vs ws g p r5
      subst ef
      exact ⟨a, u, e5, q5, di.mut, e6, fun od => ⟨a, od, u, ws, rfl, upd_same, di, RVs.kp (kk od q5 di.pln) (mk q5 di.mut) vs ws [] (fun _ z => nomatch z) r6, rfl⟩, di.pln⟩
    · rw [if_neg p] at e; cases e
  | _ => cases e
def xI (j : Nat) : PM D := fun w => match slot w j with
  | some d => if pl d = true then .ok d w else match iceO d with
    | some d' => .ok d' (w.set j (some d'))
    | none => .bad
  | none => .bad
section
variable {X : Cx} {Eh : WX} {s : L2.St} {H : Hp} {F : List Addr}
theorem hold_ice {K : PySem.W.Frag} {w : Ev} {ds : List D} {vs : List V} {d d' : D} {j : Nat} (h : Hold K H w s ds vs F) (e : slot w j = some d) (p : iceO d = some d') :
    ∃ a u, s[j]? = some (some (.ref a)) ∧ H a = some u ∧ Mut (some u) ∧ ∀ od, ∃ F', Hold K (upd H a (.frz od u)) (w.set j (some d')) s (d' :: ds) (.ref a :: vs) F' ∧ (∀ b ∈ F', b ∈ F) ∧ Stp F H F' (upd H a (.frz od u)) := by
  obtain ⟨v, ej, h1⟩ := h.takeS e
  obtain ⟨ft0, fe, k1, k2, pp, nd⟩ := h1
  obtain ⟨v', r, f0, ft, e1, q, q2, e2⟩ := k1
  injection e1 with e3 e4
  subst e3; subst e4; subst e2
  obtain ⟨a, u, e5, q5, mu, ef, rr, pu⟩ := iceO_rv p q
  subst e5; subst ef
  refine ⟨a, u, ej, q5, mu, fun od => ?_⟩
  have k : Kp [a] H (upd H a (.frz od u)) := .put q5 pu
  have mk : ∀ b ∈ [a], Mut (H b) := fun b m => by
    have e : b = a := by simpa using m
    rw [e, q5]; exact mu
  have n0 : (a :: (ft ++ fe)).Nodup := pp.nodup_iff.mp nd
  obtain ⟨na, n1⟩ := List.nodup_cons.mp n0
  have apart : ∀ (l : List Addr), (∀ b ∈ l, b ∈ ft ++ fe) → ∀ b ∈ l, b ∉ [a] := fun l m b mb z => by
    have e : b = a := by simpa using z
    exact na (e ▸ m b mb)
  have r3 := RVs.kp k mk ds vs ft (apart ft fun b m => List.mem_append_left _ m) q2
  have r4 := k2.kp k mk (apart fe fun b m => List.mem_append_right _ m)
  have rl := rr od
  have hh : Hold K (upd H a (.frz od u)) (w.set j none) s ds vs (ft ++ fe) := ⟨ft, fe, r3, r4, .refl _, n1⟩
  obtain ⟨F3, h3, sub3⟩ := Hold.putS (hh.addP rl) ej
  rw [List.set_set] at h3
  have sub : ∀ b ∈ F3, b ∈ F := fun b m => pp.mem_iff.mpr (List.mem_cons_of_mem _ (sub3 b m))
  refine ⟨F3, h3.addP rl, sub, k.mono fun b z => ?_, fun b m => .inl (sub b m)⟩
  have e : b = a := by simpa using z
  rw [e]
  exact pp.mem_iff.mpr List.mem_cons_self
theorem pp_ice {e : Expr} {j : Nat} (h : PE X e (tVar j)) : PE X e (tP X.K X.mg Eh (xI j)) := (pe_ice h).imp fun s H Q ⟨w, F, hold, q⟩ => by
  cases e0 : slot w j with
  | none => rw [show xI j w = .bad by unfold xI; rw [e0]] at q; exact q.elim
  | some d =>
    by_cases p : pl d = true
    · rw [show xI j w = .ok d w by unfold xI; rw [e0]; exact if_pos p] at q
      obtain ⟨v, f, ej, r, m⟩ := hold.atSlot e0
      exact ⟨v, ej, .inl (q v H F (Stp.refl fun _ m => m) (hold.addP (r.nil_of p)))⟩
    · cases e1 : iceO d with
      | none =>
        rw [show xI j w = .bad by unfold xI; rw [e0]; dsimp only; rw [if_neg p, e1]] at q
        exact q.elim
      | some d' =>
        rw [show xI j w = .ok d' (w.set j (some d')) by unfold xI; rw [e0]; dsimp only; rw [if_neg p, e1]] at q
        obtain ⟨a, u, ej, ha, mu, hx⟩ := hold_ice hold e0 e1
        refine ⟨_, ej, .inr ⟨a, _, ha, mu, fun od => ?_⟩⟩
        obtain ⟨F', h', sub, st⟩ := hx od
        exact q _ _ F' st h'
end

/-! ### slices -/
def cutD (xs : List D) (lo hi : Option Int) : List D := (xs.drop (HT.sIx xs.length 0 lo)).take (HT.sIx xs.length xs.length hi - HT.sIx xs.length 0 lo)
def dSl (d : D) (lo hi : Option Int) : Option D := match d with
  | .tup xs => if pls xs = true then some (.tup (cutD xs lo hi)) else none
  | .lst xs => if pls xs = true then some (.own (cutD xs lo hi)) else none
  | .own xs => if pls xs = true then some (.own (cutD xs lo hi)) else none
  | .str z => if z.length ≤ sizeLine then some (.str (cutS z lo hi)) else none
  | _ => none
def rSlX (K : PySem.W.Frag) : V → Option Int → Option Int → Hp → VK → Prop := fun x lo hi H Q => rSlL K x lo hi H Q ∨ (rSlA K x lo hi H Q ∨ rSlS x lo hi H Q)
theorem sl_X {X : Cx} : SlR X (rSlX X.K) := sl_list.or (sl_tupA.or sl_str)
section
variable {K : PySem.W.Frag} {H : Hp}
theorem RVs.drop' : ∀ {ds : List D} {vs : List V} (n : Nat), RVs K H ds vs [] → RVs K H (ds.drop n) (vs.drop n) []
  | [], vs, n, h => by
    rw [h.1]
    cases n <;> exact ⟨rfl, rfl⟩
  | d :: ds, vs, 0, h => h
  | d :: ds, vs, n + 1, h => by
    obtain ⟨v, r, f, g, e, q, t, e2⟩ := h
    have e4 : g = [] := (List.append_eq_nil_iff.mp e2.symm).2
    subst e; subst e4
    exact RVs.drop' n t
theorem RVs.take' : ∀ {ds : List D} {vs : List V} (n : Nat), RVs K H ds vs [] → RVs K H (ds.take n) (vs.take n) []
  | [], vs, n, h => by
    rw [h.1]
    cases n <;> exact ⟨rfl, rfl⟩
  | d :: ds, vs, 0, h => ⟨rfl, rfl⟩
  | d :: ds, vs, n + 1, h => by
    obtain ⟨v, r, f, g, e, q, t, e2⟩ := h
    obtain ⟨e3, e4⟩ := List.append_eq_nil_iff.mp e2.symm
    subst e; subst e3; subst e4
    exact ⟨v, r.take n, [], [], rfl, q, RVs.take' n t, rfl⟩
theorem cut_rv {xs : List D} {vs : List V} {lo hi : Option Int} (r : RVs K H xs vs []) : RVs K H (cutD xs lo hi) (cutV vs lo hi) [] := by
  unfold cutD cutV
  rw [r.length]
  exact (r.drop' _).take' _
theorem cut_whole {xs : List D} {lo hi : Option Int} (h : HT.sIx xs.length 0 lo = 0 ∧ HT.sIx xs.length xs.length hi = xs.length) : cutD xs lo hi = xs := by
  unfold cutD
  rw [h.1, h.2]
  simp
theorem ro_sl {x : V} {d z : D} {f : List Addr} {lo hi : Option Int} {Q : VK} (r : RV K H d x f) (e : dSl d lo hi = some z) (q : ∀ v H', NewV K H H' z v → Q v H') : rSlX K x lo hi H Q := by
  cases d with
  | tup xs =>
    replace e : (if pls xs = true then some (D.tup (cutD xs lo hi)) else none) = some z := e
    by_cases c : pls xs = true
    · rw [if_pos c] at e
      cases e
      obtain ⟨a, vs, ea, qa, ra⟩ := r
      have r0 := ra.nil_of c
      refine .inr (.inl ⟨a, vs, ea, .inl (.inl qa), fun h => ?_, fun h p n => q _ _ (new_tup (cut_rv r0) n)⟩)
      rw [← r0.length] at h
      rw [cut_whole h] at q
      exact q _ _ (.plain ⟨a, vs, rfl, qa, r0⟩)
    · rw [if_neg c] at e; cases e
  | lst xs =>
    replace e : (if pls xs = true then some (D.own (cutD xs lo hi)) else none) = some z := e
    by_cases c : pls xs = true
    · rw [if_pos c] at e
      cases e
      obtain ⟨a, vs, ea, qa, ra, _⟩ := r
      exact .inl ⟨a, vs, ea, qa.sq, fun p n => q _ _ (new_own (cut_rv ra) n)⟩
    · rw [if_neg c] at e; cases e
  | own xs =>
    replace e : (if pls xs = true then some (D.own (cutD xs lo hi)) else none) = some z := e
    by_cases c : pls xs = true
    · rw [if_pos c] at e
      cases e
      obtain ⟨a, vs, g, ea, qa, ra, _⟩ := r
      exact .inl ⟨a, vs, ea, .of qa, fun p n => q _ _ (new_own (cut_rv (ra.nil_of c)) n)⟩
    · rw [if_neg c] at e; cases e
  | str y =>
    replace e : (if y.length ≤ sizeLine then some (D.str (cutS y lo hi)) else none) = some z := e
    by_cases c : y.length ≤ sizeLine
    · rw [if_pos c] at e
      cases e
      exact .inr (.inr ⟨y, r.1, c, q _ _ (.plain ⟨rfl, rfl⟩)⟩)
    · rw [if_neg c] at e; cases e
  | non => cases e
  | bl b => cases e
  | int b => cases e
  | xo _ _ _ => cases e
  | odc _ _ _ => cases e
  | fdc _ _ _ => cases e
  | fn => cases e
end
def intD : D → Option Int
  | .int i => some i
  | _ => none
theorem intD_some {d : D} {i : Int} (h : intD d = some i) : d = .int i := by
  cases d with
  | int k => cases h; rfl
  | non => cases h
  | bl b => cases h
  | str b => cases h
  | tup b => cases h
  | lst b => cases h
  | own b => cases h
  | xo _ _ _ => cases h
  | odc _ _ _ => cases h
  | fdc _ _ _ => cases h
  | fn => cases h
def backO (o : Option Int) (w : Ev) : Rs (Option Int) := match o with
  | some i => .ok (some i) w
  | none => .bad
@[simp] theorem backO_some (i : Int) (w : Ev) : backO (some i) w = .ok (some i) w := rfl
@[simp] theorem backO_none (w : Ev) : backO none w = .bad := rfl
def bN : PM (Option Int) := fun w => .ok none w
def bS (f : PM D) : PM (Option Int) := fun w => (f w).bind fun d w1 => backO (intD d) w1
def xSlg (f : PM D) (l u : PM (Option Int)) : PM D := fun w => (f w).bind fun d w1 => (l w1).bind fun lo w2 => (u w2).bind fun hi w3 => back (dSl d lo hi) w3
def xSlv (j : Nat) (l u : PM (Option Int)) : PM D := fun w => match slot w j with
  | some _ => (l w).bind fun lo w2 => (u w2).bind fun hi w3 => back ((slot w3 j).bind fun d => dSl d lo hi) w3
  | none => .bad
def tO (K : PySem.W.Frag) (mg : Str → Option Value) (Eh : WX) (f : PM (Option Int)) : TO := fun s H Q => ∃ w F, Hold K H w s [] [] F ∧ Po K mg Eh H F s (f w) fun o w' => ∀ H' F', Stp F H F' H' → Hold K H' w' s [] [] F' → Q o H'
section
variable {X : Cx} {Eh : WX} {s : L2.St} {H H1 : Hp} {F F1 : List Addr} {β : Type}
theorem tO_run {K : PySem.W.Frag} {mg : Str → Option Value} {f : PM (Option Int)} {k : Option Int → Ev → Rs β} {Q' : β → Ev → Prop} {R : Option Int → Hp → Prop} {w1 : Ev} {ds : List D} {vs : List V}
    (hold : Hold K H1 w1 s ds vs F1) (st : Stp F H F1 H1) (h : Po K mg Eh H F s ((f w1).bind k) Q')
    (c : ∀ o w2 H2 F2, f w1 = .ok o w2 → Stp F H F2 H2 → Hold K H2 w2 s ds vs F2 → Po K mg Eh H F s (k o w2) Q' → R o H2) : tO K mg Eh f s H1 R := by
  obtain ⟨F0, h0, sub, fr⟩ := hold.frame
  refine ⟨w1, F0, h0, ?_⟩
  cases e : f w1 with
  | ok d w2 =>
    rw [e] at h
    intro H' F' st' h'
    obtain ⟨F2, h2, st2⟩ := fr st' h'
    rw [List.append_nil, List.append_nil] at h2
    exact c d w2 H' F2 e (st.trans st2) h2 h
  | ex cc fs w2 =>
    rw [e] at h
    intro cls od H' F' st' h' x
    exact h cls od H' F' (st.trans (st'.mono sub)) h' x
  | bad => rw [e] at h; exact h
theorem _root_.L2.PO.imp {X : Cx} {e : Option Expr} {t t' : TO} (h : PO X e t) (i : ∀ s H Q, t' s H Q → t s H Q) : PO X e t' := ⟨fun pins s σ H Q I q => h.run pins s σ H Q I (i _ _ _ q)⟩
theorem po_n : PO X none (tO X.K X.mg Eh bN) := po_none.imp fun s H Q ⟨w, F, hold, q⟩ => q H F (Stp.refl fun _ m => m) hold
theorem po_s {e : Expr} {f : PM D} (h : PE X e (tP X.K X.mg Eh f)) : PO X (some e) (tO X.K X.mg Eh (bS f)) := (po_some h).imp fun s H Q ⟨w, F, hold, q⟩ => by
  refine tP_run hold (Stp.refl fun _ m => m) q fun d w2 v H2 F2 e st h2 q2 => ?_
  cases ed : intD d with
  | none => rw [ed] at q2; exact q2.elim
  | some i =>
    rw [ed] at q2
    have e2 := intD_some ed
    subst e2
    obtain ⟨fx, rx, _⟩ := Hold.one h2
    obtain ⟨F3, h3, sub⟩ := h2.drop0
    exact ⟨i, rx.1, q2 H2 F3 (st.trans (Stp.refl sub)) h3⟩
theorem sl_g {e : Expr} {lo hi : Option Expr} {p2 pos : Pos} {f : PM D} {l u : PM (Option Int)} (he : PE X e (tP X.K X.mg Eh f)) (hl : PO X lo (tO X.K X.mg Eh l)) (hu : PO X hi (tO X.K X.mg Eh u)) : PE X (.Subscript e (.Slice lo hi none p2) pos) (tP X.K X.mg Eh (xSlg f l u)) :=
  (pe_slice sl_X he hl hu).imp fun s H Q ⟨w, F, hold, q⟩ => by
    refine tP_run hold (Stp.refl fun _ m => m) q fun d w2 v H2 F2 e st h2 q2 => ?_
    refine tO_run h2 st q2 fun lo w3 H3 F3 e3 st3 h3 q3 => ?_
    refine tO_run h3 st3 q3 fun hi w4 H4 F4 e4 st4 h4 q4 => ?_
    obtain ⟨z, hz, q5⟩ := back_po q4
    obtain ⟨fx, rx, _⟩ := Hold.one h4
    exact ro_sl rx hz fun v H' n => fin_new q5 st4 h4 n
theorem sl_v {e : Expr} {lo hi : Option Expr} {p2 pos : Pos} {j : Nat} {l u : PM (Option Int)} (he : PE X e (tV X.K j)) (hl : PO X lo (tO X.K X.mg Eh l)) (hu : PO X hi (tO X.K X.mg Eh u)) : PE X (.Subscript e (.Slice lo hi none p2) pos) (tP X.K X.mg Eh (xSlv j l u)) :=
  (pe_slice sl_X he hl hu).imp fun s H Q ⟨w, F, hold, q⟩ => by
    unfold xSlv at q
    cases e0 : slot w j with
    | none => rw [e0] at q; exact q.elim
    | some d0 =>
      rw [e0] at q
      refine tV_run hold e0 fun v f ej _ _ => ?_
      refine tO_run hold (Stp.refl fun _ m => m) q fun lo w3 H3 F3 e3 st3 h3 q3 => ?_
      refine tO_run h3 st3 q3 fun hi w4 H4 F4 e4 st4 h4 q4 => ?_
      obtain ⟨z, hz, q5⟩ := back_po q4
      obtain ⟨d, hd, hz⟩ := Option.bind_eq_some_iff.mp hz
      obtain ⟨v2, f2, ej2, r2, _⟩ := h4.atSlot hd
      rw [ej] at ej2
      cases ej2
      exact ro_sl r2 hz fun v H' n => fin_new q5 st4 h4 n

/-! ### list(range(..)), tuple(range(..)) -/
def dRng (n : D) : Option D := match n with
  | .int n => if rngC n = true ∧ n.toNat ≤ 16777216 then some (.own (rngD n.toNat)) else none
  | _ => none
def xRngL (f : PM D) : PM D := fun w => (f w).bind fun d w1 => back (dRng d) w1

/-! ### x op= e, ints -/
def sAug (i : Nat) (op : D → D → Option D) (f : PM D) : PM Fl := fun w => match slot w i with
  | some d0 => if pl d0 = true then (f w).bind fun d w1 => match op d0 d with
      | some z => backW (setE w1 i z)
      | none => .bad
    else .bad
  | none => .bad
theorem ss_aug {i : Nat} {x : Str} {e : Expr} {op : Operator} {ti : TIp} {dd : D → D → Option D} {f : PM D} {pos pos' : Pos} (ho : PIp X op ti) (hr : Ro2 X.K ti dd) (hN : X.N.Nodup) (hi : X.N[i]? = some x) (hx : Loc X.env.scope x) (he : PE X e (tP X.K X.mg Eh f)) (hf : X.fn x = true ∨ X.env.scope.names.lookup x = some .local := by first | exact .inl rfl | exact .inr rfl | assumption) :
    PS X (.AugAssign (.Name x pos') op e pos) (tS X.K X.mg Eh [i] (sAug i dd f)) := (ps_aug hN hi hx he ho hf).imp fun E s H ⟨w, F, hold, q⟩ => by
  unfold sAug at q
  cases e0 : slot w i with
  | none => rw [e0] at q; exact q.elim
  | some d0 =>
    rw [e0] at q
    by_cases p : pl d0 = true
    · dsimp only at q
      rw [if_pos p] at q
      obtain ⟨v0, f0, ej, r0, _⟩ := hold.atSlot e0
      refine ⟨v0, ej, ?_⟩
      have hold2 := hold.addP (r0.nil_of p)
      refine tP_runS hold2 (Stp.refl fun _ m => m) q fun d w2 v H2 F2 e st h2 q2 => ?_
      obtain ⟨fx, fy, rx, ry, _, _⟩ := Hold.two h2
      cases ez : dd d0 d with
      | none => rw [ez] at q2; exact q2.elim
      | some z =>
        rw [ez] at q2
        refine hr H2 v0 v d0 d fx fy z _ rx ry ez fun u H' n => ?_
        obtain ⟨k, fz, rz, ndz, fr⟩ := n
        obtain ⟨F3, h3, sub⟩ := h2.drop0
        have hm := h3.mut
        obtain ⟨ft, fe, k1, k2, pp, nd⟩ := h3
        have e1 : ft = [] := k1.2
        subst e1
        have hh : Hold X.K H' w2 s [z] [u] (fz ++ fe) := ⟨fz, fe, RVs.one rz, k2.kp k (fun _ z => nomatch z) (fun _ _ z => nomatch z), .refl _, List.nodup_append.mpr ⟨ndz, pp.nodup_iff.mp nd, fun a m b m2 e => by
          subst e
          have := hm a (pp.mem_iff.mpr m2)
          rw [fr a m] at this
          exact this⟩⟩
        exact set_po List.mem_cons_self (st.trans (F1 := F2) ⟨k.mono (fun _ z => nomatch z), fun a m => (List.mem_append.mp m).elim (fun z => .inr (.inl (fr a z))) fun z => .inl (sub a (pp.mem_iff.mpr z))⟩) (.refl _ _) hh q2
    · dsimp only at q
      rw [if_neg p] at q; exact q.elim
theorem ro_ip {K : PySem.W.Frag} {g : Int → Int → Int} : Ro2 K (ipI g) (dI fun i j => some (.int (g i j))) := fun H x y dx dy fx fy z Q rx ry e q => by
  obtain ⟨i, j, rfl, rfl, e⟩ := dI_some e
  cases e
  exact ⟨i, j, rx.1, ry.1, q _ _ (.plain ⟨rfl, rfl⟩)⟩
end
end Pm

set_option autoImplicit false
namespace Pm
open PySem PySem.Spec L2
variable {u0 : Unit} [Tab0 u0]
section
variable {K : PySem.W.Frag} {H : Hp}
theorem rvs_ints {H : Hp} (g : Nat → Int) : ∀ l : List Nat, RVs K H (l.map fun i => D.int (g i)) (l.map fun i => V.int (g i)) []
  | [] => ⟨rfl, rfl⟩
  | i :: l => ⟨.int (g i), _, [], [], rfl, ⟨rfl, rfl⟩, rvs_ints g l, rfl⟩
theorem rg_rv {n : Int} : RVs K H (rngD n.toNat) (rgV 0 n) [] := by
  unfold rngD rgV
  rw [Int.sub_zero]
  have e : (fun i : Nat => V.int (0 + (i : Int))) = fun i : Nat => V.int (i : Int) := by
    funext i; rw [Int.zero_add]
  rw [e]
  exact rvs_ints (fun i => (i : Int)) _
end
section
variable {X : Cx} {Eh : WX}
theorem pp_rngL {a : Expr} {p p2 pos pos2 : Pos} {f : PM D} (hc : X.calm = true) (hg : Gl X "list") (hm : X.mg "list" = none) (hg2 : Gl X "range") (hm2 : X.mg "range" = none) (ha : PE X a (tP X.K X.mg Eh f))
    (na : starEach [a] X.env = (false, eval a X.env) :: starEach [] X.env := by rfl) (nb : starEach [.Call (.Name "range" p2) [a] [] pos2] X.env = (false, eval (.Call (.Name "range" p2) [a] [] pos2) X.env) :: starEach [] X.env := by rfl) :
    PE X (.Call (.Name "list" p) [.Call (.Name "range" p2) [a] [] pos2] [] pos) (tP X.K X.mg Eh (xRngL f)) :=
  (pe_listRg hc hg hm (prg_1 hg2 hm2 ha na) nb).imp fun s H Q ⟨w, F, hold, q⟩ => by
    refine tP_run hold (Stp.refl fun _ m => m) q fun d w2 v H2 F2 e st h2 q2 => ?_
    obtain ⟨z, hz, q3⟩ := back_po q2
    obtain ⟨fx, rx, _⟩ := Hold.one h2
    cases d with
    | int n =>
      replace hz : (if rngC n = true ∧ n.toNat ≤ 16777216 then some (D.own (rngD n.toNat)) else none) = some z := hz
      by_cases c : rngC n = true ∧ n.toNat ≤ 16777216
      · rw [if_pos c] at hz
        cases hz
        have c1 : -(2 ^ 62) ≤ n ∧ n < 2 ^ 62 := of_decide_eq_true c.1
        exact ⟨n, rx.1, ⟨by omega, by omega, c1.1, c1.2, by rw [Int.sub_zero]; exact c.2⟩, fun q' n' => fin_new q3 st h2 (new_own rg_rv n')⟩
      · rw [if_neg c] at hz; cases hz
    | non => cases hz
    | bl b => cases hz
    | str b => cases hz
    | tup b => cases hz
    | lst b => cases hz
    | own b => cases hz
    | xo _ _ _ => cases hz
    | odc _ _ _ => cases hz
    | fdc _ _ _ => cases hz
    | fn => cases hz
/-- an argument that a def changes: a slot's datum, taken once the arguments behind it are there -/
def xZ (j : Nat) (g : PM (List D)) : PM (List D) := fun w => match slot w j with
  | some _ => (g w).bind fun ds w1 => (xK j w1).bind fun d w2 => .ok (d :: ds) w2
  | none => .bad
theorem palz {e : Expr} {es : List Expr} {ks : List (Option Nat)} {j : Nat} {g : PM (List D)} (h : PE X e (tVar j)) (hr : PA X es (tAL X.K X.mg Eh ks g)) (hs : starEach (e :: es) X.env = (false, eval e X.env) :: starEach es X.env := by rfl) : PA X (e :: es) (tAL X.K X.mg Eh (some j :: ks) (xZ j g)) :=
  (pa_cons h hr hs).imp fun s H Q ⟨w, F, hold, q⟩ => by
    unfold xZ at q
    cases e0 : slot w j with
    | none => rw [e0] at q; exact q.elim
    | some d0 =>
      rw [e0] at q
      obtain ⟨v, f, ej, r, m⟩ := hold.atSlot e0
      refine ⟨v, ej, ?_⟩
      refine tAL_run hold (Stp.refl fun _ m => m) q fun ds w2 us H2 F2 e st h2 l q2 => ?_
      replace h2 : Hold X.K H2 w2 s ds us F2 := h2
      cases e1 : slot w2 j with
      | none => rw [show xK j w2 = .bad by unfold xK; rw [e1]] at q2; exact q2.elim
      | some d =>
        obtain ⟨v2, ej2, h3⟩ := h2.takeS e1
        rw [ej] at ej2
        cases ej2
        by_cases p : pl d = true
        · rw [show xK j w2 = .ok d w2 by unfold xK; rw [e1]; exact if_pos p] at q2
          obtain ⟨v3, f3, ej3, r3, _⟩ := h2.atSlot e1
          rw [ej] at ej3
          cases ej3
          exact q2 (v :: us) H2 F2 st (h2.addP (r3.nil_of p)) (lnk_cons (fun i z => by cases z; exact ej) l)
        · rw [show xK j w2 = .ok d (w2.set j none) by unfold xK; rw [e1]; exact if_neg p] at q2
          exact q2 (v :: us) H2 F2 st h3 (lnk_cons (fun i z => by cases z; exact ej) l)
/-! ### a def of the text, where it lies -/
structure Dn (K : PySem.W.Frag) (mg : Str → Option Value) (x : Str) (st : Stmt) (ps : List Str) where
  f : Addr
  fd : FuncData
  F : Fun K x x st f fd
  b : Binds K fd ps []
  g : mg x = some (.ref f)
end
end Pm

set_option autoImplicit false
namespace Pm
open PySem PySem.Spec L2
variable {u0 : Unit} [Tab0 u0]
/-! ### sorted, over ints in a list or a tuple -/
def rSrt (K : PySem.W.Frag) : List V → Hp → VK → Prop := fun vs H Q => ∃ (a : Addr) (ns : List Int), vs = [V.ref a] ∧ (SqL K H a (ns.map V.int) ∨ SqT K H a (ns.map V.int)) ∧
  ∀ (ms : List Int) (p : Addr), ms.Perm ns → ms.Pairwise (· ≤ ·) → H p = none → Q (.ref p) (upd H p (.lst (ms.map V.int)))
theorem vints : ∀ {vs : List Value} {ns : List Int}, PyProof.Rows.IntsAre vs ns → Vals (ns.map V.int) vs
  | _, _, h => vals_of_ints h
theorem cr_srt {X : Cx} : CallR X (.builtin "sorted") (rSrt X.K) := by
  intro pins s σ H vs us Q I r ⟨a, ns, ev, hq, q⟩
  subst ev
  obtain ⟨u, eu, rx⟩ := vals1 r
  subst eu
  cases rx
  have main : ∀ (its : List Value) (T : String) (o : Obj) (n : Nat), (T = "list" ∨ T = "tuple") → Vals (ns.map V.int) its → (ns.map V.int).length ≤ sizeLine → s.heap.get? a = some o → o.cls = .type T → o.data = .seq its.toArray n →
      wpAny (model X.prog X.w) X.A (call (.builtin "sorted") [.ref a]) (EP X pins σ Q) X.xe s := fun its T o n hT rv hz ho hc hd => by
    have hi := rv.ints
    have hzl : its.length ≤ sizeLine := by rw [← rv.length]; exact hz
    refine Calls.call_function_entry PyProof.Rows.kind_sorted PyProof.Rows.plain_sorted PyProof.Rows.entry_sorted (PyProof.Rows.args_sorted1 _) ?entry
    unfold Builtin.«sorted»; refine wpAny_bind (m := checkCount "sorted" 1 1 _) (wpAny_pure ?kept)
    refine wpAny_bind (wpAny_collect_seq a hT ho hc hd (fun g kp => ?got) (by rw [List.size_toArray]; exact hzl))
    have I1 : Inv X pins σ H { s with heap := g } := I.kept (t' := s.toks) kp
    refine wpAny_bind (wpAny_newList ?laid hzl)
    have hoL : (g.push (PyProof.Rows.seqObj "list" its.toArray 0)).get? g.objs.size = some (PyProof.Rows.seqObj "list" its.toArray 0) := Heap.get?_push_size _ rfl
    show wpAny _ _ _ _ _ { s with heap := g.push (PyProof.Rows.seqObj "list" its.toArray 0) }
    refine wpAny_bind (wpAny_holding (wpAny_call_entry PyProof.Rows.slot_list_sort ⟨_, hoL, rfl⟩ PyProof.Rows.entry_list_sort
      (SrtO.list_sort_ord (s := { s with heap := g.push (PyProof.Rows.seqObj "list" its.toArray 0) }) SrtO.swo_int hoL hzl (fun h2 => SrtO.ints_sortable hi h2) fun out h1 h2 => ⟨_, rfl, ?sorted⟩) (PyProof.Rows.args_list_sort _)))
    obtain ⟨k1, k2, k3⟩ := SrtO.ints_out hi h1 h2
    obtain ⟨e1, he1⟩ := PyProof.Rows.sortedHeap_at (vs := its) (out := out.toArray) hoL
    have hlen : ((out.map SrtO.iv).map V.int).length ≤ sizeLine := by
      rw [List.length_map, k2.length_eq, ← List.length_map (f := V.int)]; exact hz
    refine wpAny_pure ⟨_, rfl, .ref g.objs.size, upd H g.objs.size (.lst ((out.map SrtO.iv).map V.int)), I1.laid (t' := s.toks) (fun b u e => ?_) (Nat.le_refl _) ⟨hlen, out, e1, vals_of_ints k1, he1⟩, rfl, q _ _ k2 k3 (I1.hok.fresh (Nat.le_refl _))⟩
    have hb : b < g.objs.size := Heap.lt_size e
    rw [PyProof.Rows.sortedHeap_old (Nat.ne_of_lt hb) (by rw [PyProof.Rows.size_push']; exact Nat.lt_succ_of_lt hb)]
    exact Heap.get?_push_of_some _ e
  rcases hq with hq | hq
  · obtain ⟨its, rv, hl, hz⟩ := I.list hq
    obtain ⟨o, ho, hc, n, hd⟩ := hl.isList
    exact main its "list" o n (.inl rfl) rv hz ho hc hd
  · obtain ⟨its, rv, hl, hz⟩ := I.tuple hq
    obtain ⟨o, ho, hc, n, hd⟩ := hl
    exact main its "tuple" o n (.inr rfl) rv hz ho hc hd
def sortI (ns : List Int) : List Int := ns.mergeSort fun a b => decide (a ≤ b)
theorem sortI_perm (ns : List Int) : (sortI ns).Perm ns := List.mergeSort_perm _ _
theorem sortI_pw (ns : List Int) : (sortI ns).Pairwise (· ≤ ·) := by
  have h := List.pairwise_mergeSort (le := fun a b : Int => decide (a ≤ b)) (fun a b c h1 h2 => by simp at h1 h2 ⊢; omega) (fun a b => by simp; omega) ns
  exact h.imp fun h => of_decide_eq_true h
theorem sortI_eq {ms ns : List Int} (h : ms.Perm ns) (h2 : ms.Pairwise (· ≤ ·)) : ms = sortI ns :=
  List.Perm.eq_of_pairwise (le := (· ≤ ·)) (fun a b _ _ x y => Int.le_antisymm x y) h2 (sortI_pw ns) (h.trans (sortI_perm ns).symm)
def intsD : List D → Option (List Int)
  | [] => some []
  | .int i :: r => (intsD r).map (i :: ·)
  | _ => none
theorem intsD_some : ∀ {ds : List D} {ns : List Int}, intsD ds = some ns → ds = ns.map .int
  | [], _, h => by cases h; rfl
  | .int i :: r, ns, h => by
    obtain ⟨ms, h1, h2⟩ := Option.map_eq_some_iff.mp (show (intsD r).map (i :: ·) = some ns from h)
    rw [← h2, intsD_some h1]; rfl
  | .non :: _, _, h => by cases h
  | .bl _ :: _, _, h => by cases h
  | .str _ :: _, _, h => by cases h
  | .tup _ :: _, _, h => by cases h
  | .lst _ :: _, _, h => by cases h
  | .own _ :: _, _, h => by cases h
@[simp] theorem intsD_ints : ∀ ns : List Int, intsD (ns.map .int) = some ns
  | [] => rfl
  | i :: ns => by
    show (intsD (ns.map .int)).map (i :: ·) = _
    rw [intsD_ints ns]; rfl
def dSorted (x : D) : Option D := (seqD x).bind fun xs => (intsD xs).map fun ns => .own ((sortI ns).map .int)
theorem rvs_intsV {K : PySem.W.Frag} {H : Hp} : ∀ {ns : List Int} {vs : List V} {f : List Addr}, RVs K H (ns.map .int) vs f → vs = ns.map V.int
  | [], vs, f, h => h.1
  | i :: ns, vs, f, h => by
    obtain ⟨v, r, f1, g, e, q, t, _⟩ := h
    subst e
    rw [q.1, rvs_intsV t]; rfl
theorem rvs_ofInts {K : PySem.W.Frag} {H : Hp} : ∀ ns : List Int, RVs K H (ns.map .int) (ns.map V.int) []
  | [] => ⟨rfl, rfl⟩
  | i :: ns => ⟨.int i, _, [], [], rfl, ⟨rfl, rfl⟩, rvs_ofInts ns, rfl⟩
theorem ro_sorted {K : PySem.W.Frag} : Ro1 K (r1' (rSrt K)) dSorted := fun H x dx fx z Q rx e q => by
  obtain ⟨xs, h1, h2⟩ := Option.bind_eq_some_iff.mp e
  obtain ⟨ns, h3, h4⟩ := Option.map_eq_some_iff.mp h2
  subst h4
  have e3 := intsD_some h3
  subst e3
  obtain ⟨a, vs, g, ea, qa, ra⟩ := seqD_rv rx h1
  subst ea
  have e4 := rvs_intsV ra
  subst e4
  refine ⟨a, ns, rfl, qa, fun ms p pm pw n => ?_⟩
  rw [sortI_eq pm pw]
  exact q _ _ (new_own (rvs_ofInts _) n)
section
variable {X : Cx} {Eh : WX}
def dRngT (d : D) : Option D := (dRng d).bind dTuple
theorem pp_rngT {a : Expr} {p p2 pos pos2 : Pos} {f : PM D} (hc : X.calm = true) (hg : Gl X "tuple") (hm : X.mg "tuple" = none) (hg2 : Gl X "range") (hm2 : X.mg "range" = none) (ha : PE X a (tP X.K X.mg Eh f))
    (na : starEach [a] X.env = (false, eval a X.env) :: starEach [] X.env := by rfl) (nb : starEach [.Call (.Name "range" p2) [a] [] pos2] X.env = (false, eval (.Call (.Name "range" p2) [a] [] pos2) X.env) :: starEach [] X.env := by rfl) :
    PE X (.Call (.Name "tuple" p) [.Call (.Name "range" p2) [a] [] pos2] [] pos) (tP X.K X.mg Eh (x1g dRngT f)) :=
  (pe_tupRg hc hg hm (prg_1 hg2 hm2 ha na) nb).imp fun s H Q ⟨w, F, hold, q⟩ => by
    refine tP_run hold (Stp.refl fun _ m => m) q fun d w2 v H2 F2 e st h2 q2 => ?_
    obtain ⟨z, hz, q3⟩ := back_po q2
    obtain ⟨fx, rx, _⟩ := Hold.one h2
    obtain ⟨y, hy, hz⟩ := Option.bind_eq_some_iff.mp hz
    cases d with
    | int n =>
      replace hy : (if rngC n = true ∧ n.toNat ≤ 16777216 then some (D.own (rngD n.toNat)) else none) = some y := hy
      by_cases c : rngC n = true ∧ n.toNat ≤ 16777216
      · rw [if_pos c] at hy
        cases hy
        replace hz : (if pls (rngD n.toNat) = true then some (D.tup (rngD n.toNat)) else none) = some z := hz
        by_cases c2 : pls (rngD n.toNat) = true
        · rw [if_pos c2] at hz
          cases hz
          have c1 : -(2 ^ 62) ≤ n ∧ n < 2 ^ 62 := of_decide_eq_true c.1
          exact ⟨n, rx.1, ⟨by omega, by omega, c1.1, c1.2, by rw [Int.sub_zero]; exact c.2⟩, fun q' n' => fin_new q3 st h2 (new_tup rg_rv n')⟩
        · rw [if_neg c2] at hz; cases hz
      · rw [if_neg c] at hy; cases hy
    | non => cases hy
    | bl b => cases hy
    | str b => cases hy
    | tup b => cases hy
    | lst b => cases hy
    | own b => cases hy
    | xo _ _ _ => cases hy
    | odc _ _ _ => cases hy
    | fdc _ _ _ => cases hy
    | fn => cases hy
end
/-! ### calls, where what a changed parameter stands for may be no slot -/
def xCal (np : Nat) (js : List (Option Nat)) (m : List D → Rd) (f : PM (List D)) : PM D := fun w => (f w).bind fun ds w1 => if ds.length = np then match m ds with
    | .ok d outs => .ok d (putB js outs w1)
    | _ => .bad
  else .bad
section
variable {X : Cx} {Eh : WX}
theorem cal_imp {s : L2.St} {H : Hp} {K : PySem.W.Frag} {mg : Str → Option Value} {np : Nat} {io : List Nat} {js : List (Option Nat)} {ks : List (Option Nat)} {m : List D → Rd} {f : PM (List D)} {Q : VK} {E : XK} (X : Cx) (hK : X.K = K) (hM : X.mg = mg) (hks : js = io.map fun k => (ks[k]?).getD none) (hio : ∀ k ∈ io, k < np)
    (h : tP K mg Eh (xCal np js m f) s H Q) : tAL K mg Eh ks f s H fun vs H1 => spP K np io m (vs ++ []) H1 Q E := by
  subst hK; subst hM
  obtain ⟨w, F, hold, q⟩ := h
  unfold xCal at q
  refine tAL_run hold (Stp.refl fun _ m => m) q fun ds w2 us H2 F2 e st h2 l q2 => ?_
  replace h2 : Hold X.K H2 w2 s ds us F2 := h2
  by_cases c : ds.length = np
  · rw [if_pos c] at q2
    rw [List.append_nil]
    obtain ⟨ft, rt, nd, fr⟩ := h2.call
    refine ⟨by rw [← hold_len h2]; exact c, h2.tabs, ds, ft, rt, nd, ?_⟩
    cases em : m ds with
    | bad => rw [em] at q2; exact q2
    | ex _ _ _ => rw [em] at q2; exact q2
    | ok d outs =>
      rw [em] at q2
      intro v H' F' st' r nd'
      obtain ⟨F3, h3, st3⟩ := fr st' r nd'
      have h4 := Hold.comm (ds := [d]) (vs := [v]) h3 rfl
      have hl : outs.length = (io.map fun k => us.getD k .non).length := by
        have := r.length
        simpa using this
      have lk : Lnk s js (io.map fun k => us.getD k .non) := fun i j u e1 e2 => by
        rw [hks, List.getElem?_map] at e1
        rw [List.getElem?_map] at e2
        obtain ⟨k, e3, e4⟩ := Option.map_eq_some_iff.mp e1
        rw [e3] at e2
        have e5 : us.getD k .non = u := by simpa using e2
        have e6 : ks[k]? = some (some j) := by
          cases z : ks[k]? with
          | none => rw [z] at e4; cases e4
          | some o => rw [z] at e4; exact congrArg some e4
        have hkl : k < us.length := by
          rw [← hold_len h2, c]
          exact hio k (List.mem_of_getElem? e3)
        exact l k j u e6 (by rw [← e5, List.getD_eq_getElem?_getD, List.getElem?_eq_getElem hkl]; rfl)
      obtain ⟨F5, h5, sub5⟩ := Hold.putL2 h4 hl lk
      exact q2 v H' F5 ((st.trans st3).trans (Stp.refl sub5)) h5
  · rw [if_neg c] at q2; exact q2.elim
theorem pp_cal {k : Nat} {f : Addr} {fd : FuncData} {ps : List Str} {io : List Nat} {js : List (Option Nat)} {ks : List (Option Nat)} {m : List D → Rd} {g : PM (List D)} {x : Str} {p pos : Pos} {e : Expr} {es : List Expr} (np : Nat) (F : FnOk X.prog X.w X.K X.mg X.base CX0 k f fd ps (spP X.K np io m)) (hr : Room k X.A) (hg : Gl X x) (hm : X.mg x = some (.ref f)) (hk : PySem.W.keepIn X.K (.ref f) = true) (hb : Binds X.K fd ps [])
    (ha : PA X (e :: es) (tAL X.K X.mg Eh ks g)) (hks : js = io.map fun k => (ks[k]?).getD none := by rfl) (hio : ∀ k ∈ io, k < np := by decide) (hdb : (x == ("__debug__" : Str)) = false := by decide) (he : starEach (e :: es) X.env = (false, eval e X.env) :: starEach es X.env := by rfl) (hpl : (backTo pos (starEach es X.env)).any (·.1) = false := by rfl) :
    PE X (.Call (.Name x p) (e :: es) [] pos) (tP X.K X.mg Eh (xCal np js m g)) :=
  (pe_call F hr hg hm hk hb .nil pass0 ha hdb he hpl).imp fun s H Q h => cal_imp X rfl rfl hks hio h
end
end Pm

set_option autoImplicit false
namespace Pm
open PySem PySem.Spec L2
variable {u0 : Unit} [Tab0 u0]
/-! ### comprehensions of two clauses -/
def cmpL2 (tg : Tgt) (c : PM Bool) (ks1 : List (Option Nat)) (it1 : PM (List D × List D)) (tg1 : Tgt) (c1 : PM Bool) (elt : PM D) (vs vs1 : List Nat) : List D → List D → PM (List D)
  | [], acc => fun w => .ok acc w
  | d :: ds, acc => fun w => match setT tg d (wipeE w vs) with
    | some w1 => (c w1).bindN fun b w2 => if b = true then (it1 w2).bindN fun p w3 => (cmpL tg1 c1 elt vs1 p.1 acc w3).bindN fun acc2 w4 => cmpL2 tg c ks1 it1 tg1 c1 elt vs vs1 ds acc2 (putB ks1 p.2 (wipeE w4 vs1))
      else cmpL2 tg c ks1 it1 tg1 c1 elt vs vs1 ds acc w2
    | none => .bad
def xComp2 (ks : List (Option Nat)) (it : PM (List D × List D)) (tg : Tgt) (c : PM Bool) (ks1 : List (Option Nat)) (it1 : PM (List D × List D)) (tg1 : Tgt) (c1 : PM Bool) (elt : PM D) (vs vs1 : List Nat) : PM D := fun w => (it w).bind fun p w1 => (cmpL2 tg c ks1 it1 tg1 c1 elt vs vs1 p.1 [] w1).bindN fun acc w2 => Rs.ok (D.own acc) (putB ks p.2 (wipeE w2 vs))
section
variable {K : PySem.W.Frag} {mg : Str → Option Value} {s : L2.St} {H : Hp} {F : List Addr} {Eh : WX}
theorem tI_runN {f : PM (List D × List D)} {ks : List (Option Nat)} {R : It → Hp → Prop} {H1 : Hp} {F1 : List Addr} {w1 w2 : Ev} {p : List D × List D} {ds : List D} {vs : List V} (hold : Hold K H1 w1 s ds vs F1) (e : f w1 = .ok p w2)
    (c : ∀ J H2 F2 tvs, Stp F1 H1 F2 H2 → Hold K H2 w2 s (ds ++ p.2) (vs ++ tvs) F2 → Src K J p.1 p.2 tvs → Lnk s ks tvs → R J H2) : tI K mg Eh ks f s H1 R := by
  obtain ⟨F0, h0, sub, fr⟩ := hold.frame
  refine ⟨w1, F0, h0, ?_⟩
  rw [e]
  intro J H' F' tvs st' h' src l
  obtain ⟨F2, h2, st2⟩ := fr st' h'
  exact c J H' F2 tvs st2 h2 src l
theorem bindN_ok' {α β : Type} {r : Rs α} {k : α → Ev → Rs β} {b : β} {w : Ev} (h : r.bindN k = .ok b w) : ∃ a w1, r = .ok a w1 ∧ k a w1 = .ok b w := by
  cases r with
  | ok a w1 => exact ⟨a, w1, rfl, h⟩
  | ex _ _ _ => cases h
  | bad => cases h
/-- the inner loop, its list in place -/
theorem cmp_in {g : TG} {tg : Tgt} {c : PM Bool} {elt : PM D} {vs : List Nat} (hg : TgR K g tg) (hv : ∀ i ∈ wrT tg, i ∈ vs) {items tds : List D} {tvs : List V} {J : It} (src : Src K J items tds tvs)
    {Da : Addr} {acc acc2 es : List D} {us : List V} {w w2 : Ev} (hold : Hold K H w s (.own acc :: es) (.ref Da :: us) F) (hl : es.length = us.length) (rT : ∀ H' f, RVs K H' es us f → ∃ f', RVs K H' tds tvs f')
    (q : cmpL tg c elt vs items acc w = .ok acc2 w2) {Nx : Hp → Prop} (fin : ∀ H' F', Stp F H F' H' → Hold K H' (wipeE w2 vs) s (.own acc2 :: es) (.ref Da :: us) F' → Nx H') :
    ∃ W1 : Nat → Nat → Hp → Prop, (∃ m, W1 0 m H) ∧ ∀ j k H', W1 j k H' → (J.stop j H' ∧ Nx H') ∨ (J.go j H' ∧ ∃ Nx1 : Hp → Prop, (∀ H'', Nx1 H'' → ∃ k', k' < k ∧ W1 (j + 1) k' H'') ∧ ∀ x H'', J.yld j H' x H'' → g x (wipe s vs) H'' fun σ3 H5 => wipe σ3 vs = wipe s vs ∧ tT K mg EhN c σ3 H5 fun b H6 =>
      if b = true then tP K mg EhN elt σ3 H6 fun y H7 => ∃ acc, H7 Da = some (.lst acc) ∧ acc.length < sizeLine ∧ Nx1 (upd H7 Da (.lst (acc ++ [y]))) else Nx1 H6) := by
  refine ⟨fun j k H' => k + j = items.length ∧ j ≤ items.length ∧ ∃ w' s' F' a', Stp F H F' H' ∧ wipe s' vs = wipe s vs ∧ Hold K H' w' s' (.own a' :: es) (.ref Da :: us) F' ∧ cmpL tg c elt vs (items.drop j) a' w' = .ok acc2 w2,
    ⟨items.length, by omega, by omega, w, s, F, acc, Stp.refl fun _ m => m, rfl, hold, q⟩, ?_⟩
  rintro j k H' ⟨e1, e2, w', s', F', a', st', ag', h', q'⟩
  obtain ⟨ft, rt⟩ := h'.rvs
  obtain ⟨v0, r0, f0, ft2, e3, rD, rR, e4⟩ := rt
  injection e3 with e5 e6
  subst e5; subst e6
  obtain ⟨f9, r9⟩ := rT H' _ rR
  obtain ⟨F3, h3, h3s, sub3⟩ := h'.turn ag'
  by_cases hi : j < items.length
  · have hd : items[j]? = some items[j] := List.getElem?_eq_getElem hi
    have hdr : items.drop j = items[j] :: items.drop (j + 1) := List.drop_eq_getElem_cons hi
    rw [hdr] at q'
    refine .inr ⟨src.go H' _ j r9 hi, fun H'' => ∃ w3 s3 F4 a3, Stp F H F4 H'' ∧ wipe s3 vs = wipe s vs ∧ Hold K H'' w3 s3 (.own a3 :: es) (.ref Da :: us) F4 ∧ cmpL tg c elt vs (items.drop (j + 1)) a3 w3 = .ok acc2 w2,
      fun H'' hN => ⟨k - 1, by omega, by omega, hi, hN⟩, fun x H'' hy => ?_⟩
    obtain ⟨kp, rx⟩ := src.yld H' _ j _ x H'' r9 hd hy
    rw [cmpL_cons] at q'
    cases et : setT tg items[j] (wipeE w' vs) with
    | none => rw [et] at q'; cases q'
    | some w3 =>
      rw [et] at q'
      dsimp only at q'
      refine hg x (wipe s vs) H'' _ (wipeE w' vs) w3 F3 (.own a' :: es) (.ref Da :: us) items[j] rx (src.pl j _ hd) (hold_kp h3 kp) et fun s3 F4 ag3 sub4 h4 => ?_
      have ew : wipe s3 vs = wipe s vs := by
        refine wipe_ext (by rw [ag3.1, wipe_length]) fun i n => ?_
        rw [ag3.2 i (fun z => n (hv i z)), wipe_get n]
      refine ⟨ew, ?_⟩
      have st4 : Stp F H F4 H'' := ((st'.trans (Stp.refl sub3)).trans (stp_kp kp)).trans (Stp.refl sub4)
      obtain ⟨b, w4, ec, q4⟩ := bindN_ok' q'
      refine tT_runN h4 ec fun H5 F5 st5 h5 => ?_
      cases b with
      | false =>
        rw [if_neg Bool.false_ne_true]
        rw [if_neg Bool.false_ne_true] at q4
        exact ⟨w4, s3, F5, a', st4.trans st5, ew, h5, q4⟩
      | true =>
        rw [if_pos rfl]
        rw [if_pos rfl] at q4
        obtain ⟨d, w5, ee, q5⟩ := bindN_ok' q4
        refine tP_runN h5 ee fun y H6 F6 st6 h6 => ?_
        obtain ⟨us2, hu, hlu, F7, h7, sub7, st7⟩ := Hold.grow h6 hl
        by_cases cl : a'.length < sizeLine
        · rw [if_pos cl] at q5
          exact ⟨us2, hu, by rw [← hlu]; exact cl, w5, s3, F7, a' ++ [d], ((st4.trans st5).trans st6).trans st7, ew, h7, q5⟩
        · rw [if_neg cl] at q5; cases q5
  · have ei : j = items.length := by omega
    subst ei
    refine .inl ⟨src.stop H' _ r9, ?_⟩
    rw [List.drop_length, cmpL_nil] at q'
    cases q'
    exact fin H' F3 (st'.trans (Stp.refl sub3)) h3s
theorem comp2_imp {g g1 : TG} {tg tg1 : Tgt} {c c1 : PM Bool} {elt : PM D} {vs vs1 : List Nat} {ks ks1 : List (Option Nat)} {it it1 : PM (List D × List D)} (hg : TgR K g tg) (hg1 : TgR K g1 tg1) (hv : ∀ i ∈ wrT tg, i ∈ vs) (hv1 : ∀ i ∈ wrT tg1, i ∈ vs1) (hs : ∀ i ∈ vs1, i ∈ vs) {Q : VK}
    (h : tP K mg Eh (xComp2 ks it tg c ks1 it1 tg1 c1 elt vs vs1) s H Q) : tLc2 (tI K mg Eh ks it) g (tT K mg EhN c) (tI K mg EhN ks1 it1) g1 (tT K mg EhN c1) (tP K mg EhN elt) vs vs1 s H Q := by
  obtain ⟨w, F, hold, q⟩ := h
  unfold xComp2 at q
  refine ⟨w, F, hold, ?_⟩
  cases e : it w with
  | bad => rw [e] at q; exact q
  | ex cc fs w1 =>
    rw [e] at q
    exact q
  | ok p w1 =>
    rw [e] at q
    replace q : Po K mg Eh H F s ((cmpL2 tg c ks1 it1 tg1 c1 elt vs vs1 p.1 [] w1).bindN fun acc w2 => Rs.ok (D.own acc) (putB ks p.2 (wipeE w2 vs))) (fun d w' => ∀ v H' F', Stp F H F' H' → Hold K H' w' s [d] [v] F' → Q v H') := q
    intro J H1 F1 tvs st h1 src lnk Da nDa
    have hlen := hold_len h1
    have hnew : Hold K (upd H1 Da (.lst [])) w1 s (.own [] :: p.2) (.ref Da :: tvs) (Da :: F1) := by
      have hm := h1.mut
      obtain ⟨ft, fe, k1, k2, pp, nd⟩ := hold_upd (o := .lst []) h1 nDa
      refine ⟨Da :: ft, fe, ⟨.ref Da, tvs, [Da], ft, rfl, ⟨Da, [], [], rfl, upd_same, ⟨rfl, rfl⟩, rfl⟩, k1, rfl⟩, k2, pp.cons Da, List.nodup_cons.mpr ⟨fun m => ?_, nd⟩⟩
      have := hm Da m
      rw [nDa] at this
      exact this
    have ok : ∃ accE wE, cmpL2 tg c ks1 it1 tg1 c1 elt vs vs1 p.1 [] w1 = .ok accE wE := by
      cases e2 : cmpL2 tg c ks1 it1 tg1 c1 elt vs vs1 p.1 [] w1 with
      | ok a b => exact ⟨a, b, rfl⟩
      | ex _ _ _ => rw [e2] at q; exact q.elim
      | bad => rw [e2] at q; exact q.elim
    obtain ⟨accE, wE, eq⟩ := ok
    rw [eq, Rs.bindN_ok] at q
    replace q : ∀ v H' F', Stp F H F' H' → Hold K H' (putB ks p.2 (wipeE wE vs)) s [.own accE] [v] F' → Q v H' := q
    refine ⟨fun i m H2 => m + i = p.1.length ∧ i ≤ p.1.length ∧ ∃ w2 s2 F2 acc, Stp F H F2 H2 ∧ wipe s2 vs = wipe s vs ∧ Hold K H2 w2 s2 (.own acc :: p.2) (.ref Da :: tvs) F2 ∧ cmpL2 tg c ks1 it1 tg1 c1 elt vs vs1 (p.1.drop i) acc w2 = .ok accE wE,
      ⟨p.1.length, by omega, by omega, w1, s, Da :: F1, [], st.trans (stp_upd' nDa), rfl, hnew, eq⟩, ?_⟩
    rintro i m H2 ⟨e1, e2, w2, s2, F2, acc, st2, ag2, h2, q2⟩
    obtain ⟨ft, rt⟩ := h2.rvs
    obtain ⟨v0, r0, f0, ft2, e3, rD, rT, e4⟩ := rt
    injection e3 with e5 e6
    subst e5; subst e6
    obtain ⟨F3, h3, h3s, sub3⟩ := h2.turn ag2
    by_cases hi : i < p.1.length
    · have hd : p.1[i]? = some p.1[i] := List.getElem?_eq_getElem hi
      have hdr : p.1.drop i = p.1[i] :: p.1.drop (i + 1) := List.drop_eq_getElem_cons hi
      rw [hdr] at q2
      refine .inr ⟨src.go H2 _ i rT hi, fun H' => ∃ w2 s2 F2 acc, Stp F H F2 H' ∧ wipe s2 vs = wipe s vs ∧ Hold K H' w2 s2 (.own acc :: p.2) (.ref Da :: tvs) F2 ∧ cmpL2 tg c ks1 it1 tg1 c1 elt vs vs1 (p.1.drop (i + 1)) acc w2 = .ok accE wE,
        fun H' hN => ⟨m - 1, by omega, by omega, hi, hN⟩, fun x H' hy => ?_⟩
      obtain ⟨kp, rx⟩ := src.yld H2 _ i _ x H' rT hd hy
      unfold cmpL2 at q2
      cases et : setT tg p.1[i] (wipeE w2 vs) with
      | none => rw [et] at q2; cases q2
      | some w3 =>
        rw [et] at q2
        dsimp only at q2
        refine hg x (wipe s vs) H' _ (wipeE w2 vs) w3 F3 (.own acc :: p.2) (.ref Da :: tvs) p.1[i] rx (src.pl i _ hd) (hold_kp h3 kp) et fun s3 F4 ag3 sub4 h4 => ?_
        have ew : wipe s3 vs = wipe s vs := by
          refine wipe_ext (by rw [ag3.1, wipe_length]) fun k n => ?_
          rw [ag3.2 k (fun z => n (hv k z)), wipe_get n]
        refine ⟨ew, ?_⟩
        have st4 : Stp F H F4 H' := ((st2.trans (Stp.refl sub3)).trans (stp_kp kp)).trans (Stp.refl sub4)
        obtain ⟨b, w4, ec, q4⟩ := bindN_ok' q2
        refine tT_runN h4 ec fun H5 F5 st5 h5 => ?_
        cases b with
        | false =>
          rw [if_neg Bool.false_ne_true]
          rw [if_neg Bool.false_ne_true] at q4
          exact ⟨w4, s3, F5, acc, st4.trans st5, ew, h5, q4⟩
        | true =>
          rw [if_pos rfl]
          rw [if_pos rfl] at q4
          obtain ⟨p1, w5, ee, q5⟩ := bindN_ok' q4
          obtain ⟨acc2, w6, ec2, q6⟩ := bindN_ok' q5
          refine tI_runN h5 ee fun J1 H6 F6 tvs1 st6 h6 src1 lnk1 => ?_
          have hl5 := hold_len h5
          have hl6 := hold_len h6
          replace h6 : Hold K H6 w5 s3 (.own acc :: (p.2 ++ p1.2)) (.ref Da :: (tvs ++ tvs1)) F6 := h6
          have hlt : p1.2.length = tvs1.length := by
            have a1 : (D.own acc :: p.2).length = (V.ref Da :: tvs).length := hl5
            rw [List.length_append, List.length_append, a1] at hl6
            omega
          refine cmp_in hg1 hv1 src1 h6 (by rw [List.length_append, List.length_append, hlen, hlt]) (fun H' f r => ?_) ec2 fun H7 F7 st7 h7 => ?_
          · obtain ⟨v1, v2, f1, f2, ev, _, ra, rb⟩ := r.split
            have := ra.length
            obtain ⟨rfl, rfl⟩ := List.append_inj ev (by rw [← hlen, this])
            exact ⟨f2, rb⟩
          · have h8 := Hold.comm (ds := .own acc2 :: p.2) (vs := .ref Da :: tvs) (es := p1.2) (us := tvs1) h7 (by show p.2.length + 1 = tvs.length + 1; rw [hlen])
            obtain ⟨F9, h9, sub9⟩ := Hold.putL2 h8 hlt lnk1
            exact ⟨_, s3, F9, acc2, (((st4.trans st5).trans st6).trans st7).trans (Stp.refl sub9), ew, h9, q6⟩
    · have ei : i = p.1.length := by omega
      subst ei
      refine .inl ⟨src.stop H2 _ rT, ?_⟩
      rw [List.drop_length] at q2
      unfold cmpL2 at q2
      cases q2
      have h8 := Hold.comm (ds := [.own accE]) (vs := [.ref Da]) h3s rfl
      obtain ⟨F9, h9, sub9⟩ := Hold.putL2 h8 hlen lnk
      exact q _ H2 F9 ((st2.trans (Stp.refl sub3)).trans (Stp.refl sub9)) h9
end
section
variable {X : Cx} {Eh : WX}
theorem pp_comp2 {elt tgE iter tgE1 iter1 : Expr} {ifs ifs1 : List Expr} {scope : Scope} {own : List (Str × Nat)} {vs1 : List Nat} {pos : Pos} {g g1 : TG} {tg tg1 : Tgt} {c c1 : PM Bool} {el : PM D} {ks ks1 : List (Option Nat)} {it it1 : PM (List D × List D)} (hc : X.calm = true) (hN : X.N.Nodup)
    (hi : PI X tgE iter (tI X.K X.mg Eh ks it)) (ok : BlkOk X.N X.env.scope scope own) (hr : TgR X.K g tg) (hr1 : TgR X.K g1 tg1)
    (hg : ∀ (s : Shared) (H : Hp) (C : Addr) (cl : List (Str × Addr)) (fp : List Addr), PG (X.blk s H scope (compEnvC scope cl C X.env) fp) tgE g)
    (ht : ∀ (s : Shared) (H : Hp) (C : Addr) (cl : List (Str × Addr)) (fp : List Addr), PTs (X.blk s H scope (compEnvC scope cl C X.env) fp) ifs (tT X.K X.mg EhN c))
    (hi1 : ∀ (s : Shared) (H : Hp) (C : Addr) (cl : List (Str × Addr)) (fp : List Addr), PI (X.blk s H scope (compEnvC scope cl C X.env) fp) tgE1 iter1 (tI X.K X.mg EhN ks1 it1))
    (hg1 : ∀ (s : Shared) (H : Hp) (C : Addr) (cl : List (Str × Addr)) (fp : List Addr), PG (X.blk s H scope (compEnvC scope cl C X.env) fp) tgE1 g1)
    (ht1 : ∀ (s : Shared) (H : Hp) (C : Addr) (cl : List (Str × Addr)) (fp : List Addr), PTs (X.blk s H scope (compEnvC scope cl C X.env) fp) ifs1 (tT X.K X.mg EhN c1))
    (he : ∀ (s : Shared) (H : Hp) (C : Addr) (cl : List (Str × Addr)) (fp : List Addr), PE (X.blk s H scope (compEnvC scope cl C X.env) fp) elt (tP X.K X.mg EhN el))
    (hv : ∀ i ∈ wrT tg, i ∈ own.map (·.2) := by decide) (hv1 : ∀ i ∈ wrT tg1, i ∈ vs1 := by decide) (hvs : ∀ i ∈ vs1, i ∈ own.map (·.2) := by decide) (hs : ∀ x, foldedSetIterable iter X.env x = pure x := by intro _; rfl) (hs1 : ∀ env x, foldedSetIterable iter1 env x = pure x := by intro _ _; rfl) :
    PE X (.ListComp elt [⟨tgE, iter, ifs, 0⟩, ⟨tgE1, iter1, ifs1, 0⟩] scope pos) (tP X.K X.mg Eh (xComp2 ks it tg c ks1 it1 tg1 c1 el (own.map (·.2)) vs1)) :=
  (pe_lc2 hc hN hi ok hvs hg ht hi1 hg1 ht1 he hs hs1).imp fun s H Q h => comp2_imp hr hr1 hv hv1 hvs h
end
end Pm

set_option autoImplicit false
namespace Pm
open PySem PySem.Spec L2
variable {u0 : Unit} [Tab0 u0]
/-! ### built-ins of two arguments -/
section
variable {X : Cx} {Eh : WX} {a b : Expr} {f g : PM D} {x id : Str} {pp pos : Pos} {rr : List V → Hp → VK → Prop} {d : D → D → Option D}
theorem bi2_gg {id : String} (hc : CallR X (.builtin id) rr) (hr : Ro2 X.K (fun u v H Q => rr [u, v] H Q) d) (hg : Gl X x) (hm : X.mg x = none) (hv : bootBuiltins x = some (.builtin id)) (ha : PE X a (tP X.K X.mg Eh f)) (hb : PE X b (tP X.K X.mg Eh g)) (hn : x ≠ "__name__" := by decide) (hdb : (x == ("__debug__" : Str)) = false := by decide)
    (he : starEach [a, b] X.env = (false, eval a X.env) :: starEach [b] X.env := by rfl) (he2 : starEach [b] X.env = (false, eval b X.env) :: starEach [] X.env := by rfl) (hpl : (backTo pos (starEach [b] X.env)).any (·.1) = false := by rfl) : PE X (.Call (.Name x pp) [a, b] [] pos) (tP X.K X.mg Eh (x2gg d f g)) :=
  (pe_callB hc hg hm hv (pa_cons ha (pa_cons hb pa_nil he2) he) hn hdb he hpl).imp fun _ _ _ h => imp2gg hr h
end
def dMin : D → D → Option D := dI fun i j => some (.int (if j < i then j else i))
def dMax : D → D → Option D := dI fun i j => some (.int (if j > i then j else i))
theorem ro_min {K : PySem.W.Frag} : Ro2 K (fun u v H Q => ∃ i j, [u, v] = [V.int i, V.int j] ∧ Q (.int (if j < i then j else i)) H) dMin := fun H x y dx dy fx fy z Q rx ry e q => by
  obtain ⟨i, j, rfl, rfl, e⟩ := dI_some e
  cases e
  exact ⟨i, j, by rw [rx.1, ry.1], q _ _ (.plain ⟨rfl, rfl⟩)⟩
theorem ro_max {K : PySem.W.Frag} : Ro2 K (fun u v H Q => ∃ i j, [u, v] = [V.int i, V.int j] ∧ Q (.int (if j > i then j else i)) H) dMax := fun H x y dx dy fx fy z Q rx ry e q => by
  obtain ⟨i, j, rfl, rfl, e⟩ := dI_some e
  cases e
  exact ⟨i, j, by rw [rx.1, ry.1], q _ _ (.plain ⟨rfl, rfl⟩)⟩
def dAbs : D → Option D
  | .int i => some (.int (if i < 0 then -i else i))
  | _ => none
theorem ro_abs {K : PySem.W.Frag} : Ro1 K (r1' fun xs H Q => ∃ i, xs = [V.int i] ∧ Q (.int (if i < 0 then -i else i)) H) dAbs := fun H x dx fx z Q rx e q => by
  cases dx with
  | int i => cases e; exact ⟨i, by rw [rx.1], q _ _ (.plain ⟨rfl, rfl⟩)⟩
  | non => cases e
  | bl b => cases e
  | str b => cases e
  | tup b => cases e
  | lst b => cases e
  | own b => cases e
  | xo _ _ _ => cases e
  | odc _ _ _ => cases e
  | fdc _ _ _ => cases e
  | fn => cases e
end Pm

set_option autoImplicit false
namespace Pm
open PySem PySem.Spec L2
variable {u0 : Unit} [Tab0 u0]
/-! ### a op b op' c -/
def x3c (op op' : D → D → Option D) (f g h : PM D) : PM D := fun w => (f w).bind fun x w1 => (g w1).bind fun y w2 => match op x y with
  | some (.bl true) => (h w2).bind fun z w3 => back (op' y z) w3
  | some (.bl false) => .ok (.bl false) w2
  | _ => .bad
section
variable {X : Cx} {Eh : WX} {s : L2.St} {H : Hp}
theorem imp3c {r r' : V → V → Hp → VK → Prop} {op op' : D → D → Option D} {f g h : PM D} (hr : Ro2 X.K r op) (hr' : Ro2 X.K r' op') {Q : VK} (hh : tP X.K X.mg Eh (x3c op op' f g h) s H Q) :
    tChain r r' (tP X.K X.mg Eh f) (tP X.K X.mg Eh g) (tP X.K X.mg Eh h) s H Q := by
  obtain ⟨w, F, hold, q⟩ := hh
  refine tP_run hold (Stp.refl fun _ m => m) q fun dx w1 vx H1 F1 e1 st1 h1 q1 => ?_
  refine tP_run h1 st1 q1 fun dy w2 vy H2 F2 e2 st2 h2 q2 => ?_
  replace h2 : Hold X.K H2 w2 s [dx, dy] [vx, vy] F2 := h2
  obtain ⟨fx, fy, rx, ry, _, _⟩ := Hold.two h2
  have bad : ∀ {R : D → Ev → Prop}, Po X.K X.mg Eh H F s (.bad : Rs D) R → False := fun z => z
  cases eo : op dx dy with
  | none => rw [eo] at q2; exact (bad q2).elim
  | some z =>
    rw [eo] at q2
    cases z with
    | bl b =>
      refine hr H2 vx vy dx dy fx fy (.bl b) _ rx ry eo fun v H' n => ?_
      obtain ⟨k, f0, r0, _, _⟩ := n
      obtain ⟨F3, h3, sub3⟩ := Hold.drop (ds := [dx]) (vs := [vx]) (ds' := [dy]) (vs' := [vy]) (hold_kp h2 k) rfl
      have st3 : Stp F H F3 H' := (st2.trans (stp_kp k)).trans (Stp.refl sub3)
      refine ⟨b, r0.1, ?_⟩
      cases b with
      | true =>
        rw [if_pos rfl]
        refine tP_run h3 st3 q2 fun dz w3 vz H4 F4 e4 st4 h4 q4 => ?_
        replace h4 : Hold X.K H4 w3 s [dy, dz] [vy, vz] F4 := h4
        obtain ⟨gy, gz, ry2, rz, _, _⟩ := Hold.two h4
        obtain ⟨z, hz, q5⟩ := back_po q4
        exact hr' H4 vy vz dy dz gy gz z _ ry2 rz hz fun v' H5 n5 => fin_new q5 st4 h4 n5
      | false =>
        rw [if_neg Bool.false_ne_true]
        obtain ⟨F5, h5, sub5⟩ := h3.drop0
        exact q2 (.bl false) H' F5 (st3.trans (Stp.refl sub5)) (h5.addP ⟨rfl, rfl⟩)
    | _ => exact (bad q2).elim
variable {a b c : Expr} {pos : Pos} {o1 o2 : CmpOp} {r r' : R2} {d d' : D → D → Option D} {f g h : PM D}
theorem cmp3_ggg (ho : OpR X (compareOp o1) r) (hr : Ro2 X.K r d) (ho' : OpR X (compareOp o2) r') (hr' : Ro2 X.K r' d') (ha : PE X a (tP X.K X.mg Eh f)) (hb : PE X b (tP X.K X.mg Eh g)) (hc : PE X c (tP X.K X.mg Eh h)) (hm : lastMarks [o1, o2] [b, c] = false := by with_unfolding_all rfl) : PE X (.Compare a [o1, o2] [b, c] pos) (tP X.K X.mg Eh (x3c d d' f g h)) :=
  (pe_chain ho ho' ha hb hc hm).imp fun _ _ _ q => imp3c hr hr' q
theorem pt3_ggg (ho : OpR X (compareOp o1) r) (hr : Ro2 X.K r d) (ho' : OpR X (compareOp o2) r') (hr' : Ro2 X.K r' d') (ha : PE X a (tP X.K X.mg Eh f)) (hb : PE X b (tP X.K X.mg Eh g)) (hc : PE X c (tP X.K X.mg Eh h)) (hm : lastMarks [o1, o2] [b, c] = false := by with_unfolding_all rfl) : PT X (.Compare a [o1, o2] [b, c] pos) (tT X.K X.mg Eh (tBl (x3c d d' f g h))) :=
  (pt_chain ho ho' ha hb hc hm).imp fun _ _ _ q => imp3c hr hr' (tBl_imp q)
end
/-! ### a, b = e -/
def sSetT (tg : Tgt) (f : PM D) : PM Fl := fun w => (f w).bind fun d w1 => if pl d = true then backW (setT tg d w1) else .bad
section
variable {X : Cx} {Eh : WX}
theorem ss_setT {tgE e : Expr} {pos : Pos} {g : TG} {tg : Tgt} {f : PM D} (he : PE X e (tP X.K X.mg Eh f)) (hg : PG X tgE g) (hr : TgR X.K g tg) (hs : swapsWithSole [tgE] e pos.line X.env = pure false := by rfl) (hw : swappedStores [tgE] e X.env = pure none := by rfl)
    (h1 : (assignEach [tgE] X.env).map (·.2) = [assign tgE X.env] := by rfl) : PS X (.Assign [tgE] e pos) (tS X.K X.mg Eh (wrT tg) (sSetT tg f)) :=
  (ps_asg he hg hs hw h1).imp fun E s H ⟨w, F, hold, q⟩ => by
    refine tP_runS hold (Stp.refl fun _ m => m) q fun d w1 v H1 F1 e st h1 q1 => ?_
    by_cases p : pl d = true
    · rw [if_pos p] at q1
      cases et : setT tg d w1 with
      | none => rw [et] at q1; exact q1.elim
      | some w2 =>
        rw [et] at q1
        obtain ⟨fx, rx, _⟩ := Hold.one h1
        obtain ⟨F3, h3, sub3⟩ := h1.drop0
        have r0 : RV X.K H1 d v [] := by
          have := rv_pl d v fx p rx
          subst this; exact rx
        exact hr v s H1 _ w1 w2 F3 [] [] d r0 p h3 et fun s' F' ag sub h' => q1 s' H1 F' (st.trans (Stp.refl fun a m => sub3 a (sub a m))) ag h'
    · rw [if_neg p] at q1; exact q1.elim
end
end Pm

set_option autoImplicit false
namespace Pm
open PySem PySem.Spec L2 PyProof.Rows
variable {u0 : Unit} [Tab0 u0]
/-! ### str of an int -/
def strC (i : Int) : Bool := decide (i.natAbs.log2 < 1920)
def dStr : D → Option D
  | .int i => if strC i = true then some (.str (toString i)) else none
  | _ => none
theorem ro_str {K : PySem.W.Frag} : Ro1 K (r1' fun xs H Q => ∃ i : Int, xs = [V.int i] ∧ i.natAbs.log2 < 1920 ∧ Q (.str (toString i)) H) dStr := fun H x dx fx z Q rx e q => by
  cases dx with
  | int i =>
    replace e : (if strC i = true then some (D.str (toString i)) else none) = some z := e
    by_cases c : strC i = true
    · rw [if_pos c] at e
      cases e
      exact ⟨i, by rw [rx.1], of_decide_eq_true c, q _ _ (.plain ⟨rfl, rfl⟩)⟩
    · rw [if_neg c] at e; cases e
  | non => cases e
  | bl b => cases e
  | str b => cases e
  | tup b => cases e
  | lst b => cases e
  | own b => cases e
  | xo _ _ _ => cases e
  | odc _ _ _ => cases e
  | fdc _ _ _ => cases e
  | fn => cases e
/-! ### list(range(a, b, c)) -/
section
variable {X : Cx} {Eh : WX} {a b c : Expr} {ta : TA} {p pos p2 pos2 : Pos}
theorem prg_3 (hgR : Gl X "range") (hmR : X.mg "range" = none) (ha : PA X [a, b, c] ta) (hs : starEach [a, b, c] X.env = (false, eval a X.env) :: starEach [b, c] X.env := by rfl) (hpl : (backTo pos2 (starEach [b, c] X.env)).any (·.1) = false := by rfl)
    {pins : List (Addr × Obj)} {s0 : Shared} {σ : L2.St} {H : Hp} {R : Int → Int → Int → Nat → Hp → Prop} (I0 : Inv X pins σ H s0) (h : ta σ H fun vs H1 => ∃ (i j k : Int) (n : Nat), vs = [.int i, .int j, .int k] ∧ RgC i j k n ∧ R i j k n H1) :
    wpAny (model X.prog X.w) X.A (eval (.Call (.Name "range" p2) [a, b, c] [] pos2) X.env) (fun x s' => ∃ r i j k n t u v H', x = .ref r ∧ IsRange s'.heap r i j k t u v ∧ RgC i j k n ∧ Inv X pins σ H' s' ∧ R i j k n H') X.xe s0 := by
  refine Call_ (ld_blt I0 hgR hmR PyProof.Rows.boot_range (PyProof.Rows.callWith_type1 (thn (ha.run pos2 pins s0 σ H _ I0 h) fun us s9 ⟨vs, H1, I9, r9, q9⟩ => ?_) hs hpl))
  obtain ⟨i, j, k, n, e, rg, q⟩ := q9
  subst e
  cases r9 with
  | cons y1 z1 =>
    cases z1 with
    | cons y2 z2 =>
      cases z2 with
      | cons y3 z3 =>
        cases z3
        obtain ⟨t1, rfl⟩ := y1
        obtain ⟨t2, rfl⟩ := y2
        obtain ⟨t3, rfl⟩ := y3
        refine call_range_3 rg.1 ?_ (.inl (PyProof.noPylong_small rg.2.1))
        exact ⟨_, i, j, k, n, _, _, _, H1, rfl, IsRange.new _ _ _ _ _ _ _, rg, I9.kept (t' := s9.toks) fun b o e => Heap.get?_push_of_some _ e, q⟩
def rg3 (i j k : Int) : Bool := decide (k = -1) && rngC i && rngC j && decide ((i - j).toNat ≤ 16777216)
def dRng3 : List D → Option D
  | [.int i, .int j, .int k] => if rg3 i j k = true then some (.own ((List.range (i - j).toNat).map fun (m : Nat) => D.int (i + (m : Int) * k))) else none
  | _ => none
theorem dRng3_some {ds : List D} {z : D} (h : dRng3 ds = some z) : ∃ i j k, ds = [.int i, .int j, .int k] ∧ rg3 i j k = true ∧ z = .own ((List.range (i - j).toNat).map fun (m : Nat) => D.int (i + (m : Int) * k)) := by
  unfold dRng3 at h
  split at h
  · rename_i i j k
    by_cases c : rg3 i j k = true
    · rw [if_pos c] at h; cases h; exact ⟨i, j, k, rfl, c, rfl⟩
    · rw [if_neg c] at h; cases h
  · cases h
def xRngL3 (f : PM (List D)) : PM D := fun w => (f w).bind fun ds w1 => back (dRng3 ds) w1
theorem pp_rngL3 {f : PM (List D)} (hc : X.calm = true) (hg : Gl X "list") (hm : X.mg "list" = none) (hg2 : Gl X "range") (hm2 : X.mg "range" = none) (ha : PA X [a, b, c] (tA X.K X.mg Eh f))
    (hs : starEach [a, b, c] X.env = (false, eval a X.env) :: starEach [b, c] X.env := by rfl) (hpl : (backTo pos2 (starEach [b, c] X.env)).any (·.1) = false := by rfl) (nb : starEach [.Call (.Name "range" p2) [a, b, c] [] pos2] X.env = (false, eval (.Call (.Name "range" p2) [a, b, c] [] pos2) X.env) :: starEach [] X.env := by rfl) :
    PE X (.Call (.Name "list" p) [.Call (.Name "range" p2) [a, b, c] [] pos2] [] pos) (tP X.K X.mg Eh (xRngL3 f)) := by
  refine ⟨fun pins s0 σ H Q I0 h0 => ?_⟩
  have pre : tA X.K X.mg Eh f σ H fun vs H1 => ∃ (i j k : Int) (n : Nat), vs = [.int i, .int j, .int k] ∧ RgC i j k n ∧ n ≤ 2 ^ 24 ∧ ∀ q, H1 q = none → Q (.ref q) (upd H1 q (.lst ((List.range n).map fun (m : Nat) => V.int (i + (m : Int) * k)))) := by
    obtain ⟨w, F, hold, q⟩ := h0
    refine tA_run hold (Stp.refl fun _ m => m) q fun ds w2 us H2 F2 e st h2 q2 => ?_
    replace h2 : Hold X.K H2 w2 σ ds us F2 := h2
    obtain ⟨z, hz, q3⟩ := back_po q2
    obtain ⟨i, j, k, ed, cc, ez⟩ := dRng3_some hz
    subst ed; subst ez
    obtain ⟨ft, rt⟩ := h2.rvs
    obtain ⟨v1, r1, f1, g1, e1, p1, t1, _⟩ := rt
    obtain ⟨v2, r2, f2, g2, e2, p2', t2, _⟩ := t1
    obtain ⟨v3, r3, f3, g3, e3, p3, t3, _⟩ := t2
    obtain ⟨e4, _⟩ := t3
    unfold rg3 at cc
    simp only [Bool.and_eq_true, decide_eq_true_eq] at cc
    obtain ⟨⟨⟨c1, c2⟩, c3⟩, c4⟩ := cc
    subst c1
    have b1 : -(2 ^ 62) ≤ i ∧ i < 2 ^ 62 := of_decide_eq_true c2
    have b2 : -(2 ^ 62) ≤ j ∧ j < 2 ^ 62 := of_decide_eq_true c3
    refine ⟨i, j, -1, (i - j).toNat, ?_, RgC.neg b1.1 b1.2 b2.1 b2.2, c4, fun q' n' => fin_new q3 st h2 (new_own (rvs_ints (fun m => i + (m : Int) * -1) _) n')⟩
    rw [e1, e2, e3, e4, p1.1, p2'.1, p3.1]
  refine Call_ (ld_blt I0 hg hm PyProof.Rows.boot_list (PyProof.Rows.callWith_type1 (args_cons (thn (prg_3 hg2 hm2 ha hs hpl I0 pre) fun x s9 ⟨r, i, j, k, n, t, u, v, H1, ex, hr, rg, I9, le, qq⟩ => args_nil ?_) nb) nb))
  subst ex
  refine call_list_range (n := n) (I9.ok.hd hc) hr rg.2.2.1 rg.2.2.2 le fun g9 tk acc c9 hk e9 hi => ?_
  have hl : acc.toList.length = n := by rw [Array.length_toList]; exact hi.1
  have vv : Vals ((List.range n).map fun (m : Nat) => V.int (i + (m : Int) * k)) acc.toList := by
    rw [← hl]
    refine vals_of_get acc.toList _ fun m u hm => ?_
    exact hi.2 m u (by rw [← hm, Array.getElem?_toList])
  refine ⟨.ref s9.heap.objs.size, upd H1 s9.heap.objs.size (.lst ((List.range n).map fun (m : Nat) => V.int (i + (m : Int) * k))), I9.laid hk (Nat.le_refl _) (show ObjOk X.prog X.w _ _ _ (.lst _) from ⟨?_, acc.toList, c9, vv, ?_⟩), rfl, qq _ (I9.hok.fresh (Nat.le_refl _))⟩
  · rw [List.length_map, List.length_range, sizeLine_eq]; omega
  · rw [Array.toArray_toList]; exact e9
end
end Pm

set_option autoImplicit false
namespace Pm
open PySem PySem.Spec L2
variable {u0 : Unit} [Tab0 u0]
/-! ### a new list freezes at once -/
def iceD (d : D) : Option D := if pl d = true then some d else iceO d
def xIg (f : PM D) : PM D := fun w => (f w).bind fun d w1 => back (iceD d) w1
section
variable {X : Cx} {Eh : WX} {s : L2.St} {H : Hp} {F : List Addr}
theorem hold_iceT {K : PySem.W.Frag} {w : Ev} {d d' : D} {v : V} (h : Hold K H w s [d] [v] F) (p : iceO d = some d') :
    ∃ a u, v = .ref a ∧ H a = some u ∧ Mut (some u) ∧ ∀ od, ∃ F', Hold K (upd H a (.frz od u)) w s [d'] [.ref a] F' ∧ Stp F H F' (upd H a (.frz od u)) := by
  obtain ⟨ft0, fe, k1, k2, pp, nd⟩ := h
  obtain ⟨v', r, f0, ft, e1, q, q2, e2⟩ := k1
  injection e1 with e3 e4
  subst e3; subst e4; subst e2
  obtain ⟨e9, e10⟩ := q2
  subst e10
  obtain ⟨a, u, e5, q5, mu, ef, rr, pu⟩ := iceO_rv p q
  subst e5; subst ef
  refine ⟨a, u, rfl, q5, mu, fun od => ?_⟩
  have k : Kp [a] H (upd H a (.frz od u)) := .put q5 pu
  have mk : ∀ b ∈ [a], Mut (H b) := fun b m => by
    have e : b = a := by simpa using m
    rw [e, q5]; exact mu
  have n0 : (a :: fe).Nodup := pp.nodup_iff.mp nd
  obtain ⟨na, n1⟩ := List.nodup_cons.mp n0
  have r4 := k2.kp k mk fun b mb z => by
    have e : b = a := by simpa using z
    exact na (e ▸ mb)
  have rl := rr od
  have hh : Hold K (upd H a (.frz od u)) w s [] [] fe := ⟨[], fe, ⟨rfl, rfl⟩, r4, .refl _, n1⟩
  refine ⟨fe, hh.addP rl, k.mono fun b z => ?_, fun b m => .inl (pp.mem_iff.mpr (List.mem_cons_of_mem _ m))⟩
  have e : b = a := by simpa using z
  rw [e]
  exact pp.mem_iff.mpr List.mem_cons_self
theorem pp_iceg {e : Expr} {f : PM D} (h : PE X e (tP X.K X.mg Eh f)) : PE X e (tP X.K X.mg Eh (xIg f)) := (pe_ice h).imp fun s H Q ⟨w, F, hold, q⟩ => by
  refine tP_run hold (Stp.refl fun _ m => m) q fun d w2 v H2 F2 e st h2 q2 => ?_
  replace h2 : Hold X.K H2 w2 s [d] [v] F2 := h2
  obtain ⟨z, hz, q3⟩ := back_po q2
  unfold iceD at hz
  by_cases p : pl d = true
  · rw [if_pos p] at hz
    cases hz
    exact .inl (q3 v H2 F2 st h2)
  · rw [if_neg p] at hz
    obtain ⟨a, u, ev, ha, mu, hx⟩ := hold_iceT h2 hz
    subst ev
    refine .inr ⟨a, _, ha, mu, fun od => ?_⟩
    obtain ⟨F', h', st'⟩ := hx od
    exact q3 _ _ F' (st.trans st') h'
end
end Pm

set_option autoImplicit true
namespace Pm
open PySem PySem.Spec L2
variable {u0 : Unit} [Tab0 u0]
/-! ### is, of None and of bools -/
def dIsX (neg : Bool) : D → D → Option D
  | x, .non => some (.bl (if neg = true then !isN x else isN x))
  | .bl a, .bl b => some (.bl (if neg = true then !decide (a = b) else decide (a = b)))
  | _, _ => none
def rIsX (neg : Bool) : R2 := fun x y H Q => (y = .non ∧ Q (.bl (if neg = true then !decide (x = .non) else decide (x = .non))) H) ∨ ∃ a b, x = .bl a ∧ y = .bl b ∧ Q (.bl (if neg = true then !decide (a = b) else decide (a = b))) H
theorem op_isX {X : Cx} : OpR X (compareOp .Is) (rIsX false) := op_isN.or op_is_bl
theorem op_isnotX {X : Cx} : OpR X (compareOp .IsNot) (rIsX true) := op_notN.or op_isnot_bl
theorem ro_isX {K : PySem.W.Frag} (neg : Bool) : Ro2 K (rIsX neg) (dIsX neg) := fun H x y dx dy fx fy z Q rx ry e q => by
  cases dy with
  | non =>
    have e2 : some (D.bl (if neg = true then !isN dx else isN dx)) = some z := by
      rw [← e]; unfold dIsX; cases dx <;> rfl
    cases e2
    refine .inl ⟨ry.1, ?_⟩
    rw [isN_rv rx]
    exact q _ _ (.plain ⟨rfl, rfl⟩)
  | bl b =>
    cases dx with
    | bl a => cases e; exact .inr ⟨a, b, rx.1, ry.1, q _ _ (.plain ⟨rfl, rfl⟩)⟩
    | _ => cases e
  | _ => cases dx <;> cases e
@[simp] theorem dIsX_non {neg : Bool} {x : D} : dIsX neg x .non = some (.bl (if neg = true then !isN x else isN x)) := by unfold dIsX; cases x <;> rfl
@[simp] theorem dIsX_bl {neg a b : Bool} : dIsX neg (.bl a) (.bl b) = some (.bl (if neg = true then !decide (a = b) else decide (a = b))) := rfl
end Pm

set_option autoImplicit false
namespace Pm
open PySem PySem.Spec L2
variable {u0 : Unit} [Tab0 u0]
/-! ### defs that may raise -/
def spX (K : PySem.W.Frag) (mg : Str → Option Value) (np : Nat) (io : List Nat) (m : List D → Rd) : Sp := fun vs H Q E => vs.length = np ∧ TabsH H ∧ ∃ ds F, RVs K H ds vs F ∧ F.Nodup ∧ match m ds with
  | .ok d outs => ∀ v H' F', Stp F H F' H' → RVs K H' (d :: outs) (v :: io.map fun k => vs.getD k .non) F' → F'.Nodup → Q v H'
  | .ex c fs outs => ∀ cls od H' F', Stp F H F' H' → RVs K H' outs (io.map fun k => vs.getD k .non) F' → F'.Nodup → ExR K mg H' c fs cls od → E cls od H'
  | .bad => False
section
variable {P : Program} {w : World} {K : PySem.W.Frag} {mg : Str → Option Value} {base : Heap}
theorem fn_x {x qual : Str} {st : Stmt} {f : Addr} {fd : FuncData} {N ps : List Str} {k : Nat} {io wr : List Nat} {body : PM Fl} (F : Fun K x qual st f fd) (S : FnScope N ps (defScope st))
    (hb : ∀ (cdv : Value) (A : Around) (outer : List Env) (s : Shared) (H : Hp) (E : XK), Room k (A.deeper (PyProof.Rows.envOfC qual (defScope st) s.heap.objs.size f cdv)) →
      PSs (cxOf (L2.CX P w) P w K mg base N qual (defScope st) f cdv A outer s H E) (defBody st) (tS K mg (fun cls d _ H' => E cls d H') wr body))
    (hio : ∀ i ∈ io, i ∉ wr ∧ i < ps.length := by decide) (hnd : io.Nodup := by decide) :
    FnOk P w K mg base (L2.CX P w) (k + 1) f fd ps (spX K mg ps.length io (mkDef N.length ps.length io body)) := by
  refine F.okX S (fun vs H Q E h => h.1) fun cdv A outer s H vs Q E hr h => ⟨_, hb cdv A outer s H E hr, ?_⟩
  obtain ⟨hl, hT, ds, FF, rv, nd, q⟩ := h
  have hdl : ds.length = vs.length := rv.length
  unfold mkDef at q
  rw [if_pos (hdl.trans hl)] at q
  have es : start N vs = vs.map some ++ List.replicate (N.length - vs.length) none := rfl
  refine ⟨startE N.length ds, FF, ⟨[], FF, ⟨rfl, rfl⟩, ?_, .refl _, nd⟩, ?_⟩
  · rw [es]
    unfold startE
    rw [hdl]
    exact re_start hT rv
  · have slots : ∀ {s' : L2.St}, Agr wr (start N vs) s' → ∀ i ∈ io, s'[i]? = some (some (vs.getD i .non)) := fun {s'} ag i m => by
      obtain ⟨n1, n2⟩ := hio i m
      rw [ag.2 i n1, es]
      have hi : i < vs.length := by rw [hl]; exact n2
      rw [List.getElem?_append_left (by simpa using hi), List.getElem?_map, List.getElem?_eq_getElem hi]
      rw [List.getD_eq_getElem?_getD, List.getElem?_eq_getElem hi]
      rfl
    have fin : ∀ {d : D} {w' : Ev} {v : V} {s' : L2.St} {H' : Hp} {F' : List Addr}, (match endD d (outsOf io w') with
        | .ok d outs => ∀ v H' F', Stp FF H F' H' → RVs K H' (d :: outs) (v :: io.map fun k => vs.getD k .non) F' → F'.Nodup → Q v H'
        | .ex c fs outs => ∀ cls od H' F', Stp FF H F' H' → RVs K H' outs (io.map fun k => vs.getD k .non) F' → F'.Nodup → ExR K mg H' c fs cls od → E cls od H'
        | .bad => False) → Stp FF H F' H' → Agr wr (start N vs) s' → Hold K H' w' s' [d] [v] F' → Q v H' := fun {d w' v s' H' F'} q st ag h' => by
      cases e : outsOf io w' with
      | none => rw [e] at q; exact q.elim
      | some os =>
        rw [e] at q
        obtain ⟨F2, r, nd2, sub⟩ := Hold.outs (g := fun k => vs.getD k .non) h' e hnd (slots ag)
        exact q v H' F2 (st.trans (Stp.refl sub)) r nd2
    cases e : body (startE N.length ds) with
    | bad => rw [e] at q; exact q.elim
    | ex c fs w' =>
      rw [e] at q
      dsimp only at q
      intro cls od s' H' F' st ag h' x
      cases e2 : outsOf io w' with
      | none => rw [e2] at q; exact q.elim
      | some os =>
        rw [e2] at q
        obtain ⟨F2, r, nd2, sub⟩ := Hold.outs (g := fun k => vs.getD k .non) h' e2 hnd (slots ag)
        exact q cls od H' F2 (st.trans (Stp.refl sub)) r nd2 x
    | ok fl w' =>
      rw [e] at q
      cases fl with
      | nx =>
        intro s' H' F' st ag h'
        refine fin (v := .non) q st ag ?_
        obtain ⟨ft, fe, h1, h2, p, nd⟩ := h'
        have e0 : ft = [] := h1.2
        subst e0
        exact ⟨[], fe, RVs.one ⟨rfl, rfl⟩, h2, p, nd⟩
      | rt d => exact fun v s' H' F' st ag h' => fin q st ag h'
      | bk => exact q.elim
      | ct => exact q.elim
end
/-! ### calls that may raise -/
def xCax (np : Nat) (js : List (Option Nat)) (m : List D → Rd) (f : PM (List D)) : PM D := fun w => (f w).bind fun ds w1 => if ds.length = np then match m ds with
    | .ok d outs => .ok d (putB js outs w1)
    | .ex c fs outs => .ex c fs (putB js outs w1)
    | .bad => .bad
  else .bad
section
variable {X : Cx} {Eh : WX}
theorem cax_imp {s : L2.St} {H : Hp} {K : PySem.W.Frag} {mg : Str → Option Value} {np : Nat} {io : List Nat} {js : List (Option Nat)} {ks : List (Option Nat)} {m : List D → Rd} {f : PM (List D)} {Q : VK} (X : Cx) (hK : X.K = K) (hM : X.mg = mg) (hks : js = io.map fun k => (ks[k]?).getD none) (hio : ∀ k ∈ io, k < np)
    (h : tP K mg Eh (xCax np js m f) s H Q) : tAL K mg Eh ks f s H fun vs H1 => spX K mg np io m (vs ++ []) H1 Q (WE Eh s) := by
  subst hK; subst hM
  obtain ⟨w, F, hold, q⟩ := h
  unfold xCax at q
  refine tAL_run hold (Stp.refl fun _ m => m) q fun ds w2 us H2 F2 e st h2 l q2 => ?_
  replace h2 : Hold X.K H2 w2 s ds us F2 := h2
  by_cases c : ds.length = np
  · rw [if_pos c] at q2
    rw [List.append_nil]
    obtain ⟨ft, rt, nd, fr⟩ := h2.call
    refine ⟨by rw [← hold_len h2]; exact c, h2.tabs, ds, ft, rt, nd, ?_⟩
    have lkOf : ∀ {outs : List D} {v : List V}, Lnk s js (io.map fun k => us.getD k .non) := fun {outs v} i j u e1 e2 => by
      rw [hks, List.getElem?_map] at e1
      rw [List.getElem?_map] at e2
      obtain ⟨k, e3, e4⟩ := Option.map_eq_some_iff.mp e1
      rw [e3] at e2
      have e5 : us.getD k .non = u := by simpa using e2
      have e6 : ks[k]? = some (some j) := by
        cases z : ks[k]? with
        | none => rw [z] at e4; cases e4
        | some o => rw [z] at e4; exact congrArg some e4
      have hkl : k < us.length := by
        rw [← hold_len h2, c]
        exact hio k (List.mem_of_getElem? e3)
      exact l k j u e6 (by rw [← e5, List.getD_eq_getElem?_getD, List.getElem?_eq_getElem hkl]; rfl)
    cases em : m ds with
    | bad => rw [em] at q2; exact q2
    | ex c fs outs =>
      rw [em] at q2
      intro cls od H' F' st' r nd' x
      obtain ⟨F3, h3, st3⟩ := fr st' r nd'
      have hl : outs.length = (io.map fun k => us.getD k .non).length := r.length
      obtain ⟨F5, h5, sub5⟩ := Hold.putL2 (es := []) (us := []) (by rw [List.append_nil, List.append_nil]; exact h3) hl (lkOf (outs := []) (v := []))
      exact q2 cls od H' F5 ((st.trans st3).trans (Stp.refl sub5)) h5 x
    | ok d outs =>
      rw [em] at q2
      intro v H' F' st' r nd'
      obtain ⟨F3, h3, st3⟩ := fr st' r nd'
      have h4 := Hold.comm (ds := [d]) (vs := [v]) h3 rfl
      have hl : outs.length = (io.map fun k => us.getD k .non).length := by
        have := r.length
        simpa using this
      obtain ⟨F5, h5, sub5⟩ := Hold.putL2 h4 hl (lkOf (outs := []) (v := []))
      exact q2 v H' F5 ((st.trans st3).trans (Stp.refl sub5)) h5
  · rw [if_neg c] at q2; exact q2.elim
theorem pp_cax {k : Nat} {f : Addr} {fd : FuncData} {ps : List Str} {io : List Nat} {js : List (Option Nat)} {ks : List (Option Nat)} {m : List D → Rd} {g : PM (List D)} {x : Str} {p pos : Pos} {e : Expr} {es : List Expr} (np : Nat) (F : FnOk X.prog X.w X.K X.mg X.base (L2.CX X.prog X.w) k f fd ps (spX X.K X.mg np io m)) (tk : Takes X Eh) (hr : Room k X.A) (hg : Gl X x) (hm : X.mg x = some (.ref f)) (hk : PySem.W.keepIn X.K (.ref f) = true) (hb : Binds X.K fd ps [])
    (ha : PA X (e :: es) (tAL X.K X.mg Eh ks g)) (hks : js = io.map fun k => (ks[k]?).getD none := by rfl) (hio : ∀ k ∈ io, k < np := by decide) (hdb : (x == ("__debug__" : Str)) = false := by decide) (he : starEach (e :: es) X.env = (false, eval e X.env) :: starEach es X.env := by rfl) (hpl : (backTo pos (starEach es X.env)).any (·.1) = false := by rfl) :
    PE X (.Call (.Name x p) (e :: es) [] pos) (tP X.K X.mg Eh (xCax np js m g)) :=
  (pe_callSD F hr hg hm hk hb .nil (fun σ => passAt tk σ) ha hdb he hpl).imp fun s H Q h => cax_imp X rfl rfl hks hio h
end
/-! ### classes of exceptions whose __init__ stores what it is given -/
/-- the promise of such an __init__: fs, what is stored in the end, the last one ahead -/
def spI (C : Addr) (n : Nat) (fsOf : List V → List (Str × V)) : Sp := fun vs H Q _ => vs.length = n + 1 ∧ ∃ (a : Addr) (args : List V), vs = .ref a :: args ∧ args.length = n ∧ H a = some (exo a C none) ∧
  ∀ d H2, H d = none → d ≠ a → H2 a = some (exo a C (some d)) → H2 d = some (exd d (fsOf args)) → (∀ b, b ≠ a → b ≠ d → H2 b = H b) → Q .non H2
/-- what the program's text says of the class c at C, its __init__ at fI -/
structure ExK (K : PySem.W.Frag) (mg : Str → Option Value) (c : Str) (ns : List Str) (C fI : Addr) : Prop where
  gC : mg c = some (.ref C)
  nC : PySem.W.nsIn K mainGlobals c = some (some (.ref C))
  ox : OexC K C
  no : ∀ f ∈ ns, PySem.W.findIn K (.ref C) f = some none
  iC : PySem.W.findIn K (.ref C) "__init__" = some (some (.ref fI))
  tI : PySem.W.typeIn K (.ref fI) = some (.type "function")
section
variable {P : Program} {w : World} {K : PySem.W.Frag} {mg : Str → Option Value} {base : Heap}
def fs1 (f : Str) : List V → List (Str × V)
  | [y] => [(f, y)]
  | _ => []
def fs2 (f g : Str) : List V → List (Str × V)
  | [y, z] => [(g, z), (f, y)]
  | _ => []
theorem init1 {c f p : Str} {C fI : Addr} {fd : FuncData} {st : Stmt} {qual : Str} (T : ExK K mg c [f] C fI) (F : Fun K "__init__" qual st fI fd) (S : FnScope ["self", p] ["self", p] (defScope st))
    (hb : ∀ (cdv : Value) (A : Around) (outer : List Env) (s : Shared) (H : Hp) (E : XK), PSs (cxOf CX0 P w K mg base ["self", p] qual (defScope st) fI cdv A outer s H E).nox (defBody st) (tOst K f (tVar 0) (tVar 1))) :
    FnOk P w K mg base CX0 1 fI fd ["self", p] (spI C 1 (fs1 f)) := by
  refine F.ok S (fun vs H Q E h => h.1) fun cdv A outer s H vs Q E hr h => ⟨tOst K f (tVar 0) (tVar 1), hb cdv A outer s H E, ?_⟩
  · obtain ⟨_, a, args, rfl, hl, ha, q⟩ := h
    match args, hl with
    | [y], _ =>
      refine ⟨y, rfl, .ref a, rfl, a, C, rfl, T.ox, T.no f List.mem_cons_self, .inl ⟨ha, fun d hd dne => ?_⟩⟩
      refine q d _ hd dne upd_same ?_ fun b h1 h2 => ?_
      · rw [upd_ne dne, upd_same]; rfl
      · rw [upd_ne h1, upd_ne h2]
theorem init2 {c f g p1 p2 : Str} {C fI : Addr} {fd : FuncData} {st : Stmt} {qual : Str} (T : ExK K mg c [f, g] C fI) (F : Fun K "__init__" qual st fI fd) (S : FnScope ["self", p1, p2] ["self", p1, p2] (defScope st))
    (hb : ∀ (cdv : Value) (A : Around) (outer : List Env) (s : Shared) (H : Hp) (E : XK), PSs (cxOf CX0 P w K mg base ["self", p1, p2] qual (defScope st) fI cdv A outer s H E).nox (defBody st) (tSeq (tOst K f (tVar 0) (tVar 1)) (tOst K g (tVar 0) (tVar 2)))) :
    FnOk P w K mg base CX0 1 fI fd ["self", p1, p2] (spI C 2 (fs2 f g)) := by
  refine F.ok S (fun vs H Q E h => h.1) fun cdv A outer s H vs Q E hr h => ⟨tSeq (tOst K f (tVar 0) (tVar 1)) (tOst K g (tVar 0) (tVar 2)), hb cdv A outer s H E, ?_⟩
  · obtain ⟨_, a, args, rfl, hl, ha, q⟩ := h
    match args, hl with
    | [y, z], _ =>
      refine ⟨y, rfl, .ref a, rfl, a, C, rfl, T.ox, T.no f List.mem_cons_self, .inl ⟨ha, fun d hd dne => ?_⟩⟩
      refine ⟨z, rfl, .ref a, rfl, a, C, rfl, T.ox, T.no g (List.mem_cons_of_mem _ List.mem_cons_self), .inr ⟨d, [(f, y)], upd_same, by rw [upd_ne dne, upd_same], by show 1 ≤ 900; decide, ?_⟩⟩
      refine q d _ hd dne ?_ ?_ fun b h1 h2 => ?_
      · rw [upd_ne (Ne.symm dne), upd_same]
      · rw [upd_same]; rfl
      · rw [upd_ne h2, upd_ne h1, upd_ne h2]
end
/-! ### raise -/
def sRaise (c : Str) (ns : List Str) (f : PM (List D)) : PM Fl := fun w => (f w).bind fun ds w1 => if ds.length = ns.length ∧ pls ds = true then .ex c (ns.zip ds) w1 else .bad
/-- what a fresh exception holds is found -/
def FsOk (ns : List Str) (fsOf : List V → List (Str × V)) : Prop := ∀ ws : List V, ws.length = ns.length → ∀ (i : Nat) (f : Str), ns[i]? = some f → ∃ v, ws[i]? = some v ∧ (fsOf ws).lookup f = some v
theorem fsOk1 {f : Str} : FsOk [f] (fs1 f) := fun ws hl i g e => by
  match ws, hl with
  | [y], _ =>
    match i, e with
    | 0, e => cases e; exact ⟨y, rfl, by simp [fs1]⟩
theorem fsOk2 {f g : Str} (h : f ≠ g) : FsOk [f, g] (fs2 f g) := fun ws hl i k e => by
  match ws, hl with
  | [y, z], _ =>
    match i, e with
    | 0, e =>
      cases e
      refine ⟨y, rfl, ?_⟩
      have e1 : (f == g) = false := by simpa using h
      simp [fs2, List.lookup, e1]
    | 1, e => cases e; exact ⟨z, rfl, by simp [fs2, List.lookup]⟩
section
variable {X : Cx} {Eh : WX}
theorem raise_imp {s : L2.St} {H : Hp} {E : Ends} {C fI : Addr} {c : Str} {ns : List Str} {fsOf : List V → List (Str × V)} {f : PM (List D)} (T : ExK X.K X.mg c ns C fI) (hfs : FsOk ns fsOf) (h9 : ns.length ≤ 900) (h : tS X.K X.mg Eh [] (sRaise c ns f) E s H) :
    tMkO C (spI C ns.length fsOf) [] (tA X.K X.mg Eh f) s H fun cls d H' => Eh cls d s H' := by
  obtain ⟨w, F, hold, q⟩ := h
  unfold sRaise at q
  refine tA_runS hold (Stp.refl fun _ m => m) q fun ds w2 us H2 F2 e st h2 q2 => ?_
  replace h2 : Hold X.K H2 w2 s ds us F2 := h2
  have hl := hold_len h2
  by_cases cc : ds.length = ns.length ∧ pls ds = true
  · rw [if_pos cc] at q2
    refine ⟨by omega, fun a ha => ?_⟩
    rw [List.append_nil]
    refine ⟨by simp; omega, a, us, rfl, by omega, upd_same, fun d H3 hd dne h3a h3d hrest => ?_⟩
    have hd2 : H2 d = none := by rw [upd_ne dne] at hd; exact hd
    refine ⟨rfl, d, _, h3a, h3d, hd2, ?_⟩
    obtain ⟨ft, fe, k1, k2, pp, nd⟩ := h2
    have rds := k1.nil_of cc.2
    -- the heap behind: all as it was, the exception's dict beside
    have hk : ∀ b, b ≠ d → upd (del H3 a) d (.xd (fsOf us)) b = H2 b := fun b nb => by
      rw [upd_ne nb]
      by_cases hb : b = a
      · rw [hb, del_same, ha]
      · rw [del_ne hb, hrest b hb nb, upd_ne hb]
    have kp : Kp [] H2 (upd (del H3 a) d (.xd (fsOf us))) := .of (fun b o e _ => by
      rw [hk b (ne_of_none e hd2)]; exact e) nofun
    obtain ⟨F3, h3, sub⟩ := Hold.drop0 (⟨ft, fe, k1, k2, pp, nd⟩ : Hold X.K H2 w2 s ds us F2)
    refine q2 (.ref C) (some d) s _ F3 ((st.trans (Stp.refl sub)).trans (stp_kp kp)) (.refl _ _) (hold_kp h3 kp) ?_
    · refine ⟨C, d, fsOf us, us, rfl, T.nC, rfl, upd_same, ?_, fun i g e => ?_⟩
      · have e2 : ((ns.zip ds).map (·.2)) = ds := by rw [List.map_snd_zip]; omega
        rw [e2]
        exact RVs.kp kp (fun _ z => nomatch z) ds us [] (fun _ z => nomatch z) rds
      · have e1 : ((ns.zip ds).map (·.1)) = ns := by rw [List.map_fst_zip]; omega
        rw [e1] at e
        exact hfs us (by omega) i g e
  · rw [if_neg cc] at q2; exact q2.elim
theorem ss_raise {c : Str} {ns ps : List Str} {C fI : Addr} {fd : FuncData} {fsOf : List V → List (Str × V)} {e : Expr} {es : List Expr} {f : PM (List D)} {p pos pos2 : Pos} (hc : X.calm = true) (tk : Takes X Eh) (T : ExK X.K X.mg c ns C fI) (hfs : FsOk ns fsOf) (F1 : FnOk X.prog X.w X.K X.mg X.base CX0 1 fI fd ps (spI C ns.length fsOf)) (hb : Binds X.K fd ps []) (kC : PySem.W.keepIn X.K (.ref C) = true)
    (hr : Room 2 X.A) (hg : Gl X c) (ha : PA X (e :: es) (tA X.K X.mg Eh f)) (h9 : ns.length ≤ 900 := by decide)
    (hdb : (c == ("__debug__" : Str)) = false := by decide) (he : starEach (e :: es) X.env = (false, eval e X.env) :: starEach es X.env := by rfl) (hpl : (backTo pos (starEach es X.env)).any (·.1) = false := by rfl) :
    PS X (.Raise (some (.Call (.Name c p) (e :: es) [] pos)) none pos2) (tS X.K X.mg Eh [] (sRaise c ns f)) :=
  (ps_raise hc tk (pmk_oex T.ox T.iC T.tI F1 hr hb .nil pass0 hg T.gC ha hdb he hpl)).imp fun E s H h => raise_imp T hfs h9 h
end
end Pm

set_option autoImplicit false
namespace Pm
open PySem PySem.Spec L2 PyProof.Rows
variable {u0 : Unit} [Tab0 u0]
/-! ### try, whose clauses may name what they catch; the caught one is known from then on -/
section
variable {X : Cx} {pins : List (Addr × Obj)} {σ : L2.St} {H : Hp} {s : Shared}
theorem inv_suiteH (I : Inv X pins σ H s) {a : Addr} {oe : Obj} {vs : Array Value} (ha : s.heap.get? a = some oe) (hd : oe.data = .fields vs) (na : H a = none) (nL : a ≠ X.env.locals) (nF : a ∉ X.fs)
    (n0 : X.s_0.heap.get? a = none) (np : ∀ p ∈ X.pn ++ pins, p.1 ≠ a) : Inv (X.suite a (X.pn ++ pins)) [] σ (upd H a (.frz oe xoM)) s :=
  ⟨I.ok.suite _ _, I.os, I.bare, ⟨I.base.keep, I.base.slot, fun b o e n hx => by
      have nb : b ≠ a := fun z => by rw [z, n0] at e; cases e
      rw [upd_ne nb]; exact I.base.free b o e n hx, I.base.there, fun b xs e => by
      have q := I.base.tups b xs e
      have nb : b ≠ a := fun z => by rw [z, na] at q; cases q
      rw [upd_ne nb]; exact q, fun b o u e => by
      have q := I.base.frzs b o u e
      have nb : b ≠ a := fun z => by rw [z, na] at q; cases q
      rw [upd_ne nb]; exact q, fun b ps e => by
      obtain ⟨m, q⟩ := I.base.tbls b ps e
      have nb : b ≠ a := fun z => by rw [z, na] at q; cases q
      exact ⟨m, by rw [upd_ne nb]; exact q⟩⟩, I.loc, I.cell, by
      rw [upd_ne (Ne.symm nL)]; exact I.free, fun x c e => by
      have nb : c ≠ a := fun z => by
        obtain ⟨v, o, ho, hv⟩ := I.cell x c e
        rw [z, ha] at ho
        cases ho
        rw [hd] at hv; cases hv
      rw [upd_ne nb]; exact I.freeC x c e, fun p hp => by
      have hp' : p ∈ X.pn ++ pins := by rw [List.append_nil] at hp; exact hp
      obtain ⟨e, n, ne, nf, d⟩ := I.pin p hp'
      exact ⟨e, by rw [upd_ne (np p hp')]; exact n, ne, nf, d⟩, fun b u e => by
      by_cases hb : b = a
      · subst hb
        rw [upd_same] at e
        cases e
        exact ⟨ha, trivial, ⟨_, ha⟩, fun _ _ _ _ => trivial⟩
      · rw [upd_ne hb] at e
        exact (I.hok b u e).stay (fun c v _ q => q) (fun c q => by rw [upd_ne (ne_of_none q na)]; exact q) fun c xs q => by rw [upd_ne (ne_of_none q na)]; exact q, I.len⟩
theorem inv_unsuiteH {a : Addr} {pn' : List (Addr × Obj)} (I : Inv (X.suite a (X.pn ++ pins)) pn' σ H s) (ok : X.Ok) : Inv X pins σ H s :=
  ⟨ok, I.os, I.bare, I.base, I.loc, I.cell, I.free, I.freeC, fun p hp => I.pin p (List.mem_append_left _ hp), I.hok, I.len⟩
end
/-- behind a suite whose clause names slot i -/
def offE (i : Nat) (D : Ends) : Ends := { nx := fun σ' H' => D.nx (σ'.set i none) H', rt := D.rt, bk := fun σ' H' => D.bk (σ'.set i none) H', ct := fun σ' H' => D.ct (σ'.set i none) H' }
def suW (oi : Option Nat) (ts : TS) (D : Ends) (σ : L2.St) (H : Hp) (a : Addr) : Prop := match oi with
  | none => ts D σ H
  | some i => ts (offE i D) (σ.set i (some (.ref a))) H
/-- what the clauses wish of an exception of the body -/
def wManyA (K : PySem.W.Frag) (Wout : WX) (D : Ends) : List (Value × Option Nat × TS) → WX
  | [] => Wout
  | (c, oi, ts) :: r => fun cls d σ H => ∃ b, PySem.W.exmOne K cls c = some b ∧ (b = true → ∀ a oe, H a = none → Zc cls d oe → (∃ vs, oe.data = .fields vs) → suW oi ts D σ (upd H a (.frz oe xoM)) a) ∧ (b = false → wManyA K Wout D r cls d σ H)
inductive HdsA (X : Cx) : List ExceptHandler → List (Value × Option Nat × TS) → Prop
  | nil : HdsA X [] []
  | cons0 {x : Str} {c : Value} {ts : TS} {b₀ : Stmt} {suite : List Stmt} {np pos' : Pos} {hds : List ExceptHandler} {l : List (Value × Option Nat × TS)} (hc : Names X x c)
      (hsu : ∀ (a : Addr) (pn : List (Addr × Obj)), PSs (X.suite a pn) (b₀ :: suite) ts) (r : HdsA X hds l) :
      HdsA X (.ExceptHandler (some (.Name x np)) none (b₀ :: suite) pos' :: hds) ((c, none, ts) :: l)
  | consN {x n : Str} {c : Value} {i : Nat} {ts : TS} {b₀ : Stmt} {suite : List Stmt} {np pos' : Pos} {hds : List ExceptHandler} {l : List (Value × Option Nat × TS)} (hc : Names X x c) (hi : X.N[i]? = some n) (hln : X.env.kindOf n = some .local)
      (hsu : ∀ (a : Addr) (pn : List (Addr × Obj)), PSs (X.suite a pn) (b₀ :: suite) ts) (r : HdsA X hds l) :
      HdsA X (.ExceptHandler (some (.Name x np)) (some n) (b₀ :: suite) pos' :: hds) ((c, some i, ts) :: l)
section
variable {X : Cx} {body : List Stmt} {h₀ : ExceptHandler} {hds : List ExceptHandler} {l : List (Value × Option Nat × TS)} {pos : Pos} {tb : WX → TS} {Wout : WX}
theorem ps_try_A (hs : X.stack = X.env :: X.outer) (hf : X.env.frame = some X.env.locals) (hex : X.ex = []) (hN : X.N.Nodup) (tk : Takes X Wout)
    (hb : ∀ (W : WX) (pn : List (Addr × Obj)) (xe : Value → Shared → Prop), Takes (X.tr pn xe) W → PassesOwn (model X.prog X.w) X.A X.env xe → PSs (X.tr pn xe) body (tb W))
    (hh : HdsA X (h₀ :: hds) l) : PS X (.Try body (h₀ :: hds) [] [] pos) (fun D σ H => tb (wManyA X.K Wout D l) D σ H) := by
  refine ⟨fun pins s σ H D I h => ?_⟩
  have ok := I.ok
  have hfr : X.A.frames = some (X.env :: X.outer) := by rw [ok.frames, hs]
  refine wpAny_Try_except ?_
  refine wpAny_mono ((hb (wManyA X.K Wout D l) (X.pn ++ pins) (fun e s₁ => wpAny (model X.prog X.w) X.A (noteFrame e X.env) (fun _ s₂ => wpAny (model X.prog X.w) X.A (setFlight e none) (fun _ s₃ =>
    wpAny (model X.prog X.w) X.A (handleBy e X.env (h₀ :: hds)) (SP X pins D) X.xe s₃) X.xe s₂) X.xe s₁) (fun u s' xx => ?_) PassesOwn.looking).run [] s σ H D (I.toTry _) h) (fun f s1 hsp => ?_) (fun e s1 he => he)
  · obtain ⟨a, B, sI, pins', σ', H', cls, d, rfl, J', nb, up, sky, na, os, ag, w⟩ := xx
    have J : Inv X pins σ' H' sI := J'.ofTry ok
    have sky' : Sky B (X.env :: X.outer) a (Zc cls d) X.env.locals s'.heap := by rw [← hs]; exact sky
    show wpAny (model X.prog X.w) X.A (noteFrame (.ref a) X.env) _ _ _
    refine Sky.land Zc.steady hfr hf sky' fun h3 fl3 up3 => ?_
    have J3 : Inv X pins σ' H' { s' with heap := h3 } := J.landed nb fl3.1 (up.trans up3) os ag
    obtain ⟨oe3, vs3, he3, hz3, hd3⟩ := fl3.there
    have notFr : ∀ {h : Heap} {o : Obj} {vs : Array Value}, h.FunFrames B (X.env :: X.outer) → h.get? a = some o → o.data = .fields vs → a ∉ frs (X.env :: X.outer) := fun {h o vs} ff e dd hm => by
      obtain ⟨_, o', e', hnf⟩ := ff.mem hm
      rw [e] at e'; cases e'
      exact hnf _ dd
    have nfr := notFr fl3.2.2.1 he3 hd3
    have nL : a ≠ X.env.locals := fun z => nfr (List.mem_filterMap.mpr ⟨X.env, List.mem_cons_self, by rw [hf, z]⟩)
    have nF : a ∉ X.fs := fun hm => by
      obtain ⟨e, he, q⟩ := List.mem_filterMap.mp hm
      exact nfr (List.mem_filterMap.mpr ⟨e, List.mem_cons_of_mem _ he, q⟩)
    have nB : B.get? a = none := fl3.2.1
    have nI : sI.heap.get? a = none := by
      cases q : sI.heap.get? a with
      | none => rfl
      | some o =>
        have := nb a o q (by rw [hs]; exact nfr)
        rw [nB] at this; cases this
    have n0 : X.s_0.heap.get? a = none := by
      cases q : X.s_0.heap.get? a with
      | none => rfl
      | some o =>
        obtain ⟨o', q'⟩ := J.base.there a o q (by rw [hex]; exact fun z => nomatch z)
        rw [nI] at q'; cases q'
    have npn : ∀ p ∈ X.pn ++ pins, p.1 ≠ a := fun p hp z => by
      have := (J.pin p hp).1
      rw [z, nI] at this; cases this
    have S3 := J3.suite he3 hd3 na nL nF
    have go : ∀ {hds' : List ExceptHandler} {l' : List (Value × Option Nat × TS)}, HdsA X hds' l' → wManyA X.K Wout D l' cls d σ' H' →
        wpAny (model X.prog X.w) X.A (handleBy (.ref a) X.env hds') (SP X pins D) X.xe { s' with heap := h3 } := by
      intro hds' l' hk
      have LT : PySem.W.Looks (model X.prog X.w) h3 (typeOf (.ref a)) cls := fun A Q E s k q => wpAny_typeOf_ref (k _ _ he3) (by rw [hz3.1]; exact q)
      have test : ∀ {x : Str} {c : Value} {np : Pos} {Q : Value → Shared → Prop} {E : Value → Shared → Prop}, Names X x c → Q c { s' with heap := h3 } → wpAny (model X.prog X.w) (X.A.mark (some (.ref a))) (eval (.Name x np) X.env) Q E { s' with heap := h3 } := fun {x c np Q E} hc q => by
        obtain ⟨hg, hdbg, hm | ⟨hm, hv, hnn⟩⟩ := hc
        · exact ld_glob (X := X.suite a ((a, oe3) :: (X.pn ++ pins))) S3 hg hm q hdbg
        · exact ld_blt (X := X.suite a ((a, oe3) :: (X.pn ++ pins))) S3 hg hm hv q hnn hdbg
      induction hk with
      | nil =>
        intro w
        refine wpAny_handleBy_nil ?_
        obtain ⟨k1, k2, k3, oe, vs, T, oT, ts', he, hz, hd, h1, hr⟩ := id fl3
        unfold PySem.passOn
        refine wpAny_bind (wpAny_field he hd h1 ?_)
        rw [if_neg (show ¬ ((Value.ref T == Value.none) = true) from by simp)]
        have fin : wpAny (model X.prog X.w) X.A (setFlight (.ref a) X.env.frame) (fun _ s4 => wpAny (model X.prog X.w) X.A (throw (.ref a) : Sem Flow) (SP X pins D) X.xe s4) X.xe { s' with heap := h3 } := by
          rw [hf]
          refine HandSPX.setFlight_upZ fl3 fun h4 hh4 up4 => wpAny_throw (tk _ _ ?_)
          exact ⟨a, B, sI, pins, σ', H', cls, d, rfl, J, nb, (up.trans up3).trans up4, .inr (.inr (by rw [hs]; exact hh4)), na, os, ag, w⟩
        first
          | exact wpAny_bind (wpAny_pure (wpAny_bind fin))
          | exact wpAny_bind fin
      | @cons0 x c ts b₀ suite np pos' hds2 l2 hc hsu r ih =>
        intro w
        obtain ⟨b, hb1, hyes, hno⟩ := w
        refine wpAny_handleBy_cons (codeAny_handlers_test ?_) (by intro q; cases q)
        have LM := PySem.W.exm_one (M := model X.prog X.w) (J3.kIn) LT hb1
        refine test hc (LM.here ?_)
        cases b with
        | true =>
          refine codeAny_handlers_suite ?_
          refine HandSPX.lands_againZ fl3 fun h4 fl4 up4 => ?_
          have J4 : Inv X pins σ' H' { s' with heap := h4 } := J.landed nb fl4.1 ((up.trans up3).trans up4) os ag
          obtain ⟨oe4, vs4, he4, hz4, hd4⟩ := fl4.there
          have S4 := inv_suiteH J4 he4 hd4 na nL nF n0 npn
          refine wpAny_mono ((hsu a (X.pn ++ pins)).run [] _ _ _ _ S4 (hyes rfl a oe4 na hz4 ⟨_, hd4⟩)) (fun f s6 hsp => ?_) (fun _ _ z => False.elim z)
          cases f with
          | next =>
            obtain ⟨σ6, H6, S6, q6⟩ := hsp
            exact ⟨_, _, inv_unsuiteH S6 ok, q6⟩
          | brk =>
            obtain ⟨σ6, H6, S6, q6⟩ := hsp
            exact ⟨_, _, inv_unsuiteH S6 ok, q6⟩
          | cont =>
            obtain ⟨σ6, H6, S6, q6⟩ := hsp
            exact ⟨_, _, inv_unsuiteH S6 ok, q6⟩
          | ret u =>
            obtain ⟨v6, σ6, H6, S6, r6, q6⟩ := hsp
            exact ⟨_, _, _, inv_unsuiteH S6 ok, r6, q6⟩
        | false =>
          show wpAny _ X.A (handleBy (.ref a) X.env hds2) _ _ _
          exact ih (hno rfl)
      | @consN x n c i ts b₀ suite np pos' hds2 l2 hc hi hln hsu r ih =>
        intro w
        obtain ⟨b, hb1, hyes, hno⟩ := w
        refine wpAny_handleBy_cons (codeAny_handlers_test ?_) (by intro q; cases q)
        have LM := PySem.W.exm_one (M := model X.prog X.w) (J3.kIn) LT hb1
        refine test hc (LM.here ?_)
        cases b with
        | true =>
          refine codeAny_handlers_suite_as ?_
          refine HandSPX.lands_againZ fl3 fun h4 fl4 up4 => ?_
          have J4 : Inv X pins σ' H' { s' with heap := h4 } := J.landed nb fl4.1 ((up.trans up3).trans up4) os ag
          obtain ⟨oe4, vs4, he4, hz4, hd4⟩ := fl4.there
          have S4 := inv_suiteH J4 he4 hd4 na nL nF n0 npn
          refine store_ok (X := X.suite a (X.pn ++ pins)) (v := .ref a) S4 hN hi (.inl hln) rfl (fun s5 S5 => ?_) (.inr hln)
          refine wpAny_mono ((hsu a (X.pn ++ pins)).run [] s5 _ _ _ S5 (hyes rfl a oe4 na hz4 ⟨_, hd4⟩)) (fun f s6 hsp => ?_) (fun _ _ z => False.elim z)
          have end_ : ∀ {σ6 : L2.St} {H6 : Hp} {Q : Shared → Prop}, Inv (X.suite a (X.pn ++ pins)) [] σ6 H6 s6 → (∀ s7, Inv X pins (σ6.set i none) H6 s7 → Q s7) →
              wpAny (model X.prog X.w) X.A (do bindName X.env n .none; unbindBehindTheSuite X.env n pos') (fun _ s7 => Q s7) X.xe s6 := fun {σ6 H6 Q} S6 hq => gone_ok (inv_unsuiteH S6 ok) hN hi hln hq
          cases f with
          | next =>
            obtain ⟨σ6, H6, S6, q6⟩ := hsp
            exact end_ S6 fun s7 J7 => ⟨_, _, J7, q6⟩
          | brk =>
            obtain ⟨σ6, H6, S6, q6⟩ := hsp
            exact end_ S6 fun s7 J7 => ⟨_, _, J7, q6⟩
          | cont =>
            obtain ⟨σ6, H6, S6, q6⟩ := hsp
            exact end_ S6 fun s7 J7 => ⟨_, _, J7, q6⟩
          | ret u =>
            obtain ⟨v6, σ6, H6, S6, r6, q6⟩ := hsp
            exact end_ S6 fun s7 J7 => ⟨_, _, _, J7, r6, q6⟩
        | false =>
          show wpAny _ X.A (handleBy (.ref a) X.env hds2) _ _ _
          exact ih (hno rfl)
    exact go hh w
  · cases f with
    | next =>
      obtain ⟨σ', H', J', q⟩ := hsp
      exact wpAny_execs_nil ⟨σ', H', J'.ofTry ok, q⟩
    | brk =>
      obtain ⟨σ', H', J', q⟩ := hsp
      exact ⟨σ', H', J'.ofTry ok, q⟩
    | cont =>
      obtain ⟨σ', H', J', q⟩ := hsp
      exact ⟨σ', H', J'.ofTry ok, q⟩
    | ret u =>
      obtain ⟨v, σ', H', J', r, q⟩ := hsp
      exact ⟨v, σ', H', J'.ofTry ok, r, q⟩
end
end Pm

set_option autoImplicit false
namespace Pm
open PySem PySem.Spec PySem.Calls PySem.W L2 PyProof.Rows
variable {u0 : Unit} [Tab0 u0]
/-! ### e.f and isinstance(e, C), e an exception that was caught -/
section
variable {prog : Program} {w : World} {A : Around} {E : Value → Shared → Prop} {s : Shared} {K : Frag} {x D : Addr} {ox : Obj} {od : Option Obj}
theorem findObj_data' {C : Addr} {name : Str} {a g : Value} (hc : (clsIn K C).isSome = true) (ha : findIn K (.ref C) name = some (some a)) (hg : specialIn K a "__get__" = some (some g)) (ht : takesIn K a = some true) : findObj K C od name = some (.bind g a) := by
  obtain ⟨cd, hc⟩ := Option.isSome_iff_exists.mp hc
  unfold findObj
  rw [hc, Option.bind_some, ha, Option.bind_some]
  simp [hg, ht]
theorem kin_class' (C : ExcC K D) (X : K.In s.heap) (I : InstAt s.heap x ox D od) {Q : Option Value → Shared → Prop} (h : Q (some (.ref D)) { s with toks := s.toks + 1 }) : wpAny (model prog w) A (getAttr? (.ref x) "__class__") Q E s := by
  have hf : findObj K D od "__class__" = some (.bind (.builtin "getset_descriptor.__get__") (.builtin "object.__class__")) := findObj_data' (by obtain ⟨cd, hc, _⟩ := any_some C.hd; rw [hc]; rfl) C.ha C.hn C.ht
  obtain ⟨hp, g, d, t, os⟩ := s
  have L0 := I.type (M := model prog w)
  have L1 := looks_findIn (M := model prog w) X C.hg
  have L2 := looks_findIn (M := model prog w) X C.hk
  have L3 := looks_find (M := model prog w) X I hf
  have sub : Looks (model prog w) hp (isInstance (.ref x) (.type "BaseException")) true := L0.andThen (looks_subIn X C.hs)
  have hx0 : (false && onTheHeap (Value.builtin "BaseException.__getattribute__")) = false := rfl
  have hx2 : (Value.builtin "BaseException.__getattribute__" == Value.builtin "object.__getattribute__") = false := by decide +kernel
  have hx1 : (onTheHeap (Value.ref D) && Value.builtin "BaseException.__getattribute__" == Value.builtin "object.__getattribute__") = false := by rw [hx2]; rfl
  unfold getAttr? getAttrBy? getAttrBy
  refine wpAny_bind (wpAny_mkText (wpAny_bind (wpAny_attempt (wpAny_holding (wpAny_bind (L0.at (wpAny_bind (L1.at ?_))))))))
  show wpAny _ _ (if (onTheHeap (Value.ref D) && Value.builtin "BaseException.__getattribute__" == Value.builtin "object.__getattribute__") = true then _ else _) _ _ _
  rw [hx1, if_neg Bool.false_ne_true]
  unfold getAttrByItsOwn hookBefore
  refine wpAny_bind ?_
  rw [if_pos (show onTheHeap (Value.ref D) = true from rfl)]
  refine L2.at ?_
  refine wpAny_bind (wpAny_attempt (wpAny_holding ?_))
  unfold callGetattribute
  rw [hx0, if_neg Bool.false_ne_true]
  unfold boundAndCalled
  rw [PySem.F.excAttr_ValueError.ga.bind (.ref x)]
  refine wpAny_bind (wpAny_pure ?_)
  show wpAny _ _ (call (.builtin "BaseException.__getattribute__") [.ref x, .str "__class__" t]) _ _ _
  refine wpAny_call (codeAny_call_builtin PySem.F.excAttr_ValueError.ga.plain PySem.F.entry_bexc_ga ?_)
  refine @check_slot (model prog w) _ _ ⟨hp, g, d, t + 1, os⟩ "BaseException.__getattribute__" "BaseException" "__getattribute__" (.ref x) [.str "__class__" t] [] _ (by decide +kernel) (by decide +kernel) sub (PySem.F.args_bexc_ga (.ref x) (.str "__class__" t)) ?_
  unfold Builtin.«object.__getattribute__»
  refine wpAny_bind (wpAny_of_eq (a := ((Value.ref x : Value), [Value.str "__class__" t])) (by first | rfl | (simp only [slotArgs]; rfl)) ?_)
  refine wpAny_bind (wpAny_pure (wpAny_bind (L0.at (wpAny_bind (L3.at ?_)))))
  show wpAny _ _ (holding [Value.builtin "object.__class__"] (call (.builtin "getset_descriptor.__get__") [.builtin "object.__class__", .ref x, .ref D]) >>= ret) _ _ _
  refine wpAny_bind (wpAny_holding (wpAny_call (class_get (s := ⟨hp, g, d, t + 1, os⟩) (ox := ox) (od := od) X I C.hm ?_)))
  refine wpAny_pure ?_
  show wpAny _ _ (handedOut (.ref D)) _ _ _
  rw [handedOut_of (v := .ref D) rfl]
  first
    | exact wpAny_pure (wpAny_pure h)
    | exact wpAny_pure h
    | exact wpAny_pure (wpAny_bind (wpAny_pure (wpAny_pure h)))
theorem kitx_dict (C : ExcC K D) : KitX K (.ref x) (.ref D) (fun h => ∃ od, InstAt h x ox D od) where
  ty := fun _ _ _ ⟨_, I⟩ => I.type
  it := fun _ _ X _ => by
    obtain ⟨cdD, hcD, _⟩ := any_some C.hd
    unfold clsIn at hcD
    split at hcD
    · rename_i c' d' cd' sl' ho
      intro A' Q' E' s' k q
      unfold isType loadHead
      exact wpAny_bind (wpAny_loadPart (k _ _ (X _ _ ho)) (wpAny_pure q))
    · cases hcD
  ne := fun h tp dd its n sl X htp => by
    obtain ⟨cdD, hcD, _⟩ := any_some C.hd
    refine Bool.eq_false_iff.mpr fun q => ?_
    have e : D = tp := Value.ref.inj (beq_iff_eq.mp q)
    subst e
    unfold clsIn at hcD
    split at hcD
    · rename_i c' d' cd' sl' ho
      have z := (X _ _ ho).symm.trans htp
      cases z
    · cases hcD
  ca := fun X ⟨_, I⟩ k => kin_class' C X I k
end
/-- x is a caught exception of the class at C, its dict at d -/
def XoAt (H : Hp) (x : V) (C d : Addr) : Prop := ∃ (a : Addr) (oe : Obj), x = .ref a ∧ H a = some (.frz oe xoM) ∧ oe.cls = .ref C ∧ oe.dict = some d ∧ (∃ fl, oe.data = .fields fl)
section
variable {X : Cx} {Eh : WX}
theorem xo_inst {pins : List (Addr × Obj)} {σ : L2.St} {H : Hp} {s : Shared} {C d : Addr} {x : V} {us : List (Str × V)} (I : Inv X pins σ H s) (h : XoAt H x C d) (hd : H d = some (.xd us)) : ∃ a oe o, x = .ref a ∧ s.heap.get? d = some o ∧ PySem.W.InstAt s.heap a oe C (some o) := by
  obtain ⟨a, oe, ex, ha, c1, c2, fl, c3⟩ := h
  have hx : ObjOk X.prog X.w H s.heap a (.frz oe xoM) := I.hok a _ ha
  have hh : ObjOk X.prog X.w H s.heap d (.xd us) := I.hok d _ hd
  obtain ⟨mA, ⟨o, es, ep, ho, r⟩, _⟩ := hh
  exact ⟨a, oe, o, ex, ho, hx.1, c1, by unfold PySem.W.notCls; rw [c3] <;> rfl, by rw [c2]; exact ho⟩
/-- e.n -/
def rXf (K : PySem.W.Frag) (n : Str) : V → Hp → VK → Prop := fun x H1 Q => ∃ (C d : Addr) (us : List (Str × V)) (v : V), XoAt H1 x C d ∧ XfC K C ∧ PySem.W.findIn K (.ref C) n = some none ∧ H1 d = some (.xd us) ∧ us.lookup n = some v ∧ Q v H1
theorem pe_xfH {e : Expr} {te : TE} {pos : Pos} {n : Str} (he : PE X e te) (hb : attributeBase e n X.env (eval e X.env) = eval e X.env := by rfl) : PE X (.Attribute e n pos) (fun σ H Q => te σ H fun x H1 => rXf X.K n x H1 Q) := by
  refine ⟨fun pins s σ H Q I h => ?_⟩
  refine attr_of hb (thn (he.run pins s σ H _ I h) fun u s1 hh => ?_)
  obtain ⟨x, H1, I1, rx, C, d, us, v, hxo, T, hno, ea, l, q⟩ := hh
  obtain ⟨a, oe, o, ex, ho, J⟩ := xo_inst I1 hxo ea
  subst ex
  obtain rfl : u = Value.ref a := rx
  have hx : ObjOk X.prog X.w H1 s1.heap d (.xd us) := I1.hok d _ ea
  obtain ⟨mA, hns, hr⟩ := hx
  obtain ⟨od, ho2, hl⟩ := lookIn_ns hns
  rw [ho] at ho2
  cases ho2
  obtain ⟨u, hu, ru⟩ := RelO.some_of (v := v) (o := mA n) (by rw [← l]; exact hr n)
  exact HandSPX.exc_get I1.kIn J T.ga T.gg T.exC (PySem.W.findObj_own T.hdC hno rfl (by rw [hl, hu])) (handed_of ru) ⟨v, H1, I1.tok _, ru, q⟩
/-- isinstance(e, c) -/
def rIsXo (K : PySem.W.Frag) : List V → Hp → VK → Prop := fun xs H Q => ∃ (x c : V) (cv : Value) (b : Bool) (C d : Addr) (us : List (Str × V)), xs = [x, c] ∧ (∀ u, RelV c u → u = cv) ∧ XoAt H x C d ∧ H d = some (.xd us) ∧ ExcC K C ∧ PySem.W.kitOne K (.ref C) cv = some b ∧ Q (.bl b) H
theorem call_isX : CallR X (.builtin "isinstance") (rIsXo X.K) := by
  intro pins s σ H xs us Q I r h
  obtain ⟨x, c, cv, b, C, d, fs, rfl, hcv, hxo, hd, T, e, q⟩ := h
  obtain ⟨a, oe, o, ex, ho, J⟩ := xo_inst I hxo hd
  subst ex
  cases r with
  | cons rx rr =>
    cases rr with
    | cons rt rr =>
      cases rr
      cases rx
      have ec := hcv _ rt
      subst ec
      exact PySem.W.kia_one (kitx_dict T) I.kIn ⟨_, J⟩ e (fun z => nomatch z) fun tk => ⟨.bl b, H, I.kept (t' := tk) fun _ _ z => z, rfl, q⟩
/-- what the fields' names tell -/
def fldOf : List Str → List D → Str → Option D
  | n :: ns, v :: vs, f => if n = f then some v else fldOf ns vs f
  | _, _, _ => none
theorem fldOf_at : ∀ {ns : List Str} {vs : List D} {f : Str} {d : D}, fldOf ns vs f = some d → ∃ i : Nat, ns[i]? = some f ∧ vs[i]? = some d
  | n :: ns, v :: vs, f, d, h => by
    have h' : (if n = f then some v else fldOf ns vs f) = some d := h
    by_cases c : n = f
    · rw [if_pos c] at h'; cases h'
      exact ⟨0, by rw [c]; rfl, rfl⟩
    · rw [if_neg c] at h'
      obtain ⟨i, a, b⟩ := fldOf_at h'
      exact ⟨i + 1, by simpa using a, by simpa using b⟩
  | [], _, f, d, h => by unfold fldOf at h; cases h
  | _ :: _, [], f, d, h => by unfold fldOf at h; cases h
/-- e.f of a datum; cs: the classes that are known -/
def dXf (cs : List Str) (f : Str) : D → Option D
  | .xo c ns vs => if cs.contains c = true then (fldOf ns vs f).bind fun d => if pl d = true then some d else none else none
  | _ => none
/-- isinstance of a caught one, by a table -/
def dIsx (tab : List (Str × Bool)) : D → Option D
  | .xo c _ _ => (tab.lookup c).map .bl
  | _ => none
theorem xo_parts {K : PySem.W.Frag} {H : Hp} {x : V} {c : Str} {ns : List Str} {vs : List D} {f : List Addr} (r : RV K H (.xo c ns vs) x f) : ∃ (C d : Addr) (us : List (Str × V)) (ws : List V), XoAt H x C d ∧ PySem.W.nsIn K mainGlobals c = some (some (.ref C)) ∧ H d = some (.xd us) ∧ RVs K H vs ws [] ∧ ∀ (i : Nat) (f : Str), ns[i]? = some f → ∃ v, ws[i]? = some v ∧ us.lookup f = some v := by
  obtain ⟨a, oe, C, d, us, ws, e, q, c1, c2, c3, c4, q2, r, l, e2⟩ := r
  exact ⟨C, d, us, ws, ⟨a, oe, e, q, c1, c2, c3⟩, c4, q2, r, l⟩
/-- what the text says of the classes whose fields are read, whose class is asked for -/
def XfOk (K : PySem.W.Frag) (cs : List Str) (f : Str) : Prop := ∀ c ∈ cs, ∀ C, PySem.W.nsIn K mainGlobals c = some (some (.ref C)) → XfC K C ∧ PySem.W.findIn K (.ref C) f = some none
def IsxOk (K : PySem.W.Frag) (cv : Value) (tab : List (Str × Bool)) : Prop := ∀ c b, tab.lookup c = some b → ∀ C, PySem.W.nsIn K mainGlobals c = some (some (.ref C)) → ExcC K C ∧ PySem.W.kitOne K (.ref C) cv = some b
theorem ro_xf {K : PySem.W.Frag} {cs : List Str} {f : Str} (T : XfOk K cs f) : Ro1 K (rXf K f) (dXf cs f) := fun H x dx fx z Q rx e q => by
  cases dx with
  | xo c ns vs =>
    replace e : (if cs.contains c = true then (fldOf ns vs f).bind fun d => if pl d = true then some d else none else none) = some z := e
    by_cases hc : cs.contains c = true
    · rw [if_pos hc] at e
      obtain ⟨d, h1, h2⟩ := Option.bind_eq_some_iff.mp e
      by_cases p : pl d = true
      · rw [if_pos p] at h2
        cases h2
        obtain ⟨C, dd, us, ws, hxo, hn, hd, rv, l⟩ := xo_parts rx
        obtain ⟨i, a, b⟩ := fldOf_at h1
        obtain ⟨v, hv, hu⟩ := l i f a
        obtain ⟨T1, T2⟩ := T c (List.contains_iff_mem.mp hc) C hn
        obtain ⟨v', g, e3, r3, sub⟩ := rv.get b
        rw [hv] at e3
        cases e3
        exact ⟨C, dd, us, v, hxo, T1, T2, hd, hu, q _ _ (.mine r3 p)⟩
      · rw [if_neg p] at h2; cases h2
    · rw [if_neg hc] at e; cases e
  | _ => cases e
def rIsXoC (K : PySem.W.Frag) (c : V) : V → Hp → VK → Prop := fun x H Q => rIsXo K [x, c] H Q
theorem ro_isx {K : PySem.W.Frag} {c : V} {cv : Value} {tab : List (Str × Bool)} (hcv : ∀ u, RelV c u → u = cv) (T : IsxOk K cv tab) : Ro1 K (rIsXoC K c) (dIsx tab) := fun H x dx fx z Q rx e q => by
  cases dx with
  | xo cc ns vs =>
    replace e : (tab.lookup cc).map D.bl = some z := e
    obtain ⟨b, h1, h2⟩ := Option.map_eq_some_iff.mp e
    subst h2
    obtain ⟨C, dd, us, ws, hxo, hn, hd, rv, l⟩ := xo_parts rx
    obtain ⟨T1, T2⟩ := T cc b h1 C hn
    exact ⟨x, c, cv, b, C, dd, us, rfl, hcv, hxo, hd, T1, T2, q _ _ (.plain ⟨rfl, rfl⟩)⟩
  | _ => cases e
theorem xf_p {cs : List Str} {n : Str} {e : Expr} {q : Ev → Option D} {pos : Pos} (T : XfOk X.K cs n) (he : PE X e (tB X.K q)) (hb : attributeBase e n X.env (eval e X.env) = eval e X.env := by rfl) : PE X (.Attribute e n pos) (tP X.K X.mg Eh (x1p (dXf cs n) q)) := (pe_xfH he hb).imp fun _ _ _ h => imp1p (ro_xf T) h
theorem relv_ref {C : Addr} : ∀ u, RelV (.ref C) u → u = Value.ref C := fun u r => by cases r; rfl
theorem relv_ty {T : String} : ∀ u, RelV (.ty T) u → u = Value.type T := fun u r => by cases r; rfl
/-- isinstance(e, C), C a class of the program -/
theorem isx_p {tab : List (Str × Bool)} {a : Expr} {q : Ev → Option D} {y : Str} {py pp pos : Pos} {C : Addr} (T : IsxOk X.K (.ref C) tab) (hg : Gl X "isinstance") (hm : X.mg "isinstance" = none) (hgy : Gl X y) (hmy : X.mg y = some (.ref C)) (ha : PE X a (tB X.K q)) (hdb : (y == ("__debug__" : Str)) = false := by decide)
    (he : starEach [a, .Name y py] X.env = (false, eval a X.env) :: starEach [.Name y py] X.env := by rfl) (he2 : starEach [.Name y py] X.env = (false, eval (.Name y py) X.env) :: starEach [] X.env := by rfl)
    (hpl : (backTo pos (starEach [.Name y py] X.env)).any (·.1) = false := by rfl) : PE X (.Call (.Name "isinstance" pp) [a, .Name y py] [] pos) (tP X.K X.mg Eh (x1p (dIsx tab) q)) :=
  (pe_callB call_isX hg hm (by decide +kernel) (pa_cons ha (pa_cons (pe_glob hgy hmy (v := .ref C) rfl hdb) pa_nil he2) he) (by decide) (by decide) he hpl).imp fun _ _ _ h => imp1p (ro_isx relv_ref T) h
/-- isinstance(e, T), T a built-in class -/
theorem isxb_p {tab : List (Str × Bool)} {a : Expr} {q : Ev → Option D} {y : Str} {T : String} {py pp pos : Pos} (hT : IsxOk X.K (.type T) tab) (hg : Gl X "isinstance") (hm : X.mg "isinstance" = none) (hgy : Gl X y) (hmy : X.mg y = none) (hvy : bootBuiltins y = some (.type T)) (ha : PE X a (tB X.K q)) (hn : y ≠ "__name__" := by decide) (hdb : (y == ("__debug__" : Str)) = false := by decide)
    (he : starEach [a, .Name y py] X.env = (false, eval a X.env) :: starEach [.Name y py] X.env := by rfl) (he2 : starEach [.Name y py] X.env = (false, eval (.Name y py) X.env) :: starEach [] X.env := by rfl)
    (hpl : (backTo pos (starEach [.Name y py] X.env)).any (·.1) = false := by rfl) : PE X (.Call (.Name "isinstance" pp) [a, .Name y py] [] pos) (tP X.K X.mg Eh (x1p (dIsx tab) q)) :=
  (pe_callB call_isX hg hm (by decide +kernel) (pa_cons ha (pa_cons (pe_bltn (v := .ty T) hgy hmy hvy rfl hn hdb) pa_nil he2) he) (by decide) (by decide) he hpl).imp fun _ _ _ h => imp1p (ro_isx relv_ty hT) h
end
end Pm

set_option autoImplicit false
namespace Pm
open PySem PySem.Spec L2
variable {u0 : Unit} [Tab0 u0]
/-! ### try -/
/-- a clause: which classes it takes, the slot that it names, its suite -/
structure Hd where
  tst : Str → Option Bool
  oi : Option Nat
  g : PM Fl
def noEx (r : Rs Fl) : Rs Fl := match r with
  | .ok fl w => .ok fl w
  | _ => .bad
def offR (i : Nat) (r : Rs Fl) : Rs Fl := match r with
  | .ok fl w => .ok fl (w.set i none)
  | _ => .bad
def hnd1 (h : Hd) (c : Str) (fs : List (Str × D)) (w : Ev) : Rs Fl := match h.oi with
  | none => noEx (h.g w)
  | some i => if i < w.length then offR i (h.g (w.set i (some (.xo c (fs.map (·.1)) (fs.map (·.2)))))) else .bad
def hndl : List Hd → Str → List (Str × D) → Ev → Rs Fl
  | [], c, fs, w => .ex c fs w
  | h :: r, c, fs, w => match h.tst c with
    | some true => hnd1 h c fs w
    | some false => hndl r c fs w
    | none => .bad
def sTry (f : PM Fl) (hs : List Hd) : PM Fl := fun w => match f w with
  | .ex c fs w1 => hndl hs c fs w1
  | r => r
/-- the wish of a suite: nothing is let out -/
def EhF : WX := fun _ _ _ _ => False
inductive HdsP (X : Cx) (wr : List Nat) : List ExceptHandler → List Hd → List (Value × Option Nat × TS) → Prop
  | nil : HdsP X wr [] [] []
  | cons0 {x : Str} {c : Value} {h : Hd} {b₀ : Stmt} {suite : List Stmt} {np pos' : Pos} {hds : List ExceptHandler} {hs : List Hd} {l : List (Value × Option Nat × TS)} (hc : Names X x c) (ho : h.oi = none)
      (ht : ∀ cc b, h.tst cc = some b → ∀ C, PySem.W.nsIn X.K mainGlobals cc = some (some (.ref C)) → PySem.W.exmOne X.K (.ref C) c = some b)
      (hsu : ∀ (a : Addr) (pn : List (Addr × Obj)), PSs (X.suite a pn) (b₀ :: suite) (tS X.K X.mg EhF wr h.g)) (r : HdsP X wr hds hs l) :
      HdsP X wr (.ExceptHandler (some (.Name x np)) none (b₀ :: suite) pos' :: hds) (h :: hs) ((c, none, tS X.K X.mg EhF wr h.g) :: l)
  | consN {x n : Str} {c : Value} {i : Nat} {h : Hd} {b₀ : Stmt} {suite : List Stmt} {np pos' : Pos} {hds : List ExceptHandler} {hs : List Hd} {l : List (Value × Option Nat × TS)} (hc : Names X x c) (ho : h.oi = some i) (hi : X.N[i]? = some n) (hln : X.env.kindOf n = some .local) (hw : i ∈ wr)
      (ht : ∀ cc b, h.tst cc = some b → ∀ C, PySem.W.nsIn X.K mainGlobals cc = some (some (.ref C)) → PySem.W.exmOne X.K (.ref C) c = some b)
      (hsu : ∀ (a : Addr) (pn : List (Addr × Obj)), PSs (X.suite a pn) (b₀ :: suite) (tS X.K X.mg EhF wr h.g)) (r : HdsP X wr hds hs l) :
      HdsP X wr (.ExceptHandler (some (.Name x np)) (some n) (b₀ :: suite) pos' :: hds) (h :: hs) ((c, some i, tS X.K X.mg EhF wr h.g) :: l)
theorem HdsP.toA {X : Cx} {wr : List Nat} : ∀ {hds : List ExceptHandler} {hs : List Hd} {l : List (Value × Option Nat × TS)}, HdsP X wr hds hs l → HdsA X hds l := fun {hds hs l} h => by
  induction h with
  | nil => exact .nil
  | cons0 hc ho ht hsu r ih => exact .cons0 hc hsu ih
  | consN hc ho hi hln hw ht hsu r ih => exact .consN hc hi hln hsu ih
section
variable {X : Cx} {Eh : WX} {wr : List Nat} {H : Hp} {F : List Addr} {s : L2.St} {E : Ends}
theorem stp_know {H : Hp} {F : List Addr} {a : Addr} {o : HO} (n : H a = none) : Stp F H F (upd H a o) := stp_upd n
theorem hds_w {hds : List ExceptHandler} {hs : List Hd} {l : List (Value × Option Nat × TS)} (h : HdsP X wr hds hs l) {c : Str} {fs : List (Str × D)} {w1 : Ev} (q : PoS X.K X.mg Eh wr H F s (hndl hs c fs w1) E) :
    ∀ cls od s' H' F', Stp F H F' H' → Agr wr s s' → Hold X.K H' w1 s' [] [] F' → ExR X.K X.mg H' c fs cls od → wManyA X.K Eh E l cls od s' H' := by
  induction h with
  | nil => exact q
  | @cons0 x cv h b₀ suite np pos' hds hs l hc ho ht hsu r ih =>
    intro cls od s' H' F' st ag hold x
    unfold hndl at q
    cases e : h.tst c with
    | none => rw [e] at q; exact q.elim
    | some b =>
      rw [e] at q
      obtain ⟨C, d, us, ws, rfl, nC, rfl, hd, rv, lk⟩ := id x
      refine ⟨b, ht c b e C nC, fun hb a oe na hz hf => ?_, fun hb => ?_⟩
      · subst hb
        replace q : PoS X.K X.mg Eh wr H F s (hnd1 h c fs w1) E := q
        unfold hnd1 at q
        rw [ho] at q
        have h2 := hold_upd (o := HO.frz oe xoM) hold na
        refine ⟨w1, F', h2, ?_⟩
        have q2 := q.step (st.trans (stp_know (o := HO.frz oe xoM) na)) ag
        revert q2
        cases h.g w1 with
        | ok fl w2 => cases fl <;> exact id
        | ex _ _ _ => exact fun z => z.elim
        | bad => exact id
      · subst hb
        exact ih q _ _ s' H' F' st ag hold x
  | @consN x n cv i h b₀ suite np pos' hds hs l hc ho hi hln hw ht hsu r ih =>
    intro cls od s' H' F' st ag hold x
    unfold hndl at q
    cases e : h.tst c with
    | none => rw [e] at q; exact q.elim
    | some b =>
      rw [e] at q
      obtain ⟨C, d, us, ws, rfl, nC, rfl, hd, rv, lk⟩ := id x
      refine ⟨b, ht c b e C nC, fun hb a oe na hz hf => ?_, fun hb => ?_⟩
      · subst hb
        replace q : PoS X.K X.mg Eh wr H F s (hnd1 h c fs w1) E := q
        unfold hnd1 at q
        rw [ho] at q
        by_cases hl : i < w1.length
        · replace q : PoS X.K X.mg Eh wr H F s (if i < w1.length then offR i (h.g (w1.set i (some (.xo c (fs.map (·.1)) (fs.map (·.2)))))) else .bad) E := q
          rw [if_pos hl] at q
          have h2 := hold_upd (o := HO.frz oe xoM) hold na
          have kp : Kp [] H' (upd H' a (.frz oe xoM)) := .new na
          have rx : RV X.K (upd H' a (.frz oe xoM)) (.xo c (fs.map (·.1)) (fs.map (·.2))) (.ref a) [] :=
            ⟨a, oe, C, d, us, ws, rfl, upd_same, hz.1, hz.2, hf, nC, by rw [upd_ne (ne_of_none hd na)]; exact hd, RVs.kp kp (fun _ z => nomatch z) _ _ _ (fun _ z => nomatch z) rv, lk, rfl⟩
          obtain ⟨F3, h3, sub3⟩ := Hold.put (h2.addP rx) hl
          refine ⟨_, F3, h3, ?_⟩
          have st3 : Stp F H F3 (upd H' a (.frz oe xoM)) := (st.trans (stp_know (o := HO.frz oe xoM) na)).trans (Stp.refl sub3)
          have ag3 : Agr wr s (s'.set i (some (.ref a))) := ag.trans (Agr.set hw)
          have off : ∀ {w2 : Ev} {s2 : L2.St} {H2 : Hp} {F2 : List Addr}, Hold X.K H2 w2 s2 [] [] F2 → i < w2.length → ∃ F4, Hold X.K H2 (w2.set i none) (s2.set i none) [] [] F4 ∧ ∀ b ∈ F4, b ∈ F2 := fun {w2 s2 H2 F2} hh hlt => by
            obtain ⟨F4, h4, sub4⟩ := hh.wipe i
            exact ⟨F4, h4.setNone (by rw [List.getElem?_set_self hlt]), sub4⟩
          have off' : ∀ {w2 : Ev} {s2 : L2.St} {H2 : Hp} {F2 : List Addr}, Hold X.K H2 w2 s2 [] [] F2 → ∃ F4, Hold X.K H2 (w2.set i none) (s2.set i none) [] [] F4 ∧ ∀ b ∈ F4, b ∈ F2 := fun {w2 s2 H2 F2} hh => by
            by_cases hlt : i < w2.length
            · exact off hh hlt
            · have e1 : w2.set i none = w2 := List.set_eq_of_length_le (by omega)
              have e2 : s2.set i none = s2 := by
                obtain ⟨ft, fe, _, k2, _⟩ := hh
                have := k2.length
                exact List.set_eq_of_length_le (by omega)
              rw [e1, e2]
              exact ⟨F2, hh, fun _ m => m⟩
          revert q
          cases h.g (w1.set i (some (.xo c (fs.map (·.1)) (fs.map (·.2))))) with
          | ex _ _ _ => exact fun z => z.elim
          | bad => exact id
          | ok fl w2 =>
            cases fl with
            | nx =>
              intro q s2 H2 F2 st2 ag2 hh
              obtain ⟨F4, h4, sub4⟩ := off' hh
              exact q _ H2 F4 ((st3.trans st2).trans (Stp.refl sub4)) ((ag3.trans ag2).trans (Agr.set hw)) h4
            | bk =>
              intro q s2 H2 F2 st2 ag2 hh
              obtain ⟨F4, h4, sub4⟩ := off' hh
              exact q _ H2 F4 ((st3.trans st2).trans (Stp.refl sub4)) ((ag3.trans ag2).trans (Agr.set hw)) h4
            | ct =>
              intro q s2 H2 F2 st2 ag2 hh
              obtain ⟨F4, h4, sub4⟩ := off' hh
              exact q _ H2 F4 ((st3.trans st2).trans (Stp.refl sub4)) ((ag3.trans ag2).trans (Agr.set hw)) h4
            | rt dd =>
              intro q v s2 H2 F2 st2 ag2 hh
              obtain ⟨F4, h4, sub4⟩ := hh.wipe i
              exact q v s2 H2 F4 ((st3.trans st2).trans (Stp.refl sub4)) (ag3.trans ag2) h4
        · replace q : PoS X.K X.mg Eh wr H F s (if i < w1.length then offR i (h.g (w1.set i (some (.xo c (fs.map (·.1)) (fs.map (·.2)))))) else .bad) E := q
          rw [if_neg hl] at q
          exact q.elim
      · subst hb
        exact ih q _ _ s' H' F' st ag hold x
theorem ss_try {wr1 wr2 : List Nat} {body : List Stmt} {h₀ : ExceptHandler} {hds : List ExceptHandler} {hs : List Hd} {l : List (Value × Option Nat × TS)} {pos : Pos} {f : PM Fl} (hst : X.stack = X.env :: X.outer) (hf : X.env.frame = some X.env.locals) (hex : X.ex = []) (hN : X.N.Nodup) (tk : Takes X Eh)
    (hb : ∀ (W : WX) (pn : List (Addr × Obj)) (xe : Value → Shared → Prop), Takes (X.tr pn xe) W → PassesOwn (model X.prog X.w) X.A X.env xe → PSs (X.tr pn xe) body (tS X.K X.mg W wr1 f))
    (hh : HdsP X (wr1 ++ wr2) (h₀ :: hds) hs l) : PS X (.Try body (h₀ :: hds) [] [] pos) (tS X.K X.mg Eh (wr1 ++ wr2) (sTry f hs)) := (ps_try_A (Wout := Eh) (tb := fun W => tS X.K X.mg W wr1 f) hst hf hex hN tk hb hh.toA).imp fun E s H ⟨w, F, hold, q⟩ => by
  refine ⟨w, F, hold, ?_⟩
  unfold sTry at q
  cases e : f w with
  | bad => rw [e] at q; exact q
  | ok fl w2 =>
    rw [e] at q
    exact PoS.weak (Eh := wManyA X.K Eh E l) (wr := wr1) (wr' := wr1 ++ wr2) (r := .ok fl w2) (by cases fl <;> exact q) fun i m => List.mem_append_left _ m
  | ex c fs w1 =>
    rw [e] at q
    intro cls od s' H' F' st ag hold' x
    exact hds_w hh q cls od s' H' F' st (ag.mono fun i m => List.mem_append_left _ m) hold' x
end
end Pm

set_option autoImplicit false
namespace Pm
open PySem PySem.Spec L2 PyProof.Rows
variable {u0 : Unit} [Tab0 u0]
/-! ### own exception classes, as the text lays them -/
structure Ct (K : PySem.W.Frag) (mg : Str → Option Value) (c : Str) where
  C : Addr
  gC : mg c = some (.ref C)
  nC : PySem.W.nsIn K mainGlobals c = some (some (.ref C))
  exC : PySem.W.subIn K (.ref C) (.type "BaseException") = some true
  veC : PySem.W.subIn K (.ref C) (.type "ValueError") = some true
  sC : PySem.W.subIn K (.ref C) (.ref C) = some true
  tyC : PySem.W.typeIn K (.ref C) = some (.type "type")
  hdC : PySem.W.hasDictIn K C = true
  kC : PySem.W.keepIn K (.ref C) = true
  ga : PySem.W.findIn K (.ref C) "__getattribute__" = some (some (.builtin "BaseException.__getattribute__"))
  gg : PySem.W.findIn K (.ref C) "__getattr__" = some none
  ha : PySem.W.findIn K (.ref C) "__class__" = some (some (.builtin "object.__class__"))
  hn : PySem.W.specialIn K (.builtin "object.__class__") "__get__" = some (some (.builtin "getset_descriptor.__get__"))
  ht : PySem.W.takesIn K (.builtin "object.__class__") = some true
  hm : PySem.W.mroIn K C (.type "object") = some true
/-- one with an __init__ that stores what it is given -/
structure Ci (K : PySem.W.Frag) (mg : Str → Option Value) (c q : Str) (ns : List Str) (st : Stmt) (ps : List Str) where
  t : Ct K mg c
  ox : OexC K t.C
  no : ∀ f ∈ ns, PySem.W.findIn K (.ref t.C) f = some none
  fI : Addr
  fd : FuncData
  iC : PySem.W.findIn K (.ref t.C) "__init__" = some (some (.ref fI))
  tI : PySem.W.typeIn K (.ref fI) = some (.type "function")
  F : Fun K "__init__" q st fI fd
  B : Binds K fd ps []
section
variable {K : PySem.W.Frag} {mg : Str → Option Value} {c c' q : Str} {ns ps : List Str} {st : Stmt}
theorem Ct.excC (T : Ct K mg c) : ExcC K T.C := ⟨T.ga, T.gg, T.exC, T.hdC, T.ha, T.hn, T.ht, T.hm⟩
theorem Ct.xfC (T : Ct K mg c) : XfC K T.C := ⟨T.ga, T.gg, T.exC, T.hdC⟩
theorem Ci.exK (T : Ci K mg c q ns st ps) : ExK K mg c ns T.t.C T.fI := ⟨T.t.gC, T.t.nC, T.ox, T.no, T.iC, T.tI⟩
theorem Ct.isX {X : Cx} (T : Ct X.K X.mg c) (hg : Gl X c) (hd : (c == ("__debug__" : Str)) = false := by decide) : Names X c (.ref T.C) := ⟨hg, hd, .inl T.gC⟩
/-- an except clause's class: what the tables say -/
def TabX (K : PySem.W.Frag) (c : Value) (tab : List (Str × Bool)) : Prop := ∀ cc b, tab.lookup cc = some b → ∀ C, PySem.W.nsIn K mainGlobals cc = some (some (.ref C)) → PySem.W.exmOne K (.ref C) c = some b
theorem tx0 {c : Value} : TabX K c [] := fun cc b e => by cases e
theorem tx1 {h : Str} {b : Bool} {tab : List (Str × Bool)} (Th : Ct K mg h) (T : Ct K mg c) (s : PySem.W.subIn K (.ref T.C) (.ref Th.C) = some b) (r : TabX K (.ref Th.C) tab) : TabX K (.ref Th.C) ((c, b) :: tab) := fun cc b' e C n => by
  rw [List.lookup_cons] at e
  by_cases hc : (cc == c) = true
  · rw [hc] at e
    cases e
    rw [beq_iff_eq.mp hc] at n
    cases T.nC.symm.trans n
    exact PySem.W.exm_ref Th.exC Th.hdC Th.tyC s
  · rw [Bool.not_eq_true] at hc
    rw [hc] at e
    exact r cc b' e C n
theorem kit_ref {C D : Addr} {b : Bool} (hdct : PySem.W.hasDictIn K D = true) (ht : PySem.W.typeIn K (.ref D) = some (.type "type")) (h4 : PySem.W.subIn K (.ref C) (.ref D) = some b) (h5 : PySem.W.subIn K (.ref C) (.ref C) = some true) : PySem.W.kitOne K (.ref C) (.ref D) = some b := by
  obtain ⟨cd, hc, _⟩ := PySem.W.any_some hdct
  have e2 : ((PySem.W.clsIn K D).isSome && PySem.W.typeIn K (.ref D) == some (.type "type")) = true := by rw [hc, ht] <;> rfl
  unfold PySem.W.kitOne
  by_cases hz : ((Value.ref C) == (Value.ref D)) = true
  · rw [if_pos hz]
    have : C = D := by
      have := beq_iff_eq.mp hz
      injection this
    subst this
    exact h5.symm.trans h4
  · rw [if_neg hz]
    show (if ((PySem.W.clsIn K D).isSome && PySem.W.typeIn K (.ref D) == some (.type "type")) = true then PySem.W.subIn K (.ref C) (.ref D) else none) = some b
    rw [if_pos e2]
    exact h4
theorem kit_ve {C : Addr} (h : PySem.W.subIn K (.ref C) (.type "ValueError") = some true) : PySem.W.kitOne K (.ref C) (.type "ValueError") = some true := by
  unfold PySem.W.kitOne
  rw [if_neg (fun z => by cases (beq_iff_eq.mp z) : ¬ ((Value.ref C) == (Value.type "ValueError")) = true)]
  show (if PySem.W.kitMeta "ValueError" = true then PySem.W.subIn K (.ref C) (.type "ValueError") else none) = some true
  rw [if_pos (by decide +kernel)]
  exact h
theorem ix0 {cv : Value} : IsxOk K cv [] := fun cc b e => by cases e
theorem ix1 {h : Str} {b : Bool} {tab : List (Str × Bool)} (Th : Ct K mg h) (T : Ct K mg c) (s : PySem.W.subIn K (.ref T.C) (.ref Th.C) = some b) (r : IsxOk K (.ref Th.C) tab) : IsxOk K (.ref Th.C) ((c, b) :: tab) := fun cc b' e C n => by
  rw [List.lookup_cons] at e
  by_cases hc : (cc == c) = true
  · rw [hc] at e
    cases e
    rw [beq_iff_eq.mp hc] at n
    cases T.nC.symm.trans n
    exact ⟨T.excC, kit_ref Th.hdC Th.tyC s T.sC⟩
  · rw [Bool.not_eq_true] at hc
    rw [hc] at e
    exact r cc b' e C n
theorem iv1 {tab : List (Str × Bool)} (T : Ct K mg c) (r : IsxOk K (.type "ValueError") tab) : IsxOk K (.type "ValueError") ((c, true) :: tab) := fun cc b' e C n => by
  rw [List.lookup_cons] at e
  by_cases hc : (cc == c) = true
  · rw [hc] at e
    cases e
    rw [beq_iff_eq.mp hc] at n
    cases T.nC.symm.trans n
    exact ⟨T.excC, kit_ve T.veC⟩
  · rw [Bool.not_eq_true] at hc
    rw [hc] at e
    exact r cc b' e C n
theorem xk0 {f : Str} : XfOk K [] f := fun c m => nomatch m
theorem xk1 {f : Str} {cs : List Str} (T : Ci K mg c q ns st ps) (hf : f ∈ ns) (r : XfOk K cs f) : XfOk K (c :: cs) f := fun cc m C n => by
  rcases List.mem_cons.mp m with e | e
  · subst e
    cases T.t.nC.symm.trans n
    exact ⟨T.t.xfC, T.no f hf⟩
  · exact r cc e C n
end
section
variable {X : Cx} {Eh : WX} {wr wr' : List Nat}
theorem ss_weakS {b : List Stmt} {f : PM Fl} (h : PSs X b (tS X.K X.mg Eh wr f)) (m : ∀ i ∈ wr, i ∈ wr') : PSs X b (tS X.K X.mg Eh wr' f) := h.imp fun E s H ⟨w, F, hold, q⟩ => ⟨w, F, hold, q.weak m⟩
end
/-- a class's first inner statement -/
def initOf : Stmt → Stmt
  | .ClassDef _ _ _ (b :: _) _ _ _ _ _ _ _ => b
  | s => s
theorem takesN {X : Cx} : Takes X EhN := takes0
theorem takesF {X : Cx} : Takes X EhF := takes0
end Pm

set_option autoImplicit false
namespace Pm
open PySem PySem.Spec L2 PyProof.Rows
variable {u0 : Unit} [Tab0 u0]
/-! ### keys -/
def kOf : D → Option Key
  | .int i => some (.inl i)
  | .str s => some (.inr s)
  | _ => none
def ksOf : List D → Option (List Key)
  | [] => some []
  | d :: ds => (kOf d).bind fun k => (ksOf ds).map fun ks => k :: ks
theorem kOf_some {d : D} {k : Key} (h : kOf d = some k) : d = keyD k := by
  cases d <;> cases h <;> rfl
theorem ksOf_some : ∀ {ds : List D} {ks : List Key}, ksOf ds = some ks → ds = ks.map keyD
  | [], ks, h => by cases h; rfl
  | d :: ds, ks, h => by
    obtain ⟨k, h1, h2⟩ := Option.bind_eq_some_iff.mp h
    obtain ⟨r, h3, h4⟩ := Option.map_eq_some_iff.mp h2
    subst h4
    rw [kOf_some h1, ksOf_some h3]; rfl
@[simp] theorem kOf_keyD (k : Key) : kOf (keyD k) = some k := by cases k <;> rfl
@[simp] theorem ksOf_keyD (ks : List Key) : ksOf (ks.map keyD) = some ks := by
  induction ks with
  | nil => rfl
  | cons k ks ih => simp [ksOf, ih]
theorem keyD_inj {a b : Key} (h : keyD a = keyD b) : a = b := by
  have := congrArg kOf h
  simpa using this
theorem tkD_inj {a b : List Key} (h : tkD a = tkD b) : a = b := by
  have h2 : a.map keyD = b.map keyD := by
    unfold tkD at h
    injection h
  have := congrArg ksOf h2
  simpa using this
/-- a key of the kind t -/
def isK (t : Bool) (d : D) : Bool := match t with
  | false => (kOf d).isSome
  | true => match d with
    | .tup ds => (ksOf ds).isSome
    | _ => false
@[simp] theorem isK_int {i : Int} : isK false (.int i) = true := rfl
@[simp] theorem isK_str {s : Str} : isK false (.str s) = true := rfl
theorem isK_key {d : D} (h : isK false d = true) : ∃ k, d = keyD k := by
  obtain ⟨k, e⟩ := Option.isSome_iff_exists.mp (show (kOf d).isSome = true from h)
  exact ⟨k, kOf_some e⟩
theorem isK_tup {d : D} (h : isK true d = true) : ∃ ks, d = tkD ks := by
  cases d with
  | tup ds =>
    obtain ⟨ks, e⟩ := Option.isSome_iff_exists.mp (show (ksOf ds).isSome = true from h)
    exact ⟨ks, by rw [ksOf_some e]; rfl⟩
  | _ => cases h
/-- what stands at a key -/
noncomputable def vD : List D → List D → D → Option D
  | k0 :: ks, v0 :: vs, k => open Classical in if k0 = k then some v0 else vD ks vs k
  | _, _, _ => none
/-- a store -/
noncomputable def rD : List D → List D → D → D → List D
  | k0 :: ks, v0 :: vs, k, v => open Classical in (if k0 = k then v else v0) :: rD ks vs k v
  | _, _, _, _ => []
noncomputable def pK (ks : List D) (k : D) : List D := open Classical in if k ∈ ks then ks else ks ++ [k]
noncomputable def pV (ks vs : List D) (k v : D) : List D := open Classical in if k ∈ ks then rD ks vs k v else vs ++ [v]
section
variable {K : PySem.W.Frag} {H : Hp} {κ : Type} [DecidableEq κ]
theorem vD_val (e : κ → D) (inj : ∀ a b, e a = e b → a = b) (k : κ) : ∀ (kvs : List (κ × V)) (vs : List D) (f : List Addr), RVs K H vs (kvs.map (·.2)) f →
    match vD (kvs.map fun p => e p.1) vs (e k) with
    | none => valV kvs k = none
    | some d => ∃ v g, valV kvs k = some v ∧ RV K H d v g ∧ ∀ a ∈ g, a ∈ f
  | [], vs, f, r => by
    cases vs with
    | nil => exact rfl
    | cons d ds => obtain ⟨_, _, _, _, z, _⟩ := r; cases z
  | p :: kvs, vs, f, r => by
    cases vs with
    | nil => obtain ⟨z, _⟩ := r; cases z
    | cons d ds =>
      obtain ⟨v', r', g, g', e1, q, q2, e2⟩ := r
      rw [List.map_cons] at e1
      injection e1 with e3 e4
      subst e2
      rw [List.map_cons]
      unfold vD
      by_cases h : p.1 = k
      · rw [if_pos (by rw [h]), valV_pos h]
        exact ⟨p.2, g, rfl, by rw [e3]; exact q, fun a m => List.mem_append_left _ m⟩
      · rw [if_neg (fun z => h (inj _ _ z)), valV_neg h]
        have ih := vD_val e inj k kvs ds g' (by rw [e4]; exact q2)
        revert ih
        cases vD (kvs.map fun p => e p.1) ds (e k) with
        | none => exact id
        | some d' => exact fun ⟨v, g1, h1, h2, h3⟩ => ⟨v, g1, h1, h2, fun a m => List.mem_append_right _ (h3 a m)⟩
theorem mem_val (e : κ → D) (inj : ∀ a b, e a = e b → a = b) (k : κ) (kvs : List (κ × V)) : (e k ∈ kvs.map fun p => e p.1) ↔ (valV kvs k).isSome = true := by
  rw [← valV_any, List.any_eq_true, List.mem_map]
  constructor
  · rintro ⟨p, m, h⟩
    exact ⟨p, m, by simpa using inj _ _ h⟩
  · rintro ⟨p, m, h⟩
    exact ⟨p, m, by rw [show p.1 = k by simpa using h]⟩
theorem put_val (e : κ → D) (inj : ∀ a b, e a = e b → a = b) (k : κ) (d : D) (v : V) (kvs : List (κ × V)) (vs : List D) (r : RVs K H vs (kvs.map (·.2)) []) (rv : RV K H d v []) :
    pK (kvs.map fun p => e p.1) (e k) = (putK kvs k v).map (fun p => e p.1) ∧ RVs K H (pV (kvs.map fun p => e p.1) vs (e k) d) ((putK kvs k v).map (·.2)) [] := by
  have hm := mem_val e inj k kvs
  rw [← valV_any] at hm
  unfold pK pV putK
  by_cases c : (kvs.any fun kv => decide (kv.1 = k)) = true
  · rw [if_pos (hm.mpr c), if_pos c, if_pos (hm.mpr c)]
    refine ⟨?_, ?_⟩
    · rw [List.map_map]
      refine List.map_congr_left fun p m => ?_
      show e p.1 = e (if p.1 = k then (p.1, v) else p).1
      by_cases h : p.1 = k
      · rw [if_pos h]
      · rw [if_neg h]
    · clear c hm
      induction kvs generalizing vs with
      | nil =>
        cases vs with
        | nil => exact ⟨rfl, rfl⟩
        | cons d ds => obtain ⟨_, _, _, _, z, _⟩ := r; cases z
      | cons p kvs ih =>
        cases vs with
        | nil => obtain ⟨z, _⟩ := r; cases z
        | cons d0 ds =>
          obtain ⟨v', r', g, g', e1, q, q2, e2⟩ := r
          rw [List.map_cons] at e1
          injection e1 with e3 e4
          obtain ⟨g1, g2⟩ := List.nil_eq_append_iff.mp e2
          subst g1; subst g2
          rw [List.map_cons, List.map_cons, List.map_cons]
          unfold rD
          refine ⟨_, _, [], [], rfl, ?_, ih ds (by rw [e4]; exact q2), rfl⟩
          by_cases h : p.1 = k
          · rw [if_pos (by rw [h]), if_pos h]; exact rv
          · rw [if_neg (fun z => h (inj _ _ z)), if_neg h, e3]; exact q
  · rw [if_neg (fun z => c (hm.mp z)), if_neg c, if_neg (fun z => c (hm.mp z))]
    refine ⟨by rw [List.map_append]; rfl, ?_⟩
    rw [List.map_append]
    exact RVs.append r (RVs.one rv)
theorem key_rv {k : Key} {v : V} {f : List Addr} (r : RV K H (keyD k) v f) : v = kV k := by
  cases k with
  | inl i => exact r.1
  | inr s => exact r.1
theorem keys_rv : ∀ {ks : List Key} {vs : List V} {f : List Addr}, RVs K H (ks.map keyD) vs f → vs = ks.map kV
  | [], vs, f, r => r.1
  | k :: ks, vs, f, r => by
    obtain ⟨v', r', g, g', e1, q, q2, e2⟩ := r
    rw [e1, key_rv q, keys_rv q2]; rfl
/-- a dict's datum and a key's: what the kit's words say -/
theorem dget_rv {t : Bool} {ks vs : List D} {a : Addr} {u : HO} {ws : List V} {f : List Addr} {dx : D} {x : V} {fx : List Addr} (hu : L2.Rd H a u) (di : DctIs t ks ws u) (rs : RVs K H vs ws f) (rx : RV K H dx x fx) (hk : isK t dx = true) :
    ∃ o, DGet H a x o ∧ (dx ∈ ks ↔ o.isSome = true) ∧ match vD ks vs dx with
      | none => o = none
      | some d => ∃ v g, o = some v ∧ RV K H d v g ∧ ∀ a ∈ g, a ∈ f := by
  cases t with
  | false =>
    obtain ⟨kvs, eu, ek, ew⟩ := di
    subst eu; subst ek; subst ew
    obtain ⟨k, e⟩ := isK_key hk
    subst e
    have := key_rv rx
    subst this
    refine ⟨valV kvs k, .inl ⟨kvs, k, hu, rfl, rfl⟩, mem_val keyD (fun _ _ => keyD_inj) k kvs, ?_⟩
    have := vD_val keyD (fun _ _ => keyD_inj) k kvs vs f rs
    revert this
    cases vD (kvs.map fun p => keyD p.1) vs (keyD k) <;> exact id
  | true =>
    obtain ⟨kvs, eu, ek, ew⟩ := di
    subst eu; subst ek; subst ew
    obtain ⟨k, e⟩ := isK_tup hk
    subst e
    obtain ⟨b, us, e1, q, rk⟩ := rx
    have := keys_rv rk
    subst this
    refine ⟨valV kvs k, .inr ⟨kvs, k, b, hu, e1, q, rfl⟩, mem_val tkD (fun _ _ => tkD_inj) k kvs, ?_⟩
    have := vD_val tkD (fun _ _ => tkD_inj) k kvs vs f rs
    revert this
    cases vD (kvs.map fun p => tkD p.1) vs (tkD k) <;> exact id
/-- the dict of a datum -/
def dctD : D → Option (Bool × List D × List D)
  | .odc t ks vs => some (t, ks, vs)
  | .fdc t ks vs => some (t, ks, vs)
  | _ => none
theorem dctD_rv {d : D} {v : V} {f : List Addr} {t : Bool} {ks vs : List D} (r : RV K H d v f) (h : dctD d = some (t, ks, vs)) : ∃ a u ws g, v = .ref a ∧ L2.Rd H a u ∧ DctIs t ks ws u ∧ RVs K H vs ws g ∧ ∀ b ∈ g, b ∈ f := by
  cases d with
  | odc t ks vs =>
    cases h
    obtain ⟨a, u, ws, g, e, q, di, rs, e2⟩ := r
    exact ⟨a, u, ws, g, e, .inl q, di, rs, fun b m => by rw [e2]; exact List.mem_cons_of_mem _ m⟩
  | fdc t ks vs =>
    cases h
    obtain ⟨a, o, u, ws, e, q, di, rs, e2⟩ := r
    exact ⟨a, u, ws, [], e, .inr ⟨o, q⟩, di, rs, fun b m => nomatch m⟩
  | _ => cases h
end
/-! ### in: lists, tuples, dicts, whatever they hold -/
noncomputable def inK (k : D) (ks : List D) : Bool := @decide (k ∈ ks) (Classical.propDecidable _)
theorem inK_iff {k : D} {ks : List D} : inK k ks = true ↔ k ∈ ks := @decide_eq_true_iff _ (Classical.propDecidable _)
def shD (d : D) : Bool := SeqAt.shaped (toPy d)
noncomputable def dInA (neg : Bool) (x y : D) : Option D := match dctD y with
  | some (t, ks, _) => if isK t x = true then some (.bl (if neg then !inK x ks else inK x ks)) else none
  | none => match dIn neg x y with
    | some z => some z
    | none => match seqD y with
      | some ys => if shD x = true ∧ shD y = true then some (.bl (if neg then !(ys.any fun y => PyData.eqv (toPy y) (toPy x)) else (ys.any fun y => PyData.eqv (toPy y) (toPy x)))) else none
      | none => none
def rDIn (neg : Bool) : R2 := fun x y H Q => ∃ a o, y = .ref a ∧ DGet H a x o ∧ Q (.bl (if neg then !o.isSome else o.isSome)) H
def rPIn (K : PySem.W.Frag) (neg : Bool) : R2 := fun x y H Q => ∃ d ys, Dp K H x d ∧ (Dp K H y (.list ys) ∨ Dp K H y (.tuple ys)) ∧ SeqAt.shaped d = true ∧ (SeqAt.shaped (.list ys) = true ∨ SeqAt.shaped (.tuple ys) = true) ∧ Q (.bl (if neg then !(ys.any fun y => PyData.eqv y d) else (ys.any fun y => PyData.eqv y d))) H
def rInA (K : PySem.W.Frag) (neg : Bool) : R2 := fun x y H Q => rIn K neg x y H Q ∨ rDIn neg x y H Q ∨ rPIn K neg x y H Q
section
variable {X : Cx}
theorem shaped_items {ys : List PyData} (h : SeqAt.shaped (.list ys) = true ∨ SeqAt.shaped (.tuple ys) = true) : PyData.canLayAll0 ys = true ∧ PyData.depthAll ys ≤ 63 := by
  rcases h with h | h
  · have h1 := SeqAt.canLay_of_shaped h
    have h2 := SeqAt.depth_of_shaped h
    simp [PyData.canLay0, PyData.depth] at h1 h2
    exact ⟨h1, by omega⟩
  · have h1 := SeqAt.canLay_of_shaped h
    have h2 := SeqAt.depth_of_shaped h
    simp [PyData.canLay0, PyData.depth] at h1 h2
    exact ⟨h1, by omega⟩
theorem op_in_any (hu : X.A.units + 64 < cLine) : OpR X (compareOp .In) (rInA X.K false) := by
  intro pins s σ H x y v u Q I rx ry h
  rcases h with h | h | h
  · exact op_in_seq pins s σ H x y v u Q I rx ry h
  · obtain ⟨a, o, rfl, g, q⟩ := h
    obtain rfl : u = Value.ref a := ry
    exact d_in (by omega) I g rx fun s3 I3 => ⟨.bl o.isSome, H, I3, rfl, q⟩
  · obtain ⟨d, ys, hd, hy, sd, sy, q⟩ := h
    obtain ⟨as, r1⟩ := Dp.reads I d x v hd rx
    obtain ⟨hl, hdp⟩ := shaped_items sy
    have hr : X.A.units + 1 + min (PyData.depthAll ys) d.depth < cLine := by
      have := Nat.min_le_left (PyData.depthAll ys) d.depth
      omega
    rcases hy with hy | hy
    · obtain ⟨bs, r2⟩ := Dp.reads I _ y u hy ry
      exact SeqAt.in_list_reads r2 r1 hl (SeqAt.canLay_of_shaped sd) hr ⟨.bl _, H, I, rfl, q⟩
    · obtain ⟨bs, r2⟩ := Dp.reads I _ y u hy ry
      exact SeqAt.in_tuple_reads r2 r1 hl (SeqAt.canLay_of_shaped sd) hr ⟨.bl _, H, I, rfl, q⟩
theorem op_notIn_any (hu : X.A.units + 64 < cLine) : OpR X (compareOp .NotIn) (rInA X.K true) := by
  intro pins s σ H x y v u Q I rx ry h
  rcases h with h | h | h
  · exact op_notIn_seq pins s σ H x y v u Q I rx ry h
  · obtain ⟨a, o, rfl, g, q⟩ := h
    obtain rfl : u = Value.ref a := ry
    exact d_notIn (by omega) I g rx fun s3 I3 => ⟨.bl (!o.isSome), H, I3, rfl, q⟩
  · obtain ⟨d, ys, hd, hy, sd, sy, q⟩ := h
    obtain ⟨as, r1⟩ := Dp.reads I d x v hd rx
    obtain ⟨hl, hdp⟩ := shaped_items sy
    have hr : X.A.units + 1 + min (PyData.depthAll ys) d.depth < cLine := by
      have := Nat.min_le_left (PyData.depthAll ys) d.depth
      omega
    rcases hy with hy | hy
    · obtain ⟨bs, r2⟩ := Dp.reads I _ y u hy ry
      exact SeqAt.notIn_list_reads r2 r1 hl (SeqAt.canLay_of_shaped sd) hr ⟨.bl _, H, I, rfl, q⟩
    · obtain ⟨bs, r2⟩ := Dp.reads I _ y u hy ry
      exact SeqAt.notIn_tuple_reads r2 r1 hl (SeqAt.canLay_of_shaped sd) hr ⟨.bl _, H, I, rfl, q⟩
end
theorem toPys_map : ∀ ds : List D, toPys ds = ds.map toPy
  | [] => rfl
  | d :: ds => by rw [List.map_cons, ← toPys_map ds]; rfl
theorem ro_inA {K : PySem.W.Frag} (neg : Bool) : Ro2 K (rInA K neg) (dInA neg) := fun H x y dx dy fx fy z Q rx ry e q => by
  unfold dInA at e
  cases e1 : dctD dy with
  | some p =>
    obtain ⟨t, ks, vs⟩ := p
    rw [e1] at e
    dsimp only at e
    by_cases hk : isK t dx = true
    · rw [if_pos hk] at e
      obtain ⟨a, u, ws, g, ea, hu, di, rs, _⟩ := dctD_rv ry e1
      obtain ⟨o, hg, hm, _⟩ := dget_rv hu di rs rx hk
      refine .inr (.inl ⟨a, o, ea, hg, ?_⟩)
      cases e
      have hb : inK dx ks = o.isSome := by
        rw [Bool.eq_iff_iff]; exact inK_iff.trans hm
      rw [← hb]
      exact q _ _ (.plain ⟨rfl, rfl⟩)
    · rw [if_neg hk] at e; cases e
  | none =>
    rw [e1] at e
    dsimp only at e
    cases e2 : dIn neg dx dy with
    | some z' =>
      rw [e2] at e
      cases e
      exact .inl (ro_in neg H x y dx dy fx fy z Q rx ry e2 q)
    | none =>
      rw [e2] at e
      dsimp only at e
      cases e3 : seqD dy with
      | none => rw [e3] at e; cases e
      | some ys =>
        rw [e3] at e
        dsimp only at e
        by_cases c : shD dx = true ∧ shD dy = true
        · rw [if_pos c] at e
          cases e
          have hx := dp_of dx x fx (SeqAt.canLay_of_shaped c.1) rx
          have hy := dp_of dy y fy (SeqAt.canLay_of_shaped c.2) ry
          have any : ∀ l : List D, ((toPys l).any fun y => PyData.eqv y (toPy dx)) = l.any fun y => PyData.eqv (toPy y) (toPy dx) := fun l => by
            rw [toPys_map, List.any_map]; rfl
          refine .inr (.inr ⟨toPy dx, toPys ys, hx, ?_, c.1, ?_, ?_⟩)
          · cases dy <;> first
              | (cases e3; exact .inl hy)
              | (cases e3; exact .inr hy)
              | cases e3
          · have c2 := c.2
            cases dy <;> first
              | (cases e3; exact .inl c2)
              | (cases e3; exact .inr c2)
              | cases e3
          · rw [any]; exact q _ _ (.plain ⟨rfl, rfl⟩)
        · rw [if_neg c] at e; cases e
/-! ### d[k] -/
noncomputable def dIxA (x y : D) : Option D := match dctD x with
  | some (t, ks, vs) => if isK t y = true then (vD ks vs y).bind fun d => if pl d = true then some d else none else none
  | none => dIx x y
def rDGet : R2 := fun x y H Q => ∃ a v, x = .ref a ∧ DGet H a y (some v) ∧ Q v H
def rIxA (K : PySem.W.Frag) : R2 := fun x y H Q => rIx K x y H Q ∨ rDGet x y H Q
theorem ro_ixA {K : PySem.W.Frag} : Ro2 K (rIxA K) dIxA := fun H x y dx dy fx fy z Q rx ry e q => by
  unfold dIxA at e
  cases e1 : dctD dx with
  | none => rw [e1] at e; exact .inl (ro_ix H x y dx dy fx fy z Q rx ry e q)
  | some p =>
    obtain ⟨t, ks, vs⟩ := p
    rw [e1] at e
    dsimp only at e
    by_cases hk : isK t dy = true
    · rw [if_pos hk] at e
      obtain ⟨d, h1, h2⟩ := Option.bind_eq_some_iff.mp e
      by_cases p : pl d = true
      · rw [if_pos p] at h2
        cases h2
        obtain ⟨a, u, ws, g, ea, hu, di, rs, _⟩ := dctD_rv rx e1
        obtain ⟨o, hg, hm, hv⟩ := dget_rv hu di rs ry hk
        rw [h1] at hv
        obtain ⟨v, g', eo, rv, _⟩ := hv
        subst eo
        exact .inr ⟨a, v, ea, hg, q _ _ (.mine rv p)⟩
      · rw [if_neg p] at h2; cases h2
    · rw [if_neg hk] at e; cases e
section
variable {X : Cx} {Eh : WX} {a b : Expr} {pos : Pos} {f g : PM D} {p q : Ev → Option D} {j : Nat}
theorem ix_dict (hu : X.A.units + 64 < cLine) : IxR X rDGet := by
  intro value slice pins s σ H x y v u Q I rx ry h hs
  obtain ⟨a, z, rfl, g, q⟩ := h
  obtain rfl : v = Value.ref a := rx
  have hT := dict_typeIs I g
  unfold subscriptTail
  refine wpAny_bind ?_
  rw [getitemInPython_of_ne hT.not_modules]
  refine wpAny_bind (wpAny_specialOf hT PySem.F.slot_dict_getitem.lookup ?_)
  have fin : wpAny (model X.prog X.w) X.A (subscripted slice false (.ref a) u) (fun r s₃ => wpAny (model X.prog X.w) X.A (letTemporaryGo value (.ref a) r >>= fun _ => pure r) (EP X pins σ Q) X.xe s₃) X.xe s := by
    rw [hs]
    exact wpAny_operating (d_getItem (by omega) I g ry fun w' s3 I3 rw' => wpAny_bind (wpAny_letTemporaryGo (wpAny_pure ⟨z, H, I3, rw', q⟩)))
  first
    | exact wpAny_pure (wpAny_bind fin)
    | exact wpAny_bind fin
theorem ix_any (hu : X.A.units + 64 < cLine) : IxR X (rIxA X.K) := ix_seq.or (ix_dict hu)
theorem ixA_gg (hu : X.A.units + 64 < cLine) (ha : PE X a (tP X.K X.mg Eh f)) (hb : PE X b (tP X.K X.mg Eh g)) (hs : PlainIx b) : PE X (.Subscript a b pos) (tP X.K X.mg Eh (x2gg dIxA f g)) := (pe_ix (ix_any hu) ha hb hs).imp fun _ _ _ h => imp2gg ro_ixA h
theorem ixA_gp (hu : X.A.units + 64 < cLine) (ha : PE X a (tP X.K X.mg Eh f)) (hb : PE X b (tB X.K q)) (hs : PlainIx b) : PE X (.Subscript a b pos) (tP X.K X.mg Eh (x2gp dIxA f q)) := (pe_ix (ix_any hu) ha hb hs).imp fun _ _ _ h => imp2gp ro_ixA h
theorem ixA_vg (hu : X.A.units + 64 < cLine) (ha : PE X a (tV X.K j)) (hb : PE X b (tP X.K X.mg Eh g)) (hs : PlainIx b) : PE X (.Subscript a b pos) (tP X.K X.mg Eh (x2vg dIxA j g)) := (pe_ix (ix_any hu) ha hb hs).imp fun _ _ _ h => imp2vg ro_ixA h
theorem ixA_pp (hu : X.A.units + 64 < cLine) (ha : PE X a (tB X.K p)) (hb : PE X b (tB X.K q)) (hs : PlainIx b) : PE X (.Subscript a b pos) (tP X.K X.mg Eh (x2pp dIxA p q)) := (pe_ix (ix_any hu) ha hb hs).imp fun _ _ _ h => imp2pp ro_ixA h
end
end Pm

set_option autoImplicit false
namespace Pm
open PySem PySem.Spec L2 PyProof.Rows
variable {u0 : Unit} [Tab0 u0]
/-! ### {}, d[k] = v -/
def xNewD (t : Bool) : PM D := fun w => .ok (.odc t [] []) w
section
variable {X : Cx} {Eh : WX} {K : PySem.W.Frag} {H : Hp} {w : Ev} {s : L2.St} {ds : List D} {vs : List V} {F : List Addr}
theorem dctIs_nil (t : Bool) : ∃ u, DctIs t [] [] u ∧ u = (if t = true then HO.dT [] else HO.dK []) := by
  cases t with
  | false => exact ⟨.dK [], ⟨[], rfl, rfl, rfl⟩, rfl⟩
  | true => exact ⟨.dT [], ⟨[], rfl, rfl, rfl⟩, rfl⟩
include u0 in
theorem hold_newD {t : Bool} {u : HO} {p : Addr} (di : DctIs t [] [] u) (h : Hold K H w s ds vs F) (n : H p = none) : Hold K (upd H p u) w s (.odc t [] [] :: ds) (.ref p :: vs) (p :: F) := by
  have hm := h.mut
  obtain ⟨ft, fe, h1, h2, q, nd⟩ := hold_upd (o := u) h n
  refine ⟨p :: ft, fe, ⟨.ref p, vs, [p], ft, rfl, ⟨p, u, [], [], rfl, upd_same, di, ⟨rfl, rfl⟩, rfl⟩, h1, rfl⟩, h2, q.cons p, List.nodup_cons.mpr ⟨fun m => ?_, nd⟩⟩
  have := hm p m
  rw [n] at this
  exact this
theorem pp_dnew {pos : Pos} (t : Bool) : PE X (.Dict [] [] pos) (tP X.K X.mg Eh (xNewD t)) := by
  cases t with
  | false => exact pe_dnewK.imp fun s H Q ⟨w, F, hold, q⟩ p n => q _ _ _ (stp_upd' n) (hold_newD ⟨[], rfl, rfl, rfl⟩ hold n)
  | true => exact pe_dnewT.imp fun s H Q ⟨w, F, hold, q⟩ p n => q _ _ _ (stp_upd' n) (hold_newD ⟨[], rfl, rfl, rfl⟩ hold n)
def rDSet : TSet := fun o i v H Q => ∃ a H', o = .ref a ∧ DPut H a i v H' ∧ Q H'
theorem set_dict (hu : X.A.units + 64 < cLine) : PSet X rDSet := by
  intro pins s σ H o i v ov iv u Q I ro ri rv h
  obtain ⟨a, H', rfl, g, q⟩ := h
  obtain rfl : ov = Value.ref a := ro
  exact d_setItem (by omega) I g ri rv fun s' I' => ⟨H', I', q⟩
/-- a store into a dict of one owner, the value owns nothing -/
noncomputable def sSetD (j : Nat) (f g : PM D) : PM Fl := fun w => (f w).bind fun d w1 => match slot w1 j with
  | none => .bad
  | some _ => (g w1).bind fun i w2 => match slot w2 j with
    | some (.odc t ks vs) => if isK t i = true ∧ pl d = true ∧ ks.length < sizeLine ∧ pls vs = true then .ok .nx (w2.set j (some (.odc t (pK ks i) (pV ks vs i d)))) else .bad
    | _ => .bad
theorem Hold.three {d e c : D} {v u x : V} (h : Hold K H w s [d, e, c] [v, u, x] F) : ∃ f g k, RV K H d v f ∧ RV K H e u g ∧ RV K H c x k := by
  obtain ⟨ft, fe, h1, h2, p, nd⟩ := h
  obtain ⟨v', r, f, g, e1, q, q2, e2⟩ := h1
  injection e1 with e3 e4
  subst e3; subst e4
  obtain ⟨v', r, f', g', e1, q', q2, e2⟩ := q2
  injection e1 with e3 e4
  subst e3; subst e4
  exact ⟨f, f', g', q, q', q2.one'⟩
/-- the dict's put, by data: its object, the heap behind -/
theorem dput_rv {t : Bool} {ks vs : List D} {a : Addr} {u : HO} {ws : List V} {dx d : D} {x v : V} {fx : List Addr} (hu : H a = some u) (di : DctIs t ks ws u) (rs : RVs K H vs ws []) (rx : RV K H dx x fx) (rd : RV K H d v []) (hk : isK t dx = true) (hl : ks.length < sizeLine) :
    ∃ u' ws', DPut H a x v (upd H a u') ∧ DctIs t (pK ks dx) ws' u' ∧ RVs K H (pV ks vs dx d) ws' [] := by
  cases t with
  | false =>
    obtain ⟨kvs, eu, ek, ew⟩ := di
    subst eu; subst ek; subst ew
    obtain ⟨k, e⟩ := isK_key hk
    subst e
    have := key_rv rx
    subst this
    obtain ⟨h1, h2⟩ := put_val keyD (fun _ _ => keyD_inj) k d v kvs vs rs rd
    exact ⟨_, _, DPut.k hu (by simpa using hl), ⟨_, rfl, h1, rfl⟩, h2⟩
  | true =>
    obtain ⟨kvs, eu, ek, ew⟩ := di
    subst eu; subst ek; subst ew
    obtain ⟨k, e⟩ := isK_tup hk
    subst e
    obtain ⟨b, us, e1, q, rk⟩ := rx
    have := keys_rv rk
    subst this
    obtain ⟨h1, h2⟩ := put_val tkD (fun _ _ => tkD_inj) k d v kvs vs rs rd
    subst e1
    exact ⟨_, _, DPut.t hu q (by simpa using hl), ⟨_, rfl, h1, rfl⟩, h2⟩
theorem setD_imp {j : Nat} {f g : PM D} {E : Ends} (h : tS X.K X.mg Eh [] (sSetD j f g) E s H) : tAsg (tP X.K X.mg Eh f) (gSub (tV X.K j) (tP X.K X.mg Eh g) rDSet) E s H := by
  obtain ⟨w, F, hold, q⟩ := h
  refine tP_runS hold (Stp.refl fun _ m => m) q fun d w1 v H1 F1 e st h1 q1 => ?_
  cases e0 : slot w1 j with
  | none => rw [e0] at q1; exact q1.elim
  | some d0 =>
    rw [e0] at q1
    refine tV_run h1 e0 fun v0 f0 ej r0 _ => ?_
    refine tP_runS h1 st q1 fun i w2 vi H2 F2 e st h2 q2 => ?_
    cases e1 : slot w2 j with
    | none => rw [e1] at q2; exact q2.elim
    | some d1 =>
      rw [e1] at q2
      cases d1 with
      | odc t ks vs =>
        replace q2 : PoS X.K X.mg Eh [] H F s (if isK t i = true ∧ pl d = true ∧ ks.length < sizeLine ∧ pls vs = true then .ok .nx (w2.set j (some (.odc t (pK ks i) (pV ks vs i d)))) else .bad) E := q2
        by_cases c : isK t i = true ∧ pl d = true ∧ ks.length < sizeLine ∧ pls vs = true
        · rw [if_pos c] at q2
          obtain ⟨c1, c2, c3, c4⟩ := c
          -- the dict leaves its slot
          obtain ⟨v', ej', h3⟩ := Hold.takeS (ds := [d, i]) (vs := [v, vi]) h2 e1
          rw [ej] at ej'
          cases ej'
          obtain ⟨ft, fe, k1, k2, pp, nd⟩ := h3
          obtain ⟨v', r, f1, g1, e5, qd, qr, e6⟩ := k1
          injection e5 with e7 e8
          subst e7; subst e8; subst e6
          obtain ⟨v', r, f2, g2, e5, rd, qr2, e6⟩ := qr
          injection e5 with e7 e8
          subst e7; subst e8; subst e6
          have ri := qr2.one'
          have e9 := rv_pl d v f2 c2 rd
          subst e9
          obtain ⟨a, u, ws, f3, ea, hu, di, rs, ef⟩ := qd
          subst ea; subst ef
          have e10 := rvs_pl vs ws f3 c4 rs
          subst e10
          obtain ⟨u', ws', hp, di', rs'⟩ := dput_rv hu di rs ri rd c1 c3
          refine ⟨a, _, rfl, hp, ?_⟩
          have k : Kp [a] H2 (upd H2 a u') := .put hu di.pln
          have mk : ∀ b ∈ [a], Mut (H2 b) := fun b m => by
            have e : b = a := by simpa using m
            rw [e, hu]; exact di.mut
          have hp2 := pp.nodup_iff.mp nd
          have na : a ∉ fe := fun m => by
            simp at hp2
            exact hp2.1.2 m
          have re := k2.kp k mk fun b m z => by
            have e : b = a := by simpa using z
            exact na (e ▸ m)
          have hsub : ∀ b, b ∈ a :: fe → b ∈ F2 := fun b m => pp.mem_iff.mpr (by
            rcases List.mem_cons.mp m with z | z
            · rw [z]; simp
            · exact List.mem_append_right _ z)
          have hn : (a :: fe).Nodup := List.nodup_cons.mpr ⟨na, by
            have := (List.nodup_append.mp hp2).2.1
            exact this⟩
          have h4 : Hold X.K (upd H2 a u') (w2.set j none) s [.odc t (pK ks i) (pV ks vs i d)] [.ref a] (a :: fe) :=
            ⟨[a], fe, RVs.one ⟨a, u', ws', [], rfl, upd_same, di', RVs.kp k mk _ _ [] (fun _ z => nomatch z) rs', rfl⟩, re, .refl _, hn⟩
          have st4 : Stp F H (a :: fe) (upd H2 a u') := st.trans ⟨k.mono fun b z => (by
            have e2 : b = a := by simpa using z
            rw [e2]; exact hsub a List.mem_cons_self), fun b m => .inl (hsub b m)⟩
          obtain ⟨F5, h5, sub5⟩ := Hold.putS h4 ej
          rw [List.set_set] at h5
          exact q2 s _ F5 (st4.trans (Stp.refl sub5)) (.refl _ _) h5
        · rw [if_neg c] at q2; exact q2.elim
      | _ => exact q2.elim
theorem ss_setD {e o : Expr} {j : Nat} {f g : PM D} {i : Expr} {pos tpos : Pos} (hu : X.A.units + 64 < cLine) (he : PE X e (tP X.K X.mg Eh f)) (ho : PE X o (tV X.K j)) (hi : PE X i (tP X.K X.mg Eh g))
    (ha : ∀ v, assign (.Subscript o i tpos) X.env v = (do
      let ov ← holding [v] (eval o X.env)
      let iv ← holding [v, ov] (eval i X.env)
      standAt tpos
      holding [v, ov, iv] (setItem ov iv v)
      release [v, ov, iv] []) := by intro _; rfl)
    (hs : swapsWithSole [.Subscript o i tpos] e pos.line X.env = pure false := by rfl) (hw : swappedStores [.Subscript o i tpos] e X.env = pure none := by rfl)
    (h1 : (assignEach [.Subscript o i tpos] X.env).map (·.2) = [assign (.Subscript o i tpos) X.env] := by rfl) : PS X (.Assign [.Subscript o i tpos] e pos) (tS X.K X.mg Eh [] (sSetD j f g)) :=
  (ps_asg he (pg_sub ho hi (set_dict hu) ha) hs hw h1).imp fun E s H h => setD_imp h
end
end Pm

set_option autoImplicit false
namespace Pm
open PySem PySem.Spec L2 PyProof.Rows
variable {u0 : Unit} [Tab0 u0]
/-! ### {k: v for ..}, keys ints, texts or tuples of them -/
/-- a new dict, by the kind of its keys -/
def emD (t : Bool) : HO := if t = true then .dT [] else .dK []
theorem dctIs_em (t : Bool) : DctIs t [] [] (emD t) := by cases t <;> exact ⟨[], rfl, rfl, rfl⟩
theorem emD_ok {P : Program} {w : World} {H : Hp} (t : Bool) (h : Heap) (hb : sysModules < h.objs.size) : ObjOk P w H (h.push { cls := .type "dict", data := .dict #[] }) h.objs.size (emD t) := by
  cases t
  · exact dk_empty h hb
  · exact dt_empty h hb
section
variable {X : Cx}
/-- the comprehension's own store -/
theorem dictSet_put {pins : List (Addr × Obj)} {σ : L2.St} {H H' : Hp} {s : Shared} {E : Value → Shared → Prop} {D : Addr} {y z : V} {u r : Value} {Q : Unit → Shared → Prop} (hu : X.A.units + 1 < cLine) (I : Inv X pins σ H s) (g : DPut H D y z H') (ry : RelV y u) (rv : RelV z r) (h : ∀ s', Inv X pins σ H' s' → Q () s') :
    wpAny (model X.prog X.w) X.A (dictSet D u r) Q E s := by
  rcases g with ⟨kvs, k, e, ey, l, eH⟩ | ⟨kvs, k, b, e, ey, eb, l, eH⟩
  · subst ey; subst eH
    exact d_dictSet I e l ry rv h
  · subst ey; subst eH
    cases (show u = Value.ref b from ry)
    obtain ⟨z0, hd, xs, rel, dd⟩ := dt_of I.hok e
    have hz : xs.length ≤ sizeLine := by rw [← Paired.length rel]; exact z0
    have hl : (putK kvs k z).length ≤ sizeLine := by have := length_putK kvs k z; omega
    refine wpAny_dictSet_heap (hsz := hz) (show (tupleKind (mixKind X.prog X.w)).room X.A from Nat.lt_of_succ_lt hu) (key_of I.hok eb) dd fun h' dd' hs => h _ ?_
    obtain ⟨q, es, ep, hq, h2, h3, h4, _, h5⟩ := dd'
    refine d_write I (by rw [e]; trivial) hs ⟨q, hq⟩ ⟨hl, hd, _, (rel.put k eb rv).keeps fun c ys ec => ?_, q, es, ep, hq, h2, h3, h4, h5⟩
    rw [upd_ne (ne_of ec e (fun z => nomatch z))]
    exact ec
/-- what the comprehension does: D the new dict, DPut each store -/
def tDcA (t : Bool) (wi : TI) (g : TG) (tt : TT) (tk tv : TE) (vs : List Nat) : TE := fun σ H Q => wi σ H fun J H1 => ∀ D, H1 D = none → ∃ W : Nat → Nat → Hp → Prop, (∃ m, W 0 m (upd H1 D (emD t))) ∧ ∀ i m H, W i m H →
  (J.stop i H ∧ Q (.ref D) H) ∨ (J.go i H ∧ ∃ Nx : Hp → Prop, (∀ H', Nx H' → ∃ m', m' < m ∧ W (i + 1) m' H') ∧ ∀ x H', J.yld i H x H' → g x (wipe σ vs) H' fun σ2 H2 => wipe σ2 vs = wipe σ vs ∧ tt σ2 H2 fun b H3 =>
    if b = true then tk σ2 H3 fun y H4 => tv σ2 H4 fun z H5 => ∃ H6, DPut H5 D y z H6 ∧ Nx H6 else Nx H3)
theorem dcA_run {t : Bool} {pins : List (Addr × Obj)} {s : Shared} {σ : L2.St} {H : Hp} {Q : VK} {kx vx tg iter : Expr} {ifs : List Expr} {scope : Scope} {own : List (Str × Nat)} {pos pos' : Pos} {wi : TI} {g : TG} {tt : TT} {tk tv : TE} {use : Option (Value → Sem Unit)} {Qf : Value → Shared → Prop}
    (hu : X.A.units + 1 < cLine) (hc : X.calm = true) (hN : X.N.Nodup) (I : Inv X pins σ H s) (hi : PI X tg iter wi) (ok : BlkOk X.N X.env.scope scope own)
    (hg : ∀ (s : Shared) (H : Hp) (C : Addr) (cl : List (Str × Addr)) (fp : List Addr), PG (X.blk s H scope (compEnvC scope cl C X.env) fp) tg g)
    (ht : ∀ (s : Shared) (H : Hp) (C : Addr) (cl : List (Str × Addr)) (fp : List Addr), PTs (X.blk s H scope (compEnvC scope cl C X.env) fp) ifs tt)
    (hk : ∀ (s : Shared) (H : Hp) (C : Addr) (cl : List (Str × Addr)) (fp : List Addr), PE (X.blk s H scope (compEnvC scope cl C X.env) fp) kx tk)
    (he : ∀ (s : Shared) (H : Hp) (C : Addr) (cl : List (Str × Addr)) (fp : List Addr), PE (X.blk s H scope (compEnvC scope cl C X.env) fp) vx tv)
    (hs : ∀ x, foldedSetIterable iter X.env x = pure x) (h : tDcA t wi g tt tk tv (own.map (·.2)) σ H Q)
    (fin : ∀ D C s' m H', Inv X pins σ H' s' → Q (.ref D) H' → s'.heap.Ns C m → FpOk X pins H' C → compPost (model X.prog X.w) X.A X.xe use Qf (.ref D) C (.ok .next) s') :
    wpAny (model X.prog X.w) X.A (comprehension (.DictComp kx vx [⟨tg, iter, ifs, 0⟩] scope pos) scope X.env pos' newDict false (eval iter X.env) use) Qf X.xe s := by
  have cells : ∀ y ∈ scope.names, y.2 = .free → ∃ c, X.env.cells.lookup y.1 = some c := fun y hy e => (ok.free y hy e).elim (fun k => I.ok.has _ (.inl k)) fun k => I.ok.has _ (.inr k)
  refine wpAny_comprehension_free (use := use) rfl hs (closure_ok cells) ok.kind (fun y hy e => by rw [ok.uniq y hy, e])
    (thn (hi.run pins s σ H _ I h) fun xv s1 hx => thn hx fun itv s2 h2 => ?_)
  obtain ⟨it, fp, tn, J, H2, e, I2, T, st2, f2, q⟩ := h2
  subst e
  refine wpAny_newObj_type (newEnv_comp ?_)
  have hDn : H2 s2.heap.objs.size = none := I2.hok.fresh (Nat.le_refl _)
  obtain ⟨W, ⟨m0, w0⟩, turn⟩ := q _ hDn
  generalize eD : s2.heap.objs.size = D at hDn w0 turn ⊢
  -- the state behind the new dict
  generalize e3 : ({ s2 with heap := s2.heap.push { cls := .type "dict", data := .dict #[] } } : Shared) = s3
  have h3 : s3.heap = s2.heap.push { cls := .type "dict", data := .dict #[] } := by rw [← e3]
  have I3 : Inv X pins σ (upd H2 D (emD t)) s3 := by
    rw [← e3]
    refine I2.laid (t' := s2.toks) (fun b o e => Heap.get?_push_of_some _ e) (Nat.le_of_eq eD) ?_
    rw [← eD]
    exact emD_ok t s2.heap I2.big
  generalize eH : upd H2 D (emD t) = H3 at I3 w0
  have low : ∀ b ∈ fp, b < s2.heap.objs.size := fun b hb => let ⟨_, e, _⟩ := T.obj _ _ st2 b hb; Heap.lt_size e
  have f3 : ∀ b ∈ fp, FpOk X pins H3 b ∧ b < s3.heap.objs.size := fun b hb => by
    refine ⟨⟨?_, (f2 b hb).2⟩, by rw [h3, Heap.size_push]; exact Nat.lt_succ_of_lt (low b hb)⟩
    rw [← eH, upd_ne (by rw [← eD]; exact Nat.ne_of_lt (low b hb))]
    exact (f2 b hb).1
  have I4 := block_start I3 ok hN f3
  have pg := hg s3 H3 s3.heap.objs.size (cellsFrom (s3.heap.objs.size + 1) scope.names (cloFrom X.env.cells scope.names [])) fp
  have pt := ht s3 H3 s3.heap.objs.size (cellsFrom (s3.heap.objs.size + 1) scope.names (cloFrom X.env.cells scope.names [])) fp
  have pk := hk s3 H3 s3.heap.objs.size (cellsFrom (s3.heap.objs.size + 1) scope.names (cloFrom X.env.cells scope.names [])) fp
  have pe := he s3 H3 s3.heap.objs.size (cellsFrom (s3.heap.objs.size + 1) scope.names (cloFrom X.env.cells scope.names [])) fp
  show codeAny _ _ (.compStart (.DictComp kx vx [⟨tg, iter, ifs, 0⟩] scope pos) 0 (.ref it) (.ref D) (compEnvC scope (cellsFrom (s3.heap.objs.size + 1) scope.names (cloFrom X.env.cells scope.names [])) s3.heap.objs.size X.env))
    (compPost (model X.prog X.w) X.A X.xe use Qf (.ref D) s3.heap.objs.size) { s3 with heap := pushCells (s3.heap.push { cls := .type "dict", data := .dict #[] }) scope.names }
  have nfp : ∀ b ∈ fp, H3 b = none := fun b hb => (f3 b hb).1.1
  generalize hce : compEnvC scope (cellsFrom (s3.heap.objs.size + 1) scope.names (cloFrom X.env.cells scope.names [])) s3.heap.objs.size X.env = ce at I4 pg pt pk pe ⊢
  have cL : ce.locals = s3.heap.objs.size := by subst hce; rfl
  generalize e4 : ({ s3 with heap := pushCells (s3.heap.push { cls := .type "dict", data := .dict #[] }) scope.names } : Shared) = s4 at I4 ⊢
  have st4 : tn 0 s4.heap := by
    refine T.keep _ _ _ st2 fun b _ o e => ?_
    rw [← e4]
    refine pushCells_keeps _ _ _ _ (Heap.get?_push_of_some _ ?_)
    rw [h3]
    exact Heap.get?_push_of_some _ e
  -- the iterator's own objects, seen from the block
  have seen : ∀ {σ' : L2.St} {H' : Hp} {s' : Shared}, Inv (X.blk s3 H3 scope ce fp) [] σ' H' s' → (∀ b ∈ fp, H' b = none) → ∀ b ∈ fp, FpOk (X.blk s3 H3 scope ce fp) [] H' b := fun {σ' H' s'} I' hn b hb =>
    ⟨hn b hb, (I'.ok.exf b hb).1, I'.ok.exfs b hb, .inl hb, fun x c e => (I'.ok.exf b hb).2 x c e, fun p hp => absurd (show p ∈ ([] : List (Addr × Obj)) ++ [] from hp) (by simp)⟩
  have loop : codeAny (model X.prog X.w) X.A (.compLoop (.DictComp kx vx [⟨tg, iter, ifs, 0⟩] scope pos) 0 (.ref it) (.ref D) ce) (compPost (model X.prog X.w) X.A X.xe use Qf (.ref D) s3.heap.objs.size) s4 := by
    refine compLoop_anyD (fun n s' => ∃ i H', Inv (X.blk s3 H3 scope ce fp) [] (wipe σ (own.map (·.2))) H' s' ∧ tn i s'.heap ∧ (∀ b ∈ fp, H' b = none) ∧ W i n H') ?_ m0 ⟨0, H3, I4, st4, nfp, w0⟩
    rintro n s5 ⟨i, H5, I5, st5, n5, w5⟩
    rcases turn i n H5 w5 with ⟨stop, qq⟩ | ⟨go, Nx, hNx, step⟩
    · refine thnF (T.done (X.blk s3 H3 scope ce fp) rfl rfl rfl hc i [] s5 _ H5 (fun _ _ => False) I5 (seen I5 n5) st5 stop) fun r s6 ⟨hr, I6⟩ => ?_
      subst hr
      have I7 : Inv X pins σ H5 s6 := I3.call' (ch := fp) I6.os I6.base I6.hok I6.bare fun b hb => ⟨(f3 b hb).1.2.2.2.1, (f3 b hb).1.2.1, (f3 b hb).1.2.2.2.2.1, (f3 b hb).1.2.2.2.2.2⟩
      have nC : H5 s3.heap.objs.size = none := by
        have z : H5 ce.locals = none := I6.free
        rwa [cL] at z
      obtain ⟨m, hn, _⟩ := I6.loc
      have hn : s6.heap.Ns ce.locals m := hn
      rw [cL] at hn
      exact fin D _ s6 m H5 I7 qq hn (I3.fpOk (Nat.le_refl _) nC)
    · refine thnF (T.item (X.blk s3 H3 scope ce fp) rfl rfl rfl hc i [] s5 _ H5 (fun _ _ => False) I5 (seen I5 n5) st5 go) fun r s6 ⟨u, hr, h6⟩ => ?_
      subst hr
      refine thnF h6 fun _ s7 ⟨x, H7, I7, r7, y7, st7, n7⟩ => ?_
      have I7' := I7.pinned (seen I7 n7) (T.obj _ _ st7)
      refine thnF (pg.run _ s7 _ H7 x u _ I7' r7 (step x H7 y7)) fun _ s8 ⟨σ8, H8, I8, hw8, q8⟩ => ?_
      refine thnF (pt.run _ s8 σ8 H8 _ I8 q8) fun b s9 ⟨H9, I9, q9⟩ => ?_
      have next : ∀ {s' : Shared} {H' : Hp}, Inv (X.blk s3 H3 scope ce fp) ([] ++ pinsAt fp s7.heap) σ8 H' s' → Nx H' → ∃ m, m < n ∧ ∃ i H', Inv (X.blk s3 H3 scope ce fp) [] (wipe σ (own.map (·.2))) H' s' ∧ tn i s'.heap ∧ (∀ b ∈ fp, H' b = none) ∧ W i m H' := fun {s' H'} I' nx => by
        obtain ⟨m', hm, w'⟩ := hNx H' nx
        have pin' : ∀ b ∈ fp, ∀ o, s7.heap.get? b = some o → s'.heap.get? b = some o ∧ H' b = none := fun b hb o e =>
          let z := I'.pin (b, o) (List.mem_append_right _ (List.mem_append_right _ (mem_pinsAt hb e)))
          ⟨z.1, z.2.1⟩
        refine ⟨m', hm, i + 1, H', (I'.unpinned (pins := [])).weak (by rw [← hw8, wipe_length]) (fun j v e => ?_), T.keep _ _ _ st7 fun b hb o e => (pin' b hb o e).1, fun b hb => ?_, w'⟩
        · rw [← hw8] at e
          exact (wipe_some e).1
        · obtain ⟨o, e, _⟩ := T.obj _ _ st7 b hb
          exact (pin' b hb o e).2
      cases b with
      | false =>
        rw [if_neg Bool.false_ne_true] at q9
        exact next I9 q9
      | true =>
        rw [if_pos rfl] at q9
        refine thnF (pk.run _ s9 σ8 H9 _ I9 q9) fun z s10 ⟨yk, H10, I10, r10, q10⟩ => ?_
        refine thnF (pe.run _ s10 σ8 H10 _ I10 q10) fun z2 s11 ⟨yv, H11, I11, r11, H12, hp, nx⟩ => ?_
        exact dictSet_put (X := X.blk s3 H3 scope ce fp) hu I11 hp r10 r11 fun s12 I12 => next I12 nx
  exact codeAny_compStart_dict loop (T.self X.A 0 _ _ _ st4 loop)
theorem pe_dcA {t : Bool} {kx vx tg iter : Expr} {ifs : List Expr} {scope : Scope} {own : List (Str × Nat)} {pos : Pos} {wi : TI} {g : TG} {tt : TT} {tk tv : TE} (hu : X.A.units + 1 < cLine) (hc : X.calm = true) (hN : X.N.Nodup) (hi : PI X tg iter wi) (ok : BlkOk X.N X.env.scope scope own)
    (hg : ∀ (s : Shared) (H : Hp) (C : Addr) (cl : List (Str × Addr)) (fp : List Addr), PG (X.blk s H scope (compEnvC scope cl C X.env) fp) tg g)
    (ht : ∀ (s : Shared) (H : Hp) (C : Addr) (cl : List (Str × Addr)) (fp : List Addr), PTs (X.blk s H scope (compEnvC scope cl C X.env) fp) ifs tt)
    (hk : ∀ (s : Shared) (H : Hp) (C : Addr) (cl : List (Str × Addr)) (fp : List Addr), PE (X.blk s H scope (compEnvC scope cl C X.env) fp) kx tk)
    (he : ∀ (s : Shared) (H : Hp) (C : Addr) (cl : List (Str × Addr)) (fp : List Addr), PE (X.blk s H scope (compEnvC scope cl C X.env) fp) vx tv)
    (hs : ∀ x, foldedSetIterable iter X.env x = pure x := by intro _; rfl) :
    PE X (.DictComp kx vx [⟨tg, iter, ifs, 0⟩] scope pos) (tDcA t wi g tt tk tv (own.map (·.2))) := by
  refine ⟨fun pins s σ H Q I h => ?_⟩
  rw [arm_eval_DictComp]
  refine dcA_run hu hc hN I hi ok hg ht hk he hs h fun D C s' m H' I' q hn f => ⟨m, hn, fun h'' sb => ?_⟩
  obtain ⟨f0, f1, f2, f3, f4, f5⟩ := f
  exact ⟨.ref D, H', I'.turned (t' := s'.toks) (fun b o hb e => (sb.2 b hb).trans e) f0 f1 f3 f4 f5, rfl, q⟩
/-- name = {..} on one line, the name a local -/
theorem ps_setDcA {t : Bool} {i : Nat} {y : Str} {py : Pos} {kx vx tg iter : Expr} {ifs : List Expr} {scope : Scope} {own : List (Str × Nat)} {pos spos : Pos} {wi : TI} {g : TG} {tt : TT} {tk tv : TE} (hu : X.A.units + 1 < cLine) (hc : X.calm = true) (hN : X.N.Nodup) (hy : X.N[i]? = some y) (hyl : X.env.scope.names.lookup y = some .local)
    (hsw : swapsWith (.DictComp kx vx [⟨tg, iter, ifs, 0⟩] scope pos) (some (.Name y py)) spos.line X.env = pure true) (hi : PI X tg iter wi) (ok : BlkOk X.N X.env.scope scope own)
    (hg : ∀ (s : Shared) (H : Hp) (C : Addr) (cl : List (Str × Addr)) (fp : List Addr), PG (X.blk s H scope (compEnvC scope cl C X.env) fp) tg g)
    (ht : ∀ (s : Shared) (H : Hp) (C : Addr) (cl : List (Str × Addr)) (fp : List Addr), PTs (X.blk s H scope (compEnvC scope cl C X.env) fp) ifs tt)
    (hk : ∀ (s : Shared) (H : Hp) (C : Addr) (cl : List (Str × Addr)) (fp : List Addr), PE (X.blk s H scope (compEnvC scope cl C X.env) fp) kx tk)
    (he : ∀ (s : Shared) (H : Hp) (C : Addr) (cl : List (Str × Addr)) (fp : List Addr), PE (X.blk s H scope (compEnvC scope cl C X.env) fp) vx tv)
    (hs : ∀ x, foldedSetIterable iter X.env x = pure x := by intro _; rfl) :
    PS X (.Assign [.Name y py] (.DictComp kx vx [⟨tg, iter, ifs, 0⟩] scope pos) spos) (tAsg (tDcA t wi g tt tk tv (own.map (·.2))) (gName i)) := by
  refine ⟨fun pins s σ H D I h => ?_⟩
  rw [exec_Assign_Name_used _ _ _ _ hsw]
  refine wpAny_bind (wpAny_standAt (wpAny_bind ?_))
  show wpAny _ X.A (do let _ ← comprehension (.DictComp kx vx [⟨tg, iter, ifs, 0⟩] scope pos) scope X.env (firstIterPos [⟨tg, iter, ifs, 0⟩] pos) newDict false (eval iter X.env) (some (assign (.Name y py) X.env))) _ _ s
  have h : tDcA t wi g tt tk tv (own.map (·.2)) σ H (fun x H1 => gName i x σ H1 D.nx) := h
  refine wpAny_bind (thn (dcA_run (Qf := fun _ s' => SP X pins D .next s') hu hc hN I hi ok hg ht hk he hs h fun L C s' m H' I' q hn f => ?_) fun _ s' hq => wpAny_pure (wpAny_pure hq))
  show wpAny _ _ (assign (.Name y py) X.env (.ref L)) _ _ _
  refine wpAny_assign_Name (store_ok2 (v := V.ref L) I' hN hy (.inl hyl) rfl (fun s2 I2 ⟨a, sb, ha⟩ => ?_) (.inr hyl))
  obtain ⟨f0, f1, f2, f3, f4, f5⟩ := f
  have haC : C ≠ a := by
    rcases ha with z | z
    · rw [z]; exact f1
    · exact fun e => f4 y a z e.symm
  refine ⟨m, hn.sameBut sb haC, fun h3 sb3 => ?_⟩
  exact ⟨_, H', I2.turned (t' := s2.toks) (fun b o hb e => (sb3.2 b hb).trans e) f0 f1 f3 f4 f5, q⟩
end
end Pm

set_option autoImplicit false
namespace Pm
open PySem PySem.Spec L2 PyProof.Rows
variable {u0 : Unit} [Tab0 u0]
/-! ### dict comprehensions over mirrors -/
noncomputable def cmpD (t : Bool) (tg : Tgt) (c : PM Bool) (fk fv : PM D) (vs : List Nat) : List D → List D → List D → PM (List D × List D)
  | [], ak, av => fun w => .ok (ak, av) w
  | d :: ds, ak, av => fun w => match setT tg d (wipeE w vs) with
    | some w1 => (c w1).bindN fun b w2 => if b = true then (fk w2).bindN fun k w3 => (fv w3).bindN fun v w4 => if isK t k = true ∧ pl v = true ∧ ak.length < sizeLine ∧ pls av = true then cmpD t tg c fk fv vs ds (pK ak k) (pV ak av k v) w4 else .bad
      else cmpD t tg c fk fv vs ds ak av w2
    | none => .bad
noncomputable def xDc (t : Bool) (ks : List (Option Nat)) (it : PM (List D × List D)) (tg : Tgt) (c : PM Bool) (fk fv : PM D) (vs : List Nat) : PM D := fun w => (it w).bind fun p w1 => (cmpD t tg c fk fv vs p.1 [] [] w1).bindN fun acc w2 => Rs.ok (D.odc t acc.1 acc.2) (putB ks p.2 (wipeE w2 vs))
section
variable {X : Cx} {Eh : WX} {s : L2.St} {H : Hp} {F : List Addr}
theorem Hold.growD {K : PySem.W.Frag} {w : Ev} {t : Bool} {ks avs ds : List D} {a : Addr} {vs : List V} {dk d : D} {vk v : V} (h : Hold K H w s ((.odc t ks avs :: ds) ++ [dk, d]) ((.ref a :: vs) ++ [vk, v]) F) (hl : ds.length = vs.length)
    (c1 : isK t dk = true) (c2 : pl d = true) (c3 : ks.length < sizeLine) (c4 : pls avs = true) :
    ∃ H', DPut H a vk v H' ∧ ∃ F', Hold K H' w s (.odc t (pK ks dk) (pV ks avs dk d) :: ds) (.ref a :: vs) F' ∧ Stp F H F' H' := by
  obtain ⟨ft0, fe, k1, k2, pp, nd⟩ := Hold.comm h (by simp [hl])
  obtain ⟨v', r, f1, g1, e5, rk, qr, e6⟩ := k1
  injection e5 with e7 e8
  subst e7; subst e8; subst e6
  obtain ⟨v', r, f2, g2, e5, rd, qr2, e6⟩ := qr
  injection e5 with e7 e8
  subst e7; subst e8; subst e6
  obtain ⟨v', r, f3, ft, e5, qd, rT, e6⟩ := qr2
  injection e5 with e7 e8
  subst e7; subst e8; subst e6
  have e9 := rv_pl d v f2 c2 rd
  subst e9
  obtain ⟨a', u, ws, f4, ea, hu, di, rs, ef⟩ := qd
  cases ea
  subst ef
  have e10 := rvs_pl avs ws f4 c4 rs
  subst e10
  obtain ⟨u', ws', hp, di', rs'⟩ := dput_rv hu di rs rk rd c1 c3
  refine ⟨_, hp, a :: ft ++ fe, ?_⟩
  have k : Kp [a] H (upd H a u') := .put hu di.pln
  have mk : ∀ b ∈ [a], Mut (H b) := fun b m => by
    have e : b = a := by simpa using m
    rw [e, hu]; exact di.mut
  have hp2 := pp.nodup_iff.mp nd
  rw [List.append_assoc] at hp2
  have hp3 := (List.nodup_append.mp hp2).2.1
  have hp4 : (a :: (ft ++ fe)).Nodup := by simpa using hp3
  obtain ⟨na, n1⟩ := List.nodup_cons.mp hp4
  have re := k2.kp k mk fun b m z => by
    have e : b = a := by simpa using z
    exact na (e ▸ List.mem_append_right _ m)
  have rT' := RVs.kp k mk ds vs ft (fun b m z => by
    have e : b = a := by simpa using z
    exact na (e ▸ List.mem_append_left _ m)) rT
  have hsub : ∀ b, b ∈ a :: ft ++ fe → b ∈ F := fun b m => pp.mem_iff.mpr (by
    simp at m ⊢
    rcases m with z | z | z
    · exact .inr (.inl z)
    · exact .inr (.inr (.inl z))
    · exact .inr (.inr (.inr z)))
  exact ⟨⟨a :: ft, fe, ⟨.ref a, vs, [a], ft, rfl, ⟨a, u', ws', [], rfl, upd_same, di', RVs.kp k mk _ _ [] (fun _ z => nomatch z) rs', rfl⟩, rT', rfl⟩, re, .refl _, hp4⟩, ⟨k.mono fun b z => (by
    have e2 : b = a := by simpa using z
    rw [e2]; exact hsub a (by simp)), fun b m => .inl (hsub b m)⟩⟩
theorem dcomp_imp {K : PySem.W.Frag} {mg : Str → Option Value} {t : Bool} {g : TG} {tg : Tgt} {c : PM Bool} {fk fv : PM D} {vs : List Nat} {ks : List (Option Nat)} {it : PM (List D × List D)} (hg : TgR K g tg) (hv : ∀ i ∈ wrT tg, i ∈ vs) {Q : VK}
    (h : tP K mg Eh (xDc t ks it tg c fk fv vs) s H Q) : tDcA t (tI K mg Eh ks it) g (tT K mg EhN c) (tP K mg EhN fk) (tP K mg EhN fv) vs s H Q := by
  obtain ⟨w, F, hold, q⟩ := h
  unfold xDc at q
  refine ⟨w, F, hold, ?_⟩
  cases e : it w with
  | bad => rw [e] at q; exact q
  | ex cc fs w1 =>
    rw [e] at q
    exact q
  | ok p w1 =>
    rw [e] at q
    replace q : Po K mg Eh H F s ((cmpD t tg c fk fv vs p.1 [] [] w1).bindN fun acc w2 => Rs.ok (D.odc t acc.1 acc.2) (putB ks p.2 (wipeE w2 vs))) (fun d w' => ∀ v H' F', Stp F H F' H' → Hold K H' w' s [d] [v] F' → Q v H') := q
    intro J H1 F1 tvs st h1 src lnk Da nDa
    have hlen := hold_len h1
    have hnew := hold_newD (dctIs_em t) h1 nDa
    refine ⟨fun i m H2 => m + i = p.1.length ∧ i ≤ p.1.length ∧ ∃ w2 s2 F2 ak av, Stp F H F2 H2 ∧ wipe s2 vs = wipe s vs ∧ Hold K H2 w2 s2 (.odc t ak av :: p.2) (.ref Da :: tvs) F2 ∧
      Po K mg Eh H F s ((cmpD t tg c fk fv vs (p.1.drop i) ak av w2).bindN fun acc w2 => Rs.ok (D.odc t acc.1 acc.2) (putB ks p.2 (wipeE w2 vs))) (fun d w' => ∀ v H' F', Stp F H F' H' → Hold K H' w' s [d] [v] F' → Q v H'),
      ⟨p.1.length, by omega, by omega, w1, s, Da :: F1, [], [], st.trans (stp_upd' nDa), rfl, hnew, q⟩, ?_⟩
    rintro i m H2 ⟨e1, e2, w2, s2, F2, ak, av, st2, ag2, h2, q2⟩
    obtain ⟨ft, rt⟩ := h2.rvs
    obtain ⟨v0, r0, f0, ft2, e3, rD, rT, e4⟩ := rt
    injection e3 with e5 e6
    subst e5; subst e6
    obtain ⟨F3, h3, h3s, sub3⟩ := h2.turn ag2
    by_cases hi : i < p.1.length
    · have hd : p.1[i]? = some p.1[i] := List.getElem?_eq_getElem hi
      have hdr : p.1.drop i = p.1[i] :: p.1.drop (i + 1) := List.drop_eq_getElem_cons hi
      rw [hdr] at q2
      refine .inr ⟨src.go H2 _ i rT hi, fun H' => ∃ w2 s2 F2 ak av, Stp F H F2 H' ∧ wipe s2 vs = wipe s vs ∧ Hold K H' w2 s2 (.odc t ak av :: p.2) (.ref Da :: tvs) F2 ∧
        Po K mg Eh H F s ((cmpD t tg c fk fv vs (p.1.drop (i + 1)) ak av w2).bindN fun acc w2 => Rs.ok (D.odc t acc.1 acc.2) (putB ks p.2 (wipeE w2 vs))) (fun d w' => ∀ v H' F', Stp F H F' H' → Hold K H' w' s [d] [v] F' → Q v H'), fun H' hN => ⟨m - 1, by omega, by omega, hi, hN⟩, fun x H' hy => ?_⟩
      obtain ⟨kp, rx⟩ := src.yld H2 _ i _ x H' rT hd hy
      unfold cmpD at q2
      cases et : setT tg p.1[i] (wipeE w2 vs) with
      | none => rw [et] at q2; exact q2.elim
      | some w3 =>
        rw [et] at q2
        dsimp only at q2
        refine hg x (wipe s vs) H' _ (wipeE w2 vs) w3 F3 (.odc t ak av :: p.2) (.ref Da :: tvs) p.1[i] rx (src.pl i _ hd) (hold_kp h3 kp) et fun s3 F4 ag3 sub4 h4 => ?_
        have ew : wipe s3 vs = wipe s vs := by
          refine wipe_ext (by rw [ag3.1, wipe_length]) fun k n => ?_
          rw [ag3.2 k (fun z => n (hv k z)), wipe_get n]
        refine ⟨ew, ?_⟩
        have st4 : Stp F H F4 H' := ((st2.trans (Stp.refl sub3)).trans (stp_kp kp)).trans (Stp.refl sub4)
        cases ec : c w3 with
        | bad => rw [ec] at q2; exact q2.elim
        | ex _ _ _ => rw [ec] at q2; exact q2.elim
        | ok b w4 =>
          rw [ec] at q2
          refine tT_runN h4 ec fun H5 F5 st5 h5 => ?_
          cases b with
          | false =>
            rw [if_neg Bool.false_ne_true]
            rw [Rs.bindN_ok, if_neg Bool.false_ne_true] at q2
            exact ⟨w4, s3, F5, ak, av, st4.trans st5, ew, h5, q2⟩
          | true =>
            rw [if_pos rfl]
            rw [Rs.bindN_ok, if_pos rfl] at q2
            cases ek : fk w4 with
            | bad => rw [ek] at q2; exact q2.elim
            | ex _ _ _ => rw [ek] at q2; exact q2.elim
            | ok dk w5 =>
              rw [ek] at q2
              refine tP_runN h5 ek fun y H6 F6 st6 h6 => ?_
              rw [Rs.bindN_ok] at q2
              cases ee : fv w5 with
              | bad => rw [ee] at q2; exact q2.elim
              | ex _ _ _ => rw [ee] at q2; exact q2.elim
              | ok d w6 =>
                rw [ee] at q2
                refine tP_runN h6 ee fun z H7 F7 st7 h7 => ?_
                rw [Rs.bindN_ok] at q2
                by_cases cl : isK t dk = true ∧ pl d = true ∧ ak.length < sizeLine ∧ pls av = true
                · rw [if_pos cl] at q2
                  rw [List.append_assoc, List.append_assoc] at h7
                  obtain ⟨H8, hp, F8, h8, st8⟩ := Hold.growD h7 hlen cl.1 cl.2.1 cl.2.2.1 cl.2.2.2
                  exact ⟨H8, hp, w6, s3, F8, _, _, (((st4.trans st5).trans st6).trans st7).trans st8, ew, h8, q2⟩
                · rw [if_neg cl] at q2; exact q2.elim
    · have ei : i = p.1.length := by omega
      subst ei
      refine .inl ⟨src.stop H2 _ rT, ?_⟩
      rw [List.drop_length] at q2
      replace q2 : ∀ v H' F', Stp F H F' H' → Hold K H' (putB ks p.2 (wipeE w2 vs)) s [.odc t ak av] [v] F' → Q v H' := q2
      have h8 := Hold.comm (ds := [.odc t ak av]) (vs := [.ref Da]) h3s rfl
      obtain ⟨F9, h9, sub9⟩ := Hold.putL2 h8 hlen lnk
      exact q2 _ H2 F9 ((st2.trans (Stp.refl sub3)).trans (Stp.refl sub9)) h9
theorem pp_dc {t : Bool} {kx vx tgE iter : Expr} {ifs : List Expr} {scope : Scope} {own : List (Str × Nat)} {pos : Pos} {g : TG} {tg : Tgt} {c : PM Bool} {fk fv : PM D} {ks : List (Option Nat)} {it : PM (List D × List D)} (hu : X.A.units + 64 < cLine) (hc : X.calm = true) (hN : X.N.Nodup)
    (hi : PI X tgE iter (tI X.K X.mg Eh ks it)) (ok : BlkOk X.N X.env.scope scope own) (hr : TgR X.K g tg)
    (hg : ∀ (s : Shared) (H : Hp) (C : Addr) (cl : List (Str × Addr)) (fp : List Addr), PG (X.blk s H scope (compEnvC scope cl C X.env) fp) tgE g)
    (ht : ∀ (s : Shared) (H : Hp) (C : Addr) (cl : List (Str × Addr)) (fp : List Addr), PTs (X.blk s H scope (compEnvC scope cl C X.env) fp) ifs (tT X.K X.mg EhN c))
    (hk : ∀ (s : Shared) (H : Hp) (C : Addr) (cl : List (Str × Addr)) (fp : List Addr), PE (X.blk s H scope (compEnvC scope cl C X.env) fp) kx (tP X.K X.mg EhN fk))
    (he : ∀ (s : Shared) (H : Hp) (C : Addr) (cl : List (Str × Addr)) (fp : List Addr), PE (X.blk s H scope (compEnvC scope cl C X.env) fp) vx (tP X.K X.mg EhN fv))
    (hv : ∀ i ∈ wrT tg, i ∈ own.map (·.2) := by decide) (hs : ∀ x, foldedSetIterable iter X.env x = pure x := by intro _; rfl) : PE X (.DictComp kx vx [⟨tgE, iter, ifs, 0⟩] scope pos) (tP X.K X.mg Eh (xDc t ks it tg c fk fv (own.map (·.2)))) :=
  (pe_dcA (by omega) hc hN hi ok hg ht hk he hs).imp fun s H Q h => dcomp_imp hr hv h
theorem ss_setDc {t : Bool} {i : Nat} {y : Str} {py : Pos} {kx vx tgE iter : Expr} {ifs : List Expr} {scope : Scope} {own : List (Str × Nat)} {pos spos : Pos} {g : TG} {tg : Tgt} {c : PM Bool} {fk fv : PM D} {ks : List (Option Nat)} {it : PM (List D × List D)} (hu : X.A.units + 64 < cLine) (hc : X.calm = true) (hN : X.N.Nodup) (hy : X.N[i]? = some y) (hyl : X.env.scope.names.lookup y = some .local)
    (hsw : swapsWith (.DictComp kx vx [⟨tgE, iter, ifs, 0⟩] scope pos) (some (.Name y py)) spos.line X.env = pure true) (hi : PI X tgE iter (tI X.K X.mg Eh ks it)) (ok : BlkOk X.N X.env.scope scope own) (hr : TgR X.K g tg)
    (hg : ∀ (s : Shared) (H : Hp) (C : Addr) (cl : List (Str × Addr)) (fp : List Addr), PG (X.blk s H scope (compEnvC scope cl C X.env) fp) tgE g)
    (ht : ∀ (s : Shared) (H : Hp) (C : Addr) (cl : List (Str × Addr)) (fp : List Addr), PTs (X.blk s H scope (compEnvC scope cl C X.env) fp) ifs (tT X.K X.mg EhN c))
    (hk : ∀ (s : Shared) (H : Hp) (C : Addr) (cl : List (Str × Addr)) (fp : List Addr), PE (X.blk s H scope (compEnvC scope cl C X.env) fp) kx (tP X.K X.mg EhN fk))
    (he : ∀ (s : Shared) (H : Hp) (C : Addr) (cl : List (Str × Addr)) (fp : List Addr), PE (X.blk s H scope (compEnvC scope cl C X.env) fp) vx (tP X.K X.mg EhN fv))
    (hv : ∀ i ∈ wrT tg, i ∈ own.map (·.2) := by decide) (hs : ∀ x, foldedSetIterable iter X.env x = pure x := by intro _; rfl) : PS X (.Assign [.Name y py] (.DictComp kx vx [⟨tgE, iter, ifs, 0⟩] scope pos) spos) (tS X.K X.mg Eh [i] (sSet i (xDc t ks it tg c fk fv (own.map (·.2))))) :=
  (ps_setDcA (by omega) hc hN hy hyl hsw hi ok hg ht hk he hs).imp fun E s H h => by
    have q := set_imp h
    exact dcomp_imp hr hv q
end
end Pm

set_option autoImplicit false
namespace Pm
open PySem PySem.Spec L2 PyProof.Rows
variable {u0 : Unit} [Tab0 u0]
/-! ### order: ints, tuples of ints -/
/-- xs < ys -/
def ltL : List Int → List Int → Bool
  | [], [] => false
  | [], _ :: _ => true
  | _ :: _, [] => false
  | x :: xs, y :: ys => if x = y then ltL xs ys else decide (x < y)
theorem ltL_kit : ∀ xs ys : List Int, HT.lexLt xs ys = ltL xs ys
  | [], [] => rfl
  | [], _ :: _ => rfl
  | _ :: _, [] => rfl
  | x :: xs, y :: ys => by
    rw [HT.lexLt_cons]
    show _ = if x = y then ltL xs ys else decide (x < y)
    rw [ltL_kit xs ys]
/-- the kit's words by place -/
theorem lexAt_tail (e r : Nat → Bool) (z : Bool) : ∀ (k i : Nat), Ob.lexAt e r z (i + 1) k = Ob.lexAt (fun j => e (j + 1)) (fun j => r (j + 1)) z i k
  | 0, i => rfl
  | k + 1, i => by
    rw [Ob.lexAt_succ, Ob.lexAt_succ, lexAt_tail e r z k (i + 1)]
theorem le_kit : ∀ ns ms : List Int, Ob.lexAt (fun j => decide (ns.getD j 0 = ms.getD j 0)) (fun j => decide (ns.getD j 0 ≤ ms.getD j 0)) (decide (ns.length ≤ ms.length)) 0 (min ns.length ms.length) = !ltL ms ns
  | [], [] => rfl
  | [], _ :: _ => by simp [ltL, Ob.lexAt]
  | _ :: _, [] => by simp [ltL, Ob.lexAt]
  | x :: xs, y :: ys => by
    have e : min (x :: xs).length (y :: ys).length = min xs.length ys.length + 1 := by simp <;> omega
    rw [e, Ob.lexAt_succ, lexAt_tail]
    have ih := le_kit xs ys
    have e2 : (decide ((x :: xs).length ≤ (y :: ys).length)) = decide (xs.length ≤ ys.length) := by simp
    rw [e2]
    show (if decide (x = y) = true then _ else decide (x ≤ y)) = !(if y = x then ltL ys xs else decide (y < x))
    by_cases h : x = y
    · rw [if_pos (decide_eq_true h), if_pos h.symm]; exact ih
    · rw [if_neg (by simpa using h), if_neg (fun z => h z.symm)]
      by_cases h2 : x ≤ y
      · simp [h2]
      · simp [h2]; omega
theorem gt_kit : ∀ ns ms : List Int, Ob.lexAt (fun j => decide (ns.getD j 0 = ms.getD j 0)) (fun j => decide (ms.getD j 0 < ns.getD j 0)) (decide (ms.length < ns.length)) 0 (min ns.length ms.length) = ltL ms ns
  | [], [] => rfl
  | [], _ :: _ => by simp [ltL, Ob.lexAt]
  | _ :: _, [] => by simp [ltL, Ob.lexAt]
  | x :: xs, y :: ys => by
    have e : min (x :: xs).length (y :: ys).length = min xs.length ys.length + 1 := by simp <;> omega
    rw [e, Ob.lexAt_succ, lexAt_tail]
    have ih := gt_kit xs ys
    have e2 : (decide ((y :: ys).length < (x :: xs).length)) = decide (ys.length < xs.length) := by simp
    rw [e2]
    show (if decide (x = y) = true then _ else decide (y < x)) = (if y = x then ltL ys xs else decide (y < x))
    by_cases h : x = y
    · rw [if_pos (decide_eq_true h), if_pos h.symm]; exact ih
    · rw [if_neg (by simpa using h), if_neg (fun z => h z.symm)]
theorem ge_kit : ∀ ns ms : List Int, Ob.lexAt (fun j => decide (ns.getD j 0 = ms.getD j 0)) (fun j => decide (ms.getD j 0 ≤ ns.getD j 0)) (decide (ms.length ≤ ns.length)) 0 (min ns.length ms.length) = !ltL ns ms
  | [], [] => rfl
  | [], _ :: _ => by simp [ltL, Ob.lexAt]
  | _ :: _, [] => by simp [ltL, Ob.lexAt]
  | x :: xs, y :: ys => by
    have e : min (x :: xs).length (y :: ys).length = min xs.length ys.length + 1 := by simp <;> omega
    rw [e, Ob.lexAt_succ, lexAt_tail]
    have ih := ge_kit xs ys
    have e2 : (decide ((y :: ys).length ≤ (x :: xs).length)) = decide (ys.length ≤ xs.length) := by simp
    rw [e2]
    show (if decide (x = y) = true then _ else decide (y ≤ x)) = !(if x = y then ltL xs ys else decide (x < y))
    by_cases h : x = y
    · rw [if_pos (decide_eq_true h), if_pos h]; exact ih
    · rw [if_neg (by simpa using h), if_neg h]
      by_cases h2 : y ≤ x
      · simp [h2]
      · simp [h2]; omega
/-- an order of int tuples by its word on lists -/
def rTT (K : PySem.W.Frag) (g : List Int → List Int → Bool) : R2 := fun x y H Q => ∃ a b ns ms, x = .ref a ∧ y = .ref b ∧ SqT K H a (ns.map V.int) ∧ SqT K H b (ms.map V.int) ∧ Q (.bl (g ns ms)) H
def dTT (g : List Int → List Int → Bool) (o : D → D → Option D) (x y : D) : Option D := match x, y with
  | .tup xs, .tup ys => match intsD xs, intsD ys with
    | some ns, some ms => some (.bl (g ns ms))
    | _, _ => none
  | x, y => o x y
section
variable {X : Cx}
theorem two_tup {pins : List (Addr × Obj)} {σ : L2.St} {H : Hp} {s : Shared} {a b : Addr} {ns ms : List Int} {op : CmpOp} {r : Nat → Bool} {z : Bool} {Q : VK} (I : Inv X pins σ H s) (ha : SqT X.K H a (ns.map V.int)) (hb : SqT X.K H b (ms.map V.int)) (hu : X.A.units < cLine)
    (rc : ∀ (x y : Int) (t u : Tok) (j : Nat), x = ns.getD j 0 → y = ms.getD j 0 → Ob.RcOp op X.A.in1 s (.int x t) (.int y u) (r j))
    (R : ∀ {l b : Addr} {items items2 : Array Value} {e : Nat → Bool}, s.heap.IsTuple l items → s.heap.IsTuple b items2 → X.A.units < cLine → (∀ j (h1 : j < items.size) (h2 : j < items2.size), SeqAt.EqAt X.A.in1 s items[j] items2[j] (e j)) →
      (∀ j (h1 : j < items.size) (h2 : j < items2.size), e j = false → Ob.RcOp op X.A.in1 s items[j] items2[j] (r j)) → items.size = ns.length → items2.size = ms.length → Ob.RcOp op X.A s (.ref l) (.ref b) (Ob.lexAt e r z 0 (min items.size items2.size)))
    (q : Q (.bl (Ob.lexAt (fun j => decide (ns.getD j 0 = ms.getD j 0)) r z 0 (min ns.length ms.length))) H) : wpAny (model X.prog X.w) X.A (richCompare op (.ref a) (.ref b)) (EP X pins σ Q) X.xe s := by
  obtain ⟨its, r1, p1, _⟩ := I.tuple ha
  obtain ⟨its2, r2, p2, _⟩ := I.tuple hb
  have i1 : IntsAre its ns := Vals.ints r1
  have i2 : IntsAre its2 ms := Vals.ints r2
  have e1 : its.toArray.size = ns.length := by rw [List.size_toArray]; exact i1.length
  have e2 : its2.toArray.size = ms.length := by rw [List.size_toArray]; exact i2.length
  have at1 : ∀ j (h1 : j < its.toArray.size), ∃ t, its.toArray[j] = .int (ns.getD j 0) t := fun j h1 => PyProof.Rows.IntsAre.int_at i1 _ _ (by simp at h1; simp [h1])
  have at2 : ∀ j (h1 : j < its2.toArray.size), ∃ t, its2.toArray[j] = .int (ms.getD j 0) t := fun j h1 => PyProof.Rows.IntsAre.int_at i2 _ _ (by simp at h1; simp [h1])
  have RR := R (e := fun j => decide (ns.getD j 0 = ms.getD j 0)) p1 p2 hu (fun j h1 h2 => by
    obtain ⟨t, et⟩ := at1 j h1
    obtain ⟨t', et'⟩ := at2 j h2
    rw [et, et']
    have z : (ns.getD j 0 == ms.getD j 0) = decide (ns.getD j 0 = ms.getD j 0) := by
      rw [Bool.eq_iff_iff]; simp
    rw [← z]
    exact SeqAt.EqAt.int_int _ _ _ _) (fun j h1 h2 _ => by
    obtain ⟨t, et⟩ := at1 j h1
    obtain ⟨t', et'⟩ := at2 j h2
    rw [et, et']
    exact rc _ _ _ _ j rfl rfl) e1 e2
  rw [e1, e2] at RR
  exact RR X.prog X.w X.xe (EP X pins σ Q) ⟨.bl _, H, I, rfl, q⟩
theorem op_tt_lt (hu : X.A.units + 64 < cLine) : OpR X (compareOp .Lt) (rTT X.K ltL) := by
  intro pins s σ H x y v u Q I rx ry h
  obtain ⟨a, b, ns, ms, rfl, rfl, ha, hb, q⟩ := h
  exact op_ltT (by omega) pins s σ H _ _ v u Q I rx ry ⟨a, b, ns, ms, rfl, rfl, ha, hb, by rw [ltL_kit]; exact q⟩
theorem op_tt_le (hu : X.A.units + 64 < cLine) : OpR X (compareOp .LtE) (rTT X.K fun a b => !ltL b a) := by
  intro pins s σ H x y v u Q I rx ry h
  obtain ⟨a, b, ns, ms, rfl, rfl, ha, hb, q⟩ := h
  exact op_leT (by omega) pins s σ H _ _ v u Q I rx ry ⟨a, b, ns, ms, rfl, rfl, ha, hb, by rw [le_kit]; exact q⟩
theorem op_tt_gt (hu : X.A.units + 64 < cLine) : OpR X (compareOp .Gt) (rTT X.K fun a b => ltL b a) := by
  intro pins s σ H x y v u Q I rx ry h
  obtain ⟨a, b, ns, ms, rfl, rfl, ha, hb, q⟩ := h
  cases rx; cases ry
  exact two_tup (op := .Gt) (r := fun j => decide (ms.getD j 0 < ns.getD j 0)) (z := decide (ms.length < ns.length)) I ha hb (by omega) (fun x y t u j ex ey => by subst ex; subst ey; exact Ob.RcOp.gt_int _ _ _ _)
    (fun hl hb hu he hr e1 e2 => by have := Ob.RcOp.tuples_gt hl hb hu he hr; rw [← e1, ← e2]; exact this) (by rw [gt_kit]; exact q)
theorem op_tt_ge (hu : X.A.units + 64 < cLine) : OpR X (compareOp .GtE) (rTT X.K fun a b => !ltL a b) := by
  intro pins s σ H x y v u Q I rx ry h
  obtain ⟨a, b, ns, ms, rfl, rfl, ha, hb, q⟩ := h
  cases rx; cases ry
  exact two_tup (op := .GtE) (r := fun j => decide (ms.getD j 0 ≤ ns.getD j 0)) (z := decide (ms.length ≤ ns.length)) I ha hb (by omega) (fun x y t u j ex ey => by subst ex; subst ey; exact Ob.RcOp.ge_int _ _ _ _)
    (fun hl hb hu he hr e1 e2 => by have := Ob.RcOp.tuples_ge hl hb hu he hr; rw [← e1, ← e2]; exact this) (by rw [ge_kit]; exact q)
theorem opR_or {f : Value → Value → Sem Value} {r r' : R2} (h : OpR X f r) (h' : OpR X f r') : OpR X f (fun x y H Q => r x y H Q ∨ r' x y H Q) := fun pins s σ H x y v u Q I rx ry z => z.elim (h pins s σ H x y v u Q I rx ry) (h' pins s σ H x y v u Q I rx ry)
theorem op_ltA (hu : X.A.units + 64 < cLine) : OpR X (compareOp .Lt) (fun x y H Q => (rI0 fun i j => .bl (decide (i < j))) x y H Q ∨ rTT X.K ltL x y H Q) := opR_or (op_lt (X := X)) (op_tt_lt hu)
theorem op_leA (hu : X.A.units + 64 < cLine) : OpR X (compareOp .LtE) (fun x y H Q => (rI0 fun i j => .bl (decide (i ≤ j))) x y H Q ∨ rTT X.K (fun a b => !ltL b a) x y H Q) := opR_or (op_le (X := X)) (op_tt_le hu)
theorem op_gtA (hu : X.A.units + 64 < cLine) : OpR X (compareOp .Gt) (fun x y H Q => (rI0 fun i j => .bl (decide (j < i))) x y H Q ∨ rTT X.K (fun a b => ltL b a) x y H Q) := opR_or (op_gt (X := X)) (op_tt_gt hu)
theorem op_geA (hu : X.A.units + 64 < cLine) : OpR X (compareOp .GtE) (fun x y H Q => (rI0 fun i j => .bl (decide (j ≤ i))) x y H Q ∨ rTT X.K (fun a b => !ltL a b) x y H Q) := opR_or (op_ge (X := X)) (op_tt_ge hu)
end
section
variable {K : PySem.W.Frag} {H : Hp}
theorem intT_rv : ∀ {is : List Int} {vs : List V} {f : List Addr}, RVs K H (is.map D.int) vs f → vs = is.map V.int
  | [], vs, f, r => r.1
  | i :: is, vs, f, r => by
    obtain ⟨v', r', g, g', e1, q, q2, e2⟩ := r
    rw [e1, q.1, intT_rv q2]; rfl
theorem ro_tt {g : List Int → List Int → Bool} {r : R2} {o : D → D → Option D} (ho : Ro2 K r o) : Ro2 K (fun x y H Q => r x y H Q ∨ rTT K g x y H Q) (dTT g o) := fun H x y dx dy fx fy z Q rx ry e q => by
  have other : o dx dy = some z → r x y H Q ∨ rTT K g x y H Q := fun e => .inl (ho H x y dx dy fx fy z Q rx ry e q)
  cases dx with
  | tup xs =>
    cases dy with
    | tup ys =>
      replace e : (match intsD xs, intsD ys with
        | some ns, some ms => some (D.bl (g ns ms))
        | _, _ => none) = some z := e
      cases e1 : intsD xs with
      | none => rw [e1] at e; cases e
      | some ns =>
        cases e2 : intsD ys with
        | none => rw [e1, e2] at e; cases e
        | some ms =>
          rw [e1, e2] at e
          cases e
          obtain ⟨a, vs, ea, qa, ra⟩ := rx
          obtain ⟨b, us, eb, qb, rb⟩ := ry
          rw [intsD_some e1] at ra
          rw [intsD_some e2] at rb
          have h1 := intT_rv ra
          have h2 := intT_rv rb
          subst h1; subst h2
          exact .inr ⟨a, b, ns, ms, ea, eb, .inl (.inl qa), .inl (.inl qb), q _ _ (.plain ⟨rfl, rfl⟩)⟩
    | _ => exact other e
  | _ => exact other e
abbrev dLtA := dTT ltL dLt
abbrev dLeA := dTT (fun a b => !ltL b a) dLe
abbrev dGtA := dTT (fun a b => ltL b a) dGt
abbrev dGeA := dTT (fun a b => !ltL a b) dGe
theorem ro_ltA : Ro2 K (fun x y H Q => (rI0 fun i j => .bl (decide (i < j))) x y H Q ∨ rTT K ltL x y H Q) dLtA := ro_tt ro_lt
theorem ro_leA : Ro2 K (fun x y H Q => (rI0 fun i j => .bl (decide (i ≤ j))) x y H Q ∨ rTT K (fun a b => !ltL b a) x y H Q) dLeA := ro_tt ro_le
theorem ro_gtA : Ro2 K (fun x y H Q => (rI0 fun i j => .bl (decide (j < i))) x y H Q ∨ rTT K (fun a b => ltL b a) x y H Q) dGtA := ro_tt ro_gt
theorem ro_geA : Ro2 K (fun x y H Q => (rI0 fun i j => .bl (decide (j ≤ i))) x y H Q ∨ rTT K (fun a b => !ltL a b) x y H Q) dGeA := ro_tt ro_ge
/-! ### | -/
def dOr : D → D → Option D := dI fun i j => some (.int (Builtin.bitOr i j))
theorem ro_or : Ro2 K (rI0 fun i j => .int (Builtin.bitOr i j)) dOr := fun H x y dx dy fx fy z Q rx ry e q => by
  obtain ⟨i, j, e1, e2, e3⟩ := dI_some e
  subst e1; subst e2; cases e3
  exact ⟨i, j, rx.1, ry.1, q _ _ (.plain ⟨rfl, rfl⟩)⟩
end
end Pm

set_option autoImplicit false
namespace Pm
open PySem PySem.Spec L2 PyProof.Rows PySem.SeqAt
variable {u0 : Unit} [Tab0 u0]
open PySem.AutoSeq1 (wpAny_loadPart')
/-! ### e[::-1] -/
section
variable {prog : Program} {w : World} {A : Around} {E : Value → Shared → Prop} {s : Shared}
theorem sliceApplied_rev {sl : Addr} {n : Nat} {t : Tok} {Q : Int × Int × Nat → Shared → Prop} (hs : s.heap.IsSliceOf sl .none .none (.int (-1) t)) (h : Q ((n : Int) - 1, -1, n) s) :
    wpAny (model prog w) A (Builtin.Slice.sliceApplied (.ref sl) (pure (n : Int))) Q E s := by
  obtain ⟨os, hos, hcs, hds⟩ := id hs
  unfold Builtin.Slice.sliceApplied Builtin.Slice.sliceFields
  refine wpAny_bind (wpAny_bind (wpAny_field hos hds (x := .none) rfl (wpAny_bind (wpAny_field hos hds (x := .none) rfl (wpAny_bind (wpAny_field hos hds (x := .int (-1) t) rfl (wpAny_pure ?_)))))))
  refine wpAny_bind (PyProof.Rows.slicePart_int ?_)
  show wpAny _ _ (if ((-1 : Int) == 0) = true then _ else _) _ _ s
  rw [if_neg (by decide)]
  refine wpAny_bind (PyProof.Rows.slicePart_none (wpAny_bind (PyProof.Rows.slicePart_none (wpAny_bind (wpAny_pure ?_)))))
  have e : Builtin.Slice.slicePlaces ((n : Int) - 1) (-1) (-1) = n := by
    unfold Builtin.Slice.slicePlaces
    rw [if_neg (by decide)]
    by_cases c : (n : Int) - 1 > -1
    · rw [if_pos c]
      have : ((n : Int) - 1 - -1 - 1) / (- -1) + 1 = n := by
        rw [show (- -1 : Int) = 1 by decide, Int.ediv_one]; omega
      rw [this]; rfl
    · rw [if_neg c]
      have : n = 0 := by omega
      subst this; rfl
  show wpAny _ _ (pure ((n : Int) - 1, (-1 : Int), Builtin.Slice.slicePlaces ((n : Int) - 1) (-1) (-1))) _ _ s
  rw [e]
  exact wpAny_pure h
theorem pick_rev (xs : Array Value) : ((List.range xs.size).filterMap fun (m : Nat) => xs[((xs.size : Int) - 1 + (m : Int) * -1).toNat]?).toArray = xs.toList.reverse.toArray := by
  congr 1
  refine List.ext_getElem? fun i => ?_
  have hf : (List.range xs.size).filterMap (fun (m : Nat) => xs[((xs.size : Int) - 1 + (m : Int) * -1).toNat]?) = (List.range xs.size).map fun m => xs.getD (xs.size - 1 - m) .none := by
    have all : ∀ l : List Nat, (∀ m ∈ l, m < xs.size) → l.filterMap (fun (m : Nat) => xs[((xs.size : Int) - 1 + (m : Int) * -1).toNat]?) = l.map fun m => xs.getD (xs.size - 1 - m) .none := by
      intro l
      induction l with
      | nil => intro _; rfl
      | cons m l ih =>
        intro hl
        have hm := hl m List.mem_cons_self
        have e : ((xs.size : Int) - 1 + (m : Int) * -1).toNat = xs.size - 1 - m := by omega
        have hk : xs.size - 1 - m < xs.size := by omega
        rw [List.filterMap_cons, List.map_cons, ih fun k hk => hl k (List.mem_cons_of_mem _ hk), e]
        simp [hk]
    exact all _ fun m hm => List.mem_range.mp hm
  rw [hf, List.getElem?_map]
  by_cases h : i < xs.size
  · rw [List.getElem?_range h, List.getElem?_reverse (by simpa using h)]
    have hl : xs.size - 1 - i < xs.size := by omega
    simp [hl]
  · rw [List.getElem?_eq_none (by simpa using h), List.getElem?_eq_none (by simpa using h)]; rfl
theorem getItem_tuple_rev {t sl : Addr} {items : Array Value} {tk : Tok} {Q : Value → Shared → Prop} (ht : IsTup s.heap t items) (hs : s.heap.IsSliceOf sl .none .none (.int (-1) tk))
    (h : Q (.ref s.heap.objs.size) { s with heap := s.heap.push { cls := .type "tuple", data := .seq items.toList.reverse.toArray } }) (hsz : items.size ≤ sizeLine) : wpAny (model prog w) A (getItem (.ref t) (.ref sl)) Q E s := by
  have hrev : sizeOk (.seq items.toList.reverse.toArray) := by
    show items.toList.reverse.toArray.size ≤ sizeLine
    rw [List.size_toArray, List.length_reverse, Array.length_toList]
    exact hsz
  obtain ⟨os, hos, hcs, hds⟩ := id hs
  have hTs : s.TypeIs (.ref sl) "slice" := ⟨os, hos, hcs⟩
  unfold getItem
  try with_reducible refine wpAny_holding ?_
  first | refine wpAny_bind (wpAny_pure ?_) | skip
  refine wpAny_bind (wpAny_sequenceKey ht.typeIs (by decide) ?_)
  refine wpAny_bind (wpAny_callSpecial?_slot (name := Str.ofString "__getitem__") ht.typeIs PyProof.Rows.slot_tuple_getitem
    (wpAny_call_entry PyProof.Rows.slot_tuple_getitem ht.typeIs entry_tuple_getitem ?_ (args_tuple_getitem _ _)))
  show wpAny _ _ (Builtin.Tuple.tupleItemsOf (.ref t) >>= _) _ _ s
  refine wpAny_bind (tupleItemsOf_ ht ?_)
  refine wpAny_bind (wpAny_typeOf hTs ?_)
  rw [if_pos (by decide)]
  refine wpAny_bind (sliceApplied_rev hs ?_)
  show wpAny _ _ (if (((items.size : Int) - 1) == 0 && (-1 : Int) == 1 && items.size == items.size) = true then _ else _) _ _ s
  rw [if_neg (by simp), pick_rev]
  first
    | exact wpAny_bind (m := Builtin.Tuple.tupleExact _) (wpAny_newObj_type (wpAny_pure ⟨_, rfl, wpAny_pure h⟩) hrev)
    | exact wpAny_bind (m := Builtin.Tuple.tupleExact _) (wpAny_newObj_type (wpAny_bind (wpAny_pure (wpAny_pure ⟨_, rfl, wpAny_pure h⟩))) hrev)
    | exact wpAny_bind (wpAny_bind (m := Builtin.Tuple.tupleExact _) (wpAny_newObj_type (wpAny_pure (wpAny_pure ⟨_, rfl, wpAny_pure h⟩)) hrev))
    | exact wpAny_bind (wpAny_bind (m := Builtin.Tuple.tupleExact _) (wpAny_newObj_type (wpAny_pure ⟨_, rfl, wpAny_pure h⟩) hrev))
end
/-- e[::-1] -/
def tRevA (K : PySem.W.Frag) (te : TE) : TE := fun σ H Q => te σ H fun x H1 => ∃ a xs, x = .ref a ∧ ((SqL K H1 a xs ∧ ∀ p, H1 p = none → Q (.ref p) (upd H1 p (.lst xs.reverse))) ∨ (SqT K H1 a xs ∧ ∀ p, H1 p = none → Q (.ref p) (upd H1 p (.tup xs.reverse))))
section
variable {X : Cx} {Eh : WX}
theorem pe_revA {e : Expr} {te : TE} {k : Nat} {p1 p2 p3 pos : Pos} (he : PE X e te) : PE X (.Subscript e (.Slice none none (some (.UnaryOp .USub (.Constant (.int 1) k p1) p2)) p3) pos) (tRevA X.K te) := by
  refine ⟨fun pins s σ H Q I h => ?_⟩
  refine Subscript_ (thn (he.run pins s σ H _ I h) fun v s1 ⟨x, H1, I1, r1, q1⟩ => ?_)
  obtain ⟨a, xs, ex, hx⟩ := q1
  subst ex
  cases r1
  have hst : PO X (some (.UnaryOp .USub (.Constant (.int 1) k p1) p2)) (tPart (tUn (rU fun i => .int (-i)) (tC (.int 1)))) := po_some (pe_un un_neg pe_int)
  refine wpAny_Slice (thn (po_none.run pins s1 σ H1 (fun o H2 => o = none ∧ H2 = H1) I1 ⟨rfl, rfl⟩) fun vl s2 ⟨l, H2, I2, pl, el, e2⟩ => ?_)
  subst el e2
  refine thn (po_none.run pins s2 σ H2 (fun o H3 => o = none ∧ H3 = H2) I2 ⟨rfl, rfl⟩) fun vu s3 ⟨u, H3, I3, pu, eu, e3⟩ => ?_
  subst eu e3
  refine thn (hst.run pins s3 σ H3 (fun o H4 => o = some (-1) ∧ H4 = H3) I3 ⟨1, rfl, -1, rfl, rfl, rfl⟩) fun vs s4 ⟨o, H4, I4, ps, eo, e4⟩ => ?_
  subst eo e4
  have I5 : Inv X pins σ H4 { s4 with heap := s4.heap.push { cls := .type "slice", data := .fields #[vl, vu, vs] } } := I4.kept (t' := s4.toks) fun b ob q => Heap.get?_push_of_some _ q
  show wpAny (model X.prog X.w) X.A (subscriptTail e (.Slice none none (some (.UnaryOp .USub (.Constant (.int 1) k p1) p2)) p3) (.ref a) (.ref s4.heap.objs.size)) (EP X pins σ Q) X.xe { s4 with heap := s4.heap.push { cls := .type "slice", data := .fields #[vl, vu, vs] } }
  rcases hx with ⟨hx, q⟩ | ⟨hx, q⟩
  · obtain ⟨its, r, ht, hz⟩ := I5.list hx
    have hlen := r.length
    refine tail_any (ops := [.ref a, .ref s4.heap.objs.size]) ht.isList.typeIs (PySem.slot_list_getitem.lookup) ?_ (by with_unfolding_all rfl)
    refine wpAny_getItem_list_slice ht.isList (Heap.IsSliceOf.new _ vl vu vs) pl pu ps (by decide) ?_ (by rw [List.size_toArray]; omega)
    rw [PySem.W.krv_pick]
    refine ⟨.ref _, _, I5.laid (t' := s4.toks) (o := .lst xs.reverse) (fun b ob q => Heap.get?_push_of_some _ q) (Nat.le_refl _) ?_, rfl, q _ (I5.hok.fresh (Nat.le_refl _))⟩
    exact ⟨by rw [List.length_reverse]; exact hz, _, 0, r.reverse, Heap.get?_push_size _ rfl⟩
  · obtain ⟨its, r, ht, hz⟩ := I5.tuple hx
    have hlen := r.length
    cases pl
    cases pu
    cases ps
    refine tail_any (ops := [.ref a, .ref s4.heap.objs.size]) ht.typeIs (PyProof.Rows.slot_tuple_getitem.lookup) ?_ (by with_unfolding_all rfl)
    refine getItem_tuple_rev ht (Heap.IsSliceOf.new _ _ _ _) ?_ (by rw [List.size_toArray]; omega)
    refine ⟨.ref _, _, I5.laid (t' := s4.toks) (o := .tup xs.reverse) (fun b ob q => Heap.get?_push_of_some _ q) (Nat.le_refl _) ?_, rfl, q _ (I5.hok.fresh (Nat.le_refl _))⟩
    exact ⟨by rw [List.length_reverse]; exact hz, _, r.reverse, IsTup.new _ _⟩
def dRev : D → Option D
  | .tup xs => if pls xs = true then some (.tup xs.reverse) else none
  | .lst xs => if pls xs = true then some (.own xs.reverse) else none
  | .own xs => if pls xs = true then some (.own xs.reverse) else none
  | _ => none
def rRev (K : PySem.W.Frag) : V → Hp → VK → Prop := fun x H1 Q => ∃ a xs, x = .ref a ∧ ((SqL K H1 a xs ∧ ∀ p, H1 p = none → Q (.ref p) (upd H1 p (.lst xs.reverse))) ∨ (SqT K H1 a xs ∧ ∀ p, H1 p = none → Q (.ref p) (upd H1 p (.tup xs.reverse))))
theorem rvs_rev {K : PySem.W.Frag} {H : Hp} : ∀ {ds : List D} {vs : List V}, RVs K H ds vs [] → RVs K H ds.reverse vs.reverse []
  | [], vs, r => by rw [r.1]; exact ⟨rfl, rfl⟩
  | d :: ds, vs, r => by
    obtain ⟨v', r', g, g', e1, q, q2, e2⟩ := r
    obtain ⟨g1, g2⟩ := List.nil_eq_append_iff.mp e2
    subst e1; subst g1; subst g2
    rw [List.reverse_cons, List.reverse_cons]
    exact RVs.append (f := []) (g := []) (rvs_rev q2) (RVs.one q)
theorem new_lstV {K : PySem.W.Frag} {H : Hp} {ds : List D} {vs : List V} {p : Addr} (r : RVs K H ds vs []) (n : H p = none) : NewV K H (upd H p (.lst vs)) (.own ds) (.ref p) := by
  have k : Kp [] H (upd H p (.lst vs)) := .new n
  exact ⟨k, [p], ⟨p, vs, [], rfl, upd_same, RVs.kp k (fun _ z => nomatch z) _ _ _ (fun _ z => nomatch z) r, rfl⟩, List.nodup_cons.mpr ⟨List.not_mem_nil, .nil⟩, fun a m => by
    have e : a = p := by simpa using m
    rw [e]; exact n⟩
theorem new_tupV {K : PySem.W.Frag} {H : Hp} {ds : List D} {vs : List V} {p : Addr} (r : RVs K H ds vs []) (n : H p = none) : NewV K H (upd H p (.tup vs)) (.tup ds) (.ref p) := by
  have k : Kp [] H (upd H p (.tup vs)) := .new n
  exact ⟨k, [], ⟨p, vs, rfl, upd_same, RVs.kp k (fun _ z => nomatch z) _ _ _ (fun _ z => nomatch z) r⟩, .nil, fun _ z => nomatch z⟩
theorem ro_rev {K : PySem.W.Frag} : Ro1 K (rRev K) dRev := fun H x dx fx z Q rx e q => by
  cases dx with
  | tup xs =>
    replace e : (if pls xs = true then some (D.tup xs.reverse) else none) = some z := e
    by_cases c : pls xs = true
    · rw [if_pos c] at e; cases e
      obtain ⟨a, vs, ea, qa, ra⟩ := rx
      exact ⟨a, vs, ea, .inr ⟨.inl (.inl qa), fun p n => q _ _ (new_tupV (rvs_rev (ra.nil_of c)) n)⟩⟩
    · rw [if_neg c] at e; cases e
  | lst xs =>
    replace e : (if pls xs = true then some (D.own xs.reverse) else none) = some z := e
    by_cases c : pls xs = true
    · rw [if_pos c] at e; cases e
      obtain ⟨a, vs, ea, qa, ra, _⟩ := rx
      exact ⟨a, vs, ea, .inl ⟨qa.sq, fun p n => q _ _ (new_lstV (rvs_rev ra) n)⟩⟩
    · rw [if_neg c] at e; cases e
  | own xs =>
    replace e : (if pls xs = true then some (D.own xs.reverse) else none) = some z := e
    by_cases c : pls xs = true
    · rw [if_pos c] at e; cases e
      obtain ⟨a, vs, f, ea, qa, ra, _⟩ := rx
      exact ⟨a, vs, ea, .inl ⟨.of qa, fun p n => q _ _ (new_lstV (rvs_rev (ra.nil_of c)) n)⟩⟩
    · rw [if_neg c] at e; cases e
  | _ => cases e
variable {e : Expr} {f : PM D} {q : Ev → Option D} {k : Nat} {p1 p2 p3 pos : Pos}
theorem rev_g (he : PE X e (tP X.K X.mg Eh f)) : PE X (.Subscript e (.Slice none none (some (.UnaryOp .USub (.Constant (.int 1) k p1) p2)) p3) pos) (tP X.K X.mg Eh (x1g dRev f)) := (pe_revA he).imp fun _ _ _ h => imp1g ro_rev h
theorem rev_p (he : PE X e (tB X.K q)) : PE X (.Subscript e (.Slice none none (some (.UnaryOp .USub (.Constant (.int 1) k p1) p2)) p3) pos) (tP X.K X.mg Eh (x1p dRev q)) := (pe_revA he).imp fun _ _ _ h => imp1p ro_rev h
end
end Pm

set_option autoImplicit false
namespace Pm
open PySem PySem.Spec L2 PyProof.Rows
variable {u0 : Unit} [Tab0 u0]
/-! ### x.index(e), x in slot j -/
def lstD : D → Option (List D)
  | .lst xs => some xs
  | .own xs => some xs
  | _ => none
def dIndex (x y : D) : Option D := (lstD x).bind fun xs => if shD x = true ∧ shD y = true then (xs.findIdx? fun z => PyData.eqv (toPy z) (toPy y)).map fun j => .int (j : Nat) else none
section
variable {X : Cx} {Eh : WX} {H : Hp} {F : List Addr} {s : L2.St} {o e : Expr} {apos cpos : Pos} {j : Nat} {f : PM D}
theorem toPys_get {ds : List D} {i : Nat} : (toPys ds)[i]? = (ds[i]?).map toPy := by rw [toPys_map, List.getElem?_map]
theorem ro_index {K : PySem.W.Frag} : Ro2 K (fun x y H Q => rIndexD K x [y] H Q) dIndex := fun H x y dx dy fx fy z Q rx ry e q => by
  obtain ⟨xs, h1, h2⟩ := Option.bind_eq_some_iff.mp e
  by_cases c : shD dx = true ∧ shD dy = true
  · rw [if_pos c] at h2
    obtain ⟨k, h3, h4⟩ := Option.map_eq_some_iff.mp h2
    subst h4
    have hx := dp_of dx x fx (SeqAt.canLay_of_shaped c.1) rx
    have hy := dp_of dy y fy (SeqAt.canLay_of_shaped c.2) ry
    obtain ⟨hk, h5, h6⟩ := List.findIdx?_eq_some_iff_getElem.mp h3
    have el : toPy dx = .list (toPys xs) := by
      cases dx <;> first
        | (cases h1; rfl)
        | cases h1
    obtain ⟨a, ea⟩ : ∃ a, x = V.ref a := by
      cases dx <;> first
        | (obtain ⟨a, _, ea, _⟩ := rx; exact ⟨a, ea⟩)
        | (obtain ⟨a, _, _, ea, _⟩ := rx; exact ⟨a, ea⟩)
        | cases h1
    subst ea
    rw [el] at hx
    refine ⟨a, y, toPy dy, toPys xs, k, toPy xs[k], rfl, rfl, hx, hy, by rw [← el]; exact c.1, c.2, by rw [toPys_get, List.getElem?_eq_getElem hk]; rfl, h5, fun m z' hm hz => ?_, q _ _ (.plain ⟨rfl, rfl⟩)⟩
    rw [toPys_get] at hz
    have hml : m < xs.length := by omega
    rw [List.getElem?_eq_getElem hml] at hz
    cases hz
    have := h6 m hm
    simpa using this
  · rw [if_neg c] at h2; cases h2
theorem lst_ty {K : PySem.W.Frag} {d : D} {xs : List D} {v : V} {f : List Addr} (h : lstD d = some xs) (r : RV K H d v f) : tyV K "list" v H := by
  cases d with
  | lst ys => obtain ⟨a, vs, ea, qa, _⟩ := r; subst ea; exact .inl ⟨rfl, vs, qa.sq⟩
  | own ys => obtain ⟨a, vs, g, ea, qa, _⟩ := r; subst ea; exact .inl ⟨rfl, vs, .of qa⟩
  | _ => cases h
/-- the receiver in a slot, one argument behind it -/
def xMe (op : D → D → Option D) (j : Nat) (f : PM D) : PM D := fun w => match (slot w j).bind lstD with
  | some _ => (f w).bind fun d w1 => back ((slot w1 j).bind fun x => op x d) w1
  | none => .bad
theorem pp_index (hu : X.A.units + 65 < cLine) (ho : PE X o (tV X.K j)) (ha : PE X e (tP X.K X.mg Eh f))
    (hbase : attributeBase o "index" X.env (eval o X.env) = eval o X.env := by rfl)
    (hfew : ((backTo cpos (starEach (e :: []) X.env)).all (fun x => !x.1) && (backToKw cpos (keywordEach [] X.env)).all (fun x => x.1.isSome)
      && decide ((e :: []).length + ([] : List Keyword).length + (if ([] : List Keyword).isEmpty then 0 else 1) < 30)) = true := by rfl)
    (hline : (apos.endLine == cpos.line) = true := by rfl) (hs : starEach (e :: []) X.env = (false, eval e X.env) :: starEach [] X.env := by rfl) (hplain : (backTo cpos (starEach [] X.env)).any (·.1) = false := by rfl) :
    PE X (.Call (.Attribute o "index" apos) [e] [] cpos) (tP X.K X.mg Eh (xMe dIndex j f)) :=
  (pe_bm PySem.F.plainAttrs_list PySem.F.slot_list_index PySem.F.type_list_index (mt_indexD hu) ho (pa_cons ha pa_nil hs) hbase hfew hline hs hplain).imp fun s H Q ⟨w, F, hold, q⟩ => by
    unfold xMe at q
    cases e0 : slot w j with
    | none => rw [e0] at q; exact q.elim
    | some d0 =>
      rw [e0] at q
      cases e1 : lstD d0 with
      | none =>
        replace q : Po X.K X.mg Eh H F s (match (some d0).bind lstD with
          | some _ => (f w).bind fun d w1 => back ((slot w1 j).bind fun x => dIndex x d) w1
          | none => Rs.bad) (fun d w' => ∀ v H' F', Stp F H F' H' → Hold X.K H' w' s [d] [v] F' → Q v H') := q
        rw [Option.bind_some, e1] at q
        exact q.elim
      | some xs0 =>
        replace q : Po X.K X.mg Eh H F s (match (some d0).bind lstD with
          | some _ => (f w).bind fun d w1 => back ((slot w1 j).bind fun x => dIndex x d) w1
          | none => Rs.bad) (fun d w' => ∀ v H' F', Stp F H F' H' → Hold X.K H' w' s [d] [v] F' → Q v H') := q
        rw [Option.bind_some, e1] at q
        refine tV_run hold e0 fun v0 f0 ej r0 _ => ?_
        refine ⟨lst_ty e1 r0, ?_⟩
        refine tP_run hold (Stp.refl fun _ m => m) q fun d w2 v H2 F2 e st h2 q2 => ?_
        obtain ⟨z, hz, q3⟩ := back_po q2
        obtain ⟨dd, hd, hz⟩ := Option.bind_eq_some_iff.mp hz
        obtain ⟨v2, f2, ej2, r2, _⟩ := h2.atSlot hd
        rw [ej] at ej2
        cases ej2
        obtain ⟨fy, ry, _⟩ := Hold.one h2
        exact ro_index H2 v0 v dd d f2 fy z Q r2 ry hz fun u H' n => fin_new q3 st h2 n
/-! ### x.remove(e), ints, x in slot j -/
def xRem (j : Nat) (f : PM D) : PM D := fun w => match (slot w j).bind ownD with
  | some _ => (f w).bind fun d w1 => match (slot w1 j).bind ownD, d with
    | some xs, .int k => match intsD xs with
      | some ns => if k ∈ ns then .ok .non (w1.set j (some (.own ((ns.erase k).map .int)))) else .bad
      | none => .bad
    | _, _ => .bad
  | none => .bad
theorem rvs_intL {K : PySem.W.Frag} : ∀ ns : List Int, RVs K H (ns.map D.int) (ns.map V.int) []
  | [] => ⟨rfl, rfl⟩
  | n :: ns => ⟨.int n, ns.map V.int, [], [], rfl, ⟨rfl, rfl⟩, rvs_intL ns, rfl⟩
theorem pp_rem (hc : X.calm = true) (tk : Takes X Eh) (ho : PE X o (tV X.K j)) (ha : PE X e (tP X.K X.mg Eh f))
    (hbase : attributeBase o "remove" X.env (eval o X.env) = eval o X.env := by rfl)
    (hfew : ((backTo cpos (starEach [e] X.env)).all (fun x => !x.1) && (backToKw cpos (keywordEach [] X.env)).all (fun x => x.1.isSome)
      && decide (([e] : List Expr).length + ([] : List Keyword).length + (if ([] : List Keyword).isEmpty then 0 else 1) < 30)) = true := by rfl)
    (hline : (apos.endLine == cpos.line) = true := by rfl) (hs : starEach [e] X.env = (false, eval e X.env) :: starEach [] X.env := by rfl) (hplain : (backTo cpos (starEach [] X.env)).any (·.1) = false := by rfl) :
    PE X (.Call (.Attribute o "remove" apos) [e] [] cpos) (tP X.K X.mg Eh (xRem j f)) :=
  (pe_remX hc tk ho ha hbase hfew hline hs hplain).imp fun s H Q ⟨w, F, hold, q⟩ => by
    unfold xRem at q
    cases e0 : (slot w j).bind ownD with
    | none => rw [e0] at q; exact q.elim
    | some xs0 =>
      rw [e0] at q
      refine tV_run hold (slotOwn e0) fun v0 f0 ej r0 _ => ?_
      refine ⟨lst_ty (xs := xs0) rfl r0, ?_⟩
      refine tP_run hold (Stp.refl fun _ m => m) q fun d w2 v H2 F2 e st h2 q2 => ?_
      cases e1 : (slot w2 j).bind ownD with
      | none => rw [e1] at q2; exact q2.elim
      | some xs =>
        rw [e1] at q2
        cases d with
        | int k =>
          dsimp only at q2
          cases e2 : intsD xs with
          | none => rw [e2] at q2; exact q2.elim
          | some ns =>
            rw [e2] at q2
            dsimp only at q2
            by_cases c : k ∈ ns
            · rw [if_pos c] at q2
              obtain ⟨fx, rx, _⟩ := Hold.one h2
              obtain ⟨F2', h2', sub2⟩ := h2.drop0
              obtain ⟨v', ej', h3⟩ := Hold.takeS (ds := []) (vs := []) h2' (slotOwn e1)
              rw [ej] at ej'
              cases ej'
              obtain ⟨a, us0, eja, _⟩ := own_at h2' (slotOwn e1)
              rw [ej] at eja
              cases eja
              obtain ⟨us, hu, hl, _, _, wrt⟩ := Hold.wr (xs' := xs) (us' := us0) h3
              have ex := intsD_some e2
              have eu : us = ns.map V.int := by
                obtain ⟨ft, fe, k1, _⟩ := h3
                obtain ⟨a', us', g, e5, q5, r5, _⟩ := k1.one'
                cases e5
                rw [hu] at q5
                cases q5
                rw [ex] at r5
                exact intT_rv r5
              subst eu
              refine ⟨a, ns, k, rfl, rx.1, hu, fun _ => ?_, fun n => absurd c n⟩
              obtain ⟨F4, h4, sub, st4⟩ := wrt ((ns.erase k).map D.int) ((ns.erase k).map V.int) fun H' kk ft f r1 r2 => ⟨[], rvs_intL _, f ++ ft, by rw [List.append_nil]⟩
              obtain ⟨F5, h5, sub5⟩ := Hold.putS h4 ej
              rw [List.set_set] at h5
              obtain ⟨ft, fe, k1, k2, pp, nd⟩ := h5
              have e0 : ft = [] := k1.2
              subst e0
              refine q2 .non _ F5 (((st.trans (Stp.refl sub2)).trans st4).trans (Stp.refl sub5)) ⟨[], fe, RVs.one ⟨rfl, rfl⟩, k2, pp, nd⟩
            · rw [if_neg c] at q2; exact q2.elim
        | _ => exact q2.elim
end
end Pm

set_option autoImplicit false
namespace Pm
open PySem PySem.Spec L2 PyProof.Rows PySem.W PySem.SeqAt
variable {u0 : Unit} [Tab0 u0]
/-! ### sorted over tuples of ints, the empty one among them -/
section
variable {prog : Program} {w : World} {A : Around} {E : Value → Shared → Prop} {s : Shared} {M : Model}
/-- each value a tuple: what the sort's first look sees -/
def TupsAt (h : Heap) : List Value → List (Option Value) → Prop
  | [], [] => True
  | v :: vs, f :: fs => (∃ a o xs n, v = .ref a ∧ h.get? a = some o ∧ o.cls = .type "tuple" ∧ o.data = .seq xs n ∧ xs[0]? = f) ∧ TupsAt h vs fs
  | _, _ => False
theorem tupsAt_firsts : ∀ (vs : List Value) (fs : List (Option Value)) {Q : List (Option Value) → Shared → Prop}, TupsAt s.heap vs fs → Q fs s → wpAny M A (vs.mapM firstOfTuple') Q E s
  | [], [], _, _, h => by rw [List.mapM_nil]; exact wpAny_pure h
  | [], _ :: _, _, t, _ => t.elim
  | _ :: _, [], _, t, _ => t.elim
  | v :: vs, f :: fs, Q, t, h => by
    obtain ⟨⟨a, o, xs, n, rfl, ho, hc, hd, hf⟩, t⟩ := t
    rw [List.mapM_cons]
    refine wpAny_bind ?_
    rw [kas_first_eq]
    refine wpAny_bind (Looks.here (show Looks M s.heap (typeOf (.ref a)) o.cls from (Looks.ld ho).andThen .now) ?_)
    rw [hc, if_neg (by first | decide | simp)]
    refine wpAny_bind (listItems_at ho hd (wpAny_pure ?_))
    rw [hf]
    exact wpAny_bind (tupsAt_firsts vs fs (Q := fun bs s' => wpAny M A (pure (f :: bs)) Q E s') t (wpAny_pure h))
theorem tupsAt_looks : ∀ {vs : List Value} {fs : List (Option Value)}, TupsAt s.heap vs fs → ∀ v ∈ vs, Looks M s.heap (typeOf v) (.type "tuple")
  | [], _, _, v, m => nomatch m
  | v :: vs, [], t, _, _ => t.elim
  | v :: vs, f :: fs, t, u, m => by
    obtain ⟨⟨a, o, xs, n, rfl, ho, hc, hd, hf⟩, t⟩ := t
    rcases List.mem_cons.mp m with e | m
    · subst e; exact hc ▸ (Looks.ld ho).andThen .now
    · exact tupsAt_looks t u m
/-- some tuple is empty: no order of tuples is taken -/
theorem tups_kind {vs : List Value} {fs : List (Option Value)} {Q : SortKind → Shared → Prop} (t : TupsAt s.heap vs fs) (hne : none ∈ fs) (h1 : (fs[0]?.bind id).isSome = true → Q general' s) (h2 : (fs[0]?.bind id).isSome = false → Q oneType' s) :
    wpAny M A (keyKind' vs.toArray) Q E s := by
  rw [kat_kind_eq, List.mapM_toArray, map_eq_pure_bind]
  refine wpAny_bind (wpAny_bind (tupsAt_firsts vs fs t (wpAny_pure ?_)))
  have hall : ¬ (fs.toArray.all fun x => x.isSome) = true := by
    intro z
    simp only [List.all_toArray, List.all_eq_true] at z
    exact absurd (z none hne) (by simp)
  rw [if_neg hall]
  have e0 : fs.toArray[0]? = fs[0]? := by simp
  rw [e0]
  by_cases c : (fs[0]?.bind id).isSome = true
  · rw [if_pos c]; exact wpAny_pure (h1 c)
  · rw [if_neg c]
    have c2 : (fs[0]?.bind id).isSome = false := by simpa using c
    obtain ⟨v, hv⟩ : ∃ v, v ∈ vs := by
      cases vs with
      | nil => cases fs with
        | nil => cases hne
        | cons _ _ => exact t.elim
      | cons v vs => exact ⟨v, List.mem_cons_self⟩
    rw [oneTypeOnly'_eq, List.mapM_toArray, map_eq_pure_bind]
    refine wpAny_bind (wpAny_bind (wpAny_bind (kas_mapM (r := Value.type "tuple") _ (fun v hv Q' hq => (tupsAt_looks t v hv).here hq) (wpAny_pure ?_))))
    have hall : ((List.map (fun _ => Value.type "tuple") vs).toArray.all fun x => x == Value.type "tuple") = true := by
      simp only [List.all_toArray, List.all_map, List.all_eq_true]
      intro _ _
      exact beq_self_eq_true _
    have h0 : (List.map (fun _ => Value.type "tuple") vs).toArray[0]? = some (Value.type "tuple") := by
      cases vs with
      | nil => cases hv
      | cons _ _ => simp
    rw [h0]
    simp only [hall, if_true]
    exact wpAny_pure (wpAny_pure (h2 c2))
/-- one tuple against another, both told to be of one type -/
theorem oneLt_tups {xs ys : List PyData} {a b : Value} {as bs : List Addr} {Q : Bool → Shared → Prop} (ra : Reads s.heap a (.tuple xs) as) (rb : Reads s.heap b (.tuple ys) bs) (hal : alikeAll xs ys = true) (hu : A.units + 1 + min (PyData.depthAll xs) (PyData.depthAll ys) < cLine)
    (hq : Q (dataLt (.tuple xs) (.tuple ys)) s) : wpAny (model prog w) A (oneLt' true a b) Q E s := by
  cases ra with
  | @tuple l o vs n _ as₁ h1 h2 h3 h4 =>
    cases rb with
    | @tuple l' o' vs' n' _ bs₁ k1 k2 k3 k4 =>
      have n1 : vs.size = xs.length := by simpa using ReadsAll.length _ _ _ h4
      have n2 : vs'.size = ys.length := by simpa using ReadsAll.length _ _ _ k4
      rw [dataLt_tuple, ← firstLt_toks xs ys hal, ← n1, ← n2] at hq
      obtain ⟨cls, dd, data, sl⟩ := o
      obtain ⟨cls2, dd2, data2, sl2⟩ := o'
      simp only at h2 h3 k2 k3
      subst h2 h3 k2 k3
      rw [oneLt'_eq]
      simp only [if_true]
      refine wpAny_bind (wpAny_cRoomFor (by omega) ?_)
      refine wpAny_bind (wpAny_callSpecialIfBound?_slot (T := "tuple") ⟨_, h1, rfl⟩ PySem.F.slot_tuple_lt (call_meets PySem.F.slot_tuple_lt ⟨_, h1, rfl⟩ PySem.F.entry_tuple_lt (PySem.F.args_tuple_lt_2 _ _)
        (tuple_ltAt l l' vs vs' n n' dd dd2 sl sl2 (pairEq xs ys) (fun j => dataLt (xs.getD j .none) (ys.getD j .none))) ⟨h1, k1, (fun j j1 j2 => ?_), (fun j j1 j2 hj => ?_), ?_⟩))
      · have := eqAt_alikeAll xs ys A.in1 s vs.toList vs'.toList _ _ h4 k4 hal (by show A.units + 1 + _ < _; exact hu) j (by simpa using j1) (by simpa using j2)
        simpa using this
      · have := rcLt_alikeAll xs ys A.in1 s vs.toList vs'.toList _ _ h4 k4 hal (by show A.units + 1 + _ < _; exact hu) j (by simpa using j1) (by simpa using j2) hj
        simpa using this
      · exact wpAny_truthy_bool hq
theorem each_tups {h : Heap} : ∀ {vs : List Value} {ds : List PyData}, EachIs (fun v d => ∃ as, Reads h v d as) vs ds → (∀ d ∈ ds, ∃ xs, d = .tuple xs) →
    ∃ fs, TupsAt h vs fs ∧ (PyData.tuple [] ∈ ds → none ∈ fs) ∧ ((fs[0]?.bind id).isSome = false → 2 ≤ vs.length → ∃ r, ds = .tuple [] :: r)
  | _, _, .nil, _ => ⟨[], trivial, (fun m => by cases m), (fun _ z => by simp at z)⟩
  | _, _, .cons (b := d) (bs := bs) ⟨as, r⟩ t, ht => by
    obtain ⟨fs, h1, h2, h3⟩ := each_tups t fun d m => ht d (List.mem_cons_of_mem _ m)
    obtain ⟨xs, e⟩ := ht d List.mem_cons_self
    subst e
    cases r with
    | @tuple a o vs' n _ _ ho hc hd hr =>
      refine ⟨vs'[0]? :: fs, ⟨⟨a, o, vs', n, rfl, ho, hc, hd, rfl⟩, h1⟩, fun m => ?_, fun z _ => ?_⟩
      · rcases List.mem_cons.mp m with e | m
        · have e2 : xs = [] := by injection e with e; exact e.symm
          subst e2
          have hl := ReadsAll.length _ _ _ hr
          have : vs'.size = 0 := by simpa using hl
          have : vs'[0]? = none := by simp [this]
          rw [this]; exact List.mem_cons_self
        · exact List.mem_cons_of_mem _ (h2 m)
      · have z2 : (vs'[0]?).isSome = false := by simpa using z
        have hl : vs'.size = xs.length := by simpa using ReadsAll.length _ _ _ hr
        have : vs'.size = 0 := by
          refine Nat.eq_zero_of_not_pos fun lt => ?_
          rw [Array.getElem?_eq_getElem lt] at z2
          cases z2
        have e2 : xs = [] := List.length_eq_zero_iff.mp (by omega)
        subst e2
        exact ⟨bs, rfl⟩
/-- tuples that read as alike data can be sorted -/
theorem sortsAt_tups {vs : List Value} {ds : List PyData} (e : EachIs (fun v d => ∃ as, Reads s.heap v d as) vs ds) (hal : AllAlike ds) (ht : ∀ d ∈ ds, ∃ xs, d = .tuple xs) (hu : ∀ d, d ∈ ds → A.units + d.depth < cLine) : SortsAt prog w A s (dataKind s.heap ds) vs := by
  by_cases c : PyData.tuple [] ∈ ds
  · have room : ∀ {d d' : PyData}, d ∈ ds → A.units + min d.depth d'.depth < cLine := fun {d d'} hd => Nat.lt_of_le_of_lt (Nat.add_le_add_left (Nat.min_le_left _ _) _) (hu d hd)
    refine ⟨fun v hv => ?_, ?_⟩
    · obtain ⟨d, hd, as, r⟩ := e.left v hv
      exact ⟨_, dataKind_some hal hd r⟩
    · obtain ⟨fs, t1, t2, t3⟩ := each_tups e ht
      have gen : H.LtAt prog w A s (dataKind s.heap ds) general' := by
        intro E x y a b Q ha hb hq
        obtain ⟨d, as, hd, ra, rfl⟩ := dataKind_inv ha
        obtain ⟨d', as', hd', rb, rfl⟩ := dataKind_inv hb
        show wpAny (model prog w) A (oneLt' false x y) Q E s
        refine oneLt_alike (f := false) (fun z => nomatch z) ra rb (hal d hd d' hd') (fun z => ?_) (room hd) hq
        obtain ⟨xs, e⟩ := ht d hd
        rw [e] at z; cases z
      have one : H.LtAt prog w A s (dataKind s.heap ds) oneType' := by
        intro E x y a b Q ha hb hq
        obtain ⟨d, as, hd, ra, rfl⟩ := dataKind_inv ha
        obtain ⟨d', as', hd', rb, rfl⟩ := dataKind_inv hb
        have hdd := hal d hd d' hd'
        have hr := room (d' := d') hd
        obtain ⟨xs, e1⟩ := ht d hd
        obtain ⟨ys, e2⟩ := ht d' hd'
        subst e1; subst e2
        rw [keyLt'_oneType]
        refine oneLt_tups ra rb (by simpa [alike] using hdd) ?_ hq
        simp only [PyData.depth] at hr
        omega
      by_cases f : (fs[0]?.bind id).isSome = true
      · exact ⟨general', gen, fun h2 E Q hq => tups_kind t1 (t2 c) (fun _ => hq) (fun z => by rw [f] at z; cases z)⟩
      · exact ⟨oneType', one, fun h2 E Q hq => tups_kind t1 (t2 c) (fun z => absurd z f) (fun _ => hq)⟩
  · refine SortsAt.data e hal (.inl fun d hd => ?_) hu
    obtain ⟨xs, e⟩ := ht d hd
    cases xs with
    | nil => subst e; exact absurd hd c
    | cons x r => exact ⟨x, r, e⟩
end
/-! ### sorted, by data -/
/-- what the sort takes: alike data, all tuples, or none a tuple or None -/
def srtOk (ds : List D) : Bool := (ds.all fun a => ds.all fun b => alike (toPy a) (toPy b)) && ((ds.all fun a => match a with | .tup _ => true | _ => false) || (ds.all fun a => match a with | .tup _ => false | .non => false | _ => true)) && (ds.all fun a => shD a && pl a)
def leD (a b : D) : Bool := !dataLt (toPy b) (toPy a)
def dSortA (x : D) : Option D := match dSorted x with
  | some z => some z
  | none => (lstD x).bind fun ds => if srtOk ds = true then some (.own (ds.mergeSort leD)) else none
def rSrtA (K : PySem.W.Frag) : List V → Hp → VK → Prop := fun vs H Q => ∃ (a : Addr) (ps : List (V × D)), vs = [V.ref a] ∧ SqL K H a (ps.map (·.1)) ∧ (∀ p ∈ ps, Dp K H p.1 (toPy p.2)) ∧ srtOk (ps.map (·.2)) = true ∧
  ∀ q, H q = none → Q (.ref q) (upd H q (.lst ((ps.mergeSort fun p q => leD p.2 q.2).map (·.1))))
section
variable {X : Cx}
theorem vals_each : ∀ {ps : List (V × D)} {us : List Value}, Vals (ps.map (·.1)) us → EachIs (fun u (p : V × D) => RelV p.1 u ∧ p ∈ ps) us ps
  | [], us, r => by cases r; exact .nil
  | p :: ps, us, r => by
    cases r with
    | cons h t => exact .cons ⟨h, List.mem_cons_self⟩ ((vals_each t).mono fun _ _ z => ⟨z.1, List.mem_cons_of_mem _ z.2⟩)
theorem each_vals : ∀ {ps : List (V × D)} {us : List Value}, EachIs (fun u (p : V × D) => RelV p.1 u) us ps → Vals (ps.map (·.1)) us
  | _, _, .nil => .nil
  | _, _, .cons h t => .cons h (each_vals t)
theorem cr_srtA (hu : X.A.units + 128 < cLine) : CallR X (.builtin "sorted") (rSrtA X.K) := by
  intro pins s σ H vs us Q I r h
  obtain ⟨a, ps, rfl, hs, hx, ok, q⟩ := h
  obtain ⟨its, rv, hl, hz⟩ := I.list hs
  obtain ⟨u, rfl, ru⟩ := vals1 r
  obtain rfl : u = Value.ref a := ru
  unfold srtOk at ok
  rw [Bool.and_eq_true, Bool.and_eq_true] at ok
  obtain ⟨⟨o1, o2⟩, o3⟩ := ok
  have hsh : ∀ p ∈ ps, shD p.2 = true := fun p m => by
    have := List.all_eq_true.mp o3 p.2 (List.mem_map.mpr ⟨p, m, rfl⟩)
    rw [Bool.and_eq_true] at this
    exact this.1
  have hal : AllAlike (ps.map fun p => toPy p.2) := fun d hd d' hd' => by
    obtain ⟨p, m, e⟩ := List.mem_map.mp hd
    obtain ⟨p', m', e'⟩ := List.mem_map.mp hd'
    subst e; subst e'
    exact List.all_eq_true.mp (List.all_eq_true.mp o1 p.2 (List.mem_map.mpr ⟨p, m, rfl⟩)) p'.2 (List.mem_map.mpr ⟨p', m', rfl⟩)
  have e0 := vals_each rv
  have e : EachIs (fun u (p : V × D) => RelV p.1 u) its ps := e0.mono fun _ _ z => z.1
  have er : EachIs (fun v (p : V × D) => ∃ as, Reads s.heap v (toPy p.2) as) its ps := e0.mono fun v p z => Dp.reads I _ _ _ (hx p z.2) z.1
  have er' : EachIs (fun v (p : V × D) => ∃ as, Reads (sortingHeap (copyHeap s.heap its) (s.heap.objs.size + 1) its) v (toPy p.2) as) its ps := er.mono fun _ _ ⟨as, r⟩ => ⟨as, PyProof.Rows.Reads.keeps (fun _ _ => sorting_copy_old) r⟩
  have dep : ∀ d ∈ ps.map (fun p => toPy p.2), X.A.in1.in1.units + d.depth < cLine := fun d hd => by
    obtain ⟨p, m, e⟩ := List.mem_map.mp hd
    subst e
    have := SeqAt.depth_of_shaped (hsh p m)
    show X.A.units + 1 + 1 + _ < cLine
    omega
  have S : SortsAt X.prog X.w X.A.in1.in1 { s with heap := sortingHeap (copyHeap s.heap its) (s.heap.objs.size + 1) its } (dataKind (sortingHeap (copyHeap s.heap its) (s.heap.objs.size + 1) its) (ps.map fun p => toPy p.2)) its := by
    have em := each_map (R := fun v d => ∃ as, Reads (sortingHeap (copyHeap s.heap its) (s.heap.objs.size + 1) its) v d as) (fun p : V × D => toPy p.2) er'
    rw [Bool.or_eq_true] at o2
    rcases o2 with o2 | o2
    · refine sortsAt_tups (s := { s with heap := sortingHeap (copyHeap s.heap its) (s.heap.objs.size + 1) its }) em hal (fun d hd => ?_) dep
      obtain ⟨p, m, e⟩ := List.mem_map.mp hd
      subst e
      have := List.all_eq_true.mp o2 p.2 (List.mem_map.mpr ⟨p, m, rfl⟩)
      cases ep : p.2 <;> rw [ep] at this <;> first
        | exact ⟨_, rfl⟩
        | cases this
    · refine SortsAt.data (s := { s with heap := sortingHeap (copyHeap s.heap its) (s.heap.objs.size + 1) its }) em hal (.inr fun d hd => ?_) dep
      obtain ⟨p, m, e⟩ := List.mem_map.mp hd
      subst e
      have := List.all_eq_true.mp o2 p.2 (List.mem_map.mpr ⟨p, m, rfl⟩)
      cases ep : p.2 <;> rw [ep] at this <;> first
        | exact absurd this Bool.false_ne_true
        | exact ⟨by simp [toPy], by simp [toPy]⟩
  refine sorted_vals hl.isList S (by rw [← rv.length]; exact hz) ?_
  have out := each_vals (sortVals_data (h' := sortingHeap (copyHeap s.heap its) (s.heap.objs.size + 1) its) (enc := fun p : V × D => toPy p.2) false e er' hal)
  have ele : (dataLe false fun p : V × D => toPy p.2) = fun p q => leD p.2 q.2 := by
    rw [dataLe_eq]; rfl
  rw [ele] at out
  obtain ⟨c, hc⟩ := sortedAll_at s.heap its (sortVals (dataKind (sortingHeap (copyHeap s.heap its) (s.heap.objs.size + 1) its) (ps.map fun p => toPy p.2)) false its its).toArray
  refine ⟨.ref (s.heap.objs.size + 1), upd H (s.heap.objs.size + 1) (.lst ((ps.mergeSort fun p q => leD p.2 q.2).map (·.1))), I.laid (t' := s.toks) (fun b o e => sortedAll_old e) (Nat.le_succ _) ⟨?_, _, c, out, hc⟩, rfl, q _ (I.hok.fresh (Nat.le_succ _))⟩
  rw [List.length_map, List.length_mergeSort, ← List.length_map (f := (·.1))]
  exact hz
end
theorem lstD_rv {K : PySem.W.Frag} {H : Hp} {d : D} {xs : List D} {v : V} {f : List Addr} (h : lstD d = some xs) (r : RV K H d v f) : ∃ a vs g, v = .ref a ∧ SqL K H a vs ∧ RVs K H xs vs g := by
  cases d with
  | lst ys => cases h; obtain ⟨a, vs, ea, qa, ra, _⟩ := r; exact ⟨a, vs, [], ea, qa.sq, ra⟩
  | own ys => cases h; obtain ⟨a, vs, g, ea, qa, ra, _⟩ := r; exact ⟨a, vs, g, ea, .of qa, ra⟩
  | _ => cases h
theorem rvs_zip {K : PySem.W.Frag} {H : Hp} : ∀ {ds : List D} {vs : List V}, RVs K H ds vs [] → ∃ ps : List (V × D), ps.map (·.1) = vs ∧ ps.map (·.2) = ds ∧ ∀ p ∈ ps, RV K H p.2 p.1 []
  | [], vs, r => ⟨[], r.1.symm, rfl, fun _ m => nomatch m⟩
  | d :: ds, vs, r => by
    obtain ⟨v', r', g, g', e1, q, q2, e2⟩ := r
    obtain ⟨g1, g2⟩ := List.nil_eq_append_iff.mp e2
    subst e1; subst g1; subst g2
    obtain ⟨ps, h1, h2, h3⟩ := rvs_zip q2
    refine ⟨(v', d) :: ps, by rw [List.map_cons, h1], by rw [List.map_cons, h2], fun p m => ?_⟩
    rcases List.mem_cons.mp m with e | m
    · subst e; exact q
    · exact h3 p m
theorem zip_rvs {K : PySem.W.Frag} {H : Hp} : ∀ {ps : List (V × D)}, (∀ p ∈ ps, RV K H p.2 p.1 []) → RVs K H (ps.map (·.2)) (ps.map (·.1)) []
  | [], _ => ⟨rfl, rfl⟩
  | p :: ps, h => ⟨p.1, ps.map (·.1), [], [], rfl, h p List.mem_cons_self, zip_rvs fun q m => h q (List.mem_cons_of_mem _ m), rfl⟩
theorem pls_shall : ∀ {ds : List D}, (ds.all fun a => shD a && pl a) = true → pls ds = true
  | [], _ => rfl
  | d :: ds, h => by
    rw [List.all_cons, Bool.and_eq_true, Bool.and_eq_true] at h
    show (pl d && pls ds) = true
    rw [Bool.and_eq_true]
    exact ⟨h.1.2, pls_shall h.2⟩
def rSrtU (K : PySem.W.Frag) : List V → Hp → VK → Prop := fun vs H Q => rSrt K vs H Q ∨ rSrtA K vs H Q
theorem cr_srtU {X : Cx} (hu : X.A.units + 128 < cLine) : CallR X (.builtin "sorted") (rSrtU X.K) := fun pins s σ H vs us Q I r h => h.elim (cr_srt pins s σ H vs us Q I r) (cr_srtA hu pins s σ H vs us Q I r)
theorem ro_srtU {K : PySem.W.Frag} : Ro1 K (r1' (rSrtU K)) dSortA := fun H x dx fx z Q rx e q => by
  unfold dSortA at e
  cases e1 : dSorted dx with
  | some z' =>
    rw [e1] at e
    cases e
    exact .inl (ro_sorted H x dx fx z Q rx e1 q)
  | none =>
    rw [e1] at e
    obtain ⟨ds, h1, h2⟩ := Option.bind_eq_some_iff.mp e
    by_cases c : srtOk ds = true
    · rw [if_pos c] at h2
      cases h2
      obtain ⟨a, vs, g, ea, qa, ra⟩ := lstD_rv h1 rx
      have hp : pls ds = true := by
        unfold srtOk at c
        rw [Bool.and_eq_true] at c
        exact pls_shall c.2
      obtain ⟨ps, h3, h4, h5⟩ := rvs_zip (ra.nil_of hp)
      subst ea
      refine .inr ⟨a, ps, rfl, by rw [h3]; exact qa, fun p m => ?_, by rw [h4]; exact c, fun p n => ?_⟩
      · have := c
        unfold srtOk at this
        rw [Bool.and_eq_true] at this
        have := List.all_eq_true.mp this.2 p.2 (by rw [← h4]; exact List.mem_map.mpr ⟨p, m, rfl⟩)
        rw [Bool.and_eq_true] at this
        exact dp_of p.2 p.1 [] (SeqAt.canLay_of_shaped this.1) (h5 p m)
      · have em : ((ps.mergeSort fun p q => leD p.2 q.2).map (·.2)) = ds.mergeSort leD := by
          rw [← h4]
          exact List.map_mergeSort fun a _ b _ => rfl
        rw [← em] at q
        exact q _ _ (new_lstV (zip_rvs fun p m => h5 p ((List.mergeSort_perm _ _).mem_iff.mp m)) n)
    · rw [if_neg c] at h2; cases h2
end Pm

set_option autoImplicit false
namespace Pm
open PySem PySem.Spec L2 PyProof.Rows PySem.W PySem.SeqAt
variable {u0 : Unit} [Tab0 u0]
/-! ### sorted over a dict's keys -/
section
variable {X : Cx} {pins : List (Addr × Obj)} {σ : L2.St} {H : Hp} {s : Shared}
theorem kv_rel {P : Program} {w : World} {k : Key} {v : Value} (h : (mixKind P w).is k v = true) : RelV (kV k) v := by
  rcases keyIs_shape (show keyIs k v = true from h) with ⟨i, t, e1, e2⟩ | ⟨x, t, e1, e2⟩
  · subst e1; subst e2; exact ⟨t, rfl⟩
  · subst e1; subst e2; exact ⟨t, rfl⟩
theorem rvs_keysV (K : PySem.W.Frag) (H : Hp) : ∀ l : List Key, RVs K H (l.map Pm.keyD) (l.map kV) []
  | [] => ⟨rfl, rfl⟩
  | .inl i :: l => ⟨.int i, _, [], [], rfl, ⟨rfl, rfl⟩, rvs_keysV K H l, rfl⟩
  | .inr x :: l => ⟨.str x, _, [], [], rfl, ⟨rfl, rfl⟩, rvs_keysV K H l, rfl⟩
/-- a dict's keys, as its object has them -/
theorem dct_keys (I : Inv X pins σ H s) {t : Bool} {ks : List D} {ws : List V} {u : HO} {a : Addr} (hu : L2.Rd H a u) (di : DctIs t ks ws u) :
    (a == sysModules) = false ∧ ks.length ≤ sizeLine ∧ ∃ es ep, s.heap.DictRaw a es ep ∧ es.size = ks.length ∧ ∃ kv : List V, RVs X.K H ks kv [] ∧ ∀ i (hi : i < es.size), ∃ v, kv[i]? = some v ∧ RelV v es[i].key := by
  cases t with
  | false =>
    obtain ⟨kvs, eu, ek, ew⟩ := di
    subst eu; subst ek; subst ew
    obtain ⟨z, hd, vs, rel, dd⟩ := dk_rd I.hok hu
    obtain ⟨es, ep, raw, hs, hk⟩ := dd.raw
    refine ⟨hd, by simpa using z, es, ep, raw, by rw [hs, ← rel.length]; simp, kvs.map fun p => kV p.1, ?_, fun i hi => ?_⟩
    · have := rvs_keysV X.K H (kvs.map (·.1))
      rw [List.map_map, List.map_map] at this
      exact this
    · have hv : i < vs.length := by omega
      have hkv : i < kvs.length := by rw [rel.length]; exact hv
      have e1 : vs[i]? = some (vs[i].1, vs[i].2) := by rw [List.getElem?_eq_getElem hv]
      obtain ⟨h1, _⟩ := hk i hi _ _ e1
      have e2 := congrArg (fun l : List Key => l[i]?) rel.keys
      simp only [List.getElem?_map, List.getElem?_eq_getElem hkv, List.getElem?_eq_getElem hv, Option.map_some] at e2
      have e3 : kvs[i].1 = vs[i].1 := by simpa using e2
      refine ⟨kV kvs[i].1, by rw [List.getElem?_map, List.getElem?_eq_getElem hkv]; rfl, ?_⟩
      rw [e3]
      exact kv_rel h1
  | true =>
    obtain ⟨kvs, eu, ek, ew⟩ := di
    subst eu; subst ek; subst ew
    obtain ⟨z, hd, xs, rel, dd⟩ := dt_rd I.hok hu
    obtain ⟨es, ep, raw, hs, hk⟩ := dd.raw
    have hl : kvs.length = xs.length := Paired.length rel
    refine ⟨hd, by simpa using z, es, ep, raw, by rw [hs, ← hl]; simp, xs.map fun p => V.ref p.2.1, ?_, fun i hi => ?_⟩
    · clear hs hk raw dd z hl hu
      induction rel with
      | nil => exact ⟨rfl, rfl⟩
      | @cons p q ps qs h t ih =>
        obtain ⟨h1, h2, h3⟩ := h
        refine ⟨.ref q.2.1, _, [], [], rfl, ⟨q.2.1, p.1.map kV, rfl, h2, ?_⟩, ih, rfl⟩
        exact rvs_keysV X.K H p.1
    · obtain ⟨y, e1, e2, e3, _⟩ := hk i hi
      exact ⟨V.ref y.2.1, by rw [List.getElem?_map, e1]; rfl, by rw [e2]; rfl⟩
theorem vals_of_get : ∀ {xs : List V} {us : List Value}, us.length = xs.length → (∀ (i : Nat) (v : Value), us[i]? = some v → ∃ x, xs[i]? = some x ∧ RelV x v) → Vals xs us
  | [], [], _, _ => .nil
  | [], _ :: _, h, _ => by simp at h
  | _ :: _, [], h, _ => by simp at h
  | x :: xs, u :: us, h, g => by
    obtain ⟨y, e, r⟩ := g 0 u rfl
    cases e
    exact .cons r (vals_of_get (by simpa using h) fun i v e => g (i + 1) v (by simpa using e))
theorem sortsAt_ps (I : Inv X pins σ H s) {A : Around} {ps : List (V × D)} {its : List Value} {s2 : Shared} (e0 : EachIs (fun u (p : V × D) => RelV p.1 u ∧ p ∈ ps) its ps) (hx : ∀ p ∈ ps, Dp X.K H p.1 (toPy p.2)) (ok : srtOk (ps.map (·.2)) = true)
    (kp : ∀ b o, s.heap.get? b = some o → s2.heap.get? b = some o) (hu : A.units + 64 < cLine) :
    SortsAt X.prog X.w A s2 (dataKind s2.heap (ps.map fun p => toPy p.2)) its ∧ Vals ((ps.mergeSort fun p q => leD p.2 q.2).map (·.1)) (sortVals (dataKind s2.heap (ps.map fun p => toPy p.2)) false its its) := by
  unfold srtOk at ok
  rw [Bool.and_eq_true, Bool.and_eq_true] at ok
  obtain ⟨⟨o1, o2⟩, o3⟩ := ok
  have hsh : ∀ p ∈ ps, shD p.2 = true := fun p m => by
    have := List.all_eq_true.mp o3 p.2 (List.mem_map.mpr ⟨p, m, rfl⟩)
    rw [Bool.and_eq_true] at this
    exact this.1
  have hal : AllAlike (ps.map fun p => toPy p.2) := fun d hd d' hd' => by
    obtain ⟨p, m, e⟩ := List.mem_map.mp hd
    obtain ⟨p', m', e'⟩ := List.mem_map.mp hd'
    subst e; subst e'
    exact List.all_eq_true.mp (List.all_eq_true.mp o1 p.2 (List.mem_map.mpr ⟨p, m, rfl⟩)) p'.2 (List.mem_map.mpr ⟨p', m', rfl⟩)
  have e : EachIs (fun u (p : V × D) => RelV p.1 u) its ps := e0.mono fun _ _ z => z.1
  have er : EachIs (fun v (p : V × D) => ∃ as, Reads s2.heap v (toPy p.2) as) its ps := e0.mono fun v p z => by
    obtain ⟨as, r⟩ := Dp.reads I _ _ _ (hx p z.2) z.1
    exact ⟨as, PyProof.Rows.Reads.keeps kp r⟩
  have dep : ∀ d ∈ ps.map (fun p => toPy p.2), A.units + d.depth < cLine := fun d hd => by
    obtain ⟨p, m, e⟩ := List.mem_map.mp hd
    subst e
    have := SeqAt.depth_of_shaped (hsh p m)
    omega
  have em := each_map (R := fun v d => ∃ as, Reads s2.heap v d as) (fun p : V × D => toPy p.2) er
  refine ⟨?_, ?_⟩
  · rw [Bool.or_eq_true] at o2
    rcases o2 with o2 | o2
    · refine sortsAt_tups (s := s2) em hal (fun d hd => ?_) dep
      obtain ⟨p, m, e⟩ := List.mem_map.mp hd
      subst e
      have := List.all_eq_true.mp o2 p.2 (List.mem_map.mpr ⟨p, m, rfl⟩)
      cases ep : p.2 <;> rw [ep] at this <;> first
        | exact ⟨_, rfl⟩
        | cases this
    · refine SortsAt.data (s := s2) em hal (.inr fun d hd => ?_) dep
      obtain ⟨p, m, e⟩ := List.mem_map.mp hd
      subst e
      have := List.all_eq_true.mp o2 p.2 (List.mem_map.mpr ⟨p, m, rfl⟩)
      cases ep : p.2 <;> rw [ep] at this <;> first
        | exact absurd this Bool.false_ne_true
        | exact ⟨by simp [toPy], by simp [toPy]⟩
  · have out := each_vals (sortVals_data (h' := s2.heap) (enc := fun p : V × D => toPy p.2) false e er hal)
    have ele : (dataLe false fun p : V × D => toPy p.2) = fun p q => leD p.2 q.2 := by
      rw [dataLe_eq]; rfl
    rw [ele] at out
    exact out
def rSrtD (K : PySem.W.Frag) : List V → Hp → VK → Prop := fun vs H Q => ∃ (a : Addr) (u : HO) (t : Bool) (ks : List D) (ws : List V), vs = [V.ref a] ∧ L2.Rd H a u ∧ DctIs t ks ws u ∧ srtOk ks = true ∧
  ∀ (ps : List (V × D)), ps.map (·.2) = ks → (∀ p ∈ ps, RV K H p.2 p.1 []) → ∀ q, H q = none → Q (.ref q) (upd H q (.lst ((ps.mergeSort fun p q => leD p.2 q.2).map (·.1))))
theorem cr_srtD (hc : X.calm = true) (hu : X.A.units + 128 < cLine) : CallR X (.builtin "sorted") (rSrtD X.K) := by
  intro pins s σ H vs us Q I r h
  obtain ⟨a, u, t, ks, ws, rfl, hrd, di, ok, q⟩ := h
  obtain ⟨u', rfl, ru⟩ := vals1 r
  obtain rfl : u' = Value.ref a := ru
  obtain ⟨hsys, hz, es, ep, raw, hsz, kv, rk, hkv⟩ := dct_keys I hrd di
  have hh : X.A.handled = none := I.ok.hd hc
  refine Calls.call_function_entry kind_sorted plain_sorted entry_sorted (args_sorted1 _) ?_
  unfold Builtin.«sorted»
  refine wpAny_bind (m := checkCount "sorted" 1 1 _) (wpAny_pure ?_)
  refine wpAny_bind (kdu_collect (A := X.A.in1) (KdlSrc.rawDict hsys) hh raw (by omega) fun h' tk acc hk hacc => ?_)
  have hl : acc.toList.length = ks.length := by rw [Array.length_toList, hacc.1]; exact hsz
  refine wpAny_bind (wpAny_newList ?_ (by rw [hl]; exact hz))
  obtain ⟨ps, h3, h4, h5⟩ := rvs_zip rk
  have rv : Vals (ps.map (·.1)) acc.toList := by
    rw [h3]
    refine vals_of_get (by rw [hl]; exact rk.length) fun i v hv => ?_
    have hi : i < es.size := by
      have := (List.getElem?_eq_some_iff.mp hv).1
      rw [hl] at this; omega
    obtain ⟨hi2, e2⟩ := hacc.2 i v (by rw [← Array.getElem?_toList]; exact hv)
    obtain ⟨w, hw, rw'⟩ := hkv i hi
    exact ⟨w, hw, by rw [e2]; exact rw'⟩
  have I1 : Inv X pins σ H { s with heap := h', toks := tk } := I.kept (t' := tk) hk
  have hoL : (h'.push (seqObj "list" acc.toList.toArray 0)).get? h'.objs.size = some (seqObj "list" acc.toList.toArray 0) := Heap.get?_push_size _ rfl
  show wpAny _ _ _ _ _ { s with heap := h'.push (seqObj "list" acc.toList.toArray 0), toks := tk }
  have hx : ∀ p ∈ ps, Dp X.K H p.1 (toPy p.2) := fun p m => by
    have := ok
    unfold srtOk at this
    rw [Bool.and_eq_true] at this
    have := List.all_eq_true.mp this.2 p.2 (by rw [← h4]; exact List.mem_map.mpr ⟨p, m, rfl⟩)
    rw [Bool.and_eq_true] at this
    exact dp_of p.2 p.1 [] (SeqAt.canLay_of_shaped this.1) (h5 p m)
  have kp : ∀ b o, ({ s with heap := h', toks := tk } : Shared).heap.get? b = some o → (sortingHeap (h'.push (seqObj "list" acc.toList.toArray 0)) h'.objs.size acc.toList).get? b = some o := fun b o e =>
    sortingHeap_old (Nat.ne_of_lt (Heap.lt_size e)) (Heap.get?_push_of_some _ e)
  have S := sortsAt_ps (A := X.A.in1.in1) (s2 := { s with heap := sortingHeap (h'.push (seqObj "list" acc.toList.toArray 0)) h'.objs.size acc.toList, toks := tk }) I1 (vals_each rv) hx (by rw [h4]; exact ok) kp (by show X.A.units + 1 + 1 + 64 < cLine; omega)
  refine wpAny_bind (wpAny_holding (wpAny_call_entry slot_list_sort ⟨_, hoL, rfl⟩ entry_list_sort (list_sort_vals (s := { s with heap := h'.push (seqObj "list" acc.toList.toArray 0), toks := tk }) hoL S.1 (by rw [hl]; exact hz) ⟨_, rfl, ?_⟩) (args_list_sort _)))
  obtain ⟨e1, he1⟩ := PyProof.Rows.sortedHeap_at (vs := acc.toList) (out := (sortVals (dataKind (sortingHeap (h'.push (seqObj "list" acc.toList.toArray 0)) h'.objs.size acc.toList) (ps.map fun p => toPy p.2)) false acc.toList acc.toList).toArray) hoL
  refine wpAny_pure ⟨_, rfl, .ref h'.objs.size, upd H h'.objs.size (.lst ((ps.mergeSort fun p q => leD p.2 q.2).map (·.1))), I1.laid (t' := tk) (fun b u e => ?_) (Nat.le_refl _) ⟨?_, _, e1, S.2, he1⟩, rfl, q ps h4 h5 _ (I1.hok.fresh (Nat.le_refl _))⟩
  · have hb : b < h'.objs.size := Heap.lt_size e
    show (PyProof.Rows.sortedHeap _ _ _ _).get? b = some u
    rw [PyProof.Rows.sortedHeap_old (Nat.ne_of_lt hb) (by rw [PyProof.Rows.size_push']; exact Nat.lt_succ_of_lt hb)]
    exact Heap.get?_push_of_some _ e
  · rw [List.length_map, List.length_mergeSort, ← List.length_map (f := (·.2)), h4]
    exact hz
end
noncomputable def dSortU (x : D) : Option D := match dctD x with
  | some (_, ks, _) => if srtOk ks = true then some (.own (ks.mergeSort leD)) else none
  | none => dSortA x
def rSrtV (K : PySem.W.Frag) : List V → Hp → VK → Prop := fun vs H Q => rSrtU K vs H Q ∨ rSrtD K vs H Q
theorem cr_srtV {X : Cx} (hc : X.calm = true) (hu : X.A.units + 128 < cLine) : CallR X (.builtin "sorted") (rSrtV X.K) := fun pins s σ H vs us Q I r h => h.elim (cr_srtU hu pins s σ H vs us Q I r) (cr_srtD hc hu pins s σ H vs us Q I r)
theorem ro_srtV {K : PySem.W.Frag} : Ro1 K (r1' (rSrtV K)) dSortU := fun H x dx fx z Q rx e q => by
  unfold dSortU at e
  cases e1 : dctD dx with
  | none =>
    rw [e1] at e
    exact .inl (ro_srtU H x dx fx z Q rx e q)
  | some p =>
    obtain ⟨t, ks, vs⟩ := p
    rw [e1] at e
    dsimp only at e
    by_cases c : srtOk ks = true
    · rw [if_pos c] at e
      cases e
      obtain ⟨a, u, ws, g, ea, hu, di, rs, _⟩ := dctD_rv rx e1
      subst ea
      refine .inr ⟨a, u, t, ks, ws, rfl, hu, di, c, fun ps h4 h5 p n => ?_⟩
      have em : ((ps.mergeSort fun p q => leD p.2 q.2).map (·.2)) = ks.mergeSort leD := by
        rw [← h4]
        exact List.map_mergeSort fun a _ b _ => rfl
      rw [← em] at q
      exact q _ _ (new_lstV (zip_rvs fun p m => h5 p ((List.mergeSort_perm _ _).mem_iff.mp m)) n)
    · rw [if_neg c] at e; cases e
theorem u128 {k : Nat} {A : Around} (r : Room k A) : A.units + 128 < cLine := by have := r.un; omega
theorem u65 {k : Nat} {A : Around} (r : Room k A) : A.units + 65 < cLine := by have := r.un; omega
end Pm

set_option autoImplicit false
namespace Pm
open PySem PySem.Spec L2 PyProof.Rows
variable {u0 : Unit} [Tab0 u0]
/-! ### [x] * n -/
def repC (xs : List D) (n : Int) : Bool := pls xs && decide (0 ≤ n ∧ n ≤ 1000000 ∧ xs.length * n.toNat ≤ 1000000)
def dMulA (x y : D) : Option D := match x, y with
  | .own xs, .int n => if repC xs n = true then some (.own (List.replicate n.toNat xs).flatten) else none
  | x, y => dMul x y
theorem rvs_rep {K : PySem.W.Frag} {H : Hp} {ds : List D} {vs : List V} (r : RVs K H ds vs []) : ∀ n : Nat, RVs K H (List.replicate n ds).flatten (List.replicate n vs).flatten []
  | 0 => ⟨rfl, rfl⟩
  | n + 1 => by
    rw [List.replicate_succ, List.replicate_succ, List.flatten_cons, List.flatten_cons]
    exact RVs.append (f := []) (g := []) r (rvs_rep r n)
theorem op_mulA {X : Cx} : OpR X (binaryOp .Mult) (fun x y H Q => (rI CMulW fun i j => .int (i * j)) x y H Q ∨ rRep x y H Q) := opR_or op_mulW op_rep
theorem ro_mulA {K : PySem.W.Frag} : Ro2 K (fun x y H Q => (rI CMulW fun i j => .int (i * j)) x y H Q ∨ rRep x y H Q) dMulA := fun H x y dx dy fx fy z Q rx ry e q => by
  have other : dMul dx dy = some z → (rI CMulW fun i j => .int (i * j)) x y H Q ∨ rRep x y H Q := fun e => .inl (ro_mul H x y dx dy fx fy z Q rx ry e q)
  cases dx with
  | own xs =>
    cases dy with
    | int n =>
      replace e : (if repC xs n = true then some (D.own (List.replicate n.toNat xs).flatten) else none) = some z := e
      by_cases c : repC xs n = true
      · rw [if_pos c] at e
        cases e
        unfold repC at c
        rw [Bool.and_eq_true, decide_eq_true_iff] at c
        obtain ⟨p, c1, c2, c3⟩ := c
        obtain ⟨a, vs, f, ea, qa, ra, _⟩ := rx
        have hl := ra.length
        refine .inr ⟨a, n, vs, ea, ry.1, qa, by omega, by omega, ?_, fun p' n' => q _ _ (new_lstV (rvs_rep (ra.nil_of p) _) n')⟩
        rw [← hl]
        exact Nat.le_trans c3 (by decide)
      · rw [if_neg c] at e; cases e
    | _ => exact other e
  | _ => exact other e
end Pm

set_option autoImplicit false
namespace Pm
open PySem PySem.Spec L2 PyProof.Rows
variable {u0 : Unit} [Tab0 u0]
/-! ### max, min, sum of a list of ints; join -/
section
variable {K : PySem.W.Frag}
theorem lst_sq {H : Hp} {d : D} {xs : List D} {v : V} {f : List Addr} (h : lstD d = some xs) (r : RV K H d v f) : ∃ a vs g, v = .ref a ∧ SqL K H a vs ∧ RVs K H xs vs g := by
  cases d with
  | lst ys => cases h; obtain ⟨a, vs, ea, qa, ra, _⟩ := r; exact ⟨a, vs, _, ea, qa.sq, ra⟩
  | own ys => cases h; obtain ⟨a, vs, g, ea, qa, ra, _⟩ := r; exact ⟨a, vs, g, ea, .of qa, ra⟩
  | _ => cases h
def dMaxL (x : D) : Option D := (lstD x).bind fun xs => (intsD xs).bind fun ns => ns.max?.map .int
def dMinL (x : D) : Option D := (lstD x).bind fun xs => (intsD xs).bind fun ns => ns.min?.map .int
def dSumL (x : D) : Option D := (lstD x).bind fun xs => (intsD xs).map fun ns => .int ns.sum
theorem ro_maxL : Ro1 K (r1' (rMax K)) dMaxL := fun H x dx fx z Q rx e q => by
  obtain ⟨xs, h1, h2⟩ := Option.bind_eq_some_iff.mp e
  obtain ⟨ns, h3, h4⟩ := Option.bind_eq_some_iff.mp h2
  obtain ⟨m, h5, h6⟩ := Option.map_eq_some_iff.mp h4
  subst h6
  have e3 := intsD_some h3
  subst e3
  obtain ⟨a, vs, g, ea, qa, ra⟩ := lst_sq h1 rx
  subst ea
  have e4 := rvs_intsV ra
  subst e4
  have hm := List.max?_eq_some_iff.mp h5
  refine ⟨a, ns, rfl, qa, List.length_pos_of_mem hm.1, fun m2 k1 k2 => ?_⟩
  have : m2 = m := Int.le_antisymm (hm.2 m2 k1) (k2 m hm.1)
  subst this
  exact q _ _ (.plain ⟨rfl, rfl⟩)
theorem ro_minL : Ro1 K (r1' (rMin K)) dMinL := fun H x dx fx z Q rx e q => by
  obtain ⟨xs, h1, h2⟩ := Option.bind_eq_some_iff.mp e
  obtain ⟨ns, h3, h4⟩ := Option.bind_eq_some_iff.mp h2
  obtain ⟨m, h5, h6⟩ := Option.map_eq_some_iff.mp h4
  subst h6
  have e3 := intsD_some h3
  subst e3
  obtain ⟨a, vs, g, ea, qa, ra⟩ := lst_sq h1 rx
  subst ea
  have e4 := rvs_intsV ra
  subst e4
  have hm := List.min?_eq_some_iff.mp h5
  refine ⟨a, ns, rfl, qa, List.length_pos_of_mem hm.1, fun m2 k1 k2 => ?_⟩
  have : m2 = m := Int.le_antisymm (k2 m hm.1) (hm.2 m2 k1)
  subst this
  exact q _ _ (.plain ⟨rfl, rfl⟩)
theorem ro_sumL : Ro1 K (r1' (rSum K)) dSumL := fun H x dx fx z Q rx e q => by
  obtain ⟨xs, h1, h2⟩ := Option.bind_eq_some_iff.mp e
  obtain ⟨ns, h3, h4⟩ := Option.map_eq_some_iff.mp h2
  subst h4
  have e3 := intsD_some h3
  subst e3
  obtain ⟨a, vs, g, ea, qa, ra⟩ := lst_sq h1 rx
  subst ea
  have e4 := rvs_intsV ra
  subst e4
  exact ⟨a, ns, rfl, qa, q _ _ (.plain ⟨rfl, rfl⟩)⟩
def strsD : List D → Option (List Str)
  | [] => some []
  | .str i :: r => (strsD r).map (i :: ·)
  | _ => none
theorem strsD_some : ∀ {ds : List D} {ns : List Str}, strsD ds = some ns → ds = ns.map .str
  | [], _, h => by cases h; rfl
  | .str i :: r, ns, h => by
    obtain ⟨ms, h1, h2⟩ := Option.map_eq_some_iff.mp (show (strsD r).map (i :: ·) = some ns from h)
    rw [← h2, strsD_some h1]; rfl
  | .non :: _, _, h => by cases h
  | .bl _ :: _, _, h => by cases h
  | .int _ :: _, _, h => by cases h
  | .tup _ :: _, _, h => by cases h
  | .lst _ :: _, _, h => by cases h
  | .own _ :: _, _, h => by cases h
@[simp] theorem strsD_strs : ∀ ns : List Str, strsD (ns.map .str) = some ns
  | [] => rfl
  | i :: ns => by
    show (strsD (ns.map .str)).map (i :: ·) = _
    rw [strsD_strs ns]; rfl
theorem rvs_strsV {H : Hp} : ∀ {ns : List Str} {vs : List V} {f : List Addr}, RVs K H (ns.map .str) vs f → vs = ns.map V.str
  | [], vs, f, h => h.1
  | i :: ns, vs, f, h => by
    obtain ⟨v, r, f1, g, e, q, t, _⟩ := h
    subst e
    rw [q.1, rvs_strsV t]; rfl
def dJoin (x y : D) : Option D := match x with
  | .str a => (lstD y).bind fun xs => (strsD xs).bind fun ys => if (ys.map (·.length)).sum + ys.length * a.length ≤ 16777216 then some (.str (Txt.join a ys)) else none
  | _ => none
abbrev rJoin (K : PySem.W.Frag) : V → List V → Hp → VK → Prop := fun x xs H Q => ∃ a p, ∃ ys : List Str, x = .str a ∧ xs = [.ref p] ∧ (SqL K H p (ys.map V.str) ∨ SqT K H p (ys.map V.str)) ∧
      (ys.map (·.length)).sum + ys.length * a.length ≤ 16777216 ∧ Q (.str (Txt.join a ys)) H
theorem ro_join : Ro2 K (fun x y H Q => rJoin K x [y] H Q) dJoin := fun H x y dx dy fx fy z Q rx ry e q => by
  cases dx with
  | str a =>
    replace e : ((lstD dy).bind fun xs => (strsD xs).bind fun ys => if (ys.map (·.length)).sum + ys.length * a.length ≤ 16777216 then some (D.str (Txt.join a ys)) else none) = some z := e
    obtain ⟨xs, h1, h2⟩ := Option.bind_eq_some_iff.mp e
    obtain ⟨ns, h3, h4⟩ := Option.bind_eq_some_iff.mp h2
    by_cases c : (ns.map (·.length)).sum + ns.length * a.length ≤ 16777216
    · rw [if_pos c] at h4
      cases h4
      have e3 := strsD_some h3
      subst e3
      obtain ⟨p, vs, g, ea, qa, ra⟩ := lst_sq h1 ry
      subst ea
      have e4 := rvs_strsV ra
      subst e4
      exact ⟨a, p, ns, rx.1, rfl, .inl qa, c, q _ _ (.plain ⟨rfl, rfl⟩)⟩
    · rw [if_neg c] at h4; cases h4
  | _ => cases e
end
def xJn (f g : PM D) : PM D := fun w => (f w).bind fun x w1 => match x with
  | .str a => (g w1).bind fun y w2 => back (dJoin (.str a) y) w2
  | _ => .bad
section
variable {X : Cx} {Eh : WX} {o e : Expr} {f g : PM D} {apos cpos : Pos}
theorem pp_join (ho : PE X o (tP X.K X.mg Eh f)) (ha : PE X e (tP X.K X.mg Eh g)) (hs : starEach [e] X.env = [(false, eval e X.env)] := by rfl) (hbase : attributeBase o "join" X.env (eval o X.env) = eval o X.env := by rfl) (hline : (apos.endLine == cpos.line) = true := by rfl) :
    PE X (.Call (.Attribute o "join" apos) [e] [] cpos) (tP X.K X.mg Eh (xJn f g)) :=
  (pe_join ho ha hs hbase hline).imp fun s H Q ⟨w, F, hold, q⟩ => by
    refine tP_run hold (Stp.refl fun _ m => m) q fun d w2 v H2 F2 e st h2 q2 => ?_
    cases d with
    | str a =>
      obtain ⟨fv, rv, _⟩ := Hold.one h2
      refine ⟨⟨a, rv.1⟩, ?_⟩
      refine tP_run h2 st q2 fun d' w3 v' H3 F3 e' st' h3 q3 => ?_
      obtain ⟨z, hz, q4⟩ := back_po q3
      obtain ⟨fx, fy, rx, ry, _⟩ := Hold.two h3
      exact ro_join H3 v v' (.str a) d' fx fy z Q rx ry hz fun u H' n => fin_new q4 st' h3 n
    | _ => exact q2.elim
end
end Pm

set_option autoImplicit false
namespace Pm
open PySem PySem.Spec L2 PyProof.Rows
variable {u0 : Unit} [Tab0 u0]
/-! ### l + m, one of them frozen -/
def rCatQ (K : PySem.W.Frag) : R2 := fun x y H Q => ∃ l b xs zs, x = .ref l ∧ y = .ref b ∧ SqL K H l xs ∧ SqL K H b zs ∧ xs.length + zs.length ≤ sizeLine ∧ ∀ p, H p = none → Q (.ref p) (upd H p (.lst (xs ++ zs)))
theorem op_catQ {X : Cx} : OpR X (binaryOp .Add) (rCatQ X.K) := by
  intro pins s σ H x y v u Q I rx ry h
  obtain ⟨l, b, xs, zs, rfl, rfl, hs, ht, hz, q⟩ := h
  cases rx
  cases ry
  obtain ⟨its, r, ⟨o, n, ho, hc, hd0, hd⟩, _⟩ := I.list hs
  obtain ⟨its2, r2, ⟨o2, n2, ho2, hc2, hd02, hd2⟩, _⟩ := I.list ht
  obtain ⟨cls, dd, data, sl⟩ := o
  obtain ⟨cls2, dd2, data2, sl2⟩ := o2
  simp only at hc hd hc2 hd2
  subst hc hd hc2 hd2
  have l1 := r.length
  have l2 := r2.length
  have ea : its.toArray ++ its2.toArray = (its ++ its2).toArray := by simp
  refine concat_meets ⟨_, ho, rfl⟩ ⟨_, ho2, rfl⟩ noFill_list_add seq_list_add PySem.F.slot_list_add PySem.F.entry_list_add (PySem.F.args_list_add_2 _ _) (list_addW l b its.toArray its2.toArray n n2 dd dd2 sl sl2 (by rw [List.size_toArray, List.size_toArray]; omega)) ⟨ho, ho2, ?_⟩
  rw [ea]
  exact ⟨.ref _, _, I.lnew (t' := s.toks) (r.append r2) (by rw [List.length_append]; omega), rfl, q _ I.fresh⟩
def dCatQ (x y : D) : Option D := (lstD x).bind fun xs => (lstD y).bind fun ys => if pls xs = true ∧ pls ys = true ∧ xs.length + ys.length ≤ sizeLine then some (.own (xs ++ ys)) else none
theorem ro_catQ {K : PySem.W.Frag} : Ro2 K (rCatQ K) dCatQ := fun H x y dx dy fx fy z Q rx ry e q => by
  obtain ⟨xs, h1, h2⟩ := Option.bind_eq_some_iff.mp e
  obtain ⟨ys, h3, h4⟩ := Option.bind_eq_some_iff.mp h2
  by_cases c : pls xs = true ∧ pls ys = true ∧ xs.length + ys.length ≤ sizeLine
  · rw [if_pos c] at h4
    cases h4
    obtain ⟨a, vs, f, ea, qa, ra⟩ := lst_sq h1 rx
    obtain ⟨b, us, g, eb, qb, rb⟩ := lst_sq h3 ry
    have ra0 := ra.nil_of c.1
    have rb0 := rb.nil_of c.2.1
    have la := ra.length
    have lb := rb.length
    exact ⟨a, b, vs, us, ea, eb, qa, qb, by omega, fun p n => q _ _ (new_own (by exact ra0.append rb0) n)⟩
  · rw [if_neg c] at h4; cases h4
def dAddA (x y : D) : Option D := match dAdd x y with
  | some z => some z
  | none => dCatQ x y
theorem op_addA {X : Cx} : OpR X (binaryOp .Add) (fun x y H Q => rAdd' X.K x y H Q ∨ rCatQ X.K x y H Q) := opR_or op_add' op_catQ
theorem ro_addA {K : PySem.W.Frag} : Ro2 K (fun x y H Q => rAdd' K x y H Q ∨ rCatQ K x y H Q) dAddA := fun H x y dx dy fx fy z Q rx ry e q => by
  unfold dAddA at e
  cases c : dAdd dx dy with
  | some z' =>
    rw [c] at e
    cases e
    exact .inl (ro_add H x y dx dy fx fy z Q rx ry c q)
  | none =>
    rw [c] at e
    exact .inr (ro_catQ H x y dx dy fx fy z Q rx ry e q)
@[simp] theorem dAddA_ol {xs ys : List D} : dAddA (.own xs) (.lst ys) = if pls xs = true ∧ pls ys = true ∧ xs.length + ys.length ≤ sizeLine then some (.own (xs ++ ys)) else none := rfl
@[simp] theorem dAddA_lo {xs ys : List D} : dAddA (.lst xs) (.own ys) = if pls xs = true ∧ pls ys = true ∧ xs.length + ys.length ≤ sizeLine then some (.own (xs ++ ys)) else none := rfl
@[simp] theorem dAddA_ll {xs ys : List D} : dAddA (.lst xs) (.lst ys) = if pls xs = true ∧ pls ys = true ∧ xs.length + ys.length ≤ sizeLine then some (.own (xs ++ ys)) else none := rfl
end Pm

set_option autoImplicit false
namespace Pm
open PySem PySem.Spec L2 LamX
/-! ### a lambda of one parameter, handed to a def -/
mutual
/-- no function in it -/
def nf : D → Bool
  | .tup xs => nfs xs
  | .lst xs => nfs xs
  | .own xs => nfs xs
  | .xo _ _ vs => nfs vs
  | .odc _ _ vs => nfs vs
  | .fdc _ _ vs => nfs vs
  | .fn => false
  | _ => true
def nfs : List D → Bool
  | [] => true
  | d :: ds => nf d && nfs ds
end
mutual
/-- what a step keeps by itself -/
def cap : D → Bool
  | .tup xs => caps xs
  | .lst xs => caps xs
  | .fdc _ _ vs => caps vs
  | .own _ => false
  | .xo _ _ _ => false
  | .odc _ _ _ => false
  | .fn => false
  | _ => true
def caps : List D → Bool
  | [] => true
  | d :: ds => cap d && caps ds
end
def nfw (w : Ev) : Bool := w.all fun o => match o with
  | some d => nf d
  | none => true
def capO : Option D → Option D
  | some d => if cap d then some d else none
  | none => none
def lamSt (w : Ev) : Ev := w.map capO
/-- what the lambda answers -/
def lamF (fl : PM D) (w : Ev) (d : D) : Option D := match fl (lamSt w ++ [some d]) with
  | .ok z _ => some z
  | _ => none
/-- x(e), x the parameter that holds the lambda -/
def xAct (i : Nat) (Fl : D → Option D) (f : PM D) : PM D := fun w => match slot w i with
  | some .fn => (f w).bind fun d w1 => match slot w1 i with
    | some .fn => (match Fl d with
      | some z => .ok z w1
      | none => .bad)
    | _ => .bad
  | _ => .bad
/-- g(lambda .., ..) -/
def xLam (np : Nat) (m : (D → Option D) → List D → Rd) (fl : PM D) (g : PM (List D)) : PM D := fun w => if nfw w then (g w).bind fun ds w1 => if nfs ds && nfw w1 && decide (ds.length + 1 = np) then match m (lamF fl w1) (.fn :: ds) with
    | .ok d [.fn] => if nf d then .ok d w1 else .bad
    | _ => .bad
  else .bad else .bad
section
variable {u0 : Unit} {J J' : Tab0 u0} {K : PySem.W.Frag} {H H' : Hp}
mutual
theorem rv_sw : ∀ (d : D) (v : V) (fp : List Addr), nf d = true → @RV u0 J K H d v fp → @RV u0 J' K H d v fp
  | .non, v, fp, _, h => h
  | .bl b, v, fp, _, h => h
  | .int i, v, fp, _, h => h
  | .str x, v, fp, _, h => h
  | .fn, v, fp, p, h => absurd p (by unfold nf; exact Bool.false_ne_true)
  | .tup xs, v, fp, p, h => by
    obtain ⟨a, vs, e, q, r⟩ := h
    exact ⟨a, vs, e, q, rvs_sw xs vs fp p r⟩
  | .lst xs, v, fp, p, h => by
    obtain ⟨a, vs, e, q, r, e2⟩ := h
    exact ⟨a, vs, e, q, rvs_sw xs vs [] p r, e2⟩
  | .own xs, v, fp, p, h => by
    obtain ⟨a, vs, f, e, q, r, e2⟩ := h
    exact ⟨a, vs, f, e, q, rvs_sw xs vs f p r, e2⟩
  | .xo c ns ds, v, fp, p, h => by
    obtain ⟨a, oe, C, d, us, ws, e, q, c1, c2, c3, c4, q2, r, l, e2⟩ := h
    exact ⟨a, oe, C, d, us, ws, e, q, c1, c2, c3, c4, q2, rvs_sw ds ws [] p r, l, e2⟩
  | .odc t ks ds, v, fp, p, h => by
    obtain ⟨a, u, ws, f, e, q, di, r, e2⟩ := h
    exact ⟨a, u, ws, f, e, q, di, rvs_sw ds ws f p r, e2⟩
  | .fdc t ks ds, v, fp, p, h => by
    obtain ⟨a, o, u, ws, e, q, di, r, e2⟩ := h
    exact ⟨a, o, u, ws, e, q, di, rvs_sw ds ws [] p r, e2⟩
theorem rvs_sw : ∀ (ds : List D) (vs : List V) (fp : List Addr), nfs ds = true → @RVs u0 J K H ds vs fp → @RVs u0 J' K H ds vs fp
  | [], vs, fp, _, h => h
  | d :: ds, vs, fp, p, h => by
    obtain ⟨v, r, f, g, e, q, t, e2⟩ := h
    unfold nfs at p
    rw [Bool.and_eq_true] at p
    exact ⟨v, r, f, g, e, rv_sw d v f p.1 q, rvs_sw ds r g p.2 t, e2⟩
end
mutual
theorem rv_un {fs ex : List Addr} {h1 h2 : Heap} (U : Un fs ex H H' h1 h2) : ∀ (d : D) (v : V) (fp : List Addr), cap d = true → @RV u0 J K H d v fp → @RV u0 J' K H' d v []
  | .non, v, fp, _, h => ⟨h.1, rfl⟩
  | .bl b, v, fp, _, h => ⟨h.1, rfl⟩
  | .int i, v, fp, _, h => ⟨h.1, rfl⟩
  | .str x, v, fp, _, h => ⟨h.1, rfl⟩
  | .fn, v, fp, p, h => absurd p (by unfold cap; exact Bool.false_ne_true)
  | .own _, v, fp, p, h => absurd p (by unfold cap; exact Bool.false_ne_true)
  | .xo _ _ _, v, fp, p, h => absurd p (by unfold cap; exact Bool.false_ne_true)
  | .odc _ _ _, v, fp, p, h => absurd p (by unfold cap; exact Bool.false_ne_true)
  | .tup xs, v, fp, p, h => by
    obtain ⟨a, vs, e, q, r⟩ := h
    exact ⟨a, vs, e, U.tups _ _ q, rvs_un U xs vs fp p r⟩
  | .lst xs, v, fp, p, h => by
    obtain ⟨a, vs, e, q, r, e2⟩ := h
    refine ⟨a, vs, e, ?_, rvs_un U xs vs [] p r, rfl⟩
    rcases q with ⟨o, q⟩ | q
    · exact .inl ⟨o, U.frzs _ _ _ q⟩
    · exact .inr q
  | .fdc t ks ds, v, fp, p, h => by
    obtain ⟨a, o, u, ws, e, q, di, r, e2⟩ := h
    exact ⟨a, o, u, ws, e, U.frzs _ _ _ q, di, rvs_un U ds ws [] p r, rfl⟩
theorem rvs_un {fs ex : List Addr} {h1 h2 : Heap} (U : Un fs ex H H' h1 h2) : ∀ (ds : List D) (vs : List V) (fp : List Addr), caps ds = true → @RVs u0 J K H ds vs fp → @RVs u0 J' K H' ds vs []
  | [], vs, fp, _, h => ⟨h.1, rfl⟩
  | d :: ds, vs, fp, p, h => by
    obtain ⟨v, r, f, g, e, q, t, e2⟩ := h
    unfold caps at p
    rw [Bool.and_eq_true] at p
    exact ⟨v, r, [], [], e, rv_un U d v f p.1 q, rvs_un U ds r g p.2 t, rfl⟩
end
/-- the captured names' data, later -/
theorem re_lam {fs ex : List Addr} {h1 h2 : Heap} (U : Un fs ex H H' h1 h2) (hT : @TabsH u0 J' H') {dl : Option D} {vl : V} {fl : List Addr} (hl : match dl with
      | some d => @RV u0 J' K H' d vl fl
      | none => fl = []) : ∀ {w : Ev} {s : L2.St} {fe : List Addr}, @RE u0 J K H w s fe → @RE u0 J' K H' (lamSt w ++ [dl]) (s ++ [some vl]) fl
  | [], s, fe, h => by
    obtain ⟨e, _⟩ := h
    subst e
    cases dl with
    | none => rw [hl]; exact ⟨some vl, [], rfl, rfl, rfl, hT⟩
    | some d => exact ⟨vl, [], fl, [], rfl, hl, ⟨rfl, rfl, hT⟩, by rw [List.append_nil]⟩
  | none :: r, s, fe, h => by
    obtain ⟨x, t, e, q⟩ := h
    subst e
    exact ⟨x, _, rfl, re_lam U hT hl q⟩
  | some d :: r, s, fe, h => by
    obtain ⟨v, t, f, g, e, q, q2, e2⟩ := h
    subst e
    by_cases c : cap d = true
    · show @RE u0 J' K H' ((if cap d then some d else none) :: (lamSt r ++ [dl])) _ _
      rw [if_pos c]
      exact ⟨v, _, [], fl, rfl, rv_un U d v f c q, re_lam U hT hl q2, rfl⟩
    · show @RE u0 J' K H' ((if cap d then some d else none) :: (lamSt r ++ [dl])) _ _
      rw [if_neg c]
      exact ⟨some v, _, rfl, re_lam U hT hl q2⟩
end
section
variable {u0 : Unit} [Tab0 u0] {K : PySem.W.Frag} {H H' : Hp}
mutual
theorem rv_pln : ∀ (d : D) (v : V) (fp : List Addr), nf d = true → RV K H d v fp → ∀ a ∈ fp, ∃ u, H a = some u ∧ Pln u
  | .non, v, fp, _, h => by obtain ⟨_, e⟩ := h; subst e; exact nofun
  | .bl b, v, fp, _, h => by obtain ⟨_, e⟩ := h; subst e; exact nofun
  | .int i, v, fp, _, h => by obtain ⟨_, e⟩ := h; subst e; exact nofun
  | .str x, v, fp, _, h => by obtain ⟨_, e⟩ := h; subst e; exact nofun
  | .fn, v, fp, p, h => absurd p (by unfold nf; exact Bool.false_ne_true)
  | .tup xs, v, fp, p, h => by
    obtain ⟨a, vs, e, q, r⟩ := h
    exact rvs_pln xs vs fp p r
  | .lst xs, v, fp, p, h => by
    obtain ⟨a, vs, e, q, r, e2⟩ := h
    subst e2
    exact nofun
  | .own xs, v, fp, p, h => by
    obtain ⟨a, vs, f, e, q, r, e2⟩ := h
    subst e2
    intro b hb
    rcases List.mem_cons.mp hb with z | z
    · subst z; exact ⟨_, q, pln_lst⟩
    · exact rvs_pln xs vs f p r b z
  | .xo c ns ds, v, fp, p, h => by
    obtain ⟨a, oe, C, d, us, ws, e, q, c1, c2, c3, c4, q2, r, l, e2⟩ := h
    subst e2
    exact nofun
  | .odc t ks ds, v, fp, p, h => by
    obtain ⟨a, u, ws, f, e, q, di, r, e2⟩ := h
    subst e2
    intro b hb
    rcases List.mem_cons.mp hb with z | z
    · subst z; exact ⟨_, q, di.pln⟩
    · exact rvs_pln ds ws f p r b z
  | .fdc t ks ds, v, fp, p, h => by
    obtain ⟨a, o, u, ws, e, q, di, r, e2⟩ := h
    subst e2
    exact nofun
theorem rvs_pln : ∀ (ds : List D) (vs : List V) (fp : List Addr), nfs ds = true → RVs K H ds vs fp → ∀ a ∈ fp, ∃ u, H a = some u ∧ Pln u
  | [], vs, fp, _, h => by obtain ⟨_, e⟩ := h; subst e; exact nofun
  | d :: ds, vs, fp, p, h => by
    obtain ⟨v, r, f, g, e, q, t, e2⟩ := h
    subst e2
    unfold nfs at p
    rw [Bool.and_eq_true] at p
    intro b hb
    rcases List.mem_append.mp hb with z | z
    · exact rv_pln d v f p.1 q b z
    · exact rvs_pln ds r g p.2 t b z
end
theorem re_pln : ∀ {w : Ev} {s : L2.St} {fe : List Addr}, nfw w = true → RE K H w s fe → ∀ a ∈ fe, ∃ u, H a = some u ∧ Pln u
  | [], s, fe, p, h => by obtain ⟨_, e, _⟩ := h; subst e; exact nofun
  | none :: r, s, fe, p, h => by
    obtain ⟨x, t, e, q⟩ := h
    exact re_pln (by simpa [nfw] using p) q
  | some d :: r, s, fe, p, h => by
    obtain ⟨v, t, f, g, e, q, q2, e2⟩ := h
    subst e2
    have p' : nf d = true ∧ nfw r = true := by simpa [nfw] using p
    intro b hb
    rcases List.mem_append.mp hb with z | z
    · exact rv_pln d v f p'.1 q b z
    · exact re_pln p'.2 q2 b z
theorem codeO_pln {c : Addr} {q : Str} (h : Pln (CodeO c q)) : False := h.1 _ rfl
end

/-- one parameter b, no other name of its own: captured ones and globals -/
structure Lam1 (sc scope : Scope) (b : Str) : Prop where
  kind : scope.kind = .function
  co : scope.isCoroutine = false
  gen : scope.isGenerator = false
  par : scope.names.lookup b = some .local
  own : ∀ y ∈ scope.names, y.2 ≠ .cell ∧ (y.2 = .local → y.1 = b)
  free : ∀ y ∈ scope.names, y.2 = .free → sc.names.lookup y.1 = some .cell ∨ sc.names.lookup y.1 = some .free
def lam1B (sc scope : Scope) (b : Str) : Bool :=
  decide (scope.kind = .function) && !scope.isCoroutine && !scope.isGenerator && decide (scope.names.lookup b = some .local) &&
    scope.names.all fun y => !decide (y.2 = .cell) && (!decide (y.2 = .local) || decide (y.1 = b)) && (!decide (y.2 = .free) || decide (sc.names.lookup y.1 = some .cell) || decide (sc.names.lookup y.1 = some .free))
theorem lam1_by {sc scope : Scope} {b : Str} (h : lam1B sc scope b = true) : Lam1 sc scope b := by
  unfold lam1B at h
  simp only [Bool.and_eq_true, Bool.or_eq_true, Bool.not_eq_true', decide_eq_true_eq, decide_eq_false_iff_not, List.all_eq_true] at h
  obtain ⟨⟨⟨⟨h1, h2⟩, h3⟩, h4⟩, h5⟩ := h
  exact ⟨h1, h2, h3, h4, fun y m => ⟨(h5 y m).1.1, fun e => (h5 y m).1.2.resolve_left (fun q => q e)⟩, fun y m e => (h5 y m).2.elim (fun z => z.elim (fun q => absurd e q) .inl) .inr⟩
theorem Lam1.has {X : Cx} {scope : Scope} {b : Str} (L : Lam1 X.env.scope scope b) (ok : X.Ok) : ∀ y ∈ scope.names, y.2 = .free → ∃ c, X.env.cells.lookup y.1 = some c := fun y m e => ok.has _ (L.free y m e)
/-- the context of the lambda's body -/
def lamC (X : Cx) (A : Around) (outer : List Env) (s : Shared) (H : Hp) (scope : Scope) (f c' : Addr) (b : Str) : Cx := { lamCx X A outer s H C8.E0 scope f c' with N := X.N ++ [b] }
section
variable {X : Cx} {pins : List (Addr × Obj)} {σ : L2.St} {H HZ : Hp} {s s1 : Shared}
theorem lam_go {A : Around} {outer : List Env} {scope : Scope} {f c' : Addr} {b : Str} {u : Value} {v : V} {h₁ : Heap} {tk : Nat} (I : Inv X pins σ H s) (L : Lam1 X.env.scope scope b) (nb : b ∉ X.N) (e0 : Env0 X.prog X.w X.K X.mg X.base A outer s1 HZ) (hd : A.handled = none)
    (un : Un (frs X.stack) [] H HZ s.heap s1.heap) (hns : h₁.Ns s1.heap.objs.size fun y => ([(b, u)] : List (Str × Value)).reverse.lookup y) (kp : ∀ a o, s1.heap.get? a = some o → h₁.get? a = some o) (rv : RelV v u) :
    Inv (lamC X A outer s1 HZ scope f c' b) [] (σ ++ [some v]) HZ { s1 with heap := h₁, toks := tk } := by
  have hfree := L.has I.ok
  have back : ∀ {y c}, (cloFrom X.env.cells scope.names []).lookup y = some c → X.env.cells.lookup y = some c := fun e => NdefX.clo_cm hfree e
  have cellK : ∀ {c : Addr} {x : Option Value}, H c = none → s.heap.IsCell c x → h₁.IsCell c x := fun {c x} n ⟨o, ho, hd⟩ => by
    obtain ⟨sl, q⟩ := un.any ho n (by simp)
    exact ⟨_, kp _ _ q, hd⟩
  have hx : ∀ a : Addr, a ∉ (lamC X A outer s1 HZ scope f c' b).ex := fun a z => nomatch (show a ∈ ([] : List Addr) from z)
  have okc : (lamC X A outer s1 HZ scope f c' b).Ok := {
    mod := e0.mod, kind := L.kind, glob := rfl, blt := rfl, above := Nat.le_refl _,
    inj := fun y z c e1 e2 => I.ok.inj y z c (back e1) (back e2)
    has := fun y hy => by
      rcases hy with hy | hy
      · exact absurd rfl (L.own _ (PySem.mem_of_lookup (show scope.names.lookup y = some .cell from hy))).1
      · exact mem_lookup (cloFrom_has (cells := X.env.cells) (acc := []) (PySem.mem_of_lookup (show scope.names.lookup y = some .free from hy)))
    cab := fun y c z _ => nomatch (show false = true from z)
    hd := fun _ => hd, frames := Around.frames_deeper e0.frames, stk := .inr ⟨rfl, rfl⟩, exf := fun a z => absurd z (hx a)
    bs := e0.bs, bsz := e0.bsz, noex := fun a _ _ => hx a, exfs := fun a z => absurd z (hx a), funs := e0.funs, frf := e0.frf }
  refine { ok := okc, os := rfl, bare := e0.bare, base := Un.kept kp, loc := ⟨_, hns, fun i y x e1 e2 e3 => ?_⟩, cell := fun y c e => ?_, free := e0.hok.fresh (Nat.le_refl _), freeC := fun y c e => ?_, pin := fun q hq => (nomatch (show q ∈ ([] : List (Addr × Obj)) ++ [] from hq)), hok := e0.hok.kept kp, len := ?_ }
  · replace e1 : (X.N ++ [b])[i]? = some y := e1
    replace e3 : Vis scope y := e3
    by_cases hi : i < X.N.length
    · rw [List.getElem?_append_left hi] at e1
      rw [List.getElem?_append_left (by rw [I.len]; exact hi)] at e2
      have hk : scope.names.lookup y = some .free := by
        rcases e3 with k | k | k
        · exact absurd ((L.own _ (PySem.mem_of_lookup k)).2 rfl ▸ List.mem_of_getElem? e1) nb
        · exact absurd rfl (L.own _ (PySem.mem_of_lookup k)).1
        · exact k
      obtain ⟨m, hn, hl⟩ := I.loc
      have hy := L.free _ (PySem.mem_of_lookup hk) rfl
      obtain ⟨u', r, q⟩ := hl i y x e1 e2 (.inr hy)
      rcases q with ⟨k', _⟩ | ⟨_, c3, ec, z⟩
      · have k' : X.env.scope.names.lookup y = some .local := k'
        rcases hy with k2 | k2 <;> (rw [show X.env.scope.names.lookup y = _ from k2] at k'; cases k')
      · exact ⟨u', r, .inr ⟨.inr hk, c3, NdefX.clo_has hfree (PySem.mem_of_lookup hk) ec, cellK (I.freeC y c3 ec) z⟩⟩
    · have hl := I.len
      have hi2 : i = X.N.length := by
        have := (List.getElem?_eq_some_iff.mp e1).1
        simp at this
        omega
      subst hi2
      rw [List.getElem?_append_right (Nat.le_refl _), Nat.sub_self] at e1
      rw [← hl, List.getElem?_append_right (Nat.le_refl _), Nat.sub_self] at e2
      cases e1
      cases e2
      exact ⟨u, rv, .inl ⟨L.par, by simp⟩⟩
  · obtain ⟨x, z⟩ := I.cell y c (back e)
    exact ⟨x, cellK (I.freeC y c (back e)) z⟩
  · obtain ⟨x, o, ho, _⟩ := I.cell y c (back e)
    exact un.free c o ho (I.freeC y c (back e)) (by simp)
  · show (σ ++ [some v]).length = (X.N ++ [b]).length
    rw [List.length_append, List.length_append, I.len]; rfl
end
end Pm

set_option autoImplicit false
namespace Pm
open PySem PySem.Spec L2 LamX PyProof.Rows
abbrev lamJ {u0 : Unit} (J : Tab0 u0) (f c : Addr) (q : Str) : Tab0 u0 := ⟨J.T, f, c, q⟩
theorem cx_no {P : Program} {w : World} {outer : List Env} {H : Hp} {s : Shared} {e : Value} {s' : Shared} (x : L2.CX P w outer H s C8.E0 e s') : False := by
  obtain ⟨_, _, _, _, _, _, _, _, _, _, _, _, z⟩ := x
  exact z
/-- x(e), where the name a in slot i holds the lambda -/
def ActR {u0 : Unit} [Tab0 u0] (Z : Cx) (a : Str) (i : Nat) (Fl : D → Option D) : Prop :=
  ∀ (e : Expr) (f : PM D) (p1 p2 : Pos), PE Z e (tP Z.K Z.mg EhN f) → starEach [e] Z.env = (false, eval e Z.env) :: starEach [] Z.env → PE Z (.Call (.Name a p1) [e] [] p2) (tP Z.K Z.mg EhN (xAct i Fl f))
theorem act_ok {u0 : Unit} {J : Tab0 u0} {X : Cx} {pins : List (Addr × Obj)} {σ : L2.St} {H : Hp} {s : Shared} {Eg : XK} {w : Ev} {fe : List Addr} {Ng : List Str} {x a b : Str} {sg : Scope} {g f c' : Addr} {cdg pm ctv : Value} {params : Arguments} {body : Expr} {scope : Scope} {i k : Nat} {fl : PM D}
    (I : Inv X pins σ H s) (hre : @RE u0 J X.K H w σ fe) (L : Lam1 X.env.scope scope b) (nb : b ∉ X.N)
    (hf : s.heap.get? f = some (PySem.W.kla_obj "<lambda>" (X.env.qual ++ "<lambda>") params body scope (cloFrom X.env.cells scope.names []) pm c' ctv)) (hfn : H f = none) (hfr : f ∉ frs X.stack)
    (hbind : ∀ u : Value, bindArgs (PySem.W.kla_fn "<lambda>" (X.env.qual ++ "<lambda>") params body scope (cloFrom X.env.cells scope.names []) pm (.ref c') ctv) ⟨[u], []⟩ = pure [(b, u)])
    (hr : Room (k + 1) (X.A.deeper (envOfC x sg s.heap.objs.size g cdg)))
    (hbody : ∀ (A : Around) (outer : List Env) (s : Shared) (H : Hp) (f c' : Addr), Room k (A.deeper (lamEnv X scope s.heap.objs.size f c')) → PE (lamC X A outer s H scope f c' b) body (@tP u0 (lamJ J f c' (X.env.qual ++ "<lambda>")) X.K X.mg EhN fl))
    (hN : Ng[i]? = some a) (hv : Vis sg a) (hd : (a == ("__debug__" : Str)) = false := by decide) (hcd : (a == ("__classdict__" : Str)) = false := by decide) :
    @ActR u0 (lamJ J f c' (X.env.qual ++ "<lambda>")) (cxOf CX0 X.prog X.w X.K X.mg X.base Ng x sg g cdg X.A X.stack s H Eg).nox a i (lamF fl w) := by
  letI J' : Tab0 u0 := lamJ J f c' (X.env.qual ++ "<lambda>")
  intro e fe p1 p2 he hst
  refine ⟨fun pinsZ sZ σZ HZ Q IZ h => ?_⟩
  obtain ⟨wz, FZ, hold, q⟩ := h
  unfold xAct at q
  cases ei : slot wz i with
  | none => rw [ei] at q; exact q.elim
  | some di =>
    rw [ei] at q
    cases di with
    | fn =>
      dsimp only at q
      obtain ⟨v0, f0, es, r0, m0⟩ := hold.atSlot ei
      obtain ⟨ev, hc, ef⟩ := r0
      replace ev : v0 = .ref f := ev
      replace hc : HZ c' = some (CodeO c' (X.env.qual ++ "<lambda>")) := hc
      subst ev
      refine wpAny_Call_Name_kw (thn ((pe_var (X := (cxOf CX0 X.prog X.w X.K X.mg X.base Ng x sg g cdg X.A X.stack s H Eg).nox) (pos := p1) (i := i) hN hv hd hcd).run pinsZ sZ σZ HZ (fun v H1 => v = .ref f ∧ H1 = HZ) IZ ⟨.ref f, es, rfl, rfl⟩) fun u s1 ⟨v, H1, I1, r1, q1⟩ => ?_)
      obtain ⟨ev, eH⟩ := q1
      subst ev
      rw [eH] at I1
      obtain rfl : u = Value.ref f := r1
      have at_f : ∀ {pz : List (Addr × Obj)} {sz : L2.St} {Hz : Hp} {s2 : Shared}, Inv (cxOf CX0 X.prog X.w X.K X.mg X.base Ng x sg g cdg X.A X.stack s H Eg).nox pz sz Hz s2 → s2.heap.get? f = some (PySem.W.kla_obj "<lambda>" (X.env.qual ++ "<lambda>") params body scope (cloFrom X.env.cells scope.names []) pm c' ctv) :=
        fun Iz => Iz.base.keep f _ hf hfn hfr (fun z => nomatch (show f ∈ ([] : List Addr) from z))
      -- the argument
      have ha : PA (cxOf CX0 X.prog X.w X.K X.mg X.base Ng x sg g cdg X.A X.stack s H Eg).nox [e] (tA X.K X.mg EhN (xCons fe xNil)) := pa1 he pa0 hst
      refine PySem.W.callWith_F (first := []) ⟨_, _, _, _, at_f I1⟩ (thn (ha.run p2 pinsZ s1 σZ HZ (fun vs H2 => ∃ d w2 v F2, vs = [v] ∧ fe wz = .ok d w2 ∧ Stp FZ HZ F2 H2 ∧ Hold X.K H2 w2 σZ [d] [v] F2) I1 ⟨wz, FZ, hold, ?_⟩) fun us s2 ⟨vs, H2, I2, r, d, w2, v, F2, evs, ed, st, h2⟩ => ⟨⟨_, _, _, _, at_f I2⟩, ?_⟩) hst rfl
      · show Po X.K X.mg EhN HZ FZ σZ ((fe wz).bind fun d w1 => (xNil w1).bind fun ds w2 => .ok (d :: ds) w2) _
        cases ed : fe wz with
        | bad => rw [ed] at q; exact q.elim
        | ex c fs w2 => exact fun _ _ _ _ _ _ _ => (show False from by
            rename_i cls od H' F' st h' xx
            rw [ed] at q
            exact q cls od H' F' st h' xx)
        | ok d w2 =>
          intro vs H2 F2 st h2
          have hl := hold_len h2
          match vs, hl with
          | [v], _ => exact ⟨d, w2, v, F2, rfl, rfl, st, h2⟩
      · subst evs
        rw [ed] at q
        have ⟨hc2, q⟩ : H2 c' = some (CodeO c' (X.env.qual ++ "<lambda>")) ∧ Po X.K X.mg EhN HZ FZ σZ (match lamF fl w d with
          | some z => Rs.ok z w2
          | none => .bad) (fun d w' => ∀ v H' F', Stp FZ HZ F' H' → Hold X.K H' w' σZ [d] [v] F' → Q v H') := by
          dsimp only [Rs.bind] at q
          cases e2 : slot w2 i with
          | none => rw [e2] at q; exact q.elim
          | some dd =>
            rw [e2] at q
            cases dd with
            | fn =>
              obtain ⟨_, _, _, r2, _⟩ := h2.atSlot e2
              exact ⟨r2.2.1, q⟩
            | _ => exact q.elim
        have ⟨u, eu, rv⟩ : ∃ u, us = [u] ∧ RelV v u := by
          cases r with
          | cons rv rn =>
            cases rn
            exact ⟨_, rfl, rv⟩
        subst eu
        · 
          unfold lamF at q
          cases el : fl (lamSt w ++ [some d]) with
          | bad => rw [el] at q; exact q.elim
          | ex c fs wl => rw [el] at q; exact q.elim
          | ok z wl =>
            rw [el] at q
            obtain ⟨ft, rt, ndt, fr⟩ := h2.call
            have un : Un (frs X.stack) [] H H2 s.heap s2.heap := I2.base
            have hl2 : Hold X.K H2 (lamSt w ++ [some d]) (σ ++ [some v]) [] [] ft :=
              ⟨[], ft, ⟨rfl, rfl⟩, re_lam (J := J) un h2.tabs (dl := some d) rt.one' hre, .refl _, ndt⟩
            obtain ⟨⟨oc, vs, t, hoc, hdc, hvc⟩, _, _⟩ := I2.hok c' _ hc2
            have rc : codeAny (model X.prog X.w) (X.A.deeper (envOfC x sg s.heap.objs.size g cdg)) (.call (.ref f) ⟨[u], []⟩) (CR CX0 (envOfC x sg s.heap.objs.size g cdg :: X.stack) X.prog X.w H2 s2 Q E0) s2 := by
              refine PySem.W.kla_callFunE hr.depth (at_f I2) rfl L.co L.gen rfl ⟨c', oc, vs, t, rfl, hoc, hdc, hvc⟩ ?_
              rw [hbind]
              refine wpAny_pure (wpAny_newFunctionEnv (fun y hy => (L.own y hy).1) (fun y hy => ?_) (fun h₁ hns hsb => ⟨I2.nolimit.fresh _ hsb, ?_⟩) L.kind)
              · have e0 : y = (b, u) := by simpa using hy
                rw [e0]; exact L.par
              · show codeAny _ _ (.expr body (lamEnv X scope s2.heap.objs.size f c')) _ _
                have kp : ∀ a o, s2.heap.get? a = some o → h₁.get? a = some o := fun a o e => hsb.extBut a o (Nat.ne_of_lt (Heap.lt_size e)) (Heap.get?_push_of_some _ e)
                have Jn := lam_go (A := X.A.deeper (envOfC x sg s.heap.objs.size g cdg)) (outer := envOfC x sg s.heap.objs.size g cdg :: X.stack) (c' := c') (f := f) (tk := s2.toks + ([(b, u)] : List (Str × Value)).length) I L nb I2.env0 hr.hd un hns kp rv
                refine PySem.W.kla_codeExpr (wpAny_mono ((hbody _ _ s2 H2 f c' (hr.deeper _)).run [] _ _ H2 Q Jn ⟨_, _, hl2, ?_⟩) (fun v s' hq => ?_) fun e s' hq => ?_)
                · rw [el]
                  intro v' H' F' st' h'
                  obtain ⟨ft', fe', k1, k2, pp, nd⟩ := h'
                  have nd2 := List.nodup_append.mp (pp.nodup_iff.mp nd)
                  obtain ⟨F3, h3, st3⟩ := fr (st'.trans (Stp.refl (F' := ft') fun a m => pp.mem_iff.mpr (List.mem_append_left _ m))) k1 nd2.1
                  exact q v' H' F3 (st.trans st3) h3
                · obtain ⟨w', H', Jq, rv', q'⟩ := hq
                  exact ⟨w', H', Jq.os, Jq.bare, Jq.base, Jq.hok, rv', q'⟩
                · exact wpAny_mono (show wpAny _ _ _ _ _ _ from hq) (fun _ _ z => (cx_no z).elim) (fun _ _ z => (cx_no z).elim)
            show wpAny _ _ (call (.ref f) ([] ++ [u])) _ _ _
            refine wpAny_call (codeAny_mono rc fun r s' hq => ?_)
            cases r with
            | error e => exact hq.elim
            | ok fl =>
              cases fl with
              | ret u => exact I2.after hq
              | next => exact False.elim hq
              | brk => exact False.elim hq
              | cont => exact False.elim hq
    | _ => exact q.elim
end Pm

set_option autoImplicit false
namespace Pm
open PySem PySem.Spec L2 LamX PyProof.Rows
/-- a def's promise, told at its start -/
theorem def_read {u0 : Unit} [Tab0 u0] {K : PySem.W.Frag} {mg : Str → Option Value} {N : List Str} {np : Nat} {io wr : List Nat} {body : PM Fl} {vs : List V} {H : Hp} {Q : VK} {E : XK} (hio : ∀ i ∈ io, i ∉ wr ∧ i < np) (hnd : io.Nodup)
    (h : spP K np io (mkDef N.length np io body) vs H Q E) : tS K mg EhN wr body { nx := fun _ H' => Q .non H', rt := Q } (start N vs) H := by
  obtain ⟨hl, hT, ds, FF, rv, nd, q⟩ := h
  have hdl : ds.length = vs.length := rv.length
  unfold mkDef at q
  rw [if_pos (hdl.trans hl)] at q
  have es : start N vs = vs.map some ++ List.replicate (N.length - vs.length) none := rfl
  refine ⟨startE N.length ds, FF, ⟨[], FF, ⟨rfl, rfl⟩, ?_, .refl _, nd⟩, ?_⟩
  · rw [es]
    unfold startE
    rw [hdl]
    exact re_start hT rv
  · have slots : ∀ {s' : L2.St}, Agr wr (start N vs) s' → ∀ i ∈ io, s'[i]? = some (some (vs.getD i .non)) := fun {s'} ag i m => by
      obtain ⟨n1, n2⟩ := hio i m
      rw [ag.2 i n1, es]
      have hi : i < vs.length := by rw [hl]; exact n2
      rw [List.getElem?_append_left (by simpa using hi), List.getElem?_map, List.getElem?_eq_getElem hi]
      rw [List.getD_eq_getElem?_getD, List.getElem?_eq_getElem hi]
      rfl
    have fin : ∀ {d : D} {w' : Ev} {v : V} {s' : L2.St} {H' : Hp} {F' : List Addr}, (match endD d (outsOf io w') with
        | .ok d outs => ∀ v H' F', Stp FF H F' H' → RVs K H' (d :: outs) (v :: io.map fun k => vs.getD k .non) F' → F'.Nodup → Q v H'
        | _ => False) → Stp FF H F' H' → Agr wr (start N vs) s' → Hold K H' w' s' [d] [v] F' → Q v H' := fun {d w' v s' H' F'} q st ag h' => by
      cases e : outsOf io w' with
      | none => rw [e] at q; exact q.elim
      | some os =>
        rw [e] at q
        obtain ⟨F2, r, nd2, sub⟩ := Hold.outs (g := fun k => vs.getD k .non) h' e hnd (slots ag)
        exact q v H' F2 (st.trans (Stp.refl sub)) r nd2
    cases e : body (startE N.length ds) with
    | bad => rw [e] at q; exact q.elim
    | ex c fs w' =>
      rw [e] at q
      dsimp only at q
      cases e2 : outsOf io w' with
      | none => rw [e2] at q; exact q.elim
      | some os => rw [e2] at q; exact q.elim
    | ok fl w' =>
      rw [e] at q
      cases fl with
      | nx =>
        intro s' H' F' st ag h'
        refine fin (v := .non) q st ag ?_
        obtain ⟨ft, fe, h1, h2, p, nd⟩ := h'
        have e0 : ft = [] := h1.2
        subst e0
        exact ⟨[], fe, RVs.one ⟨rfl, rfl⟩, h2, p, nd⟩
      | rt d => exact fun v s' H' F' st ag h' => fin q st ag h'
      | bk => exact q.elim
      | ct => exact q.elim
theorem stp_sw {u0 : Unit} {J J' : Tab0 u0} (e : J.T = J'.T) {F F' : List Addr} {H H' : Hp} (h : @Stp u0 J F H F' H') : @Stp u0 J' F H F' H' :=
  @Stp.mk u0 J' F H F' H' (@Kp.mk u0 J' F H H' (@Kp.kp u0 J F H H' (@Stp.keep u0 J F H F' H' h)) (fun t => by
    have t2 : @TabsH u0 J H := by
      show LamX.Tabs J.T H
      rw [e]; exact t
    have t3 := @Kp.tab u0 J F H H' (@Stp.keep u0 J F H F' H' h) t2
    show LamX.Tabs J'.T H'
    rw [← e]; exact t3)) (@Stp.new u0 J F H F' H' h)
/-- g(lambda .., ..) -/
theorem pp_lam {u0 : Unit} [J : Tab0 u0] {X : Cx} {Eh : WX} {x a b : Str} {st : Stmt} {g c P : Addr} {fd : FuncData} {Ng ps : List Str} {k kl : Nat} {params : Arguments} {body : Expr} {scope : Scope} {lpos p pos : Pos} {es : List Expr} {wr : List Nat}
    {bx : (D → Option D) → PM Fl} {m : (D → Option D) → List D → Rd} {fl : PM D} {gm : PM (List D)}
    (F : Fun X.K x x st g fd) (Sg : FnScope Ng (a :: ps) (defScope st)) (hb : Binds X.K fd (a :: ps) []) (hg : Gl X x) (hm : X.mg x = some (.ref g)) (hr : Room (k + 1) X.A) (hkl : kl + 1 ≤ k)
    (hG : ∀ (J : Tab0 u0) (Fl : D → Option D) (cdv : Value) (A : Around) (outer : List Env) (s : Shared) (H : Hp) (E : XK), Room k (A.deeper (envOfC x (defScope st) s.heap.objs.size g cdv)) →
      @ActR u0 J (cxOf CX0 X.prog X.w X.K X.mg X.base Ng x (defScope st) g cdv A outer s H E).nox a 0 Fl →
      PSs (cxOf CX0 X.prog X.w X.K X.mg X.base Ng x (defScope st) g cdv A outer s H E).nox (defBody st) (@tS u0 J X.K X.mg EhN wr (bx Fl)))
    (hmd : m = fun Fl => mkDef Ng.length (ps.length + 1) [0] (bx Fl))
    (TB : TabB X.base X.mg c P) (hcode : X.env.code = .ref c) (hmT : (P, X.env.qual ++ "<lambda>") ∈ (Tab0.T : List (Addr × Str))) (hu : ∀ p ∈ (Tab0.T : List (Addr × Str)), p.1 = P → p.2 = X.env.qual ++ "<lambda>")
    (L : Lam1 X.env.scope scope b) (nb : b ∉ X.N) (hdef : defaultsOf params X.env = ([], []))
    (hbind : ∀ (q : Str) (cl : List (Str × Addr)) (pm cv ctv u : Value), bindArgs (PySem.W.kla_fn "<lambda>" q params body scope cl pm cv ctv) ⟨[u], []⟩ = pure [(b, u)])
    (hbody : ∀ (J : Tab0 u0) (A : Around) (outer : List Env) (s : Shared) (H : Hp) (f c' : Addr), Room kl (A.deeper (lamEnv X scope s.heap.objs.size f c')) → PE (lamC X A outer s H scope f c' b) body (@tP u0 J X.K X.mg EhN fl))
    (ha : PA X es (tA X.K X.mg Eh gm)) (h0 : 0 ∉ wr := by decide) (hN : Ng[0]? = some a := by rfl) (hva : Vis (defScope st) a := by first | exact .inl rfl | exact .inr (.inl rfl)) (hdb : (x == ("__debug__" : Str)) = false := by decide) (hd : (a == ("__debug__" : Str)) = false := by decide) (hcd : (a == ("__classdict__" : Str)) = false := by decide)
    (he : starEach (.Lambda params body scope lpos :: es) X.env = (false, eval (.Lambda params body scope lpos) X.env) :: starEach es X.env := by rfl) (hpl : (backTo pos (starEach es X.env)).any (·.1) = false := by rfl) :
    PE X (.Call (.Name x p) (.Lambda params body scope lpos :: es) [] pos) (tP X.K X.mg Eh (xLam (ps.length + 1) m fl gm)) := by
  refine ⟨fun pins s σ H Q I h => ?_⟩
  obtain ⟨w, F0, hold, q⟩ := h
  unfold xLam at q
  by_cases nw : nfw w = true
  · rw [if_pos nw] at q
    obtain ⟨oc, od, kV, doc, pm0, an, cdv, ct, osl, efd, lk, hcg⟩ := F.ex
    refine wpAny_Call_Name_kw (ld_glob I hg hm ?_ hdb)
    refine PySem.W.callWith_K (h₀ := X.base) I.ok.mod.kin F.kp ?_ he hpl
    rw [he]
    show wpAny _ _ (spliced ((false, eval (.Lambda params body scope lpos) X.env) :: backTo pos (starEach es X.env))) _ _ s
    refine Calls.spliced_cons (lam_make2 I TB hcode hmT hu hold.tabs hdef (L.has I.ok) fun f c' pm' ctv H1 s' I1 eN T1 hf hfn hfr hco => ?_)
    have k1 : Kp [] H H1 := ⟨fun a o e _ ht => eN a o e ht, fun _ => T1⟩
    have hold1 := hold_kp hold k1
    have st0 : Stp F0 H F0 H1 := stp_kp k1
    -- the function's object is pinned
    have hloc : f ≠ X.env.locals := fun e => by
      obtain ⟨m', ⟨o, es', ep, eo, edd, _⟩, _⟩ := I1.loc
      rw [← e, hf] at eo
      cases eo
      cases edd
    have hfs : f ∉ X.fs := fun z => hfr (by
      rcases I.ok.stk with e | ⟨e, e2⟩
      · rw [e]; exact z
      · rw [e]
        unfold frs
        rw [List.filterMap_cons, e2]
        exact List.mem_cons_of_mem _ z)
    have I1' : Inv X ((f, PySem.W.kla_obj "<lambda>" (X.env.qual ++ "<lambda>") params body scope (cloFrom X.env.cells scope.names []) pm' c' ctv) :: pins) σ H1 s' := { I1 with
      pin := fun p hp => by
        rcases List.mem_append.mp hp with z | z
        · exact I1.pin p (List.mem_append_left _ z)
        · rcases List.mem_cons.mp z with z | z
          · subst z
            exact ⟨hf, hfn, hloc, hfs, fun v e => nomatch e⟩
          · exact I1.pin p (List.mem_append_right _ z) }
    have pl1 : ∀ y ∈ F0, ∃ u, H1 y = some u ∧ Pln u := by
      obtain ⟨ft, fe, h1, h2, pp, nd⟩ := hold1
      have e0 : ft = [] := h1.2
      subst e0
      exact fun y m => re_pln nw h2 y (pp.mem_iff.mp m)
    refine thn (ha.run pos _ s' σ H1 (fun us H2 => ∃ ds w2 F2, gm w = .ok ds w2 ∧ Stp F0 H1 F2 H2 ∧ Hold X.K H2 w2 σ ds us F2) I1' ⟨w, F0, hold1, ?_⟩) fun us s2 ⟨vs, H2, I2, r, ds, w2, F2, ed, st2, h2⟩ => ?_
    · cases ed : gm w with
      | bad => rw [ed] at q; exact q.elim
      | ex cc fs w2 =>
        rw [ed] at q
        exact fun cls od H' F' st' h' xx => q cls od H' F' (st0.trans st') h' xx
      | ok ds w2 => exact fun vs H2 F2 st h2 => ⟨ds, w2, F2, rfl, st, h2⟩
    · rw [ed] at q
      dsimp only [Rs.bind] at q
      by_cases cc : (nfs ds && nfw w2 && decide (ds.length + 1 = ps.length + 1)) = true
      · rw [if_pos cc] at q
        simp only [Bool.and_eq_true, decide_eq_true_eq] at cc
        obtain ⟨⟨c1, c2⟩, c3⟩ := cc
        have p2 := I2.pin _ (List.mem_append_right _ List.mem_cons_self)
        have hl : vs.length = ps.length := by rw [← hold_len h2]; omega
        have hco2 : H2 c' = some (CodeO c' (X.env.qual ++ "<lambda>")) := st2.keep.kp c' _ hco (fun z => by
          obtain ⟨u, e1, e2⟩ := pl1 c' z
          rw [hco] at e1
          cases e1
          exact codeO_pln e2) fun ps => codeO_ne ps
        obtain ⟨ft, rt, ndt, fr⟩ := h2.call
        have ncf : c' ∉ ft := fun z => by
          obtain ⟨u, e1, e2⟩ := rvs_pln ds vs ft c1 rt c' z
          rw [hco2] at e1
          cases e1
          exact codeO_pln e2
        obtain ⟨ft0, fe, g1, g2, pp, nd0⟩ := h2
        have hT2 : TabsH H2 := g2.tabs
        refine ⟨I2.kIn, ?_⟩
        have hsp : @spP u0 (lamJ J f c' (X.env.qual ++ "<lambda>")) X.K (ps.length + 1) [0] (m (lamF fl w2)) (.ref f :: vs) H2 Q E0 := by
          refine ⟨by rw [List.length_cons, hl], hT2, .fn :: ds, c' :: ft, ⟨.ref f, vs, [c'], ft, rfl, ⟨rfl, hco2, rfl⟩, rvs_sw (J := J) ds vs ft c1 rt, rfl⟩, List.nodup_cons.mpr ⟨ncf, ndt⟩, ?_⟩
          cases em : m (lamF fl w2) (.fn :: ds) with
          | bad => rw [em] at q; exact q.elim
          | ex _ _ _ => rw [em] at q; exact q.elim
          | ok d outs =>
            rw [em] at q
            match outs, q with
            | [.fn], q =>
              dsimp only at q
              by_cases cd : nf d = true
              · rw [if_pos cd] at q
                intro v H' F' st6 r' nd'
                have st' : Stp (c' :: ft) H2 F' H' := stp_sw (J := lamJ J f c' (X.env.qual ++ "<lambda>")) (J' := J) rfl st6
                obtain ⟨v1, r1, f1, g1', e1, k1', k2', e2⟩ := r'
                cases e1
                obtain ⟨v2, r2, f2, g2', e3, k3, ⟨k4, k5⟩, e4⟩ := k2'
                cases e3
                obtain ⟨k6, k7, k8⟩ := k3
                replace k7 : H' c' = some (CodeO c' (X.env.qual ++ "<lambda>")) := k7
                replace k8 : f2 = [c'] := k8
                subst e4; subst k8; subst k5
                subst e2
                have nd2 := List.nodup_append.mp nd'
                have kk : Kp ft H2 H' := ⟨fun y o e n ht => by
                  by_cases hy : y = c'
                  · subst hy
                    rw [hco2] at e
                    rw [k7, e]
                  · exact st'.keep.kp y o e (fun z => (List.mem_cons.mp z).elim hy n) ht, st'.keep.tab⟩
                have st3 : Stp ft H2 f1 H' := ⟨kk, fun y my => by
                  rcases st'.new y (List.mem_append_left _ my) with z | z
                  · rcases List.mem_cons.mp z with z | z
                    · exact absurd z (nd2.2.2 y my c' (List.mem_append_left _ List.mem_cons_self))
                    · exact .inl z
                  · exact .inr z⟩
                obtain ⟨F3, h3, st4⟩ := fr st3 (RVs.one (rv_sw (J := lamJ J f c' (X.env.qual ++ "<lambda>")) (J' := J) d _ f1 cd k1')) nd2.1
                exact q _ H' F3 ((st0.trans st2).trans st4) h3
              · rw [if_neg cd] at q; exact q.elim
        rw [hmd] at hsp
        have rc : codeAny (model X.prog X.w) X.A (.call (.ref g) ⟨.ref f :: us, []⟩) (CR CX0 X.stack X.prog X.w H2 s2 Q E0) s2 := by
          have hbb : BindsTo s2 fd ⟨.ref f :: us, []⟩ ((a :: ps).zip (.ref f :: us)) := by
            have := hb s2 (.ref f :: us) I2.kIn (by rw [List.append_nil, List.length_cons, List.length_cons, ← r.length, hl])
            rw [List.append_nil] at this
            exact this
          subst efd
          refine run_ofS (N := Ng) (ps := a :: ps) (us := .ref f :: us) (vs := .ref f :: vs) lk hcg Sg hr I2.env0 hbb (.cons rfl r) (by rw [List.length_cons, List.length_cons, hl]) fun hr' => ?_
          have act := act_ok (J := J) (Eg := E0) (Ng := Ng) (x := x) (a := a) (i := 0) (cdg := cdv) (g := g) (sg := defScope st) (k := kl) (fl := fl) (w := w2) I2 g2 L nb p2.1 p2.2.1 hfr (fun u => hbind _ _ _ _ _ u) (hr'.mono hkl) (fun A outer s H f c' hr2 => hbody _ A outer s H f c' hr2) hN hva hd hcd
          have hio : ∀ i ∈ [0], i ∉ wr ∧ i < ps.length + 1 := fun i m => by
            rw [List.mem_singleton.mp m]
            exact ⟨h0, Nat.succ_pos _⟩
          exact ⟨_, (hG (lamJ J f c' (X.env.qual ++ "<lambda>")) (lamF fl w2) cdv X.A X.stack s2 H2 E0 hr' act).nox, @def_read u0 (lamJ J f c' (X.env.qual ++ "<lambda>")) X.K X.mg Ng (ps.length + 1) [0] wr _ (.ref f :: vs) H2 Q E0 hio (by decide) hsp⟩
        show wpAny _ _ (call (.ref g) (.ref f :: us)) _ _ _
        have I2' : Inv X pins σ H2 s2 := { I2 with pin := fun p hp => I2.pin p (by
          rcases List.mem_append.mp hp with z | z
          · exact List.mem_append_left _ z
          · exact List.mem_append_right _ (List.mem_cons_of_mem _ z)) }
        refine wpAny_call (codeAny_mono rc fun r s3 hq => ?_)
        cases r with
        | error e => exact hq.elim
        | ok fl =>
          cases fl with
          | ret u => exact I2'.after hq
          | next => exact False.elim hq
          | brk => exact False.elim hq
          | cont => exact False.elim hq
      · rw [if_neg cc] at q; exact q.elim
  · rw [if_neg nw] at q; exact q.elim
theorem pp_act {u0 : Unit} [Tab0 u0] {Z : Cx} {a : Str} {i : Nat} {Fl : D → Option D} {e : Expr} {f : PM D} {p1 p2 : Pos} (act : ActR Z a i Fl) (he : PE Z e (tP Z.K Z.mg EhN f)) (hst : starEach [e] Z.env = (false, eval e Z.env) :: starEach [] Z.env := by rfl) :
    PE Z (.Call (.Name a p1) [e] [] p2) (tP Z.K Z.mg EhN (xAct i Fl f)) := act _ _ _ _ he hst
/-- a def that makes a lambda: its code object is known -/
theorem fn_pc {u0 : Unit} [Tab0 u0] {P : Program} {w : World} {K : PySem.W.Frag} {mg : Str → Option Value} {base : Heap} {x qual : Str} {st : Stmt} {f : Addr} {fd : FuncData} {N ps : List Str} {k : Nat} {io wr : List Nat} {body : PM Fl} {c : Addr} (F : Fun K x qual st f fd) (S : FnScope N ps (defScope st)) (hc : fd.code = .ref c)
    (hb : ∀ (A : Around) (outer : List Env) (s : Shared) (H : Hp) (E : XK), Room k (A.deeper (envOfC qual (defScope st) s.heap.objs.size f (.ref c))) →
      PSs (cxOf CX0 P w K mg base N qual (defScope st) f (.ref c) A outer s H E).nox (defBody st) (tS K mg EhN wr body))
    (hio : ∀ i ∈ io, i ∉ wr ∧ i < ps.length := by decide) (hnd : io.Nodup := by decide) :
    FnOk P w K mg base CX0 (k + 1) f fd ps (spP K ps.length io (mkDef N.length ps.length io body)) := by
  obtain ⟨oc, od, kV, doc, pm, an, cdv, ct, osl, rfl, lk, hcd⟩ := F.ex
  have hc : cdv = .ref c := hc
  subst hc
  refine fn_of lk hcd S (fun vs H Q E h => h.1) fun A outer s H vs Q E hr h => ⟨_, (hb A outer s H E hr).nox, def_read hio hnd h⟩
theorem def_readX {u0 : Unit} [Tab0 u0] {K : PySem.W.Frag} {mg : Str → Option Value} {N : List Str} {np : Nat} {io wr : List Nat} {body : PM Fl} {vs : List V} {H : Hp} {Q : VK} {E : XK} (hio : ∀ i ∈ io, i ∉ wr ∧ i < np) (hnd : io.Nodup)
    (h : spX K mg np io (mkDef N.length np io body) vs H Q E) : tS K mg (fun cls d _ H' => E cls d H') wr body { nx := fun _ H' => Q .non H', rt := Q } (start N vs) H := by
  obtain ⟨hl, hT, ds, FF, rv, nd, q⟩ := h
  have hdl : ds.length = vs.length := rv.length
  unfold mkDef at q
  rw [if_pos (hdl.trans hl)] at q
  have es : start N vs = vs.map some ++ List.replicate (N.length - vs.length) none := rfl
  refine ⟨startE N.length ds, FF, ⟨[], FF, ⟨rfl, rfl⟩, ?_, .refl _, nd⟩, ?_⟩
  · rw [es]
    unfold startE
    rw [hdl]
    exact re_start hT rv
  · have slots : ∀ {s' : L2.St}, Agr wr (start N vs) s' → ∀ i ∈ io, s'[i]? = some (some (vs.getD i .non)) := fun {s'} ag i m => by
      obtain ⟨n1, n2⟩ := hio i m
      rw [ag.2 i n1, es]
      have hi : i < vs.length := by rw [hl]; exact n2
      rw [List.getElem?_append_left (by simpa using hi), List.getElem?_map, List.getElem?_eq_getElem hi]
      rw [List.getD_eq_getElem?_getD, List.getElem?_eq_getElem hi]
      rfl
    have fin : ∀ {d : D} {w' : Ev} {v : V} {s' : L2.St} {H' : Hp} {F' : List Addr}, (match endD d (outsOf io w') with
        | .ok d outs => ∀ v H' F', Stp FF H F' H' → RVs K H' (d :: outs) (v :: io.map fun k => vs.getD k .non) F' → F'.Nodup → Q v H'
        | .ex c fs outs => ∀ cls od H' F', Stp FF H F' H' → RVs K H' outs (io.map fun k => vs.getD k .non) F' → F'.Nodup → ExR K mg H' c fs cls od → E cls od H'
        | .bad => False) → Stp FF H F' H' → Agr wr (start N vs) s' → Hold K H' w' s' [d] [v] F' → Q v H' := fun {d w' v s' H' F'} q st ag h' => by
      cases e : outsOf io w' with
      | none => rw [e] at q; exact q.elim
      | some os =>
        rw [e] at q
        obtain ⟨F2, r, nd2, sub⟩ := Hold.outs (g := fun k => vs.getD k .non) h' e hnd (slots ag)
        exact q v H' F2 (st.trans (Stp.refl sub)) r nd2
    cases e : body (startE N.length ds) with
    | bad => rw [e] at q; exact q.elim
    | ex c fs w' =>
      rw [e] at q
      dsimp only at q
      intro cls od s' H' F' st ag h' x
      cases e2 : outsOf io w' with
      | none => rw [e2] at q; exact q.elim
      | some os =>
        rw [e2] at q
        obtain ⟨F2, r, nd2, sub⟩ := Hold.outs (g := fun k => vs.getD k .non) h' e2 hnd (slots ag)
        exact q cls od H' F2 (st.trans (Stp.refl sub)) r nd2 x
    | ok fl w' =>
      rw [e] at q
      cases fl with
      | nx =>
        intro s' H' F' st ag h'
        refine fin (v := .non) q st ag ?_
        obtain ⟨ft, fe, h1, h2, p, nd⟩ := h'
        have e0 : ft = [] := h1.2
        subst e0
        exact ⟨[], fe, RVs.one ⟨rfl, rfl⟩, h2, p, nd⟩
      | rt d => exact fun v s' H' F' st ag h' => fin q st ag h'
      | bk => exact q.elim
      | ct => exact q.elim
/-- the same, of a def that may raise -/
theorem fn_xc {u0 : Unit} [Tab0 u0] {P : Program} {w : World} {K : PySem.W.Frag} {mg : Str → Option Value} {base : Heap} {x qual : Str} {st : Stmt} {f : Addr} {fd : FuncData} {N ps : List Str} {k : Nat} {io wr : List Nat} {body : PM Fl} {c : Addr} (F : Fun K x qual st f fd) (S : FnScope N ps (defScope st)) (hc : fd.code = .ref c)
    (hb : ∀ (A : Around) (outer : List Env) (s : Shared) (H : Hp) (E : XK), Room k (A.deeper (envOfC qual (defScope st) s.heap.objs.size f (.ref c))) →
      PSs (cxOf (L2.CX P w) P w K mg base N qual (defScope st) f (.ref c) A outer s H E) (defBody st) (tS K mg (fun cls d _ H' => E cls d H') wr body))
    (hio : ∀ i ∈ io, i ∉ wr ∧ i < ps.length := by decide) (hnd : io.Nodup := by decide) :
    FnOk P w K mg base (L2.CX P w) (k + 1) f fd ps (spX K mg ps.length io (mkDef N.length ps.length io body)) := by
  obtain ⟨oc, od, kV, doc, pm, an, cdv, ct, osl, rfl, lk, hcd⟩ := F.ex
  have hc : cdv = .ref c := hc
  subst hc
  refine fn_of lk hcd S (fun vs H Q E h => h.1) fun A outer s H vs Q E hr h => ⟨_, hb A outer s H E hr, def_readX hio hnd h⟩
end Pm

set_option autoImplicit false
namespace Pm
open PySem PySem.Spec L2 LamX PyProof.Rows
/-- the tables, no function handed -/
abbrev JT (l : List (Addr × Str)) : Tab0 () := ⟨l, 0, 0, ""⟩
/-- the name that the code objects of x's lambdas bear -/
def lamQ (x : Str) (st : Stmt) : Str := (envOfC x (defScope st) 0 0 .none).qual ++ "<lambda>"
theorem tabs_of {l : List (Addr × Str)} {H : Hp} (h : ∀ p ∈ l, H p.1 = some (.tbl #[])) : @TabsH () (JT l) H := fun p hp => TabS.nil (h p hp)
theorem ints_rvT {u0 : Unit} [Tab0 u0] {K : PySem.W.Frag} {H : Hp} : ∀ ns : List Int, RVs K H (ns.map .int) (ns.map V.int) []
  | [] => ⟨rfl, rfl⟩
  | i :: ns => ⟨.int i, _, [], [], rfl, ⟨rfl, rfl⟩, ints_rvT ns, rfl⟩
theorem law_spT {u0 : Unit} [Tab0 u0] {K : PySem.W.Frag} {H : Hp} {a : Addr} {ns : List Int} {m : List D → Rd} (hT : TabsH H) (h : SqL K H a (ns.map V.int))
    (hl : ∃ d os, m [.lst (ns.map .int)] = .ok d os ∧ d = .bl true ∧ os = []) (ho : ∃ d os, m [.own (ns.map .int)] = .ok d os ∧ d = .bl true ∧ os = []) :
    spP K 1 [] m [.ref a] H (fun v _ => v = .bl true) fun _ _ _ => False := by
  have fin : ∀ {FF : List Addr} {d0 : D}, RVs K H [d0] [.ref a] FF → FF.Nodup → (∃ d os, m [d0] = .ok d os ∧ d = .bl true ∧ os = []) → spP K 1 [] m [.ref a] H (fun v _ => v = .bl true) fun _ _ _ => False := fun {FF d0} r nd hm => by
    refine ⟨rfl, hT, [d0], FF, r, nd, ?_⟩
    obtain ⟨d, os, e, rfl, rfl⟩ := hm
    rw [e]
    intro v H' F' st r nd
    obtain ⟨v', r', f, g, e1, q, t, e2⟩ := r
    cases e1
    exact q.1
  have frz : Fz K H a (ns.map V.int) → spP K 1 [] m [.ref a] H (fun v _ => v = .bl true) fun _ _ _ => False := fun h => fin (d0 := .lst (ns.map .int)) (FF := []) (RVs.one ⟨a, ns.map V.int, rfl, h, ints_rvT ns, rfl⟩) .nil hl
  rcases h with (h | h) | h
  · exact fin (d0 := .own (ns.map .int)) (FF := [a]) (RVs.one ⟨a, ns.map V.int, [], rfl, h, ints_rvT ns, rfl⟩) (List.nodup_cons.mpr ⟨(fun m => by cases m), .nil⟩) ho
  · exact frz (.inl h)
  · exact frz (.inr h)
end Pm

set_option autoImplicit false
namespace Pm
open PySem PySem.Spec L2 PyProof.Rows
variable {u0 : Unit} [Tab0 u0]
/-! ### x.get(k, z), x in slot j -/
noncomputable def dGet (x k z : D) : Option D := (dctD x).bind fun p => if isK p.1 k = true ∧ pl z = true then (match vD p.2.1 p.2.2 k with
  | some d => if pl d = true then some d else none
  | none => some z) else none
noncomputable def xGet (j : Nat) (f g : PM D) : PM D := fun w => match (slot w j).bind dctD with
  | some _ => (f w).bind fun k w1 => (g w1).bind fun z w2 => back ((slot w2 j).bind fun x => dGet x k z) w2
  | none => .bad
theorem ltu {A : Around} (h : A.units + 64 < cLine) : A.units + 1 < cLine := by omega
section
variable {X : Cx} {Eh : WX} {H : Hp} {F : List Addr} {s : L2.St} {o e e2 : Expr} {apos cpos : Pos} {j : Nat} {f g : PM D}
theorem DctIs.isD {t : Bool} {ks : List D} {ws : List V} {u : HO} {a : Addr} (h : DctIs t ks ws u) (r : L2.Rd H a u) : IsD H a := by
  cases t with
  | false => obtain ⟨kvs, eu, _⟩ := h; subst eu; exact .inl ⟨kvs, r⟩
  | true => obtain ⟨kvs, eu, _⟩ := h; subst eu; exact .inr ⟨kvs, r⟩
theorem newV_pl {K : PySem.W.Frag} {d : D} {v : V} {fp : List Addr} (r : RV K H d v fp) (p : pl d = true) : NewV K H H d v := ⟨.rfl', [], r.nil_of p, .nil, fun a m => nomatch m⟩
theorem pp_get (hu : X.A.units + 1 < cLine) (ho : PE X o (tV X.K j)) (hf : PE X e (tP X.K X.mg Eh f)) (hg : PE X e2 (tP X.K X.mg Eh g)) (m : M2 X o "get" apos e e2 cpos) :
    PE X (.Call (.Attribute o "get" apos) [e, e2] [] cpos) (tP X.K X.mg Eh (xGet j f g)) := (pe_dget2 hu ho hf hg m).imp fun s H Q ⟨w, F, hold, q⟩ => by
  unfold xGet at q
  cases e0 : (slot w j).bind dctD with
  | none => rw [e0] at q; exact q.elim
  | some p0 =>
    rw [e0] at q
    obtain ⟨d0, es, ed⟩ := Option.bind_eq_some_iff.mp e0
    obtain ⟨t0, ks0, vs0⟩ := p0
    refine tV_run hold es fun v0 f0 ej r0 _ => ?_
    obtain ⟨a, u', ws, g0, ev, hrd, di, rs, _⟩ := dctD_rv r0 ed
    subst ev
    refine ⟨a, rfl, di.isD hrd, ?_⟩
    refine tP_run hold (Stp.refl fun _ m => m) q fun k w2 v H2 F2 e' st h2 q2 => ?_
    refine tP_run h2 st q2 fun z w3 v' H3 F3 e'' st' h3 q3 => ?_
    obtain ⟨zz, hz, q4⟩ := back_po q3
    obtain ⟨dd, hd, hz⟩ := Option.bind_eq_some_iff.mp hz
    obtain ⟨v2, f2, ej2, r2, _⟩ := h3.atSlot hd
    rw [ej] at ej2
    cases ej2
    obtain ⟨⟨t1, ks1, vs1⟩, hd1, hz⟩ := Option.bind_eq_some_iff.mp hz
    obtain ⟨a', u2, ws2, g2, ev2, hrd2, di2, rs2, _⟩ := dctD_rv r2 hd1
    cases ev2
    obtain ⟨fk, fz, rk, rz, _⟩ := Hold.two h3
    by_cases c : isK t1 k = true ∧ pl z = true
    · rw [if_pos c] at hz
      obtain ⟨ov, hg', hm, hv⟩ := dget_rv hrd2 di2 rs2 rk c.1
      refine ⟨ov, hg', ?_⟩
      cases e5 : vD ks1 vs1 k with
      | none =>
        rw [e5] at hv hz
        have hv' : ov = none := hv
        subst hv'
        cases hz
        exact fin_new q4 st' h3 (newV_pl rz c.2)
      | some d =>
        rw [e5] at hv hz
        obtain ⟨vv, gg, ho', rd, _⟩ := hv
        subst ho'
        by_cases cp : pl d = true
        · replace hz : some d = some zz := by
            have := hz
            dsimp only at this
            rwa [if_pos cp] at this
          cases hz
          exact fin_new q4 st' h3 (newV_pl rd cp)
        · replace hz : (none : Option D) = some zz := by
            have := hz
            dsimp only at this
            rwa [if_neg cp] at this
          cases hz
    · rw [if_neg c] at hz; cases hz
end
end Pm

set_option autoImplicit false
namespace Pm
open PySem PySem.Spec L2 PyProof.Rows
variable {u0 : Unit} [Tab0 u0]
/-! ### {k: v}, k a tuple -/
noncomputable def xDisp1 (fk fv : PM D) : PM D := fun w => (fk w).bind fun k w1 => (fv w1).bind fun z w2 => if isK true k = true ∧ pl z = true then .ok (.odc true (pK [] k) (pV [] [] k z)) w2 else .bad
section
variable {X : Cx} {Eh : WX} {H : Hp} {F : List Addr} {s : L2.St} {ke ve : Expr} {pos : Pos} {tk tv : TE} {f g : PM D}
def tDispT1 (tk tv : TE) : TE := fun σ H Q => ∀ p, H p = none → tk σ (upd H p (.dT [])) fun x H1 => tv σ H1 fun y H2 => H2 p = some (.dT []) ∧ ∃ H', DPut H2 p x y H' ∧ Q (.ref p) H'
theorem pe_dispT1 (hu : X.A.units + 1 < cLine) (hk : PE X ke tk) (hv : PE X ve tv) : PE X (.Dict [some ke] [ve] pos) (tDispT1 tk tv) := by
  refine ⟨fun pins s σ H Q I q => ?_⟩
  have hn := I.hok.fresh (Nat.le_refl s.heap.objs.size)
  have I1 := I.laid (a := s.heap.objs.size) (o := .dT []) (t' := s.toks) (h' := s.heap.push { cls := .type "dict", data := .dict #[] }) (fun _ _ q => Heap.get?_push_of_some _ q) (Nat.le_refl _) (dt_empty s.heap I.big)
  have hz := zip_pairTrees [some ke] [ve] X.env pos rfl rfl
  have hl := pairTrees_length [some ke] [ve] X.env pos rfl rfl
  have hl' : (pairTrees [some ke] [ve] X.env pos).length = 1 := hl
  rw [arm_eval_Dict, hz, dictDisplay_pairs _ (fun e => by rw [e] at hl'; cases hl') (by rw [hl']; decide)]
  refine wpAny_bind (wpAny_standAt (wpAny_bind (wpAny_subDictH (knd := tupleKind (mixKind X.prog X.w)) (show X.A.units < cLine by omega) (by rw [hl']; decide) ?_)))
  refine pairTrees_cons_walk (thn (hk.run pins _ σ _ _ I1 (q _ hn)) fun u s1 ⟨x, H1, I2, rx, q1⟩ => thn (hv.run pins s1 σ H1 _ I2 q1) fun u2 s2 ⟨y, H2, I3, ry, e, H', dp, q2⟩ => pairTrees_nil_walk ?_)
  rcases dp with ⟨kvs, k, e2, _⟩ | ⟨kvs, k, b, e2, ex, eb, lk, eH⟩
  · rw [e] at e2; cases e2
  · rw [e] at e2
    cases e2
    subst ex; subst eH
    cases (show u = Value.ref b from rx)
    obtain ⟨z, hd, xs0, r0, dd⟩ := dt_of I3.hok e
    cases r0
    refine ⟨[(k, b, u2)], ⟨rfl, rfl, key_of I3.hok eb, trivial⟩, dd, fun h' tk' dd' hs => wpAny_pure ⟨.ref s.heap.objs.size, _, ?_, rfl, q2⟩⟩
    obtain ⟨qo, es, ep, hq, h2, h3, h4, _, h5⟩ := dd'
    have rel : KT H2 (putK [] k y) (storedH [] k b u2) := KT.put .nil k eb ry
    refine d_write I3 (by rw [e]; exact True.intro) hs ⟨qo, hq⟩ ⟨by have := length_putK ([] : List (List Key × V)) k y; rw [sizeLine_eq]; simp at this; omega, hd, _, rel.keeps fun c ys ec => ?_, qo, es, ep, hq, h2, h3, h4, h5⟩
    rw [upd_ne (ne_of ec e (fun z => nomatch z))]
    exact ec
theorem pp_disp1 (hu : X.A.units + 1 < cLine) (hk : PE X ke (tP X.K X.mg Eh f)) (hv : PE X ve (tP X.K X.mg Eh g)) : PE X (.Dict [some ke] [ve] pos) (tP X.K X.mg Eh (xDisp1 f g)) := (pe_dispT1 hu hk hv).imp fun s H Q ⟨w, F, hold, q⟩ p n => by
  have h1 : Hold X.K (upd H p (.dT [])) w s [.odc true [] []] [.ref p] (p :: F) := hold_newD ⟨[], rfl, rfl, rfl⟩ hold n
  unfold xDisp1 at q
  refine tP_run h1 (stp_upd' n) q fun k w2 v H2 F2 e st h2 q2 => ?_
  refine tP_run h2 st q2 fun z w3 v' H3 F3 e' st' h3 q3 => ?_
  by_cases c : isK true k = true ∧ pl z = true
  · rw [if_pos c] at q3
    obtain ⟨ft, fe, k1, k2, pp, nd⟩ := h3
    obtain ⟨va, r, f1, g1, e5, rq, qr, e6⟩ := k1
    injection e5 with e7 e8
    subst e7; subst e8; subst e6
    obtain ⟨va, r, f2, g2, e5, ri, qr2, e6⟩ := qr
    injection e5 with e7 e8
    subst e7; subst e8; subst e6
    have rz := qr2.one'
    have e9 := rv_pl z v' g2 c.2 rz
    subst e9
    obtain ⟨a, u, ws, f3, ea, hu', di, rs, ef⟩ := rq
    cases ea
    subst ef
    have e10 : f3 = [] := rs.2
    subst e10
    have eu : u = .dT [] := by
      obtain ⟨kvs, eu, ek, _⟩ := di
      have : kvs = [] := List.map_eq_nil_iff.mp ek.symm
      rw [eu, this]
    obtain ⟨u', ws', hp, di', rs'⟩ := dput_rv hu' di rs ri rz c.1 (by rw [sizeLine_eq]; decide)
    refine ⟨by rw [hu', eu], _, hp, ?_⟩
    have kk : Kp [p] H3 (upd H3 p u') := .put hu' di.pln
    have mk : ∀ b ∈ [p], Mut (H3 b) := fun b m => by
      have e : b = p := by simpa using m
      rw [e, hu']; exact di.mut
    have hp2 := pp.nodup_iff.mp nd
    have na : p ∉ fe := fun m => by
      simp at hp2
      exact hp2.1.2 m
    have re := k2.kp kk mk fun b m z => by
      have e : b = p := by simpa using z
      exact na (e ▸ m)
    have hsub : ∀ b, b ∈ p :: fe → b ∈ F3 := fun b m => pp.mem_iff.mpr (by
      rcases List.mem_cons.mp m with z | z
      · rw [z]; simp
      · exact List.mem_append_right _ z)
    have hn : (p :: fe).Nodup := List.nodup_cons.mpr ⟨na, (List.nodup_append.mp hp2).2.1⟩
    have h4 : Hold X.K (upd H3 p u') w3 s [.odc true (pK [] k) (pV [] [] k z)] [.ref p] (p :: fe) :=
      ⟨[p], fe, RVs.one ⟨p, u', ws', [], rfl, upd_same, di', RVs.kp kk mk _ _ [] (fun _ z => nomatch z) rs', rfl⟩, re, .refl _, hn⟩
    have st4 : Stp F H (p :: fe) (upd H3 p u') := st'.trans ⟨kk.mono fun b z => (by
      have e2 : b = p := by simpa using z
      rw [e2]; exact hsub p List.mem_cons_self), fun b m => .inl (hsub b m)⟩
    exact q3 _ _ _ st4 h4
  · rw [if_neg c] at q3; exact q3.elim
end
end Pm

set_option autoImplicit false
namespace Pm
open PySem PySem.Spec L2
/-! ### reading a mirror: weakest preconditions -/
def Wp {α : Type} (r : Rs α) (Q : α → Ev → Prop) : Prop := ∃ a w, r = .ok a w ∧ Q a w
def WpR (r : Rd) (Q : D → List D → Prop) : Prop := ∃ d os, r = .ok d os ∧ Q d os
theorem Wp.mono {α : Type} {r : Rs α} {Q Q' : α → Ev → Prop} (h : Wp r Q) (i : ∀ a w, Q a w → Q' a w) : Wp r Q' := by
  obtain ⟨a, w, e, q⟩ := h; exact ⟨a, w, e, i a w q⟩
theorem WpR.mono {r : Rd} {Q Q' : D → List D → Prop} (h : WpR r Q) (i : ∀ a w, Q a w → Q' a w) : WpR r Q' := by
  obtain ⟨a, w, e, q⟩ := h; exact ⟨a, w, e, i a w q⟩
@[simp] theorem wp_ok {α : Type} {a : α} {w : Ev} {Q : α → Ev → Prop} : Wp (.ok a w) Q ↔ Q a w := ⟨fun ⟨_, _, e, q⟩ => by cases e; exact q, fun q => ⟨a, w, rfl, q⟩⟩
@[simp] theorem wp_bad {α : Type} {Q : α → Ev → Prop} : Wp (.bad : Rs α) Q ↔ False := ⟨fun ⟨_, _, e, q⟩ => (by cases e), fun h => h.elim⟩
theorem wp_bind {α β : Type} {r : Rs α} {k : α → Ev → Rs β} {Q : β → Ev → Prop} : Wp (r.bind k) Q ↔ Wp r fun a w => Wp (k a w) Q := by
  cases r with
  | ok a w => exact ⟨fun h => ⟨a, w, rfl, h⟩, fun ⟨_, _, e, q⟩ => by cases e; exact q⟩
  | ex c fs w => exact ⟨fun ⟨_, _, e, _⟩ => (by cases e), fun ⟨_, _, e, _⟩ => (by cases e)⟩
  | bad => exact ⟨fun ⟨_, _, e, _⟩ => (by cases e), fun ⟨_, _, e, _⟩ => (by cases e)⟩
theorem wp_bindN {α β : Type} {r : Rs α} {k : α → Ev → Rs β} {Q : β → Ev → Prop} : Wp (r.bindN k) Q ↔ Wp r fun a w => Wp (k a w) Q := by
  cases r with
  | ok a w => exact ⟨fun h => ⟨a, w, rfl, h⟩, fun ⟨_, _, e, q⟩ => by cases e; exact q⟩
  | ex c fs w => exact ⟨fun ⟨_, _, e, _⟩ => (by cases e), fun ⟨_, _, e, _⟩ => (by cases e)⟩
  | bad => exact ⟨fun ⟨_, _, e, _⟩ => (by cases e), fun ⟨_, _, e, _⟩ => (by cases e)⟩
section
variable {w : Ev} {Q : D → Ev → Prop} {QL : List D → Ev → Prop} {QB : Bool → Ev → Prop} {QS : Fl → Ev → Prop}
@[local simp] theorem wp_back {o : Option D} : Wp (back o w) Q ↔ ∃ z, o = some z ∧ Q z w := by
  cases o <;> simp
@[local simp] theorem wp_backB {o : Option Bool} : Wp (backB o w) QB ↔ ∃ z, o = some z ∧ QB z w := by
  cases o <;> simp
/-! slots -/
@[simp] theorem slot_zero {d : D} {l : Ev} : slot (some d :: l) 0 = some d := rfl
@[simp] theorem slot_zeroN {l : Ev} : slot (none :: l) 0 = none := rfl
@[simp] theorem slot_succ {x : Option D} {l : Ev} {n : Nat} : slot (x :: l) (n + 1) = slot l n := by unfold slot; rw [List.getElem?_cons_succ]
@[simp] theorem qV_eq {j : Nat} : qV j w = slot w j := rfl
@[simp] theorem wp_C {d : D} : Wp (xC d w) Q ↔ Q d w := by unfold xC; simp
@[local simp] theorem wp_P {q : Ev → Option D} : Wp (xP q w) Q ↔ ∃ d, q w = some d ∧ pl d = true ∧ Q d w := by
  unfold xP
  cases e : q w with
  | none => simp
  | some d => by_cases c : pl d = true <;> simp [c]
@[local simp] theorem wp_T {j : Nat} : Wp (xT j w) Q ↔ ∃ d, slot w j = some d ∧ Q d (w.set j none) := by
  unfold xT
  cases e : slot w j <;> simp
def iceQ (Q : D → Ev → Prop) (j : Nat) (w : Ev) : D → Prop
  | .own xs => pls xs = true ∧ Q (.lst xs) (w.set j (some (.lst xs)))
  | .odc t ks vs => pls vs = true ∧ Q (.fdc t ks vs) (w.set j (some (.fdc t ks vs)))
  | .tup xs => pls xs = true ∧ Q (.tup xs) w
  | .fn => False
  | d => Q d w
@[simp] theorem iceQ_own {j : Nat} {xs : List D} : iceQ Q j w (.own xs) ↔ pls xs = true ∧ Q (.lst xs) (w.set j (some (.lst xs))) := .rfl
@[simp] theorem iceQ_tup {j : Nat} {xs : List D} : iceQ Q j w (.tup xs) ↔ pls xs = true ∧ Q (.tup xs) w := .rfl
@[simp] theorem iceQ_int {j : Nat} {i : Int} : iceQ Q j w (.int i) ↔ Q (.int i) w := .rfl
@[simp] theorem iceQ_bl {j : Nat} {i : Bool} : iceQ Q j w (.bl i) ↔ Q (.bl i) w := .rfl
@[simp] theorem iceQ_str {j : Nat} {i : Str} : iceQ Q j w (.str i) ↔ Q (.str i) w := .rfl
@[simp] theorem iceQ_lst {j : Nat} {i : List D} : iceQ Q j w (.lst i) ↔ Q (.lst i) w := .rfl
@[simp] theorem iceQ_odc {j : Nat} {t : Bool} {ks vs : List D} : iceQ Q j w (.odc t ks vs) ↔ pls vs = true ∧ Q (.fdc t ks vs) (w.set j (some (.fdc t ks vs))) := .rfl
@[simp] theorem iceQ_fdc {j : Nat} {t : Bool} {ks vs : List D} : iceQ Q j w (.fdc t ks vs) ↔ Q (.fdc t ks vs) w := .rfl
@[simp] theorem iceQ_xo {j : Nat} {c : Str} {ns : List Str} {vs : List D} : iceQ Q j w (.xo c ns vs) ↔ Q (.xo c ns vs) w := .rfl
@[simp] theorem pl_odc {t : Bool} {ks vs : List D} : pl (.odc t ks vs) = false := rfl
@[simp] theorem pl_fdc {t : Bool} {ks vs : List D} : pl (.fdc t ks vs) = true := rfl
@[simp] theorem pl_xo {c : Str} {ns : List Str} {vs : List D} : pl (.xo c ns vs) = true := rfl
@[simp] theorem iceQ_non {j : Nat} : iceQ Q j w .non ↔ Q .non w := .rfl
@[simp] theorem pl_int {i : Int} : pl (.int i) = true := rfl
@[simp] theorem pl_bl {i : Bool} : pl (.bl i) = true := rfl
@[simp] theorem pl_str {i : Str} : pl (.str i) = true := rfl
@[simp] theorem pl_lst {i : List D} : pl (.lst i) = true := rfl
@[simp] theorem pl_non : pl .non = true := rfl
@[simp] theorem pl_tup {i : List D} : pl (.tup i) = pls i := rfl
@[simp] theorem pl_own {i : List D} : pl (.own i) = false := rfl
@[simp] theorem pls_nil : pls [] = true := rfl
@[simp] theorem pls_cons {d : D} {ds : List D} : pls (d :: ds) = (pl d && pls ds) := rfl
theorem pls_all' {ds : List D} : pls ds = true ↔ ∀ d ∈ ds, pl d = true := by
  induction ds with
  | nil => simp
  | cons d ds ih => simp [ih]
theorem pls_map {α : Type} {f : α → D} (h : ∀ a, pl (f a) = true) (l : List α) : pls (l.map f) = true := pls_all'.mpr fun d m => by
  obtain ⟨a, _, e⟩ := List.mem_map.mp m
  rw [← e]; exact h a
@[simp] theorem pls_ints {l : List Int} : pls (l.map D.int) = true := pls_map (fun _ => rfl) l
@[simp] theorem pls_rows {l : List (List Int)} : pls (l.map fun r => D.tup (r.map D.int)) = true := pls_map (fun a => by rw [pl_tup]; exact pls_ints) l
@[simp] theorem pls_app {a b : List D} : pls (a ++ b) = (pls a && pls b) := by
  induction a with
  | nil => simp
  | cons d ds ih => simp [ih, Bool.and_assoc]
@[local simp] theorem wp_I {j : Nat} : Wp (xI j w) Q ↔ ∃ d, slot w j = some d ∧ iceQ Q j w d := by
  unfold xI
  cases e : slot w j with
  | none => simp
  | some d => cases d with
    | own xs => by_cases c : pls xs = true <;> simp [c, iceO]
    | tup xs => by_cases c : pls xs = true <;> simp [c, iceO]
    | odc t ks vs => by_cases c : pls vs = true <;> simp [c, iceO]
    | fn => simp [iceO, show pl D.fn = false from rfl, iceQ]
    | _ => simp
def kQ (Q : D → Ev → Prop) (j : Nat) (w : Ev) (d : D) : Prop := if pl d = true then Q d w else Q d (w.set j none)
@[simp] theorem kQ_own {j : Nat} {xs : List D} : kQ Q j w (.own xs) ↔ Q (.own xs) (w.set j none) := by simp [kQ]
@[simp] theorem kQ_odc {j : Nat} {t : Bool} {ks vs : List D} : kQ Q j w (.odc t ks vs) ↔ Q (.odc t ks vs) (w.set j none) := by simp [kQ]
@[simp] theorem kQ_fdc {j : Nat} {t : Bool} {ks vs : List D} : kQ Q j w (.fdc t ks vs) ↔ Q (.fdc t ks vs) w := by simp [kQ]
@[simp] theorem kQ_lst {j : Nat} {xs : List D} : kQ Q j w (.lst xs) ↔ Q (.lst xs) w := by simp [kQ]
@[simp] theorem kQ_tup {j : Nat} {xs : List D} : kQ Q j w (.tup xs) ↔ if pls xs = true then Q (.tup xs) w else Q (.tup xs) (w.set j none) := .rfl
@[local simp] theorem wp_K {j : Nat} : Wp (xK j w) Q ↔ ∃ d, slot w j = some d ∧ kQ Q j w d := by
  unfold xK
  cases e : slot w j with
  | none => simp
  | some d => by_cases c : pl d = true <;> simp [c, kQ]
/-! operations -/
@[local simp] theorem wp_1g {op : D → Option D} {f : PM D} : Wp (x1g op f w) Q ↔ Wp (f w) fun x w1 => ∃ z, op x = some z ∧ Q z w1 := by unfold x1g; simp [wp_bind]
@[local simp] theorem wp_1p {op : D → Option D} {q : Ev → Option D} : Wp (x1p op q w) Q ↔ ∃ x, q w = some x ∧ ∃ z, op x = some z ∧ Q z w := by
  unfold x1p; cases e : q w <;> simp
@[local simp] theorem wp_2gg {op : D → D → Option D} {f g : PM D} : Wp (x2gg op f g w) Q ↔ Wp (f w) fun x w1 => Wp (g w1) fun y w2 => ∃ z, op x y = some z ∧ Q z w2 := by unfold x2gg; simp [wp_bind]
@[local simp] theorem wp_2gp {op : D → D → Option D} {f : PM D} {q : Ev → Option D} : Wp (x2gp op f q w) Q ↔ Wp (f w) fun x w1 => ∃ y, q w1 = some y ∧ ∃ z, op x y = some z ∧ Q z w1 := by
  unfold x2gp; simp only [wp_bind, wp_back]
  refine ⟨fun h => h.mono fun a w h => ?_, fun h => h.mono fun a w h => ?_⟩
  · obtain ⟨z, h1, h2⟩ := h; obtain ⟨y, h3, h4⟩ := Option.bind_eq_some_iff.mp h1; exact ⟨y, h3, z, h4, h2⟩
  · obtain ⟨y, h3, z, h4, h2⟩ := h; exact ⟨z, by rw [h3]; exact h4, h2⟩
@[local simp] theorem wp_2vg {op : D → D → Option D} {j : Nat} {g : PM D} : Wp (x2vg op j g w) Q ↔ (∃ x0, slot w j = some x0) ∧ Wp (g w) fun y w2 => ∃ x, slot w2 j = some x ∧ ∃ z, op x y = some z ∧ Q z w2 := by
  unfold x2vg
  cases e : slot w j with
  | none => simp
  | some d =>
    simp only [wp_bind, wp_back, Option.some.injEq, exists_eq', true_and]
    refine ⟨fun h => h.mono fun a w h => ?_, fun h => h.mono fun a w h => ?_⟩
    · obtain ⟨z, h1, h2⟩ := h; obtain ⟨y, h3, h4⟩ := Option.bind_eq_some_iff.mp h1; exact ⟨y, h3, z, h4, h2⟩
    · obtain ⟨y, h3, z, h4, h2⟩ := h; exact ⟨z, by rw [h3]; exact h4, h2⟩
@[local simp] theorem wp_2pp {op : D → D → Option D} {q1 q2 : Ev → Option D} : Wp (x2pp op q1 q2 w) Q ↔ ∃ x, q1 w = some x ∧ ∃ y, q2 w = some y ∧ ∃ z, op x y = some z ∧ Q z w := by
  unfold x2pp; cases e : q1 w <;> cases e2 : q2 w <;> simp [e2]
@[simp] theorem wp_nil : Wp (xNil w) QL ↔ QL [] w := by unfold xNil; simp
@[simp] theorem wp_cons {f : PM D} {g : PM (List D)} : Wp (xCons f g w) QL ↔ Wp (f w) fun d w1 => Wp (g w1) fun ds w2 => QL (d :: ds) w2 := by unfold xCons; simp [wp_bind]
@[local simp] theorem wp_tup {f : PM (List D)} : Wp (xTup f w) Q ↔ Wp (f w) fun ds w1 => ∃ z, mkTup ds = some z ∧ Q z w1 := by unfold xTup; simp [wp_bind]
@[local simp] theorem wp_own {f : PM (List D)} : Wp (xOwn f w) Q ↔ Wp (f w) fun ds w1 => ∃ z, mkOwn ds = some z ∧ Q z w1 := by unfold xOwn; simp [wp_bind]
theorem big : (1000000 : Nat) ≤ sizeLine := by decide
@[local simp] theorem wp_Bl {f : PM D} : Wp (tBl f w) QB ↔ Wp (f w) fun d w1 => ∃ b, d = .bl b ∧ QB b w1 := by
  unfold tBl
  simp only [wp_bind, wp_backB]
  have e : ∀ (d : D) (b : Bool), blD d = some b ↔ d = .bl b := fun d b => by cases d <;> simp [blD]
  simp [e]
@[local simp] theorem wp_Tru {f : PM D} : Wp (tTru f w) QB ↔ Wp (f w) fun d w1 => ∃ b, truD d = some b ∧ QB b w1 := by unfold tTru; simp [wp_bind]
@[local simp] theorem wp_TruP {q : Ev → Option D} : Wp (tTruP q w) QB ↔ ∃ d, q w = some d ∧ ∃ b, truD d = some b ∧ QB b w := by unfold tTruP; cases e : q w <;> simp
@[simp] theorem wp_NotF {t : PM Bool} : Wp (tNotF t w) QB ↔ Wp (t w) fun b w1 => QB (!b) w1 := by unfold tNotF; simp [wp_bind]
@[local simp] theorem wp_AndF {t u : PM Bool} : Wp (tAndF t u w) QB ↔ Wp (t w) fun b w1 => if b = true then Wp (u w1) QB else QB false w1 := by
  unfold tAndF; simp only [wp_bind]
  refine ⟨fun h => h.mono fun b w h => ?_, fun h => h.mono fun b w h => ?_⟩ <;> cases b <;> simpa using h
@[local simp] theorem wp_OrF {t u : PM Bool} : Wp (tOrF t u w) QB ↔ Wp (t w) fun b w1 => if b = true then QB true w1 else Wp (u w1) QB := by
  unfold tOrF; simp only [wp_bind]
  refine ⟨fun h => h.mono fun b w h => ?_, fun h => h.mono fun b w h => ?_⟩ <;> cases b <;> simpa using h
@[local simp] theorem wp_xAnd {f g : PM D} : Wp (xAnd f g w) Q ↔ Wp (f w) fun d w1 => ∃ b, d = .bl b ∧ if b = true then Wp (g w1) Q else Q (.bl false) w1 := by
  unfold xAnd; simp only [wp_bind]
  refine ⟨fun h => h.mono fun d w h => ?_, fun h => h.mono fun d w h => ?_⟩
  · cases d with
    | bl b => exact ⟨b, rfl, by cases b <;> simpa [blD] using h⟩
    | _ => simp [blD] at h
  · obtain ⟨b, e, h⟩ := h; subst e; cases b <;> simpa [blD] using h
@[local simp] theorem wp_xOr {f g : PM D} : Wp (xOr f g w) Q ↔ Wp (f w) fun d w1 => ∃ b, d = .bl b ∧ if b = true then Q (.bl true) w1 else Wp (g w1) Q := by
  unfold xOr; simp only [wp_bind]
  refine ⟨fun h => h.mono fun d w h => ?_, fun h => h.mono fun d w h => ?_⟩
  · cases d with
    | bl b => exact ⟨b, rfl, by cases b <;> simpa [blD] using h⟩
    | _ => simp [blD] at h
  · obtain ⟨b, e, h⟩ := h; subst e; cases b <;> simpa [blD] using h
@[local simp] theorem wp_xIf {t : PM Bool} {f g : PM D} : Wp (xIf t f g w) Q ↔ Wp (t w) fun b w1 => if b = true then Wp (f w1) Q else Wp (g w1) Q := by
  unfold xIf; simp only [wp_bind]
  refine ⟨fun h => h.mono fun b w h => ?_, fun h => h.mono fun b w h => ?_⟩ <;> cases b <;> simpa using h
@[local simp] theorem wp_App {j : Nat} {f : PM D} : Wp (xApp j f w) Q ↔ (∃ xs0, slot w j = some (.own xs0)) ∧ Wp (f w) fun d w1 => ∃ xs, slot w1 j = some (.own xs) ∧ xs.length < sizeLine ∧ Q .non (w1.set j (some (.own (xs ++ [d])))) := by
  have e : ∀ (w : Ev) (xs : List D), (slot w j).bind ownD = some xs ↔ slot w j = some (.own xs) := fun w xs => by
    cases z : slot w j with
    | none => simp
    | some d => cases d <;> simp [ownD]
  unfold xApp
  cases c : (slot w j).bind ownD with
  | none =>
    have : ∀ xs, slot w j ≠ some (.own xs) := fun xs z => by rw [(e w xs).mpr z] at c; cases c
    simp [this]
  | some xs =>
    have h1 := (e w xs).mp c
    simp only [wp_bind, h1, Option.some.injEq, D.own.injEq, exists_eq', true_and]
    refine ⟨fun h => h.mono fun d w1 h => ?_, fun h => h.mono fun d w1 h => ?_⟩
    · cases c2 : (slot w1 j).bind ownD with
      | none => rw [c2] at h; simp at h
      | some ys =>
        rw [c2] at h
        by_cases l : ys.length < sizeLine
        · exact ⟨ys, (e w1 ys).mp c2, l, by simpa [l] using h⟩
        · simp [l] at h
    · obtain ⟨ys, h2, l, h3⟩ := h
      rw [(e w1 ys).mpr h2]
      simpa [l] using h3
@[local simp] theorem wp_PopAt {j : Nat} {f : PM D} : Wp (xPopAt j f w) Q ↔ (∃ xs0, slot w j = some (.own xs0)) ∧ Wp (f w) fun d w1 => ∃ xs i k y, slot w1 j = some (.own xs) ∧ d = .int i ∧ ixN xs.length i = some k ∧ xs[k]? = some y ∧ xs.length ≤ sizeLine ∧ Q y (w1.set j (some (.own (xs.eraseIdx k)))) := by
  have e : ∀ (w : Ev) (xs : List D), (slot w j).bind ownD = some xs ↔ slot w j = some (.own xs) := fun w xs => by
    cases z : slot w j with
    | none => simp
    | some d => cases d <;> simp [ownD]
  unfold xPopAt
  cases c : (slot w j).bind ownD with
  | none =>
    have : ∀ xs, slot w j ≠ some (.own xs) := fun xs z => by rw [(e w xs).mpr z] at c; cases c
    simp [this]
  | some xs =>
    have h1 := (e w xs).mp c
    simp only [wp_bind, h1, Option.some.injEq, D.own.injEq, exists_eq', true_and]
    refine ⟨fun h => h.mono fun d w1 h => ?_, fun h => h.mono fun d w1 h => ?_⟩
    · cases c2 : (slot w1 j).bind ownD with
      | none => rw [c2] at h; simp at h
      | some ys =>
        rw [c2] at h
        cases d with
        | int i =>
          cases c3 : ixN ys.length i with
          | none => simp [c3] at h
          | some k =>
            cases c4 : ys[k]? with
            | none => simp [c3, c4] at h
            | some y =>
              by_cases l : ys.length ≤ sizeLine
              · exact ⟨ys, i, k, y, (e w1 ys).mp c2, rfl, c3, c4, l, by simpa [c3, c4, l] using h⟩
              · simp [c3, c4, l] at h
        | _ => simp at h
    · obtain ⟨ys, i, k, y, h2, h3, h4, h5, l, h6⟩ := h
      subst h3
      rw [(e w1 ys).mpr h2]
      simpa [h4, h5, l] using h6
@[local simp] theorem wp_RngL {f : PM D} : Wp (xRngL f w) Q ↔ Wp (f w) fun d w1 => ∃ z, dRng d = some z ∧ Q z w1 := by unfold xRngL; simp [wp_bind]
@[simp] theorem wp_bN {QO : Option Int → Ev → Prop} : Wp (bN w) QO ↔ QO none w := by unfold bN; simp
@[local simp] theorem wp_bS {f : PM D} {QO : Option Int → Ev → Prop} : Wp (bS f w) QO ↔ Wp (f w) fun d w1 => ∃ i, d = .int i ∧ QO (some i) w1 := by
  unfold bS; simp only [wp_bind]
  refine ⟨fun h => h.mono fun d w h => ?_, fun h => h.mono fun d w h => ?_⟩
  · cases d with
    | int i => exact ⟨i, rfl, by simpa [intD] using h⟩
    | _ => simp [intD] at h
  · obtain ⟨i, e, h⟩ := h; subst e; simpa [intD] using h
@[local simp] theorem wp_Slg {f : PM D} {l u : PM (Option Int)} : Wp (xSlg f l u w) Q ↔ Wp (f w) fun d w1 => Wp (l w1) fun lo w2 => Wp (u w2) fun hi w3 => ∃ z, dSl d lo hi = some z ∧ Q z w3 := by unfold xSlg; simp [wp_bind]
@[local simp] theorem wp_Slv {j : Nat} {l u : PM (Option Int)} : Wp (xSlv j l u w) Q ↔ (∃ x0, slot w j = some x0) ∧ Wp (l w) fun lo w2 => Wp (u w2) fun hi w3 => ∃ d, slot w3 j = some d ∧ ∃ z, dSl d lo hi = some z ∧ Q z w3 := by
  unfold xSlv
  cases e : slot w j with
  | none => simp
  | some d =>
    simp only [wp_bind, wp_back, Option.some.injEq, exists_eq', true_and]
    refine ⟨fun h => h.mono fun a w h => h.mono fun b w h => ?_, fun h => h.mono fun a w h => h.mono fun b w h => ?_⟩
    · obtain ⟨z, h1, h2⟩ := h; obtain ⟨y, h3, h4⟩ := Option.bind_eq_some_iff.mp h1; exact ⟨y, h3, z, h4, h2⟩
    · obtain ⟨y, h3, z, h4, h2⟩ := h; exact ⟨z, by rw [h3]; exact h4, h2⟩
/-! calls -/
@[simp] theorem wp_Call {np : Nat} {js : List Nat} {m : List D → Rd} {f : PM (List D)} : Wp (xCall np js m f w) Q ↔ Wp (f w) fun ds w1 => ds.length = np ∧ WpR (m ds) fun d outs => Q d (putB (js.map some) outs w1) := by
  unfold xCall; simp only [wp_bind]
  refine ⟨fun h => h.mono fun ds w h => ?_, fun h => h.mono fun ds w h => ?_⟩
  · by_cases c : ds.length = np
    · rw [if_pos c] at h
      cases e : m ds with
      | ok d os => rw [e] at h; exact ⟨c, d, os, rfl, by simpa using h⟩
      | ex _ _ _ => rw [e] at h; simp at h
      | bad => rw [e] at h; simp at h
    · rw [if_neg c] at h; simp at h
  · obtain ⟨c, d, os, e, h⟩ := h
    rw [if_pos c, e]; simpa using h
@[simp] theorem putB_nil {ds : List D} : putB [] ds w = w := by unfold putB; rfl
@[simp] theorem putB_some {j : Nat} {ks : List (Option Nat)} {d : D} {ds : List D} : putB (some j :: ks) (d :: ds) w = putB ks ds (w.set j (some d)) := rfl
@[simp] theorem putB_none {ks : List (Option Nat)} {d : D} {ds : List D} : putB (none :: ks) (d :: ds) w = putB ks ds w := rfl
@[simp] theorem putB_nil2 {ks : List (Option Nat)} : putB ks [] w = w := by
  cases ks with
  | nil => rfl
  | cons k ks => cases k <;> rfl
def endQ (io : List Nat) (Q : D → List D → Prop) : Fl → Ev → Prop
  | .rt d, w => ∃ os, outsOf io w = some os ∧ Q d os
  | .nx, w => ∃ os, outsOf io w = some os ∧ Q .non os
  | _, _ => False
@[local simp] theorem endQ_rt {io : List Nat} {QR : D → List D → Prop} {d : D} : endQ io QR (.rt d) w ↔ ∃ os, outsOf io w = some os ∧ QR d os := .rfl
@[local simp] theorem endQ_nx {io : List Nat} {QR : D → List D → Prop} : endQ io QR .nx w ↔ ∃ os, outsOf io w = some os ∧ QR .non os := .rfl
@[simp] theorem outsOf_nil : outsOf [] w = some [] := rfl
@[local simp] theorem outsOf_cons' {k : Nat} {io : List Nat} {os : List D} : outsOf (k :: io) w = some os ↔ ∃ d, slot w k = some d ∧ ∃ ds, outsOf io w = some ds ∧ os = d :: ds := by
  conv => lhs; unfold outsOf
  cases slot w k <;> cases outsOf io w <;> simp [eq_comm]
theorem wpr_mk {N np : Nat} {io : List Nat} {body : PM Fl} {ds : List D} {QR : D → List D → Prop} (h1 : ds.length = np) (h : Wp (body (startE N ds)) (endQ io QR)) : WpR (mkDef N np io body ds) QR := by
  obtain ⟨fl, w', e, q⟩ := h
  unfold mkDef
  rw [if_pos h1, e]
  cases fl with
  | rt d =>
    obtain ⟨os, e1, q⟩ := q
    show WpR (endD d (outsOf io w')) QR
    rw [e1]; exact ⟨d, os, rfl, q⟩
  | nx =>
    obtain ⟨os, e1, q⟩ := q
    show WpR (endD .non (outsOf io w')) QR
    rw [e1]; exact ⟨.non, os, rfl, q⟩
  | bk => exact q.elim
  | ct => exact q.elim
/-! statements -/
def seqQ (g : PM Fl) (Q : Fl → Ev → Prop) : Fl → Ev → Prop
  | .nx, w => Wp (g w) Q
  | fl, w => Q fl w
@[simp] theorem seqQ_nx {g : PM Fl} : seqQ g QS .nx w ↔ Wp (g w) QS := .rfl
@[simp] theorem seqQ_rt {g : PM Fl} {d : D} : seqQ g QS (.rt d) w ↔ QS (.rt d) w := .rfl
@[simp] theorem seqQ_bk {g : PM Fl} : seqQ g QS .bk w ↔ QS .bk w := .rfl
@[simp] theorem seqQ_ct {g : PM Fl} : seqQ g QS .ct w ↔ QS .ct w := .rfl
@[simp] theorem wp_Nx : Wp (sNx w) QS ↔ QS .nx w := by unfold sNx; simp
@[simp] theorem wp_Bk : Wp (sBk w) QS ↔ QS .bk w := by unfold sBk; simp
@[simp] theorem wp_Ct : Wp (sCt w) QS ↔ QS .ct w := by unfold sCt; simp
@[simp] theorem wp_Seq {f g : PM Fl} : Wp (sSeq f g w) QS ↔ Wp (f w) (seqQ g QS) := by
  unfold sSeq; simp only [wp_bind]
  refine ⟨fun h => h.mono fun fl w h => ?_, fun h => h.mono fun fl w h => ?_⟩ <;> cases fl <;> simpa using h
@[local simp] theorem wp_If {t : PM Bool} {f g : PM Fl} : Wp (sIf t f g w) QS ↔ Wp (t w) fun b w1 => if b = true then Wp (f w1) QS else Wp (g w1) QS := by
  unfold sIf; simp only [wp_bind]
  refine ⟨fun h => h.mono fun b w h => ?_, fun h => h.mono fun b w h => ?_⟩ <;> cases b <;> simpa using h
@[simp] theorem wp_Ret {f : PM D} : Wp (sRet f w) QS ↔ Wp (f w) fun d w1 => QS (.rt d) w1 := by unfold sRet; simp [wp_bind]
@[simp] theorem wp_Expr {f : PM D} : Wp (sExpr f w) QS ↔ Wp (f w) fun _ w1 => QS .nx w1 := by unfold sExpr; simp [wp_bind]
@[local simp] theorem wp_backW {o : Option Ev} : Wp (backW o) QS ↔ ∃ w1, o = some w1 ∧ QS .nx w1 := by cases o <;> simp
@[local simp] theorem setE_some {i : Nat} {d : D} {w1 : Ev} : setE w i d = some w1 ↔ i < w.length ∧ w1 = w.set i (some d) := by
  unfold setE
  by_cases c : i < w.length <;> simp [c, eq_comm]
@[local simp] theorem wp_Set {i : Nat} {f : PM D} : Wp (sSet i f w) QS ↔ Wp (f w) fun d w1 => i < w1.length ∧ QS .nx (w1.set i (some d)) := by
  unfold sSet; simp [wp_bind, and_assoc]
@[local simp] theorem wp_Aug {i : Nat} {op : D → D → Option D} {f : PM D} : Wp (sAug i op f w) QS ↔ ∃ d0, slot w i = some d0 ∧ pl d0 = true ∧ Wp (f w) fun d w1 => ∃ z, op d0 d = some z ∧ i < w1.length ∧ QS .nx (w1.set i (some z)) := by
  unfold sAug
  cases e : slot w i with
  | none => simp
  | some d0 =>
    by_cases c : pl d0 = true
    · simp only [c, if_true, wp_bind, Option.some.injEq, exists_eq_left', true_and]
      refine ⟨fun h => h.mono fun d w h => ?_, fun h => h.mono fun d w h => ?_⟩
      · cases ez : op d0 d with
        | none => rw [ez] at h; simp at h
        | some z => rw [ez] at h; exact ⟨z, rfl, by simpa [and_assoc] using h⟩
      · obtain ⟨z, ez, h⟩ := h; rw [ez]; simpa [and_assoc] using h
    · simp [c]
@[local simp] theorem wp_SetI {j : Nat} {f g : PM D} : Wp (sSetI j f g w) QS ↔ Wp (f w) fun d w1 => (∃ x0, slot w1 j = some x0) ∧ Wp (g w1) fun i w2 => ∃ xs n k, slot w2 j = some (.own xs) ∧ i = .int n ∧ ixN xs.length n = some k ∧ QS .nx (w2.set j (some (.own (xs.set k d)))) := by
  have e : ∀ (w : Ev) (xs : List D), (slot w j).bind ownD = some xs ↔ slot w j = some (.own xs) := fun w xs => by
    cases z : slot w j with
    | none => simp
    | some d => cases d <;> simp [ownD]
  unfold sSetI; simp only [wp_bind]
  refine ⟨fun h => h.mono fun d w h => ?_, fun h => h.mono fun d w h => ?_⟩
  · cases c : slot w j with
    | none => rw [c] at h; simp at h
    | some x =>
      rw [c] at h
      refine ⟨⟨x, rfl⟩, ?_⟩
      simp only [wp_bind] at h
      refine h.mono fun i w2 h => ?_
      cases c2 : (slot w2 j).bind ownD with
      | none => rw [c2] at h; simp at h
      | some ys =>
        rw [c2] at h
        cases i with
        | int n =>
          cases c3 : ixN ys.length n with
          | none => simp [c3] at h
          | some k => exact ⟨ys, n, k, (e w2 ys).mp c2, rfl, c3, by simpa [c3] using h⟩
        | _ => simp at h
  · obtain ⟨⟨x, c⟩, h⟩ := h
    rw [c]
    simp only [wp_bind]
    refine h.mono fun i w2 h => ?_
    obtain ⟨ys, n, k, h1, h2, h3, h4⟩ := h
    subst h2
    rw [(e w2 ys).mpr h1]
    simpa [h3] using h4
/-! loops -/
@[local simp] theorem wp_iW {k : List D → Option (List D × List D)} {f : PM (List D)} {QP : List D × List D → Ev → Prop} : Wp (iW k f w) QP ↔ Wp (f w) fun ds w1 => ∃ p, k ds = some p ∧ QP p w1 := by
  unfold iW; simp only [wp_bind]
  refine ⟨fun h => h.mono fun d w h => ?_, fun h => h.mono fun d w h => ?_⟩
  · cases e : k d with
    | none => rw [e] at h; simp at h
    | some p => rw [e] at h; exact ⟨p, rfl, by simpa using h⟩
  · obtain ⟨p, e, h⟩ := h; rw [e]; simpa using h
@[simp] theorem wp_For {ks : List (Option Nat)} {it : PM (List D × List D)} {tg : Tgt} {body : PM Fl} : Wp (sFor ks it tg body w) QS ↔ Wp (it w) fun p w1 => Wp (forL tg body p.1 w1) fun fl w2 => QS fl (putB ks p.2 w2) := by
  unfold sFor; simp only [wp_bind]
  refine ⟨fun h => h.mono fun p w h => ?_, fun h => h.mono fun p w h => ?_⟩
  · cases e : forL tg body p.1 w with
    | ok fl w2 => rw [e] at h; unfold putR at h; simpa using h
    | ex _ _ _ => rw [e] at h; obtain ⟨_, _, z, _⟩ := h; cases z
    | bad => rw [e] at h; obtain ⟨_, _, z, _⟩ := h; cases z
  · obtain ⟨fl, w2, e, q⟩ := h
    rw [e]; unfold putR; simpa using q
def loopQ (J : Ev → Prop) (Q : Fl → Ev → Prop) : Fl → Ev → Prop
  | .nx, w => J w
  | .ct, w => J w
  | .bk, w => Q .nx w
  | .rt d, w => Q (.rt d) w
@[simp] theorem loopQ_nx {J : Ev → Prop} : loopQ J QS .nx w ↔ J w := .rfl
@[simp] theorem loopQ_ct {J : Ev → Prop} : loopQ J QS .ct w ↔ J w := .rfl
@[simp] theorem loopQ_bk {J : Ev → Prop} : loopQ J QS .bk w ↔ QS .nx w := .rfl
@[simp] theorem loopQ_rt {J : Ev → Prop} {d : D} : loopQ J QS (.rt d) w ↔ QS (.rt d) w := .rfl
theorem wp_for {tg : Tgt} {body : PM Fl} (I : Nat → Ev → Prop) : ∀ {items : List D} {n : Nat} {w : Ev}, I n w → (∀ w, I (n + items.length) w → QS .nx w) →
    (∀ i d w, items[i]? = some d → I (n + i) w → ∃ w1, setT tg d w = some w1 ∧ Wp (body w1) (loopQ (I (n + i + 1)) QS)) → Wp (forL tg body items w) QS
  | [], n, w, h0, he, hs => by
    rw [forL_nil, wp_ok]; exact he w h0
  | d :: ds, n, w, h0, he, hs => by
    obtain ⟨w1, e1, h1⟩ := hs 0 d w rfl h0
    rw [forL_cons, e1]
    simp only [wp_bind]
    refine h1.mono fun fl w2 h2 => ?_
    have rcd : I (n + 1) w2 → Wp (forL tg body ds w2) QS := fun h => wp_for I h (fun w hw => he w (by rw [List.length_cons]; rw [show n + (ds.length + 1) = n + 1 + ds.length by omega]; exact hw)) fun i d' w' hi hw => by
      have := hs (i + 1) d' w' (by rw [List.getElem?_cons_succ]; exact hi) (by rw [show n + (i + 1) = n + 1 + i by omega]; exact hw)
      rw [show n + (i + 1) + 1 = n + 1 + i + 1 by omega] at this
      exact this
    cases fl with
    | nx => exact rcd h2
    | ct => exact rcd h2
    | bk => exact wp_ok.mpr h2
    | rt v => exact wp_ok.mpr h2
theorem wp_for0 {tg : Tgt} {body : PM Fl} {items : List D} (I : Nat → Ev → Prop) (h0 : I 0 w) (he : ∀ w, I items.length w → QS .nx w)
    (hs : ∀ i d w, items[i]? = some d → I i w → ∃ w1, setT tg d w = some w1 ∧ Wp (body w1) (loopQ (I (i + 1)) QS)) : Wp (forL tg body items w) QS :=
  wp_for I h0 (fun w h => he w (by rw [Nat.zero_add] at h; exact h)) fun i d w hi h => by
    rw [Nat.zero_add] at h ⊢; exact hs i d w hi h
@[simp] theorem setT_nm {i : Nat} {d : D} : setT (.nm i) d w = setE w i d := rfl
@[simp] theorem setT_tp {is : List Nat} {xs : List D} : setT (.tp is) (.tup xs) w = setA is xs w := rfl
@[local simp] theorem setA_cons {i : Nat} {is : List Nat} {d : D} {ds : List D} {w2 : Ev} : setA (i :: is) (d :: ds) w = some w2 ↔ i < w.length ∧ setA is ds (w.set i (some d)) = some w2 := by
  show (setE w i d).bind (setA is ds) = some w2 ↔ _
  unfold setE
  by_cases c : i < w.length <;> simp [c]
@[simp] theorem setA_nil : setA [] [] w = some w := rfl
@[simp] theorem wp_Comp {ks : List (Option Nat)} {it : PM (List D × List D)} {tg : Tgt} {c : PM Bool} {elt : PM D} {vs : List Nat} : Wp (xComp ks it tg c elt vs w) Q ↔ Wp (it w) fun p w1 => Wp (cmpL tg c elt vs p.1 [] w1) fun acc w2 => Q (.own acc) (putB ks p.2 (wipeE w2 vs)) := by
  unfold xComp; simp [wp_bind, wp_bindN]
@[simp] theorem wp_Yes : Wp (tYesF w) QB ↔ QB true w := by unfold tYesF; simp
@[simp] theorem wipeE_nil : wipeE w [] = w := rfl
@[simp] theorem wipeE_cons {v : Nat} {vs : List Nat} : wipeE w (v :: vs) = (wipeE w vs).set v none := rfl
theorem wp_cmp {tg : Tgt} {c : PM Bool} {elt : PM D} {vs : List Nat} (I : Nat → List D → Ev → Prop) : ∀ {items acc : List D} {n : Nat} {w : Ev}, I n acc w → (∀ acc w, I (n + items.length) acc w → QL acc w) →
    (∀ i d acc w, items[i]? = some d → I (n + i) acc w → ∃ w1, setT tg d (wipeE w vs) = some w1 ∧ Wp (c w1) fun b w2 => if b = true then Wp (elt w2) fun e w3 => acc.length < sizeLine ∧ I (n + i + 1) (acc ++ [e]) w3 else I (n + i + 1) acc w2) → Wp (cmpL tg c elt vs items acc w) QL
  | [], acc, n, w, h0, he, hs => by
    rw [cmpL_nil, wp_ok]; exact he acc w h0
  | d :: ds, acc, n, w, h0, he, hs => by
    obtain ⟨w1, e1, h1⟩ := hs 0 d acc w rfl h0
    rw [cmpL_cons, e1]
    simp only [wp_bindN]
    refine h1.mono fun b w2 h2 => ?_
    have rcd : ∀ {acc w2}, I (n + 1) acc w2 → Wp (cmpL tg c elt vs ds acc w2) QL := fun {acc w2} h => wp_cmp I h (fun acc w hw => he acc w (by rw [List.length_cons]; rw [show n + (ds.length + 1) = n + 1 + ds.length by omega]; exact hw)) fun i d' acc w' hi hw => by
      have := hs (i + 1) d' acc w' (by rw [List.getElem?_cons_succ]; exact hi) (by rw [show n + (i + 1) = n + 1 + i by omega]; exact hw)
      rw [show n + (i + 1) + 1 = n + 1 + i + 1 by omega] at this
      exact this
    cases b with
    | false => rw [if_neg (by decide)] at h2 ⊢; exact rcd h2
    | true =>
      rw [if_pos rfl] at h2 ⊢
      rw [wp_bindN]
      refine h2.mono fun e w3 h3 => ?_
      rw [if_pos h3.1]
      exact rcd h3.2
theorem wp_cmp0 {tg : Tgt} {c : PM Bool} {elt : PM D} {vs : List Nat} {items : List D} (I : Nat → List D → Ev → Prop) (h0 : I 0 [] w) (he : ∀ acc w, I items.length acc w → QL acc w)
    (hs : ∀ i d acc w, items[i]? = some d → I i acc w → ∃ w1, setT tg d (wipeE w vs) = some w1 ∧ Wp (c w1) fun b w2 => if b = true then Wp (elt w2) fun e w3 => acc.length < sizeLine ∧ I (i + 1) (acc ++ [e]) w3 else I (i + 1) acc w2) : Wp (cmpL tg c elt vs items [] w) QL :=
  wp_cmp I h0 (fun acc w h => he acc w (by rw [Nat.zero_add] at h; exact h)) fun i d acc w hi h => by
    rw [Nat.zero_add] at h ⊢; exact hs i d acc w hi h
/-! sources -/
@[simp] theorem seqP_tup {xs : List D} : seqP (.tup xs) = if pls xs = true then some xs else none := rfl
@[simp] theorem seqP_lst {xs : List D} : seqP (.lst xs) = if pls xs = true then some xs else none := rfl
@[simp] theorem seqP_own {xs : List D} : seqP (.own xs) = if pls xs = true then some xs else none := rfl
@[local simp] theorem qG_eq {d : D} {p : List D × List D} : qG [d] = some p ↔ ∃ xs, seqP d = some xs ∧ p = (xs, [d]) := by
  show (seqP d).map _ = some p ↔ _
  cases seqP d <;> simp [eq_comm]
@[local simp] theorem qEn_eq {d : D} {p : List D × List D} : qEn [d] = some p ↔ ∃ xs, seqP d = some xs ∧ p = (enumD xs, [d]) := by
  show (seqP d).map _ = some p ↔ _
  cases seqP d <;> simp [eq_comm]
@[local simp] theorem qR1_eq {n : Int} {p : List D × List D} : qR1 [.int n] = some p ↔ rngC n = true ∧ p = (rngD n.toNat, []) := by
  show (if rngC n = true then some (rngD n.toNat, []) else none) = some p ↔ _
  by_cases c : rngC n = true <;> simp [c, eq_comm]
@[local simp] theorem qR2_eq {lo hi : Int} {p : List D × List D} : qR2 [.int lo, .int hi] = some p ↔ (rngC lo = true ∧ rngC hi = true) ∧ p = (rngD2 lo (hi - lo).toNat, []) := by
  show (if rngC lo = true ∧ rngC hi = true then some (rngD2 lo (hi - lo).toNat, []) else none) = some p ↔ _
  by_cases c : rngC lo = true ∧ rngC hi = true
  · rw [if_pos c]
    constructor
    · intro h; exact ⟨c, (Option.some.inj h).symm⟩
    · intro h; rw [h.2]
  · rw [if_neg c]
    constructor
    · intro h; cases h
    · intro h; exact absurd h.1 c
@[local simp] theorem qZp_eqT {xs ys : List D} {p : List D × List D} : qZp [.tup xs, .tup ys] = some p ↔ pls xs = true ∧ pls ys = true ∧ p = (zipD xs ys, [.tup xs, .tup ys]) := by
  show (if sameK (.tup xs) (.tup ys) = true then (seqP (.tup xs)).bind fun xs' => (seqP (.tup ys)).map fun ys' => (zipD xs' ys', [D.tup xs, D.tup ys]) else none) = some p ↔ _
  rw [if_pos (by rfl)]
  rw [seqP_tup, seqP_tup]
  by_cases c : pls xs = true
  · by_cases c2 : pls ys = true
    · rw [if_pos c, if_pos c2]
      constructor
      · intro h; exact ⟨c, c2, (Option.some.inj h).symm⟩
      · intro h; rw [h.2.2]; rfl
    · rw [if_pos c, if_neg c2]
      constructor
      · intro h; cases h
      · intro h; exact absurd h.2.1 c2
  · rw [if_neg c]
    constructor
    · intro h; cases h
    · intro h; exact absurd h.1 c
theorem rngC_of {n : Int} (h : 0 ≤ n) (h2 : n ≤ 1000000000) : rngC n = true := by
  unfold rngC; rw [decide_eq_true_iff]; omega
/-! operations on data -/
@[simp] theorem dAdd_int {i j : Int} : dAdd (.int i) (.int j) = some (.int (i + j)) := rfl
@[simp] theorem dAdd_own {xs ys : List D} : dAdd (.own xs) (.own ys) = if pls xs = true ∧ pls ys = true ∧ xs.length + ys.length ≤ sizeLine then some (.own (xs ++ ys)) else none := rfl
@[simp] theorem dAdd_tup {xs ys : List D} : dAdd (.tup xs) (.tup ys) = if pls xs = true ∧ pls ys = true ∧ xs.length + ys.length ≤ sizeLine then some (.tup (xs ++ ys)) else none := rfl
@[simp] theorem dSub_int {i j : Int} : dSub (.int i) (.int j) = some (.int (i - j)) := rfl
@[simp] theorem dMul_int {i j : Int} : dMul (.int i) (.int j) = if mulC i j = true then some (.int (i * j)) else none := rfl
@[simp] theorem dDiv_int {i j : Int} : dDiv (.int i) (.int j) = if divC i j = true then some (.int (i / j)) else none := rfl
@[simp] theorem dMod_int {i j : Int} : dMod (.int i) (.int j) = if modC i j = true then some (.int (i % j)) else none := rfl
@[simp] theorem dPow_int {i j : Int} : dPow (.int i) (.int j) = if powC i j = true then some (.int (i ^ j.toNat)) else none := rfl
@[simp] theorem dNeg_int {i : Int} : dNeg (.int i) = some (.int (-i)) := rfl
@[simp] theorem dLt_int {i j : Int} : dLt (.int i) (.int j) = some (.bl (decide (i < j))) := rfl
@[simp] theorem dLe_int {i j : Int} : dLe (.int i) (.int j) = some (.bl (decide (i ≤ j))) := rfl
@[simp] theorem dGt_int {i j : Int} : dGt (.int i) (.int j) = some (.bl (decide (j < i))) := rfl
@[simp] theorem dGe_int {i j : Int} : dGe (.int i) (.int j) = some (.bl (decide (j ≤ i))) := rfl
@[simp] theorem dInt_int {i : Int} : dInt (.int i) = some (.int i) := rfl
@[simp] theorem dInt_bl {b : Bool} : dInt (.bl b) = some (.int (if b = true then 1 else 0)) := rfl
@[simp] theorem dLen_tup {xs : List D} : dLen (.tup xs) = some (.int xs.length) := rfl
@[simp] theorem dLen_lst {xs : List D} : dLen (.lst xs) = some (.int xs.length) := rfl
@[simp] theorem dLen_own {xs : List D} : dLen (.own xs) = some (.int xs.length) := rfl
@[simp] theorem dTuple_tup {xs : List D} : dTuple (.tup xs) = if pls xs = true then some (.tup xs) else none := rfl
@[simp] theorem dTuple_lst {xs : List D} : dTuple (.lst xs) = if pls xs = true then some (.tup xs) else none := rfl
@[simp] theorem dTuple_own {xs : List D} : dTuple (.own xs) = if pls xs = true then some (.tup xs) else none := rfl
@[simp] theorem dNot_bl {b : Bool} : dNot (.bl b) = some (.bl (!b)) := rfl
@[simp] theorem dIs_non {x : D} : dIs x .non = some (.bl (isN x)) := rfl
@[simp] theorem dIsNot_non {x : D} : dIsNot x .non = some (.bl (!isN x)) := rfl
@[simp] theorem isN_non : isN .non = true := rfl
@[simp] theorem isN_int {i : Int} : isN (.int i) = false := rfl
@[simp] theorem isN_bl {i : Bool} : isN (.bl i) = false := rfl
@[simp] theorem isN_tup {i : List D} : isN (.tup i) = false := rfl
@[simp] theorem isN_lst {i : List D} : isN (.lst i) = false := rfl
@[simp] theorem isN_own {i : List D} : isN (.own i) = false := rfl
@[simp] theorem isN_str {i : Str} : isN (.str i) = false := rfl
@[simp] theorem truD_bl {b : Bool} : truD (.bl b) = some b := rfl
@[simp] theorem truD_int {i : Int} : truD (.int i) = some (i != 0) := rfl
@[simp] theorem truD_non : truD .non = some false := rfl
@[simp] theorem truD_tup {xs : List D} : truD (.tup xs) = some (!xs.isEmpty) := rfl
@[simp] theorem truD_lst {xs : List D} : truD (.lst xs) = some (!xs.isEmpty) := rfl
@[simp] theorem truD_own {xs : List D} : truD (.own xs) = some (!xs.isEmpty) := rfl
@[simp] theorem dIsi_bb {b : Bool} : dIsi "bool" (.bl b) = some (.bl true) := congrArg (Option.map D.bl) (show kitB "bool" "bool" = some true by decide +kernel)
@[simp] theorem dIsi_bi {i : Int} : dIsi "bool" (.int i) = some (.bl false) := congrArg (Option.map D.bl) (show kitB "int" "bool" = some false by decide +kernel)
@[simp] theorem dIsi_bt {xs : List D} : dIsi "bool" (.tup xs) = some (.bl false) := congrArg (Option.map D.bl) (show kitB "tuple" "bool" = some false by decide +kernel)
@[simp] theorem dIsi_bn : dIsi "bool" .non = some (.bl false) := congrArg (Option.map D.bl) (show kitB (tyD .non) "bool" = some false by decide +kernel)
@[simp] theorem dIsi_ii {i : Int} : dIsi "int" (.int i) = some (.bl true) := congrArg (Option.map D.bl) (show kitB "int" "int" = some true by decide +kernel)
@[simp] theorem dIsi_ib {b : Bool} : dIsi "int" (.bl b) = some (.bl true) := congrArg (Option.map D.bl) (show kitB "bool" "int" = some true by decide +kernel)
@[simp] theorem dIsi_it {xs : List D} : dIsi "int" (.tup xs) = some (.bl false) := congrArg (Option.map D.bl) (show kitB "tuple" "int" = some false by decide +kernel)
@[simp] theorem dIsi_in : dIsi "int" .non = some (.bl false) := congrArg (Option.map D.bl) (show kitB (tyD .non) "int" = some false by decide +kernel)
@[simp] theorem dIsi_tt {xs : List D} : dIsi "tuple" (.tup xs) = some (.bl true) := congrArg (Option.map D.bl) (show kitB "tuple" "tuple" = some true by decide +kernel)
@[simp] theorem dIsi_ti {i : Int} : dIsi "tuple" (.int i) = some (.bl false) := congrArg (Option.map D.bl) (show kitB "int" "tuple" = some false by decide +kernel)
@[simp] theorem dRng_int {n : Int} : dRng (.int n) = if rngC n = true ∧ n.toNat ≤ 16777216 then some (.own (rngD n.toNat)) else none := rfl
def seqIx (xs : List D) (i : Int) : Option D := match atI xs i with
  | some d => if pl d = true then some d else none
  | none => none
@[simp] theorem dIx_tup {xs : List D} {i : Int} : dIx (.tup xs) (.int i) = seqIx xs i := rfl
@[simp] theorem dIx_lst {xs : List D} {i : Int} : dIx (.lst xs) (.int i) = seqIx xs i := rfl
@[simp] theorem dIx_own {xs : List D} {i : Int} : dIx (.own xs) (.int i) = seqIx xs i := rfl
theorem seqIx_nat {xs : List D} {i : Nat} {d : D} (h : xs[i]? = some d) (p : pl d = true) : seqIx xs (i : Int) = some d := by
  unfold seqIx; rw [atI_nat h]; exact if_pos p
theorem seqIx_ints {l : List Int} {i : Nat} {v : Int} (h : l[i]? = some v) : seqIx (l.map D.int) (i : Int) = some (.int v) := seqIx_nat (by rw [List.getElem?_map, h]; rfl) rfl
end
/-! ### the same, lazily: a step is read only once its value is known -/
def ob {α : Type} (o : Option α) (P : α → Prop) : Prop := ∃ a, o = some a ∧ P a
@[simp] theorem ob_some {α : Type} {a : α} {P : α → Prop} : ob (some a) P ↔ P a := by unfold ob; simp
@[simp] theorem ob_none {α : Type} {P : α → Prop} : ob none P ↔ False := by unfold ob; simp
@[simp] theorem ob_ite {α : Type} {c : Prop} [Decidable c] {a : α} {P : α → Prop} : ob (if c then some a else none) P ↔ c ∧ P a := by
  by_cases h : c <;> simp [h]
@[simp] theorem ob_map {α β : Type} {o : Option α} {f : α → β} {P : β → Prop} : ob (o.map f) P ↔ ob o fun a => P (f a) := by
  cases o <;> simp
theorem ob_congr {α : Type} {o o' : Option α} {P : α → Prop} (h : o = o') : ob o P = ob o' P := by rw [h]
theorem Wp_congr {α : Type} {o o' : Rs α} {P : α → Ev → Prop} (h : o = o') : Wp o P = Wp o' P := by rw [h]
theorem WpR_congr {o o' : Rd} {P : D → List D → Prop} (h : o = o') : WpR o P = WpR o' P := by rw [h]
theorem kQ_congr {Q : D → Ev → Prop} {j : Nat} {w w' : Ev} {d d' : D} (h : w = w') (h2 : d = d') : kQ Q j w d = kQ Q j w' d' := by rw [h, h2]
theorem iceQ_congr {Q : D → Ev → Prop} {j : Nat} {w w' : Ev} {d d' : D} (h : w = w') (h2 : d = d') : iceQ Q j w d = iceQ Q j w' d' := by rw [h, h2]
theorem seqQ_congr {g : PM Fl} {Q : Fl → Ev → Prop} {w w' : Ev} {d d' : Fl} (h : d = d') (h2 : w = w') : seqQ g Q d w = seqQ g Q d' w' := by rw [h, h2]
theorem loopQ_congr {J : Ev → Prop} {Q : Fl → Ev → Prop} {w w' : Ev} {d d' : Fl} (h : d = d') (h2 : w = w') : loopQ J Q d w = loopQ J Q d' w' := by rw [h, h2]
@[simp] theorem blD_bl {b : Bool} : blD (.bl b) = some b := rfl
theorem ob_bl {d : D} {P : Bool → Prop} : (∃ b, d = .bl b ∧ P b) ↔ ob (blD d) P := by
  cases d <;> simp [ob, blD]
def brQ (b : Bool) (A B : Prop) : Prop := if b = true then A else B
@[simp] theorem brQ_t {A B : Prop} : brQ true A B ↔ A := by simp [brQ]
@[simp] theorem brQ_f {A B : Prop} : brQ false A B ↔ B := by simp [brQ]
theorem brQ_congr {b b' : Bool} {A B : Prop} (h : b = b') : brQ b A B = brQ b' A B := by rw [h]
theorem brQ_of {b : Bool} {A B : Prop} (h1 : b = true → A) (h2 : b = false → B) : brQ b A B := by cases b <;> simp [h1, h2]
section
variable {w : Ev} {Q : D → Ev → Prop} {QL : List D → Ev → Prop} {QB : Bool → Ev → Prop} {QS : Fl → Ev → Prop}
@[simp] theorem lz_P {q : Ev → Option D} : Wp (xP q w) Q ↔ ob (q w) fun d => pl d = true ∧ Q d w := wp_P
@[simp] theorem lz_T {j : Nat} : Wp (xT j w) Q ↔ ob (slot w j) fun d => Q d (w.set j none) := wp_T
@[simp] theorem lz_I {j : Nat} : Wp (xI j w) Q ↔ ob (slot w j) fun d => iceQ Q j w d := wp_I
@[simp] theorem lz_K {j : Nat} : Wp (xK j w) Q ↔ ob (slot w j) fun d => kQ Q j w d := wp_K
@[simp] theorem lz_Z {j : Nat} {g : PM (List D)} : Wp (xZ j g w) QL ↔ ob (slot w j) fun _ => Wp (g w) fun ds w1 => ob (slot w1 j) fun d => kQ (fun d w2 => QL (d :: ds) w2) j w1 d := by
  unfold xZ
  cases e : slot w j with
  | none => simp
  | some d0 => simp [wp_bind, ob]
@[simp] theorem lz_1g {op : D → Option D} {f : PM D} : Wp (x1g op f w) Q ↔ Wp (f w) fun x w1 => ob (op x) fun z => Q z w1 := wp_1g
@[simp] theorem lz_1p {op : D → Option D} {q : Ev → Option D} : Wp (x1p op q w) Q ↔ ob (q w) fun x => ob (op x) fun z => Q z w := wp_1p
@[simp] theorem lz_2gg {op : D → D → Option D} {f g : PM D} : Wp (x2gg op f g w) Q ↔ Wp (f w) fun x w1 => Wp (g w1) fun y w2 => ob (op x y) fun z => Q z w2 := wp_2gg
@[simp] theorem lz_2gp {op : D → D → Option D} {f : PM D} {q : Ev → Option D} : Wp (x2gp op f q w) Q ↔ Wp (f w) fun x w1 => ob (q w1) fun y => ob (op x y) fun z => Q z w1 := wp_2gp
@[simp] theorem lz_2vg {op : D → D → Option D} {j : Nat} {g : PM D} : Wp (x2vg op j g w) Q ↔ ob (slot w j) fun _ => Wp (g w) fun y w2 => ob (slot w2 j) fun x => ob (op x y) fun z => Q z w2 := by
  rw [wp_2vg]; unfold ob
  exact ⟨fun ⟨⟨x, h⟩, h2⟩ => ⟨x, h, h2⟩, fun ⟨x, h, h2⟩ => ⟨⟨x, h⟩, h2⟩⟩
@[simp] theorem lz_2pp {op : D → D → Option D} {q1 q2 : Ev → Option D} : Wp (x2pp op q1 q2 w) Q ↔ ob (q1 w) fun x => ob (q2 w) fun y => ob (op x y) fun z => Q z w := wp_2pp
@[simp] theorem lz_tup {f : PM (List D)} : Wp (xTup f w) Q ↔ Wp (f w) fun ds w1 => ds.length ≤ sizeLine ∧ Q (.tup ds) w1 := by
  rw [wp_tup]
  refine ⟨fun h => h.mono fun ds w h => ?_, fun h => h.mono fun ds w h => ?_⟩
  · obtain ⟨z, e, q⟩ := h
    unfold mkTup at e
    by_cases c : ds.length ≤ sizeLine
    · rw [if_pos c] at e; cases e; exact ⟨c, q⟩
    · rw [if_neg c] at e; cases e
  · exact ⟨_, if_pos h.1, h.2⟩
@[simp] theorem lz_own {f : PM (List D)} : Wp (xOwn f w) Q ↔ Wp (f w) fun ds w1 => ds.length ≤ sizeLine ∧ Q (.own ds) w1 := by
  rw [wp_own]
  refine ⟨fun h => h.mono fun ds w h => ?_, fun h => h.mono fun ds w h => ?_⟩
  · obtain ⟨z, e, q⟩ := h
    unfold mkOwn at e
    by_cases c : ds.length ≤ sizeLine
    · rw [if_pos c] at e; cases e; exact ⟨c, q⟩
    · rw [if_neg c] at e; cases e
  · exact ⟨_, if_pos h.1, h.2⟩
@[simp] theorem line0 : (0 : Nat) ≤ sizeLine := Nat.zero_le _
@[simp] theorem line1 : (1 : Nat) ≤ sizeLine := Nat.le_trans (by decide) big
@[simp] theorem line2 : (2 : Nat) ≤ sizeLine := Nat.le_trans (by decide) big
@[simp] theorem line3 : (3 : Nat) ≤ sizeLine := Nat.le_trans (by decide) big
@[simp] theorem line4 : (4 : Nat) ≤ sizeLine := Nat.le_trans (by decide) big
@[simp] theorem lz_Bl {f : PM D} : Wp (tBl f w) QB ↔ Wp (f w) fun d w1 => ob (blD d) fun b => QB b w1 := by
  rw [wp_Bl]; simp only [ob_bl]
@[simp] theorem lz_Tru {f : PM D} : Wp (tTru f w) QB ↔ Wp (f w) fun d w1 => ob (truD d) fun b => QB b w1 := wp_Tru
@[simp] theorem lz_TruP {q : Ev → Option D} : Wp (tTruP q w) QB ↔ ob (q w) fun d => ob (truD d) fun b => QB b w := wp_TruP
@[simp] theorem lz_xAnd {f g : PM D} : Wp (xAnd f g w) Q ↔ Wp (f w) fun d w1 => ob (blD d) fun b => brQ b (Wp (g w1) Q) (Q (.bl false) w1) := by
  rw [wp_xAnd]; simp only [ob_bl]; rfl
@[simp] theorem lz_xOr {f g : PM D} : Wp (xOr f g w) Q ↔ Wp (f w) fun d w1 => ob (blD d) fun b => brQ b (Q (.bl true) w1) (Wp (g w1) Q) := by
  rw [wp_xOr]; simp only [ob_bl]; rfl
@[simp] theorem lz_xIf {t : PM Bool} {f g : PM D} : Wp (xIf t f g w) Q ↔ Wp (t w) fun b w1 => brQ b (Wp (f w1) Q) (Wp (g w1) Q) := wp_xIf
@[simp] theorem lz_AndF {t u : PM Bool} : Wp (tAndF t u w) QB ↔ Wp (t w) fun b w1 => brQ b (Wp (u w1) QB) (QB false w1) := wp_AndF
@[simp] theorem lz_OrF {t u : PM Bool} : Wp (tOrF t u w) QB ↔ Wp (t w) fun b w1 => brQ b (QB true w1) (Wp (u w1) QB) := wp_OrF
@[simp] theorem lz_If {t : PM Bool} {f g : PM Fl} : Wp (sIf t f g w) QS ↔ Wp (t w) fun b w1 => brQ b (Wp (f w1) QS) (Wp (g w1) QS) := wp_If
@[simp] theorem ownD_own {xs : List D} : ownD (.own xs) = some xs := rfl
theorem ob_own {o : Option D} {P : List D → Prop} : (∃ xs, o = some (.own xs) ∧ P xs) ↔ ob o fun d => ob (ownD d) P := by
  unfold ob
  constructor
  · rintro ⟨xs, h, p⟩; exact ⟨_, h, xs, rfl, p⟩
  · rintro ⟨d, h, xs, h2, p⟩; exact ⟨xs, by rw [h, ownD_some h2], p⟩
@[simp] theorem lz_App {j : Nat} {f : PM D} : Wp (xApp j f w) Q ↔ (ob (slot w j) fun d0 => ob (ownD d0) fun _ => Wp (f w) fun d w1 => ob (slot w1 j) fun x => ob (ownD x) fun xs => xs.length < sizeLine ∧ Q .non (w1.set j (some (.own (xs ++ [d]))))) := by
  rw [wp_App]; simp only [ob_own]
  rw [← ob_own]
  exact ⟨fun ⟨⟨x, h⟩, h2⟩ => ⟨x, h, h2⟩, fun ⟨x, h, h2⟩ => ⟨⟨x, h⟩, h2⟩⟩
@[simp] theorem intD_int {i : Int} : intD (.int i) = some i := rfl
theorem ob_int {d : D} {P : Int → Prop} : (∃ i, d = .int i ∧ P i) ↔ ob (intD d) P := by
  cases d <;> simp [ob, intD]
@[simp] theorem lz_PopAt {j : Nat} {f : PM D} : Wp (xPopAt j f w) Q ↔ (ob (slot w j) fun d0 => ob (ownD d0) fun _ => Wp (f w) fun d w1 => ob (slot w1 j) fun x => ob (ownD x) fun xs => ob (intD d) fun i => ob (ixN xs.length i) fun k => ob xs[k]? fun y => xs.length ≤ sizeLine ∧ Q y (w1.set j (some (.own (xs.eraseIdx k))))) := by
  rw [wp_PopAt]
  have e : (∃ xs0, slot w j = some (.own xs0)) ↔ ∃ xs0, slot w j = some (.own xs0) ∧ True := by simp
  rw [← ob_own]
  refine ⟨fun ⟨⟨x, h⟩, h2⟩ => ⟨x, h, h2.mono ?_⟩, fun ⟨x, h, h2⟩ => ⟨⟨x, h⟩, h2.mono ?_⟩⟩
  · rintro d w1 ⟨xs, i, k, y, a1, rfl, a3, a4, a5⟩
    rw [← ob_own]
    exact ⟨xs, a1, i, rfl, k, a3, y, a4, a5⟩
  · intro d w1 hh
    rw [← ob_own] at hh
    obtain ⟨xs, a1, i, a2, k, a3, y, a4, a5⟩ := hh
    exact ⟨xs, i, k, y, a1, intD_some a2, a3, a4, a5⟩
@[simp] theorem lz_RngL {f : PM D} : Wp (xRngL f w) Q ↔ Wp (f w) fun d w1 => ob (dRng d) fun z => Q z w1 := wp_RngL
@[simp] theorem lz_bS {f : PM D} {QO : Option Int → Ev → Prop} : Wp (bS f w) QO ↔ Wp (f w) fun d w1 => ob (intD d) fun i => QO (some i) w1 := by
  rw [wp_bS]; simp only [ob_int]
@[simp] theorem lz_Slg {f : PM D} {l u : PM (Option Int)} : Wp (xSlg f l u w) Q ↔ Wp (f w) fun d w1 => Wp (l w1) fun lo w2 => Wp (u w2) fun hi w3 => ob (dSl d lo hi) fun z => Q z w3 := wp_Slg
@[simp] theorem lz_Slv {j : Nat} {l u : PM (Option Int)} : Wp (xSlv j l u w) Q ↔ ob (slot w j) fun _ => Wp (l w) fun lo w2 => Wp (u w2) fun hi w3 => ob (slot w3 j) fun d => ob (dSl d lo hi) fun z => Q z w3 := by
  rw [wp_Slv]; unfold ob
  exact ⟨fun ⟨⟨x, h⟩, h2⟩ => ⟨x, h, h2⟩, fun ⟨x, h, h2⟩ => ⟨⟨x, h⟩, h2⟩⟩
@[simp] theorem lz_rt {io : List Nat} {QR : D → List D → Prop} {d : D} : endQ io QR (.rt d) w ↔ ob (outsOf io w) fun os => QR d os := .rfl
@[simp] theorem lz_nx {io : List Nat} {QR : D → List D → Prop} : endQ io QR .nx w ↔ ob (outsOf io w) fun os => QR .non os := .rfl
@[simp] theorem lz_outs {k : Nat} {io : List Nat} {P : List D → Prop} : ob (outsOf (k :: io) w) P ↔ ob (slot w k) fun d => ob (outsOf io w) fun ds => P (d :: ds) := by
  unfold ob
  simp only [outsOf_cons']
  constructor
  · rintro ⟨a, ⟨d, h, ds, h2, rfl⟩, p⟩; exact ⟨d, h, ds, h2, p⟩
  · rintro ⟨d, h, ds, h2, p⟩; exact ⟨_, ⟨d, h, ds, h2, rfl⟩, p⟩
@[simp] theorem lz_Set {i : Nat} {f : PM D} : Wp (sSet i f w) QS ↔ Wp (f w) fun d w1 => i < w1.length ∧ QS .nx (w1.set i (some d)) := wp_Set
@[simp] theorem lz_Aug {i : Nat} {op : D → D → Option D} {f : PM D} : Wp (sAug i op f w) QS ↔ ob (slot w i) fun d0 => pl d0 = true ∧ Wp (f w) fun d w1 => ob (op d0 d) fun z => i < w1.length ∧ QS .nx (w1.set i (some z)) := wp_Aug
@[simp] theorem lz_SetI {j : Nat} {f g : PM D} : Wp (sSetI j f g w) QS ↔ Wp (f w) fun d w1 => ob (slot w1 j) fun _ => Wp (g w1) fun i w2 => ob (slot w2 j) fun x => ob (ownD x) fun xs => ob (intD i) fun n => ob (ixN xs.length n) fun k => QS .nx (w2.set j (some (.own (xs.set k d)))) := by
  rw [wp_SetI]
  refine ⟨fun h => h.mono ?_, fun h => h.mono ?_⟩
  · rintro d w1 ⟨⟨x, h⟩, h2⟩
    refine ⟨x, h, h2.mono ?_⟩
    rintro i w2 ⟨xs, n, k, a1, rfl, a3, a4⟩
    rw [← ob_own]
    exact ⟨xs, a1, n, rfl, k, a3, a4⟩
  · rintro d w1 ⟨x, h, h2⟩
    refine ⟨⟨x, h⟩, h2.mono ?_⟩
    intro i w2 hh
    rw [← ob_own] at hh
    obtain ⟨xs, a1, n, a2, k, a3, a4⟩ := hh
    exact ⟨xs, n, k, a1, intD_some a2, a3, a4⟩
@[simp] theorem lz_iW {k : List D → Option (List D × List D)} {f : PM (List D)} {QP : List D × List D → Ev → Prop} : Wp (iW k f w) QP ↔ Wp (f w) fun ds w1 => ob (k ds) fun p => QP p w1 := wp_iW
@[simp] theorem lz_qG {d : D} {P : List D × List D → Prop} : ob (qG [d]) P ↔ ob (seqP d) fun xs => P (xs, [d]) := by
  show ob ((seqP d).map _) P ↔ _; simp
@[simp] theorem lz_qEn {d : D} {P : List D × List D → Prop} : ob (qEn [d]) P ↔ ob (seqP d) fun xs => P (enumD xs, [d]) := by
  show ob ((seqP d).map _) P ↔ _; simp
@[simp] theorem lz_qR1 {n : Int} {P : List D × List D → Prop} : ob (qR1 [.int n]) P ↔ rngC n = true ∧ P (rngD n.toNat, []) := by
  show ob (if rngC n = true then some (rngD n.toNat, []) else none) P ↔ _; simp
@[simp] theorem lz_qR2 {lo hi : Int} {P : List D × List D → Prop} : ob (qR2 [.int lo, .int hi]) P ↔ (rngC lo = true ∧ rngC hi = true) ∧ P (rngD2 lo (hi - lo).toNat, []) := by
  show ob (if rngC lo = true ∧ rngC hi = true then some (rngD2 lo (hi - lo).toNat, []) else none) P ↔ _; simp
@[simp] theorem lz_qZpT {xs ys : List D} {P : List D × List D → Prop} : ob (qZp [.tup xs, .tup ys]) P ↔ pls xs = true ∧ pls ys = true ∧ P (zipD xs ys, [.tup xs, .tup ys]) := by
  unfold ob
  constructor
  · rintro ⟨a, h, p⟩
    obtain ⟨h1, h2, rfl⟩ := qZp_eqT.mp h
    exact ⟨h1, h2, p⟩
  · rintro ⟨h1, h2, p⟩
    exact ⟨_, qZp_eqT.mpr ⟨h1, h2, rfl⟩, p⟩
/-- a loop's target -/
@[simp] theorem beq_dec {i j : Int} : (i == j) = decide (i = j) := by
  by_cases h : i = j <;> simp [h]
@[simp] theorem lz_sE {i : Nat} {d : D} {P : Ev → Prop} : ob (setE w i d) P ↔ i < w.length ∧ P (w.set i (some d)) := by
  unfold setE; simp
@[simp] theorem lz_nm {i : Nat} {d : D} {P : Ev → Prop} : ob (setT (.nm i) d w) P ↔ i < w.length ∧ P (w.set i (some d)) := by
  show ob (setE w i d) P ↔ _
  unfold setE; simp
@[simp] theorem lz_tp {is : List Nat} {xs : List D} {P : Ev → Prop} : ob (setT (.tp is) (.tup xs) w) P ↔ ob (setA is xs w) P := .rfl
@[simp] theorem lz_sA {i : Nat} {is : List Nat} {d : D} {ds : List D} {P : Ev → Prop} : ob (setA (i :: is) (d :: ds) w) P ↔ i < w.length ∧ ob (setA is ds (w.set i (some d))) P := by
  show ob ((setE w i d).bind (setA is ds)) P ↔ _
  unfold setE
  by_cases c : i < w.length <;> simp [c]
theorem lz_for {tg : Tgt} {body : PM Fl} {items : List D} (I : Nat → Ev → Prop) (h0 : I 0 w) (he : ∀ w, I items.length w → QS .nx w)
    (hs : ∀ i d w, items[i]? = some d → I i w → ob (setT tg d w) fun w1 => Wp (body w1) (loopQ (I (i + 1)) QS)) : Wp (forL tg body items w) QS := wp_for0 I h0 he hs
theorem lz_cmp {tg : Tgt} {c : PM Bool} {elt : PM D} {vs : List Nat} {items : List D} (I : Nat → List D → Ev → Prop) (h0 : I 0 [] w) (he : ∀ acc w, I items.length acc w → QL acc w)
    (hs : ∀ i d acc w, items[i]? = some d → I i acc w → ob (setT tg d (wipeE w vs)) fun w1 => Wp (c w1) fun b w2 => brQ b (Wp (elt w2) fun e w3 => acc.length < sizeLine ∧ I (i + 1) (acc ++ [e]) w3) (I (i + 1) acc w2)) : Wp (cmpL tg c elt vs items [] w) QL := wp_cmp0 I h0 he hs
end
end Pm

set_option autoImplicit false
namespace Pm
open PySem PySem.Spec L2
section
variable {w : Ev} {Q : D → Ev → Prop} {QL : List D → Ev → Prop} {QB : Bool → Ev → Prop} {QS : Fl → Ev → Prop}
@[simp] theorem lz_Cal {np : Nat} {js : List (Option Nat)} {m : List D → Rd} {f : PM (List D)} : Wp (xCal np js m f w) Q ↔ Wp (f w) fun ds w1 => ds.length = np ∧ WpR (m ds) fun d outs => Q d (putB js outs w1) := by
  unfold xCal; simp only [wp_bind]
  refine ⟨fun h => h.mono fun ds w h => ?_, fun h => h.mono fun ds w h => ?_⟩
  · by_cases c : ds.length = np
    · rw [if_pos c] at h
      cases e : m ds with
      | ok d os => rw [e] at h; exact ⟨c, d, os, rfl, by simpa using h⟩
      | ex _ _ _ => rw [e] at h; simp at h
      | bad => rw [e] at h; simp at h
    · rw [if_neg c] at h; simp at h
  · obtain ⟨c, d, os, e, h⟩ := h
    rw [if_pos c, e]; simpa using h
@[simp] theorem lz_Comp2 {ks ks1 : List (Option Nat)} {it it1 : PM (List D × List D)} {tg tg1 : Tgt} {c c1 : PM Bool} {elt : PM D} {vs vs1 : List Nat} : Wp (xComp2 ks it tg c ks1 it1 tg1 c1 elt vs vs1 w) Q ↔ Wp (it w) fun p w1 => Wp (cmpL2 tg c ks1 it1 tg1 c1 elt vs vs1 p.1 [] w1) fun acc w2 => Q (.own acc) (putB ks p.2 (wipeE w2 vs)) := by
  unfold xComp2; simp [wp_bind, wp_bindN]
theorem wp_cmp2 {tg tg1 : Tgt} {c c1 : PM Bool} {ks1 : List (Option Nat)} {it1 : PM (List D × List D)} {elt : PM D} {vs vs1 : List Nat} (I : Nat → List D → Ev → Prop) : ∀ {items acc : List D} {n : Nat} {w : Ev}, I n acc w → (∀ acc w, I (n + items.length) acc w → QL acc w) →
    (∀ i d acc w, items[i]? = some d → I (n + i) acc w → ob (setT tg d (wipeE w vs)) fun w1 => Wp (c w1) fun b w2 => brQ b (Wp (it1 w2) fun p w3 => Wp (cmpL tg1 c1 elt vs1 p.1 acc w3) fun acc2 w4 => I (n + i + 1) acc2 (putB ks1 p.2 (wipeE w4 vs1))) (I (n + i + 1) acc w2)) → Wp (cmpL2 tg c ks1 it1 tg1 c1 elt vs vs1 items acc w) QL
  | [], acc, n, w, h0, he, hs => by
    unfold cmpL2; rw [wp_ok]; exact he acc w h0
  | d :: ds, acc, n, w, h0, he, hs => by
    obtain ⟨w1, e1, h1⟩ := hs 0 d acc w rfl h0
    unfold cmpL2
    rw [e1]
    simp only [wp_bindN]
    refine h1.mono fun b w2 h2 => ?_
    have rcd : ∀ {acc w2}, I (n + 1) acc w2 → Wp (cmpL2 tg c ks1 it1 tg1 c1 elt vs vs1 ds acc w2) QL := fun {acc w2} h => wp_cmp2 I h (fun acc w hw => he acc w (by rw [List.length_cons]; rw [show n + (ds.length + 1) = n + 1 + ds.length by omega]; exact hw)) fun i d' acc w' hi hw => by
      have := hs (i + 1) d' acc w' (by rw [List.getElem?_cons_succ]; exact hi) (by rw [show n + (i + 1) = n + 1 + i by omega]; exact hw)
      rw [show n + (i + 1) + 1 = n + 1 + i + 1 by omega] at this
      exact this
    cases b with
    | false => rw [if_neg (by decide)]; exact rcd (by simpa using h2)
    | true =>
      rw [if_pos rfl]
      simp only [wp_bindN]
      have h3 := brQ_t.mp h2
      refine h3.mono fun p w3 h4 => h4.mono fun acc2 w4 h5 => rcd h5
theorem lz_cmp2 {tg tg1 : Tgt} {c c1 : PM Bool} {ks1 : List (Option Nat)} {it1 : PM (List D × List D)} {elt : PM D} {vs vs1 : List Nat} {items : List D} (I : Nat → List D → Ev → Prop) (h0 : I 0 [] w) (he : ∀ acc w, I items.length acc w → QL acc w)
    (hs : ∀ i d acc w, items[i]? = some d → I i acc w → ob (setT tg d (wipeE w vs)) fun w1 => Wp (c w1) fun b w2 => brQ b (Wp (it1 w2) fun p w3 => Wp (cmpL tg1 c1 elt vs1 p.1 acc w3) fun acc2 w4 => I (i + 1) acc2 (putB ks1 p.2 (wipeE w4 vs1))) (I (i + 1) acc w2)) : Wp (cmpL2 tg c ks1 it1 tg1 c1 elt vs vs1 items [] w) QL :=
  wp_cmp2 I h0 (fun acc w h => he acc w (by rw [Nat.zero_add] at h; exact h)) fun i d acc w hi h => by
    rw [Nat.zero_add] at h ⊢; exact hs i d acc w hi h
/-- a comprehension that starts with something in its list -/
theorem lz_cmpA {tg : Tgt} {c : PM Bool} {elt : PM D} {vs : List Nat} {items acc0 : List D} (I : Nat → List D → Ev → Prop) (h0 : I 0 acc0 w) (he : ∀ acc w, I items.length acc w → QL acc w)
    (hs : ∀ i d acc w, items[i]? = some d → I i acc w → ob (setT tg d (wipeE w vs)) fun w1 => Wp (c w1) fun b w2 => brQ b (Wp (elt w2) fun e w3 => acc.length < sizeLine ∧ I (i + 1) (acc ++ [e]) w3) (I (i + 1) acc w2)) : Wp (cmpL tg c elt vs items acc0 w) QL :=
  wp_cmp I h0 (fun acc w h => he acc w (by rw [Nat.zero_add] at h; exact h)) fun i d acc w hi h => by
    rw [Nat.zero_add] at h ⊢; exact hs i d acc w hi h
/-- while: a number that gets smaller -/
theorem lz_while {t : PM Bool} {body : PM Fl} (I : Nat → Ev → Prop) {n : Nat} (h0 : I n w)
    (hs : ∀ n w, I n w → Wp (t w) fun b w1 => brQ b (Wp (body w1) (loopQ (fun w2 => ∃ m, m < n ∧ I m w2) QS)) (QS .nx w1)) : Wp (sWh t body w) QS := by
  have key : ∀ (n : Nat) (w : Ev), I n w → ∃ k, Wp (whL t body k w) QS := fun n => by
    induction n using Nat.strongRecOn with
    | ind n ih =>
      intro w h
      obtain ⟨b, w1, e1, h1⟩ := hs n w h
      cases b with
      | false => exact ⟨1, by unfold whL; rw [e1]; simpa using h1⟩
      | true =>
        obtain ⟨fl, w2, e2, h2⟩ := brQ_t.mp h1
        have fin : ∀ k, whL t body (k + 1) w = ((body w1).bind fun fl w2 => match fl with
            | .nx => whL t body k w2
            | .ct => whL t body k w2
            | .bk => .ok .nx w2
            | .rt v => .ok (.rt v) w2) := fun k => by
          conv => lhs; unfold whL
          rw [e1, Rs.bind_ok, if_pos rfl]
          all_goals (generalize body w1 = r; rcases r with ⟨fl, w3⟩ | _ | _ <;> first | rfl | (cases fl <;> rfl))
        cases fl with
        | nx =>
          obtain ⟨m, hm, hi⟩ := h2
          obtain ⟨k, hk⟩ := ih m hm w2 hi
          exact ⟨k + 1, by rw [fin k, e2]; exact hk⟩
        | ct =>
          obtain ⟨m, hm, hi⟩ := h2
          obtain ⟨k, hk⟩ := ih m hm w2 hi
          exact ⟨k + 1, by rw [fin k, e2]; exact hk⟩
        | bk => exact ⟨1, by rw [fin 0, e2]; exact wp_ok.mpr h2⟩
        | rt v => exact ⟨1, by rw [fin 0, e2]; exact wp_ok.mpr h2⟩
  obtain ⟨k, hk⟩ := key n w h0
  have nb : whL t body k w ≠ .bad := fun e => by rw [e] at hk; simp at hk
  rw [sWh_eq k nb]; exact hk
@[simp] theorem dSorted_tup {ns : List Int} : dSorted (.tup (ns.map .int)) = some (.own ((sortI ns).map .int)) := by
  show (some (ns.map D.int)).bind _ = _
  rw [Option.bind_some, intsD_ints]; rfl
@[simp] theorem dSorted_lst {ns : List Int} : dSorted (.lst (ns.map .int)) = some (.own ((sortI ns).map .int)) := dSorted_tup
@[simp] theorem dSorted_own {ns : List Int} : dSorted (.own (ns.map .int)) = some (.own ((sortI ns).map .int)) := dSorted_tup
end
end Pm

set_option autoImplicit false
namespace Pm
open PySem PySem.Spec L2
section
variable {w : Ev} {Q : D → Ev → Prop} {QS : Fl → Ev → Prop}
@[simp] theorem lz_3c {op op' : D → D → Option D} {f g h : PM D} : Wp (x3c op op' f g h w) Q ↔ Wp (f w) fun x w1 => Wp (g w1) fun y w2 => ob (op x y) fun k => ob (blD k) fun b => brQ b (Wp (h w2) fun z w3 => ob (op' y z) fun r => Q r w3) (Q (.bl false) w2) := by
  unfold x3c; simp only [wp_bind]
  refine ⟨fun q => q.mono fun x w1 q => q.mono fun y w2 q => ?_, fun q => q.mono fun x w1 q => q.mono fun y w2 q => ?_⟩
  · cases e : op x y with
    | none => rw [e] at q; simp at q
    | some k =>
      rw [e] at q
      cases k with
      | bl b => cases b <;> simpa [wp_bind, wp_back, ob] using q
      | _ => simp at q
  · cases e : op x y with
    | none => rw [e] at q; simp at q
    | some k =>
      rw [e] at q
      cases k with
      | bl b => cases b <;> simpa [wp_bind, wp_back, ob] using q
      | _ => simp [blD] at q
@[simp] theorem lz_SetT {tg : Tgt} {f : PM D} : Wp (sSetT tg f w) QS ↔ Wp (f w) fun d w1 => pl d = true ∧ ob (setT tg d w1) fun w2 => QS .nx w2 := by
  unfold sSetT; simp only [wp_bind]
  refine ⟨fun q => q.mono fun d w1 q => ?_, fun q => q.mono fun d w1 q => ?_⟩
  · by_cases p : pl d = true
    · rw [if_pos p] at q
      cases e : setT tg d w1 with
      | none => rw [e] at q; simp at q
      | some w2 => rw [e] at q; exact ⟨p, by simpa using q⟩
    · rw [if_neg p] at q; simp at q
  · rw [if_pos q.1]
    obtain ⟨w2, e, q2⟩ := q.2
    rw [e]; simpa using q2
@[simp] theorem lz_RngL3 {f : PM (List D)} : Wp (xRngL3 f w) Q ↔ Wp (f w) fun ds w1 => ob (dRng3 ds) fun z => Q z w1 := by
  unfold xRngL3; simp [wp_bind, wp_back, ob]
@[simp] theorem lz_Ig {f : PM D} : Wp (xIg f w) Q ↔ Wp (f w) fun d w1 => ob (iceD d) fun z => Q z w1 := by
  unfold xIg; simp [wp_bind, wp_back, ob]
@[simp] theorem iceD_own {xs : List D} : iceD (.own xs) = if pls xs = true then some (.lst xs) else none := rfl
@[simp] theorem iceD_lst {xs : List D} : iceD (.lst xs) = some (.lst xs) := rfl
@[simp] theorem iceD_tup {xs : List D} : iceD (.tup xs) = if pls xs = true then some (.tup xs) else none := rfl
@[simp] theorem iceD_odc {t : Bool} {ks vs : List D} : iceD (.odc t ks vs) = if pls vs = true then some (.fdc t ks vs) else none := rfl
@[simp] theorem iceD_fdc {t : Bool} {ks vs : List D} : iceD (.fdc t ks vs) = some (.fdc t ks vs) := rfl
@[simp] theorem iceD_xo {c : Str} {ns : List Str} {vs : List D} : iceD (.xo c ns vs) = some (.xo c ns vs) := rfl
@[simp] theorem iceD_int {i : Int} : iceD (.int i) = some (.int i) := rfl
@[simp] theorem iceD_str {i : Str} : iceD (.str i) = some (.str i) := rfl
@[simp] theorem iceD_bl {i : Bool} : iceD (.bl i) = some (.bl i) := rfl
@[simp] theorem iceD_non : iceD .non = some .non := rfl
@[simp] theorem dStr_int {i : Int} : dStr (.int i) = if strC i = true then some (.str (toString i)) else none := rfl
@[simp] theorem dRng3_ints {i j k : Int} : dRng3 [.int i, .int j, .int k] = if rg3 i j k = true then some (.own ((List.range (i - j).toNat).map fun (m : Nat) => D.int (i + (m : Int) * k))) else none := rfl
@[simp] theorem dMin_int {i j : Int} : dMin (.int i) (.int j) = some (.int (if j < i then j else i)) := rfl
@[simp] theorem dMax_int {i j : Int} : dMax (.int i) (.int j) = some (.int (if j > i then j else i)) := rfl
@[simp] theorem dAbs_int {i : Int} : dAbs (.int i) = some (.int (if i < 0 then -i else i)) := rfl
end
end Pm

set_option autoImplicit false
namespace Pm
open PySem PySem.Spec L2
variable {u0 : Unit} [Tab0 u0]
@[simp] theorem seqIx_0 {a : D} {l : List D} : seqIx (a :: l) 0 = if pl a = true then some a else none := by
  unfold seqIx; rw [show atI (a :: l) 0 = some a from atI_nat (j := 0) rfl]
@[simp] theorem seqIx_1 {a b : D} {l : List D} : seqIx (a :: b :: l) 1 = if pl b = true then some b else none := by
  unfold seqIx; rw [show atI (a :: b :: l) 1 = some b from atI_nat (j := 1) rfl]
@[simp] theorem seqIx_2 {a b c : D} {l : List D} : seqIx (a :: b :: c :: l) 2 = if pl c = true then some c else none := by
  unfold seqIx; rw [show atI (a :: b :: c :: l) 2 = some c from atI_nat (j := 2) rfl]
@[simp] theorem seqIx_3 {a b c d : D} {l : List D} : seqIx (a :: b :: c :: d :: l) 3 = if pl d = true then some d else none := by
  unfold seqIx; rw [show atI (a :: b :: c :: d :: l) 3 = some d from atI_nat (j := 3) rfl]
@[simp] theorem ixN_40 : ixN 4 0 = some 0 := rfl
@[simp] theorem ixN_41 : ixN 4 1 = some 1 := rfl
@[simp] theorem ixN_42 : ixN 4 2 = some 2 := rfl
@[simp] theorem ixN_43 : ixN 4 3 = some 3 := rfl
@[simp] theorem ixN_20 : ixN 2 0 = some 0 := rfl
@[simp] theorem ixN_21 : ixN 2 1 = some 1 := rfl
theorem mulC_of {i j : Int} (h : i.natAbs < 2 ^ 4000) (h2 : j.natAbs < 2 ^ 4000) : mulC i j = true := by
  unfold mulC
  rw [decide_eq_true_iff]
  have a : ∀ n : Nat, n < 2 ^ 4000 → n.log2 < 4000 := fun n hn => by
    by_cases z : n = 0
    · subst z; decide
    · exact (Nat.log2_lt z).mpr hn
  have := a _ h
  have := a _ h2
  omega
theorem p4000 : (1000000000000000000000 : Nat) < 2 ^ 4000 := by decide +kernel
theorem mulC_s {i j : Int} (h : -1000000000000000000 ≤ i) (h' : i ≤ 1000000000000000000) (h2 : -1000000000000000000 ≤ j) (h2' : j ≤ 1000000000000000000) : mulC i j = true :=
  mulC_of (Nat.lt_trans (by omega) p4000) (Nat.lt_trans (by omega) p4000)
theorem pow18 : powC 10 18 = true := by decide +kernel
theorem pow60 : powC 10 60 = true := by decide +kernel
theorem pow600 : powC (10 ^ 60) 10 = true := by decide +kernel
theorem pow6 : powC 10 6 = true := by decide +kernel
@[simp] theorem modC_eq {i j : Int} : modC i j = true ↔ 0 < j := by unfold modC; simp
@[simp] theorem divC_eq {i j : Int} : divC i j = true ↔ 0 < j ∧ j < 1073741824 := by unfold divC; simp
def Fd (d : D) : Prop := ∃ (ns : List Int) (p : Nat) (b s : Int), d = .own [.lst (ns.map .int), .int p, .int b, .int s] ∧ 0 ≤ b ∧ 0 ≤ s ∧ s < 2147483647
theorem Fd.mk {ns : List Int} {p : Nat} {b s : Int} (h1 : 0 ≤ b) (h2 : 0 ≤ s) (h3 : s < 2147483647) : Fd (.own [.lst (ns.map .int), .int p, .int b, .int s]) := ⟨ns, p, b, s, rfl, h1, h2, h3⟩
def DrawQ (m : Int) : D → List D → Prop := fun d os => ∃ v f', d = .int v ∧ os = [f'] ∧ 0 ≤ v ∧ v < m ∧ Fd f'
theorem p600 : (0 : Int) < (10 ^ 60) ^ 10 := by decide +kernel
theorem p18 : (10 : Int) ^ 18 = 1000000000000000000 := by decide +kernel
@[simp] theorem kQ_fd {f : D} {Q : D → Ev → Prop} {j : Nat} {w : Ev} (h : Fd f) : kQ Q j w f ↔ Q f (w.set j none) := by
  obtain ⟨ns, p, b, s, rfl, _⟩ := h; exact kQ_own
def SizeQ : D → List D → Prop := fun d os => ∃ v f', d = .int v ∧ os = [f'] ∧ 1 ≤ v ∧ v ≤ 1000000 ∧ Fd f'
theorem toNat_range {n : Int} (i : Nat) {d : D} (h : (rngD n.toNat)[i]? = some d) : d = .int i ∧ (i : Int) < n := by
  have e := rngD_get h
  have l : i < (rngD n.toNat).length := by
    rw [List.getElem?_eq_some_iff] at h; exact h.1
  rw [rngD_len] at l
  exact ⟨by rw [e, Int.zero_add], by omega⟩
theorem line {n : Nat} (h : n ≤ 1000000) : n ≤ sizeLine := Nat.le_trans h big
theorem line' {n : Nat} (h : n < 1000000) : n < sizeLine := Nat.lt_of_lt_of_le h big
def RowQ (n : Int) : D → List D → Prop := fun d os => ∃ (r : List Int) (f' : D), d = .tup (r.map .int) ∧ os = [f'] ∧ (r.length : Int) = n ∧ Fd f'
def intsTo (n : Nat) : List Int := (List.range n).map fun (i : Nat) => (i : Int)
theorem rngD_ints (n : Nat) : rngD n = (intsTo n).map D.int := by unfold rngD intsTo; rw [List.map_map]; rfl
theorem intsTo_len (n : Nat) : (intsTo n).length = n := by unfold intsTo; simp
theorem intsTo_mem {n : Nat} {i : Int} : i ∈ intsTo n ↔ 0 ≤ i ∧ i < n := by
  unfold intsTo
  simp only [List.mem_map, List.mem_range]
  constructor
  · rintro ⟨a, h, rfl⟩; omega
  · intro h; exact ⟨i.toNat, by omega, by omega⟩
theorem intsTo_nd (n : Nat) : (intsTo n).Nodup := by
  unfold intsTo
  unfold List.Nodup
  rw [List.pairwise_map]
  exact List.Pairwise.imp (fun h e => h (by omega)) (List.nodup_range (n := n))
def IsOrd (n : Nat) (o : List Int) : Prop := o.Nodup ∧ o.length = n ∧ ∀ i ∈ o, 0 ≤ i ∧ i < (n : Int)
theorem isOrd_of {n : Nat} {o : List Int} (h : o.Perm (intsTo n)) : IsOrd n o := ⟨h.nodup_iff.mpr (intsTo_nd n), by rw [h.length_eq, intsTo_len], fun i m => intsTo_mem.mp (h.mem_iff.mp m)⟩
theorem ixN_at {n : Nat} {i : Int} (h : 0 ≤ i) (h2 : i < n) : ixN n i = some i.toNat := by
  unfold ixN; rw [if_pos h, if_pos h2]
theorem ints_get {l : List Int} {k : Nat} (h : k < l.length) : (l.map D.int)[k]? = some (.int l[k]) := by
  rw [List.getElem?_map, List.getElem?_eq_getElem h]; rfl
theorem get_erase {α : Type} : ∀ {l : List α} {k : Nat} (hk : k < l.length), (l[k] :: l.eraseIdx k).Perm l
  | [], k, hk => absurd hk (Nat.not_lt_zero _)
  | a :: l, 0, hk => List.Perm.refl _
  | a :: l, k + 1, hk => by
    have hk' : k < l.length := Nat.lt_of_succ_lt_succ hk
    have ih := get_erase hk'
    show (l[k] :: a :: l.eraseIdx k).Perm (a :: l)
    exact (List.Perm.swap a _ _).trans (List.Perm.cons a ih)
theorem perm_pop {o l : List Int} {k : Nat} {z : List Int} (hk : k < l.length) (h : (o ++ l).Perm z) : ((o ++ [l[k]]) ++ l.eraseIdx k).Perm z := by
  refine List.Perm.trans ?_ h
  rw [List.append_assoc]
  refine List.Perm.append_left o ?_
  exact get_erase hk
theorem map_erase {l : List Int} {k : Nat} : (l.map D.int).eraseIdx k = (l.eraseIdx k).map D.int := by
  induction l generalizing k with
  | nil => rfl
  | cons a l ih =>
    cases k with
    | zero => rfl
    | succ k => show D.int a :: (l.map D.int).eraseIdx k = D.int a :: (l.eraseIdx k).map D.int; rw [ih]
def OrdQ (n : Nat) : D → List D → Prop := fun d os => ∃ (o : List Int) (f' : D), d = .tup (o.map .int) ∧ os = [f'] ∧ IsOrd n o ∧ Fd f'
def atR (r : List Int) (i : Int) : Int := r.getD i.toNat 0
def bel (r : List Int) : List Int → Bool
  | [] => false
  | i :: o => if atR r i = 0 then bel r o else decide (atR r i < 0)
theorem seqIx_at {r : List Int} {i : Int} (h : 0 ≤ i) (h2 : i < r.length) : seqIx (r.map D.int) i = some (.int (atR r i)) := by
  have e : i = ((i.toNat : Nat) : Int) := by omega
  have hk : i.toNat < r.length := by omega
  rw [show seqIx (r.map D.int) i = seqIx (r.map D.int) ((i.toNat : Nat) : Int) by rw [← e]]
  rw [seqIx_ints (List.getElem?_eq_getElem hk)]
  unfold atR
  rw [List.getD_eq_getElem?_getD, List.getElem?_eq_getElem hk]; rfl
def BlQ (b : Bool) : D → List D → Prop := fun d os => d = .bl b ∧ os = []
theorem ints_at {o : List Int} {i : Nat} {d : D} (h : (o.map D.int)[i]? = some d) : ∃ hi : i < o.length, d = .int o[i] := by
  rw [List.getElem?_map] at h
  obtain ⟨a, h1, h2⟩ := Option.map_eq_some_iff.mp h
  obtain ⟨hi, e⟩ := List.getElem?_eq_some_iff.mp h1
  exact ⟨hi, by rw [← h2, e]⟩
theorem bel_drop {r o : List Int} {i : Nat} (hi : i < o.length) : bel r (o.drop i) = if atR r o[i] = 0 then bel r (o.drop (i + 1)) else decide (atR r o[i] < 0) := by
  rw [List.drop_eq_getElem_cons hi]; rfl
@[simp] theorem dSl_tup {xs : List D} {lo hi : Option Int} : dSl (.tup xs) lo hi = if pls xs = true then some (.tup (cutD xs lo hi)) else none := rfl
@[simp] theorem dSl_lst {xs : List D} {lo hi : Option Int} : dSl (.lst xs) lo hi = if pls xs = true then some (.own (cutD xs lo hi)) else none := rfl
@[simp] theorem dSl_own {xs : List D} {lo hi : Option Int} : dSl (.own xs) lo hi = if pls xs = true then some (.own (cutD xs lo hi)) else none := rfl
theorem cutD_from {xs : List D} (k : Nat) : cutD xs (some (k : Int)) none = xs.drop k := by
  unfold cutD
  rw [show HT.sIx xs.length 0 (some (k : Int)) = min k xs.length from HT.sIx_nat xs.length 0 k, HT.sIx_none]
  by_cases h : k ≤ xs.length
  · rw [Nat.min_eq_left h, List.take_of_length_le (by rw [List.length_drop]; omega)]
  · rw [Nat.min_eq_right (by omega), List.drop_eq_nil_of_le (show xs.length ≤ k by omega)]; simp
theorem cutD_to {xs : List D} (k : Nat) : cutD xs none (some (k : Int)) = xs.take k := by
  unfold cutD
  rw [show HT.sIx xs.length xs.length (some (k : Int)) = min k xs.length from HT.sIx_nat xs.length xs.length k, HT.sIx_none]
  simp
theorem wp_mid {f g : PM Fl} {w : Ev} {QS : Fl → Ev → Prop} (M : Ev → Prop) (h1 : Wp (f w) fun fl w => fl = .nx ∧ M w) (h2 : ∀ w, M w → Wp (g w) QS) : Wp (sSeq f g w) QS := by
  rw [wp_Seq]
  refine h1.mono ?_
  rintro fl w ⟨rfl, m⟩
  exact h2 w m
theorem cmp_const {c : D} {j : Nat} {items : List D} {w : Ev} {QL : List D → Ev → Prop} (hj : j < w.length) (hl : items.length ≤ 1000000) (h : ∀ w2, w2.set j none = w.set j none → QL (items.map fun _ => c) w2) :
    Wp (cmpL (.nm j) tYesF (xC c) [j] items [] w) QL := by
  refine lz_cmp (fun i acc w2 => w2.set j none = w.set j none ∧ w2.length = w.length ∧ acc = List.replicate i c) ⟨rfl, rfl, rfl⟩ ?_ ?_
  · rintro acc w2 ⟨h1, _, h2⟩
    have := h w2 h1
    rw [List.map_const'] at this
    rw [h2]; exact this
  · rintro i d acc w2 hi ⟨h1, h2, h3⟩
    have il : i < items.length := (List.getElem?_eq_some_iff.mp hi).1
    simp [h2, hj, h3]
    exact ⟨Nat.lt_of_lt_of_le (by omega) big, h1, by rw [List.replicate_succ']⟩
def rowsD (rows : List (List Int)) : List D := rows.map fun r => D.tup (r.map D.int)
@[simp] theorem pls_rowsD {rows : List (List Int)} : pls (rowsD rows) = true := pls_rows
@[simp] theorem rowsD_len {rows : List (List Int)} : (rowsD rows).length = rows.length := by unfold rowsD; simp
theorem rowsD_at {rows : List (List Int)} {i : Nat} {d : D} (h : (rowsD rows)[i]? = some d) : ∃ hi : i < rows.length, d = .tup (rows[i].map .int) := by
  unfold rowsD at h
  rw [List.getElem?_map] at h
  obtain ⟨a, h1, h2⟩ := Option.map_eq_some_iff.mp h
  obtain ⟨hi, e⟩ := List.getElem?_eq_some_iff.mp h1
  exact ⟨hi, by rw [← h2, e]⟩
theorem rowsD_ix {rows : List (List Int)} {i : Nat} (h : i < rows.length) : seqIx (rowsD rows) (i : Int) = some (.tup (rows[i].map .int)) := seqIx_nat (by unfold rowsD; rw [List.getElem?_map, List.getElem?_eq_getElem h]; rfl) (by simp)
def InR (o r : List Int) : Prop := ∀ i ∈ o, 0 ≤ i ∧ i < (r.length : Int)
def DQ (d0 : D) : D → List D → Prop := fun d os => d = d0 ∧ os = []
theorem bel_zero {r : List Int} : ∀ {o : List Int}, (∀ i ∈ o, atR r i = 0) → bel r o = false
  | [], _ => rfl
  | i :: o, h => by
    show (if atR r i = 0 then bel r o else decide (atR r i < 0)) = false
    rw [if_pos (h i List.mem_cons_self)]
    exact bel_zero fun j m => h j (List.mem_cons_of_mem _ m)
theorem bel_lead {r : List Int} {v : Int} (hv : v ≠ 0) : ∀ {o : List Int} {p : Nat} (hp : p < o.length), (∀ q (hq : q < o.length), q < p → atR r o[q] = 0) → atR r o[p] = v → bel r o = decide (v < 0)
  | [], p, hp, _, _ => absurd hp (Nat.not_lt_zero _)
  | i :: o, 0, hp, h, e => by
    show (if atR r i = 0 then bel r o else decide (atR r i < 0)) = _
    have e' : atR r i = v := e
    rw [if_neg (by rw [e']; exact hv), e']
  | i :: o, p + 1, hp, h, e => by
    show (if atR r i = 0 then bel r o else decide (atR r i < 0)) = _
    have e0 : atR r i = 0 := h 0 (by simp) (by omega)
    rw [if_pos e0]
    exact bel_lead hv (p := p) (Nat.lt_of_succ_lt_succ hp) (fun q hq l => h (q + 1) (Nat.succ_lt_succ hq) (by omega)) e
theorem atR_set {r : List Int} {i j v : Int} (hi : 0 ≤ i) (hj : 0 ≤ j) : atR (r.set i.toNat v) j = if i = j ∧ i < r.length then v else atR r j := by
  unfold atR
  rw [List.getD_eq_getElem?_getD, List.getD_eq_getElem?_getD, List.getElem?_set]
  by_cases e : i = j
  · subst e
    by_cases l : i < r.length
    · rw [if_pos rfl, if_pos (by omega), if_pos ⟨rfl, l⟩]; rfl
    · rw [if_pos rfl, if_neg (by omega), if_neg (fun z => l z.2), List.getElem?_eq_none (by omega)]
  · rw [if_neg (by omega), if_neg (fun z => e z.1)]
theorem ints_set {r : List Int} {k : Nat} {v : Int} : (r.map D.int).set k (.int v) = (r.set k v).map D.int := by
  rw [List.map_set]
theorem ord_get {n : Nat} {o : List Int} (ho : IsOrd n o) {q : Nat} (hq : q < o.length) : 0 ≤ o[q] ∧ o[q] < (n : Int) := ho.2.2 _ (List.getElem_mem hq)
theorem ord_ne {n : Nat} {o : List Int} (ho : IsOrd n o) {p q : Nat} (hp : p < o.length) (hq : q < o.length) (h : p ≠ q) : o[p] ≠ o[q] := fun e => h ((List.getElem_inj ho.1).mp e)
theorem cmp_rng {e : PM D} {j : Nat} {n : Nat} {w : Ev} {QL : List D → Ev → Prop} (g : Nat → Int) (hj : j < w.length) (hl : n ≤ 1000000) (he : ∀ (i : Nat), i < n → Wp (e (w.set j (some (.int (i : Nat))))) fun d w3 => d = .int (g i) ∧ w3 = w.set j (some (.int (i : Nat)))) (h : ∀ (w2 : Ev), w2.set j none = w.set j none → w2.length = w.length → QL (((List.range n).map g).map D.int) w2) :
    Wp (cmpL (.nm j) tYesF e [j] (rngD n) [] w) QL := by
  refine lz_cmp (fun i acc w2 => w2.set j none = w.set j none ∧ w2.length = w.length ∧ acc = ((List.range i).map g).map D.int) ⟨rfl, rfl, rfl⟩ ?_ ?_
  · rintro acc w2 ⟨h1, h2, h3⟩
    rw [rngD_len] at h3
    rw [h3]; exact h w2 h1 h2
  · rintro i d acc w2 hi ⟨h1, h2, h3⟩
    have il : i < n := by have := (List.getElem?_eq_some_iff.mp hi).1; rw [rngD_len] at this; exact this
    have ed := rngD_get hi
    rw [Int.zero_add] at ed
    subst ed
    simp [h2, hj]
    have e1 : w2.set j (some (D.int (i : Nat))) = w.set j (some (D.int (i : Nat))) := by
      have := congrArg (fun z : Ev => z.set j (some (D.int (i : Nat)))) h1
      simpa using this
    rw [e1]
    refine Wp.mono (he i il) ?_
    rintro d w3 ⟨rfl, rfl⟩
    refine ⟨Nat.lt_of_lt_of_le (by rw [h3]; simp; omega) big, by simp, by simp, ?_⟩
    rw [h3, List.range_succ]; simp
theorem ord_in {n : Nat} {o r : List Int} (ho : IsOrd n o) (hr : r.length = n) : InR o r := fun i m => by
  have := ho.2.2 i m
  rw [hr]; exact this
def TruQ : D → List D → Prop := fun d os => ∃ f', d = .bl true ∧ os = [f'] ∧ Fd f'
theorem rowsD_app {a b : List (List Int)} : rowsD a ++ rowsD b = rowsD (a ++ b) := by unfold rowsD; rw [List.map_append]
theorem rowsD_one {a : List (List Int)} {r : List Int} : rowsD a ++ [.tup (r.map .int)] = rowsD (a ++ [r]) := by unfold rowsD; rw [List.map_append]; rfl
theorem rowsD_take {a : List (List Int)} {k : Nat} : (rowsD a).take k = rowsD (a.take k) := by unfold rowsD; rw [List.map_take]
theorem rowsD_drop {a : List (List Int)} {k : Nat} : (rowsD a).drop k = rowsD (a.drop k) := by unfold rowsD; rw [List.map_drop]
theorem ints_rv {K : PySem.W.Frag} {H : Hp} : ∀ ns : List Int, RVs K H (ns.map .int) (ns.map V.int) []
  | [] => ⟨rfl, rfl⟩
  | i :: ns => ⟨.int i, _, [], [], rfl, ⟨rfl, rfl⟩, ints_rv ns, rfl⟩
theorem fz_of {K : PySem.W.Frag} {H : Hp} {a : Addr} {vs : List V} (ho : Only H) (h : SqL K H a vs) : Fz K H a vs := by
  rcases h with (h | h) | h
  · rcases ho a with e | ⟨o, ys, e⟩
    · rw [h] at e; cases e
    · rw [h] at e; cases e
  · exact .inl h
  · exact .inr h
end Pm

set_option autoImplicit false
namespace Pm
open PySem PySem.Spec L2 
/-! ### shorter roads: continuations, pure comprehensions -/
theorem WpR.draw {r : Rd} {m : Int} {Q : D → List D → Prop} (h : WpR r (DrawQ m)) (k : ∀ v f', 0 ≤ v → v < m → Fd f' → Q (.int v) [f']) : WpR r Q := h.mono fun d os ⟨v, f', e, e2, h0, h1, hf⟩ => by subst e; subst e2; exact k v f' h0 h1 hf
theorem WpR.size {r : Rd} {Q : D → List D → Prop} (h : WpR r SizeQ) (k : ∀ v f', 1 ≤ v → v ≤ 1000000 → Fd f' → Q (.int v) [f']) : WpR r Q := h.mono fun d os ⟨v, f', e, e2, h0, h1, hf⟩ => by subst e; subst e2; exact k v f' h0 h1 hf
theorem WpR.dq {r : Rd} {d : D} {Q : D → List D → Prop} (h : WpR r (DQ d)) (k : Q d []) : WpR r Q := h.mono fun d' os ⟨e, e2⟩ => by subst e; subst e2; exact k
theorem WpR.bq {r : Rd} {b : Bool} {Q : D → List D → Prop} (h : WpR r (BlQ b)) (k : Q (.bl b) []) : WpR r Q := h.mono fun d' os ⟨e, e2⟩ => by subst e; subst e2; exact k
theorem wipe_len {w : Ev} : ∀ {vs : List Nat}, (wipeE w vs).length = w.length
  | [] => rfl
  | v :: vs => by rw [wipeE_cons, List.length_set, wipe_len]
theorem cmp_pure {α : Type} (g h : α → D) (xs : List α) (p : α → Bool) (W : α → Ev) {tg : Tgt} {c : PM Bool} {elt : PM D} {vs : List Nat} {w : Ev} {QL : List D → Ev → Prop} (hl : xs.length ≤ 100000)
    (ht : ∀ x ∈ xs, setT tg (g x) (wipeE w vs) = some (W x)) (hw : ∀ x ∈ xs, wipeE (W x) vs = wipeE w vs)
    (hc : ∀ x ∈ xs, Wp (c (W x)) fun b w3 => b = p x ∧ w3 = W x) (he : ∀ x ∈ xs, p x = true → Wp (elt (W x)) fun d w3 => d = h x ∧ w3 = W x)
    (hq : ∀ (w2 : Ev), wipeE w2 vs = wipeE w vs → w2.length = w.length → QL ((xs.filter p).map h) w2) : Wp (cmpL tg c elt vs (xs.map g) [] w) QL := by
  refine lz_cmp (fun i acc w2 => wipeE w2 vs = wipeE w vs ∧ w2.length = w.length ∧ acc = ((xs.take i).filter p).map h) ⟨rfl, rfl, rfl⟩ ?_ ?_
  · rintro acc w2 ⟨h1, h2, h3⟩
    rw [List.length_map, List.take_length] at h3
    rw [h3]; exact hq w2 h1 h2
  · rintro i d acc w2 hi ⟨h1, h2, h3⟩
    rw [List.getElem?_map] at hi
    obtain ⟨x, e1, e2⟩ := Option.map_eq_some_iff.mp hi
    have hx : x ∈ xs := List.mem_of_getElem? e1
    subst e2
    have il : i < xs.length := (List.getElem?_eq_some_iff.mp e1).1
    have hwl : (W x).length = w.length := by
      have := congrArg List.length (hw x hx)
      rw [wipe_len, wipe_len] at this; exact this
    rw [h1, ht x hx]
    refine ⟨_, rfl, ?_⟩
    refine Wp.mono (hc x hx) ?_
    rintro b w3 ⟨rfl, rfl⟩
    refine brQ_of (fun hp => ?_) fun hp => ?_
    · refine Wp.mono (he x hx hp) ?_
      rintro d w4 ⟨rfl, rfl⟩
      refine ⟨Nat.lt_of_lt_of_le (by rw [h3, List.length_map]; have := List.length_filter_le p (xs.take i); rw [List.length_take] at this; omega) big, hw x hx, hwl, ?_⟩
      rw [h3, List.take_add_one, e1]; simp [hp]
    · refine ⟨hw x hx, hwl, ?_⟩
      rw [h3, List.take_add_one, e1]; simp [hp]
/-- a comprehension without a test -/
theorem cmp_map {α : Type} (g h : α → D) (xs : List α) (W : α → Ev) {tg : Tgt} {elt : PM D} {vs : List Nat} {w : Ev} {QL : List D → Ev → Prop} (hl : xs.length ≤ 100000)
    (ht : ∀ x ∈ xs, setT tg (g x) (wipeE w vs) = some (W x)) (hw : ∀ x ∈ xs, wipeE (W x) vs = wipeE w vs)
    (he : ∀ x ∈ xs, Wp (elt (W x)) fun d w3 => d = h x ∧ w3 = W x)
    (hq : ∀ (w2 : Ev), wipeE w2 vs = wipeE w vs → w2.length = w.length → QL (xs.map h) w2) : Wp (cmpL tg tYesF elt vs (xs.map g) [] w) QL :=
  cmp_pure g h xs (fun _ => true) W hl ht hw (fun x m => by simp) (fun x m _ => he x m) fun w2 e el => by
    have : xs.filter (fun _ => true) = xs := List.filter_eq_self.mpr fun _ _ => rfl
    rw [this]; exact hq w2 e el
theorem enumD_map {α : Type} (g : α → D) (xs : List α) : enumD (xs.map g) = xs.zipIdx.map fun p => D.tup [.int (p.2 : Nat), g p.1] := by
  unfold enumD
  rw [List.zipIdx_map, List.map_map]; rfl
theorem enumD_rows (rows : List (List Int)) : enumD (rowsD rows) = rows.zipIdx.map fun p => D.tup [.int (p.2 : Nat), .tup (p.1.map D.int)] := enumD_map (fun r : List Int => D.tup (r.map D.int)) rows
/-- a loop that looks for the first item that fails -/
theorem lz_scan {tg : Tgt} {body : PM Fl} {items : List D} {w : Ev} {QS : Fl → Ev → Prop} (p : D → Bool) (J : Ev → Prop) (h0 : J w) (he : items.all p = true → ∀ w, J w → QS .nx w)
    (hs : ∀ d ∈ items, ∀ w, J w → ob (setT tg d w) fun w1 => Wp (body w1) (loopQ (fun w2 => p d = true ∧ J w2) (fun fl w2 => p d = false ∧ (items.all p = false → QS fl w2)))) : Wp (forL tg body items w) QS := by
  refine lz_for (fun i w => (items.take i).all p = true ∧ J w) ⟨rfl, h0⟩ ?_ ?_
  · rintro w ⟨h1, h2⟩
    rw [List.take_length] at h1
    exact he h1 w h2
  · rintro i d w hi ⟨h1, h2⟩
    have md : d ∈ items := List.mem_of_getElem? hi
    obtain ⟨w1, e1, h3⟩ := hs d md w h2
    refine ⟨w1, e1, h3.mono fun fl w2 h4 => ?_⟩
    have go : p d = true ∧ J w2 → (items.take (i + 1)).all p = true ∧ J w2 := fun ⟨a, b⟩ => ⟨by rw [List.take_add_one, hi, List.all_append, h1]; simp [a], b⟩
    have no : ∀ {fl : Fl}, p d = false ∧ (items.all p = false → QS fl w2) → QS fl w2 := fun ⟨a, b⟩ => b (List.all_eq_false.mpr ⟨d, md, by simp [a]⟩)
    cases fl with
    | nx => exact go h4
    | ct => exact go h4
    | bk => exact no h4
    | rt v => exact no h4
/-- data that own nothing are handed out as they are -/
theorem ice_pl {d : D} (p : pl d = true) {Q : D → Ev → Prop} {j : Nat} {w : Ev} : iceQ Q j w d ↔ Q d w := by
  cases d with
  | own xs => cases p
  | odc t ks vs => cases p
  | fn => cases p
  | tup xs => rw [iceQ_tup, show pls xs = true from p]; simp
  | _ => exact .rfl
theorem kQ_pl {d : D} (p : pl d = true) {Q : D → Ev → Prop} {j : Nat} {w : Ev} : kQ Q j w d ↔ Q d w := by unfold kQ; rw [if_pos p]
/-- as lz_scan, with a test that simp leaves alone -/
def scanB (items : List D) (p : D → Bool) : Bool := items.all p
theorem scanB_no {items : List D} {p : D → Bool} {d : D} (m : d ∈ items) (h : p d = false) : scanB items p = false := List.all_eq_false.mpr ⟨d, m, by simp [h]⟩
theorem lz_scan' {tg : Tgt} {body : PM Fl} {items : List D} {w : Ev} {QS : Fl → Ev → Prop} (p : D → Bool) (J : Ev → Prop) (h0 : J w) (he : scanB items p = true → ∀ w, J w → QS .nx w)
    (hs : ∀ d ∈ items, ∀ w, J w → ob (setT tg d w) fun w1 => Wp (body w1) (loopQ (fun w2 => p d = true ∧ J w2) (fun fl w2 => p d = false ∧ (scanB items p = false → QS fl w2)))) : Wp (forL tg body items w) QS := lz_scan p J h0 he hs
/-! equality of lists of ints -/
theorem py_lay : ∀ l : List Int, PyData.canLayAll0 (toPys (l.map .int)) = true
  | [] => rfl
  | i :: l => by
    show (PyData.canLay0 (PyData.int i) && PyData.canLayAll0 (toPys (l.map .int))) = true
    rw [py_lay l]; rfl
theorem py_depth : ∀ l : List Int, PyData.depthAll (toPys (l.map .int)) = 0
  | [] => rfl
  | i :: l => by
    show max (PyData.depth (PyData.int i)) (PyData.depthAll (toPys (l.map .int))) = 0
    rw [py_depth l]; rfl
theorem py_eqv : ∀ l m : List Int, PyData.eqvAll (toPys (l.map .int)) (toPys (m.map .int)) = decide (l = m)
  | [], [] => rfl
  | [], j :: m => by rw [decide_eq_false (by simp)]; rfl
  | i :: l, [] => by rw [decide_eq_false (by simp)]; rfl
  | i :: l, j :: m => by
    show (PyData.eqv (PyData.int i) (PyData.int j) && PyData.eqvAll (toPys (l.map .int)) (toPys (m.map .int))) = _
    rw [py_eqv l m]
    show ((i == j) && _) = _
    by_cases h : i = j
    · by_cases h2 : l = m
      · simp [h, h2]
      · simp [h2]
    · simp [h]
theorem shaped_tup (l : List Int) : SeqAt.shaped (toPy (.tup (l.map .int))) = true := by
  show (PyData.canLayAll0 (toPys (l.map .int)) && decide (PyData.depthAll (toPys (l.map .int)) + 1 ≤ 64)) = true
  rw [py_lay, py_depth]; rfl
theorem shaped_own (l : List Int) : SeqAt.shaped (toPy (.own (l.map .int))) = true := shaped_tup l
theorem shaped_lst (l : List Int) : SeqAt.shaped (toPy (.lst (l.map .int))) = true := shaped_tup l
theorem dEq_tup (l m : List Int) : dEq (.tup (l.map .int)) (.tup (m.map .int)) = some (.bl (decide (l = m))) := by
  have e : PyData.eqv (toPy (.tup (l.map .int))) (toPy (.tup (m.map .int))) = decide (l = m) := py_eqv l m
  unfold dEq
  rw [if_pos ⟨shaped_tup l, shaped_tup m⟩, e]
theorem dNe_tup (l m : List Int) : dNe (.tup (l.map .int)) (.tup (m.map .int)) = some (.bl (!decide (l = m))) := by
  have e : PyData.eqv (toPy (.tup (l.map .int))) (toPy (.tup (m.map .int))) = decide (l = m) := py_eqv l m
  unfold dNe
  rw [if_pos ⟨shaped_tup l, shaped_tup m⟩, e]
theorem dEq_own (l m : List Int) : dEq (.own (l.map .int)) (.own (m.map .int)) = some (.bl (decide (l = m))) := by
  have e : PyData.eqv (toPy (.own (l.map .int))) (toPy (.own (m.map .int))) = decide (l = m) := py_eqv l m
  unfold dEq
  rw [if_pos ⟨shaped_own l, shaped_own m⟩, e]
theorem dNe_own (l m : List Int) : dNe (.own (l.map .int)) (.own (m.map .int)) = some (.bl (!decide (l = m))) := by
  have e : PyData.eqv (toPy (.own (l.map .int))) (toPy (.own (m.map .int))) = decide (l = m) := py_eqv l m
  unfold dNe
  rw [if_pos ⟨shaped_own l, shaped_own m⟩, e]
theorem seqIx_last {l : List Int} {v : Int} (h : l.getLast? = some v) : seqIx (l.map D.int) (-1) = some (.int v) := by
  have hl : 0 < l.length := by cases l with
    | nil => cases h
    | cons a l => simp
  have e : ixN (l.map D.int).length (-1) = some (l.length - 1) := by
    rw [List.length_map]
    unfold ixN
    rw [if_neg (by omega)]
    first
      | (rw [if_pos (by omega)]; congr 1; omega)
      | (rw [if_neg (by omega)]; congr 1; omega)
  have : atI (l.map D.int) (-1) = some (.int v) := by
    unfold atI
    rw [e, Option.bind_some, List.getElem?_map]
    rw [List.getLast?_eq_getElem?] at h
    rw [h]; rfl
  unfold seqIx
  rw [this]; rfl
theorem zip_snoc {α β : Type} : ∀ {a : List α} {b : List β} {v : β} (h : b.length < a.length), a.zip (b ++ [v]) = a.zip b ++ [(a[b.length], v)]
  | [], b, v, h => absurd h (Nat.not_lt_zero _)
  | x :: a, [], v, h => by simp
  | x :: a, y :: b, v, h => by
    have h' : b.length < a.length := by simpa using h
    have ih := zip_snoc (v := v) h'
    simp [ih]
/-- a comprehension whose elements are drawn -/
theorem cmp_draw {α : Type} (g : α → D) (P : Nat → α → Prop) (S : D → Ev) {tg : Tgt} {elt : PM D} {vs : List Nat} {items : List D} {w : Ev} {QL : List D → Ev → Prop} {f : D} (hf : Fd f) (hw : wipeE w vs = S f) (hl : items.length ≤ 100000)
    (hs : ∀ i d f, items[i]? = some d → Fd f → ob (setT tg d (S f)) fun w1 => Wp (elt w1) fun e w3 => ∃ a f', e = g a ∧ P i a ∧ Fd f' ∧ wipeE w3 vs = S f')
    (hq : ∀ (l : List α) f' w2, l.length = items.length → (∀ i (h : i < l.length), P i l[i]) → Fd f' → wipeE w2 vs = S f' → w2.length = (S f').length → QL (l.map g) w2) : Wp (cmpL tg tYesF elt vs items [] w) QL := by
  refine lz_cmp (fun i acc w2 => ∃ (l : List α) (f' : D), acc = l.map g ∧ l.length = i ∧ (∀ k (h : k < l.length), P k l[k]) ∧ Fd f' ∧ wipeE w2 vs = S f') ⟨[], f, rfl, rfl, (fun k h => absurd h (Nat.not_lt_zero _)), hf, hw⟩ ?_ ?_
  · rintro acc w2 ⟨l, f', rfl, h1, h2, h3, h4⟩
    exact hq l f' w2 h1 h2 h3 h4 (by have := congrArg List.length h4; rw [wipe_len] at this; exact this)
  · rintro i d acc w2 hi ⟨l, f', rfl, h1, h2, h3, h4⟩
    rw [h4]
    obtain ⟨w1, e1, h5⟩ := hs i d f' hi h3
    refine ⟨w1, e1, ?_⟩
    simp only [wp_Yes, brQ_t]
    refine h5.mono ?_
    rintro e w3 ⟨a, f2, rfl, hP, hf2, hw3⟩
    have il : i < items.length := (List.getElem?_eq_some_iff.mp hi).1
    refine ⟨Nat.lt_of_lt_of_le (by rw [List.length_map]; omega) big, l ++ [a], f2, by simp, by simp [h1], fun k hk => ?_, hf2, hw3⟩
    by_cases c : k < l.length
    · rw [List.getElem_append_left c]; exact h2 k c
    · have : k = l.length := by rw [List.length_append] at hk; simp at hk; omega
      subst this
      rw [List.getElem_append_right (by omega)]
      simp [h1, hP]
/-- what holds between two statements, kept whole -/
def Mid (M : Ev → Prop) (w : Ev) : Prop := M w
theorem Mid.mk {M : Ev → Prop} {w : Ev} (h : M w) : Mid M w := h
theorem wp_to {f g : PM Fl} {w : Ev} {QS : Fl → Ev → Prop} (M : Ev → Prop) (h1 : Wp (f w) fun fl w => fl = .nx ∧ Mid M w) (h2 : ∀ w, M w → Wp (g w) QS) : Wp (sSeq f g w) QS := wp_mid M h1 h2
theorem lz_forM {tg : Tgt} {body : PM Fl} {items : List D} {w : Ev} {QS : Fl → Ev → Prop} (M : Nat → Ev → Prop) (h0 : M 0 w) (he : ∀ w, M items.length w → QS .nx w)
    (hs : ∀ i d w, items[i]? = some d → M i w → ob (setT tg d w) fun w1 => Wp (body w1) (loopQ (Mid (M (i + 1))) QS)) : Wp (forL tg body items w) QS := lz_for M h0 he hs
end Pm

set_option autoImplicit false
namespace Pm
open PySem PySem.Spec L2
/-! ### mirrors that may end by an exception -/
def Wx {α : Type} (r : Rs α) (Q : α → Ev → Prop) (E : Str → List (Str × D) → Ev → Prop) : Prop := match r with
  | .ok a w => Q a w
  | .ex c fs w => E c fs w
  | .bad => False
def WxR (r : Rd) (Q : D → List D → Prop) (E : Str → List (Str × D) → List D → Prop) : Prop := match r with
  | .ok d os => Q d os
  | .ex c fs os => E c fs os
  | .bad => False
section
variable {α β : Type} {w : Ev} {Q : D → Ev → Prop} {QS : Fl → Ev → Prop} {E : Str → List (Str × D) → Ev → Prop}
theorem Wx.of {r : Rs α} {Q : α → Ev → Prop} (h : Wp r Q) : Wx r Q E := by
  obtain ⟨a, w, e, q⟩ := h
  rw [e]; exact q
theorem WxR.of {r : Rd} {Q : D → List D → Prop} {E : Str → List (Str × D) → List D → Prop} (h : WpR r Q) : WxR r Q E := by
  obtain ⟨a, w, e, q⟩ := h
  rw [e]; exact q
theorem WxR.wp {r : Rd} {Q : D → List D → Prop} (h : WxR r Q fun _ _ _ => False) : WpR r Q := by
  cases r with
  | ok d os => exact ⟨d, os, rfl, h⟩
  | ex c fs os => exact h.elim
  | bad => exact h.elim
theorem Wx.mono {r : Rs α} {Q Q' : α → Ev → Prop} {E' : Str → List (Str × D) → Ev → Prop} (h : Wx r Q E) (i : ∀ a w, Q a w → Q' a w) (i2 : ∀ c fs w, E c fs w → E' c fs w) : Wx r Q' E' := by
  cases r with
  | ok a w => exact i a w h
  | ex c fs w => exact i2 c fs w h
  | bad => exact h
theorem WxR.mono {r : Rd} {Q Q' : D → List D → Prop} {E E' : Str → List (Str × D) → List D → Prop} (h : WxR r Q E) (i : ∀ a w, Q a w → Q' a w) (i2 : ∀ c fs w, E c fs w → E' c fs w) : WxR r Q' E' := by
  cases r with
  | ok a w => exact i a w h
  | ex c fs w => exact i2 c fs w h
  | bad => exact h
theorem wx_bind {r : Rs α} {k : α → Ev → Rs β} {Q : β → Ev → Prop} (h : Wx r (fun a w => Wx (k a w) Q E) E) : Wx (r.bind k) Q E := by
  cases r with
  | ok a w => exact h
  | ex c fs w => exact h
  | bad => exact h
def seqX (g : PM Fl) (Q : Fl → Ev → Prop) (E : Str → List (Str × D) → Ev → Prop) : Fl → Ev → Prop
  | .nx, w => Wx (g w) Q E
  | fl, w => Q fl w
theorem wx_seq {f g : PM Fl} (h : Wx (f w) (seqX g QS E) E) : Wx (sSeq f g w) QS E := by
  unfold sSeq
  refine wx_bind (h.mono (fun fl w h => ?_) fun _ _ _ h => h)
  cases fl <;> exact h
/-- first a statement that lets nothing out -/
theorem wx_to {f g : PM Fl} (M : Ev → Prop) (h1 : Wp (f w) fun fl w => fl = .nx ∧ Mid M w) (h2 : ∀ w, M w → Wx (g w) QS E) : Wx (sSeq f g w) QS E :=
  wx_seq (Wx.of (h1.mono fun fl w ⟨e, m⟩ => by subst e; exact h2 w m))
theorem wx_if {t : PM Bool} {f g : PM Fl} (h : Wp (t w) fun b w1 => (b = true → Wx (f w1) QS E) ∧ (b = false → Wx (g w1) QS E)) : Wx (sIf t f g w) QS E := by
  obtain ⟨b, w1, e, h1, h2⟩ := h
  unfold sIf
  rw [e, Rs.bind_ok]
  cases b
  · exact h2 rfl
  · exact h1 rfl
theorem wx_raise {c : Str} {ns : List Str} {f : PM (List D)} (h : Wp (f w) fun ds w1 => ds.length = ns.length ∧ pls ds = true ∧ E c (ns.zip ds) w1) : Wx (sRaise c ns f w) QS E := by
  obtain ⟨ds, w1, e, h1, h2, h3⟩ := h
  unfold sRaise
  rw [e, Rs.bind_ok, if_pos ⟨h1, h2⟩]
  exact h3
theorem wx_expr {f : PM D} (h : Wx (f w) (fun _ w1 => QS .nx w1) E) : Wx (sExpr f w) QS E := by
  unfold sExpr
  exact wx_bind h
theorem wx_ret {f : PM D} (h : Wx (f w) (fun d w1 => QS (.rt d) w1) E) : Wx (sRet f w) QS E := by
  unfold sRet
  exact wx_bind h
theorem wx_set {i : Nat} {f : PM D} (h : Wx (f w) (fun d w1 => i < w1.length ∧ QS .nx (w1.set i (some d))) E) : Wx (sSet i f w) QS E := by
  unfold sSet
  refine wx_bind (h.mono (fun d w1 h => ?_) fun _ _ _ h => h)
  have : setE w1 i d = some (w1.set i (some d)) := if_pos h.1
  rw [this]; exact h.2
theorem wx_cax {np : Nat} {js : List (Option Nat)} {m : List D → Rd} {f : PM (List D)} (h : Wp (f w) fun ds w1 => ds.length = np ∧ WxR (m ds) (fun d os => Q d (putB js os w1)) fun c fs os => E c fs (putB js os w1)) : Wx (xCax np js m f w) Q E := by
  obtain ⟨ds, w1, e, h1, h2⟩ := h
  unfold xCax
  rw [e, Rs.bind_ok, if_pos h1]
  revert h2
  cases m ds with
  | ok d os => exact id
  | ex c fs os => exact id
  | bad => exact id
theorem wp_cax {np : Nat} {js : List (Option Nat)} {m : List D → Rd} {f : PM (List D)} : Wp (xCax np js m f w) Q ↔ Wp (f w) fun ds w1 => ds.length = np ∧ WpR (m ds) fun d os => Q d (putB js os w1) := by
  unfold xCax
  rw [wp_bind]
  refine ⟨fun h => h.mono fun ds w1 h => ?_, fun h => h.mono fun ds w1 h => ?_⟩
  · by_cases c : ds.length = np
    · rw [if_pos c] at h
      refine ⟨c, ?_⟩
      cases e : m ds with
      | ok d os => rw [e] at h; exact ⟨d, os, rfl, by simpa using h⟩
      | ex _ _ _ => rw [e] at h; obtain ⟨_, _, z, _⟩ := h; cases z
      | bad => rw [e] at h; simp at h
    · rw [if_neg c] at h; simp at h
  · rw [if_pos h.1]
    obtain ⟨d, os, e, q⟩ := h.2
    rw [e]; simpa using q
@[simp] theorem lz_cax {np : Nat} {js : List (Option Nat)} {m : List D → Rd} {f : PM (List D)} : Wp (xCax np js m f w) Q ↔ Wp (f w) fun ds w1 => ds.length = np ∧ WpR (m ds) fun d os => Q d (putB js os w1) := wp_cax
/-- a loop whose body may end by an exception -/
def loopX (J : Ev → Prop) (Q : Fl → Ev → Prop) : Fl → Ev → Prop
  | .nx, w => J w
  | .ct, w => J w
  | .bk, w => Q .nx w
  | .rt d, w => Q (.rt d) w
theorem wx_forL {tg : Tgt} {body : PM Fl} : ∀ {items : List D} {w : Ev} (I : Nat → Ev → Prop), I 0 w → (∀ w, I items.length w → QS .nx w) →
    (∀ i d w, items[i]? = some d → I i w → ob (setT tg d w) fun w1 => Wx (body w1) (loopX (I (i + 1)) QS) E) → Wx (forL tg body items w) QS E
  | [], w, I, h0, he, hs => he w h0
  | d :: ds, w, I, h0, he, hs => by
    obtain ⟨w1, e1, h1⟩ := hs 0 d w rfl h0
    unfold forL
    rw [e1]
    refine wx_bind (h1.mono (fun fl w2 h => ?_) fun _ _ _ h => h)
    cases fl with
    | nx => exact wx_forL (fun i => I (i + 1)) h he fun i d w e h => hs (i + 1) d w (by simpa using e) h
    | ct => exact wx_forL (fun i => I (i + 1)) h he fun i d w e h => hs (i + 1) d w (by simpa using e) h
    | bk => exact h
    | rt v => exact h
theorem wx_for {ks : List (Option Nat)} {it : PM (List D × List D)} {tg : Tgt} {body : PM Fl} (h : Wp (it w) fun p w1 => Wx (forL tg body p.1 w1) (fun fl w2 => QS fl (putB ks p.2 w2)) fun c fs w2 => E c fs (putB ks p.2 w2)) : Wx (sFor ks it tg body w) QS E := by
  obtain ⟨p, w1, e, h⟩ := h
  unfold sFor
  rw [e, Rs.bind_ok]
  revert h
  cases forL tg body p.1 w1 with
  | ok fl w2 => exact id
  | ex c fs w2 => exact id
  | bad => exact id
theorem wxr_mk {N np : Nat} {io : List Nat} {body : PM Fl} {ds : List D} {QR : D → List D → Prop} {ER : Str → List (Str × D) → List D → Prop} (h1 : ds.length = np) (h : Wx (body (startE N ds)) (endQ io QR) fun c fs w => ob (outsOf io w) fun os => ER c fs os) : WxR (mkDef N np io body ds) QR ER := by
  unfold mkDef
  rw [if_pos h1]
  revert h
  cases body (startE N ds) with
  | bad => exact id
  | ex c fs w => rintro ⟨os, e, q⟩; show WxR (endX c fs (outsOf io w)) QR ER; rw [e]; exact q
  | ok fl w =>
    cases fl with
    | rt d => rintro ⟨os, e, q⟩; show WxR (endD d (outsOf io w)) QR ER; rw [e]; exact q
    | nx => rintro ⟨os, e, q⟩; show WxR (endD .non (outsOf io w)) QR ER; rw [e]; exact q
    | bk => exact fun z => z.elim
    | ct => exact fun z => z.elim
theorem wp_try {f : PM Fl} {hs : List Hd} (h : Wx (f w) QS fun c fs w1 => Wp (hndl hs c fs w1) QS) : Wp (sTry f hs w) QS := by
  unfold sTry
  revert h
  cases e : f w with
  | ok fl w1 => exact fun h => ⟨fl, w1, rfl, h⟩
  | ex c fs w1 => exact id
  | bad => exact fun z => z.elim
theorem hndl_yes {h : Hd} {r : List Hd} {c : Str} {fs : List (Str × D)} (e : h.tst c = some true) : hndl (h :: r) c fs w = hnd1 h c fs w := by
  show (match h.tst c with
    | some true => hnd1 h c fs w
    | some false => hndl r c fs w
    | none => Rs.bad) = _
  rw [e]
theorem hndl_no {h : Hd} {r : List Hd} {c : Str} {fs : List (Str × D)} (e : h.tst c = some false) : hndl (h :: r) c fs w = hndl r c fs w := by
  show (match h.tst c with
    | some true => hnd1 h c fs w
    | some false => hndl r c fs w
    | none => Rs.bad) = _
  rw [e]
theorem wp_hnd {h : Hd} {i : Nat} {c : Str} {fs : List (Str × D)} (e : h.oi = some i) (hi : i < w.length) (q : Wp (h.g (w.set i (some (.xo c (fs.map (·.1)) (fs.map (·.2)))))) fun fl w2 => QS fl (w2.set i none)) : Wp (hnd1 h c fs w) QS := by
  unfold hnd1
  rw [e]
  show Wp (if i < w.length then offR i (h.g (w.set i (some (.xo c (fs.map (·.1)) (fs.map (·.2)))))) else .bad) QS
  rw [if_pos hi]
  obtain ⟨fl, w2, e2, q2⟩ := q
  rw [e2]
  exact ⟨fl, _, rfl, q2⟩
theorem wp_hnd0 {h : Hd} {c : Str} {fs : List (Str × D)} (e : h.oi = none) (q : Wp (h.g w) QS) : Wp (hnd1 h c fs w) QS := by
  unfold hnd1
  rw [e]
  obtain ⟨fl, w2, e2, q2⟩ := q
  show Wp (noEx (h.g w)) QS
  rw [e2]
  exact ⟨fl, _, rfl, q2⟩
@[simp] theorem dXf_xo {cs : List Str} {f c : Str} {ns : List Str} {vs : List D} : dXf cs f (.xo c ns vs) = if cs.contains c = true then (fldOf ns vs f).bind fun d => if pl d = true then some d else none else none := rfl
@[simp] theorem dIsx_xo {tab : List (Str × Bool)} {c : Str} {ns : List Str} {vs : List D} : dIsx tab (.xo c ns vs) = (tab.lookup c).map .bl := rfl
/-! dicts -/
@[simp] theorem lz_NewD {t : Bool} : Wp (xNewD t w) Q ↔ Q (.odc t [] []) w := by unfold xNewD; simp
def odcD : D → Option (Bool × List D × List D)
  | .odc t ks vs => some (t, ks, vs)
  | _ => none
@[simp] theorem odcD_odc {t : Bool} {ks vs : List D} : odcD (.odc t ks vs) = some (t, ks, vs) := rfl
@[simp] theorem lz_SetD {j : Nat} {f g : PM D} : Wp (sSetD j f g w) QS ↔ Wp (f w) fun d w1 => ob (slot w1 j) fun _ => Wp (g w1) fun i w2 => ob (slot w2 j) fun x => ob (odcD x) fun p => (isK p.1 i = true ∧ pl d = true ∧ p.2.1.length < sizeLine ∧ pls p.2.2 = true) ∧ QS .nx (w2.set j (some (.odc p.1 (pK p.2.1 i) (pV p.2.1 p.2.2 i d)))) := by
  unfold sSetD
  rw [wp_bind]
  refine ⟨fun h => h.mono fun d w1 h => ?_, fun h => h.mono fun d w1 h => ?_⟩
  · cases c : slot w1 j with
    | none => rw [c] at h; simp at h
    | some x0 =>
      rw [c] at h
      refine ⟨x0, rfl, ?_⟩
      replace h := wp_bind.mp h
      refine h.mono fun i w2 h => ?_
      cases c2 : slot w2 j with
      | none => rw [c2] at h; simp at h
      | some x =>
        rw [c2] at h
        cases x with
        | odc t ks vs =>
          replace h : Wp (if isK t i = true ∧ pl d = true ∧ ks.length < sizeLine ∧ pls vs = true then Rs.ok Fl.nx (w2.set j (some (.odc t (pK ks i) (pV ks vs i d)))) else .bad) QS := h
          by_cases cc : isK t i = true ∧ pl d = true ∧ ks.length < sizeLine ∧ pls vs = true
          · rw [if_pos cc] at h
            exact ⟨_, rfl, _, rfl, cc, by simpa using h⟩
          · rw [if_neg cc] at h; simp at h
        | _ => simp at h
  · obtain ⟨x0, c, h⟩ := h
    rw [c]
    refine wp_bind.mpr (h.mono fun i w2 h => ?_)
    obtain ⟨x, c2, p, e, cc, q⟩ := h
    rw [c2]
    cases x with
    | odc t ks vs =>
      cases e
      show Wp (if isK t i = true ∧ pl d = true ∧ ks.length < sizeLine ∧ pls vs = true then Rs.ok Fl.nx (w2.set j (some (.odc t (pK ks i) (pV ks vs i d)))) else .bad) QS
      rw [if_pos cc]
      simpa using q
    | _ => cases e
theorem lz_Dc {t : Bool} {ks : List (Option Nat)} {it : PM (List D × List D)} {tg : Tgt} {c : PM Bool} {fk fv : PM D} {vs : List Nat} : Wp (xDc t ks it tg c fk fv vs w) Q ↔ Wp (it w) fun p w1 => Wp (cmpD t tg c fk fv vs p.1 [] [] w1) fun acc w2 => Q (.odc t acc.1 acc.2) (putB ks p.2 (wipeE w2 vs)) := by
  unfold xDc
  simp only [wp_bind, wp_bindN, wp_ok]
theorem lz_cmpD {t : Bool} {tg : Tgt} {c : PM Bool} {fk fv : PM D} {vs : List Nat} {QP : List D × List D → Ev → Prop} : ∀ {items : List D} {ak av : List D} {w : Ev} (I : Nat → List D → List D → Ev → Prop), I 0 ak av w → (∀ ak av w, I items.length ak av w → QP (ak, av) w) →
    (∀ i d ak av w, items[i]? = some d → I i ak av w → ob (setT tg d (wipeE w vs)) fun w1 => Wp (c w1) fun b w2 => brQ b (Wp (fk w2) fun k w3 => Wp (fv w3) fun v w4 => (isK t k = true ∧ pl v = true ∧ ak.length < sizeLine ∧ pls av = true) ∧ I (i + 1) (pK ak k) (pV ak av k v) w4) (I (i + 1) ak av w2)) → Wp (cmpD t tg c fk fv vs items ak av w) QP
  | [], ak, av, w, I, h0, he, hs => by unfold cmpD; simpa using he ak av w h0
  | d :: ds, ak, av, w, I, h0, he, hs => by
    obtain ⟨w1, e1, h1⟩ := hs 0 d ak av w rfl h0
    unfold cmpD
    rw [e1]
    show Wp ((c w1).bindN _) QP
    rw [wp_bindN]
    refine h1.mono fun b w2 h => ?_
    cases b with
    | false =>
      rw [if_neg Bool.false_ne_true]
      exact lz_cmpD (fun i => I (i + 1)) (by simpa using h) he fun i d ak av w e h => hs (i + 1) d ak av w (by simpa using e) h
    | true =>
      rw [if_pos rfl, wp_bindN]
      replace h : Wp (fk w2) fun k w3 => Wp (fv w3) fun v w4 => (isK t k = true ∧ pl v = true ∧ ak.length < sizeLine ∧ pls av = true) ∧ I (0 + 1) (pK ak k) (pV ak av k v) w4 := by simpa using h
      refine h.mono fun k w3 h => ?_
      rw [wp_bindN]
      refine h.mono fun v w4 h => ?_
      rw [if_pos h.1]
      exact lz_cmpD (fun i => I (i + 1)) h.2 he fun i d ak av w e h => hs (i + 1) d ak av w (by simpa using e) h
/-! the operations' values -/
@[simp] theorem dMulA_int {i j : Int} : dMulA (.int i) (.int j) = if mulC i j = true then some (.int (i * j)) else none := rfl
@[simp] theorem dMulA_own {xs : List D} {n : Int} : dMulA (.own xs) (.int n) = if repC xs n = true then some (.own (List.replicate n.toNat xs).flatten) else none := rfl
theorem dEq_str {a b : Str} (h : (a.cps.all (· < 0x110000) && b.cps.all (· < 0x110000)) = true) : dEq (.str a) (.str b) = some (.bl (a == b)) := by
  rw [Bool.and_eq_true] at h
  have s1 : ∀ x : Str, x.cps.all (· < 0x110000) = true → SeqAt.shaped (toPy (.str x)) = true := fun x hx => by
    show (x.cps.all (· < 0x110000) && decide (0 ≤ 64)) = true
    rw [hx]; rfl
  unfold dEq
  rw [if_pos ⟨s1 a h.1, s1 b h.2⟩]
  rfl
@[simp] theorem dIxA_tup {xs : List D} {i : Int} : dIxA (.tup xs) (.int i) = seqIx xs i := rfl
@[simp] theorem dIxA_lst {xs : List D} {i : Int} : dIxA (.lst xs) (.int i) = seqIx xs i := rfl
@[simp] theorem dIxA_own {xs : List D} {i : Int} : dIxA (.own xs) (.int i) = seqIx xs i := rfl
@[simp] theorem dIxA_odc {t : Bool} {ks vs : List D} {y : D} : dIxA (.odc t ks vs) y = if isK t y = true then (vD ks vs y).bind fun d => if pl d = true then some d else none else none := rfl
@[simp] theorem dIxA_fdc {t : Bool} {ks vs : List D} {y : D} : dIxA (.fdc t ks vs) y = if isK t y = true then (vD ks vs y).bind fun d => if pl d = true then some d else none else none := rfl
@[simp] theorem dTT_int {g : List Int → List Int → Bool} {o : D → D → Option D} {i j : Int} : dTT g o (.int i) (.int j) = o (.int i) (.int j) := rfl
theorem dTT_tup {g : List Int → List Int → Bool} {o : D → D → Option D} {l m : List Int} : dTT g o (.tup (l.map .int)) (.tup (m.map .int)) = some (.bl (g l m)) := by
  show (match intsD (l.map D.int), intsD (m.map D.int) with
    | some ns, some ms => some (D.bl (g ns ms))
    | _, _ => none) = _
  rw [intsD_ints, intsD_ints]
@[simp] theorem dInA_odc {neg : Bool} {x : D} {t : Bool} {ks vs : List D} : dInA neg x (.odc t ks vs) = if isK t x = true then some (.bl (if neg then !inK x ks else inK x ks)) else none := rfl
@[simp] theorem dInA_fdc {neg : Bool} {x : D} {t : Bool} {ks vs : List D} : dInA neg x (.fdc t ks vs) = if isK t x = true then some (.bl (if neg then !inK x ks else inK x ks)) else none := rfl
theorem dInA_of {neg : Bool} {x y z : D} (h : dIn neg x y = some z) (hd : dctD y = none) : dInA neg x y = some z := by
  unfold dInA; rw [hd, h]
theorem dSortU_own {ns : List Int} : dSortU (.own (ns.map .int)) = some (.own ((sortI ns).map .int)) := by
  show dSortA _ = _
  unfold dSortA; rw [dSorted_own]
theorem dSortU_lst {ns : List Int} : dSortU (.lst (ns.map .int)) = some (.own ((sortI ns).map .int)) := by
  show dSortA _ = _
  unfold dSortA; rw [dSorted_lst]
theorem dSortU_tup {ns : List Int} : dSortU (.tup (ns.map .int)) = some (.own ((sortI ns).map .int)) := by
  show dSortA _ = _
  unfold dSortA; rw [dSorted_tup]
@[simp] theorem dOr_int {i j : Int} : dOr (.int i) (.int j) = some (.int (Builtin.bitOr i j)) := rfl
@[simp] theorem dRev_tup {xs : List D} : dRev (.tup xs) = if pls xs = true then some (.tup xs.reverse) else none := rfl
@[simp] theorem lstD_own {xs : List D} : lstD (.own xs) = some xs := rfl
@[simp] theorem lstD_lst {xs : List D} : lstD (.lst xs) = some xs := rfl
@[simp] theorem lz_Me {op : D → D → Option D} {j : Nat} {f : PM D} : Wp (xMe op j f w) Q ↔ ob (slot w j) fun x0 => ob (lstD x0) fun _ => Wp (f w) fun d w1 => ob (slot w1 j) fun x => ob (op x d) fun z => Q z w1 := by
  unfold xMe
  cases e : slot w j with
  | none => simp [ob]
  | some x0 =>
    cases e1 : lstD x0 with
    | none => simp [ob, e1]
    | some xs =>
      simp only [Option.bind_some, e1, wp_bind, ob, Option.some.injEq, exists_eq_left', true_and]
      refine ⟨fun h => h.mono fun d w1 h => ?_, fun h => h.mono fun d w1 h => ?_⟩
      · cases e2 : (slot w1 j).bind fun x => op x d with
        | none => rw [e2] at h; simp at h
        | some z =>
          rw [e2] at h
          obtain ⟨x, e3, e4⟩ := Option.bind_eq_some_iff.mp e2
          exact ⟨x, e3, z, e4, by simpa using h⟩
      · obtain ⟨x, e3, z, e4, h⟩ := h
        rw [e3, Option.bind_some, e4]; simpa using h
@[simp] theorem lz_Rem {j : Nat} {f : PM D} : Wp (xRem j f w) Q ↔ ob (slot w j) fun x0 => ob (ownD x0) fun _ => Wp (f w) fun d w1 => ob (slot w1 j) fun x => ob (ownD x) fun xs => ob (intD d) fun k => ob (intsD xs) fun ns => k ∈ ns ∧ Q .non (w1.set j (some (.own ((ns.erase k).map .int)))) := by
  unfold xRem
  cases e : slot w j with
  | none => simp [ob]
  | some x0 =>
    cases e1 : ownD x0 with
    | none => simp [ob, e1]
    | some xs =>
      simp only [Option.bind_some, e1, wp_bind, ob, Option.some.injEq, exists_eq_left', true_and]
      refine ⟨fun h => h.mono fun d w1 h => ?_, fun h => h.mono fun d w1 h => ?_⟩
      · cases e2 : slot w1 j with
        | none => rw [e2] at h; simp at h
        | some x =>
          rw [e2, Option.bind_some] at h
          cases e3 : ownD x with
          | none => rw [e3] at h; simp at h
          | some ys =>
            rw [e3] at h
            cases d with
            | int k =>
              dsimp only at h
              cases e4 : intsD ys with
              | none => rw [e4] at h; simp at h
              | some ns =>
                rw [e4] at h
                dsimp only at h
                by_cases c : k ∈ ns
                · rw [if_pos c] at h
                  exact ⟨x, rfl, ys, e3, k, rfl, ns, e4, c, by simpa using h⟩
                · rw [if_neg c] at h; simp at h
            | _ => simp at h
      · obtain ⟨x, e2, ys, e3, k, e4, ns, e5, c, h⟩ := h
        rw [e2, Option.bind_some, e3]
        have := intD_some e4
        subst this
        dsimp only
        rw [e5]
        dsimp only
        rw [if_pos c]; simpa using h
end
end Pm

set_option autoImplicit false
namespace Pm
open PySem PySem.Spec L2
section
variable {w : Ev}
@[simp] theorem lz_Jn {f g : PM D} {Q : D → Ev → Prop} : Wp (xJn f g w) Q ↔ Wp (f w) fun x w1 => ∃ a : Str, x = .str a ∧ Wp (g w1) fun y w2 => ob (dJoin (.str a) y) fun z => Q z w2 := by
  unfold xJn
  rw [wp_bind]
  refine ⟨fun h => h.mono fun x w1 h => ?_, fun h => h.mono fun x w1 h => ?_⟩
  · cases x with
    | str a =>
      refine ⟨a, rfl, ?_⟩
      replace h : Wp ((g w1).bind fun y w2 => back (dJoin (.str a) y) w2) Q := h
      rw [wp_bind] at h
      refine h.mono fun y w2 h => ?_
      cases e : dJoin (.str a) y with
      | none => rw [e] at h; simp [back] at h
      | some z => rw [e] at h; simp [back] at h; exact ⟨z, rfl, h⟩
    | _ => simp at h
  · obtain ⟨a, rfl, h⟩ := h
    show Wp ((g w1).bind fun y w2 => back (dJoin (.str a) y) w2) Q
    rw [wp_bind]
    refine h.mono fun y w2 h => ?_
    obtain ⟨z, e, q⟩ := h
    rw [e]
    simpa [back] using q
end
end Pm

set_option autoImplicit false
namespace Pm
open PySem PySem.Spec L2
@[simp] theorem nfs_nil : nfs [] = true := by unfold nfs; rfl
@[simp] theorem nfs_cons {d : D} {ds : List D} : nfs (d :: ds) = (nf d && nfs ds) := by conv => lhs; unfold nfs
@[simp] theorem nf_int {i : Int} : nf (.int i) = true := by unfold nf; rfl
@[simp] theorem nf_bl {b : Bool} : nf (.bl b) = true := by unfold nf; rfl
@[simp] theorem nf_non : nf .non = true := by unfold nf; rfl
@[simp] theorem nf_str {s : Str} : nf (.str s) = true := by unfold nf; rfl
@[simp] theorem nf_tup {xs : List D} : nf (.tup xs) = nfs xs := by conv => lhs; unfold nf
@[simp] theorem nf_lst {xs : List D} : nf (.lst xs) = nfs xs := by conv => lhs; unfold nf
@[simp] theorem nf_own {xs : List D} : nf (.own xs) = nfs xs := by conv => lhs; unfold nf
@[simp] theorem nf_odc {t : Bool} {ks vs : List D} : nf (.odc t ks vs) = nfs vs := by conv => lhs; unfold nf
@[simp] theorem nf_fdc {t : Bool} {ks vs : List D} : nf (.fdc t ks vs) = nfs vs := by conv => lhs; unfold nf
theorem nfs_all {α : Type} {g : α → D} (h : ∀ a, nf (g a) = true) : ∀ l : List α, nfs (l.map g) = true
  | [] => nfs_nil
  | a :: l => by rw [List.map_cons, nfs_cons, h a, nfs_all h l]; rfl
@[simp] theorem nfs_ints {l : List Int} : nfs (l.map D.int) = true := nfs_all (fun _ => nf_int) l
@[simp] theorem nfs_rowsD {l : List (List Int)} : nfs (rowsD l) = true := nfs_all (fun r => by rw [nf_tup]; exact nfs_ints) l
@[simp] theorem caps_nil : caps [] = true := by unfold caps; rfl
@[simp] theorem caps_cons {d : D} {ds : List D} : caps (d :: ds) = (cap d && caps ds) := by conv => lhs; unfold caps
@[simp] theorem cap_int {i : Int} : cap (.int i) = true := by unfold cap; rfl
@[simp] theorem cap_bl {b : Bool} : cap (.bl b) = true := by unfold cap; rfl
@[simp] theorem cap_non : cap .non = true := by unfold cap; rfl
@[simp] theorem cap_str {s : Str} : cap (.str s) = true := by unfold cap; rfl
@[simp] theorem cap_tup {xs : List D} : cap (.tup xs) = caps xs := by conv => lhs; unfold cap
@[simp] theorem cap_lst {xs : List D} : cap (.lst xs) = caps xs := by conv => lhs; unfold cap
theorem caps_all {α : Type} {g : α → D} (h : ∀ a, cap (g a) = true) : ∀ l : List α, caps (l.map g) = true
  | [] => caps_nil
  | a :: l => by rw [List.map_cons, caps_cons, h a, caps_all h l]; rfl
@[simp] theorem caps_ints {l : List Int} : caps (l.map D.int) = true := caps_all (fun _ => cap_int) l
@[simp] theorem caps_rowsD {l : List (List Int)} : caps (rowsD l) = true := caps_all (fun r => by rw [cap_tup]; exact caps_ints) l
@[simp] theorem nfw_nil : nfw [] = true := rfl
@[simp] theorem nfw_none {w : Ev} : nfw (none :: w) = nfw w := by unfold nfw; rw [List.all_cons]; rfl
@[simp] theorem nfw_some {d : D} {w : Ev} : nfw (some d :: w) = (nf d && nfw w) := by unfold nfw; rw [List.all_cons]
@[simp] theorem lz_Act {i : Nat} {G : D → Option D} {f : PM D} {w : Ev} {Q : D → Ev → Prop} : Wp (xAct i G f w) Q ↔ slot w i = some .fn ∧ Wp (f w) fun d w1 => slot w1 i = some .fn ∧ ob (G d) fun z => Q z w1 := by
  have key : ∀ o : Option D, o = some .fn ∨ o ≠ some .fn := fun o => Classical.em _
  rcases key (slot w i) with h | h
  · have e : xAct i G f w = (f w).bind fun d w1 => match slot w1 i with
        | some .fn => (match G d with
          | some z => .ok z w1
          | none => .bad)
        | _ => .bad := by unfold xAct; rw [h]; try rfl
    rw [e]
    refine Iff.trans ?_ (and_iff_right h).symm
    cases ef : f w with
    | bad => exact ⟨fun ⟨_, _, z, _⟩ => (by cases z), fun ⟨_, _, z, _⟩ => (by cases z)⟩
    | ex c fs w' => exact ⟨fun ⟨_, _, z, _⟩ => (by cases z), fun ⟨_, _, z, _⟩ => (by cases z)⟩
    | ok d w1 =>
      dsimp only [Rs.bind]
      have e3 : Wp (Rs.ok d w1) (fun d w1 => slot w1 i = some .fn ∧ ob (G d) fun z => Q z w1) ↔ (slot w1 i = some .fn ∧ ob (G d) fun z => Q z w1) := ⟨fun ⟨_, _, z, q⟩ => (by cases z; exact q), fun q => ⟨_, _, rfl, q⟩⟩
      rw [e3]
      rcases key (slot w1 i) with h1 | h1
      · rw [h1]
        dsimp only
        refine Iff.trans ?_ (and_iff_right rfl).symm
        cases eg : G d with
        | none => exact ⟨fun ⟨_, _, z, _⟩ => (by cases z), fun ⟨_, e, _⟩ => (by cases e)⟩
        | some z => exact ⟨fun ⟨_, _, e, q⟩ => (by cases e; exact ⟨_, rfl, q⟩), fun ⟨_, e, q⟩ => (by cases e; exact ⟨_, _, rfl, q⟩)⟩
      · refine ⟨fun ⟨_, _, z, _⟩ => ?_, fun q => absurd q.1 h1⟩
        split at z
        · rename_i z2; exact absurd z2 h1
        · cases z
  · refine ⟨fun ⟨_, _, z, _⟩ => ?_, fun q => absurd q.1 h⟩
    unfold xAct at z
    split at z
    · rename_i z2; exact absurd z2 h
    · cases z
theorem wp_lam {np : Nat} {m : (D → Option D) → List D → Rd} {fl : PM D} {g : PM (List D)} {w : Ev} {Q : D → Ev → Prop} (hw : nfw w = true)
    (h : Wp (g w) fun ds w1 => nfs ds = true ∧ nfw w1 = true ∧ ds.length + 1 = np ∧ WpR (m (lamF fl w1) (.fn :: ds)) fun d os => os = [.fn] ∧ nf d = true ∧ Q d w1) : Wp (xLam np m fl g w) Q := by
  obtain ⟨ds, w1, e1, h1, h2, h3, d, os, e2, rfl, h4, h5⟩ := h
  refine ⟨d, w1, ?_, h5⟩
  unfold xLam
  rw [if_pos hw, e1]
  dsimp only [Rs.bind]
  rw [if_pos (by simp [h1, h2, h3]), e2]
  dsimp only
  rw [if_pos h4]
theorem lamF_of {fl : PM D} {w : Ev} {d z : D} (h : Wp (fl (lamSt w ++ [some d])) fun y _ => y = z) : lamF fl w d = some z := by
  obtain ⟨y, w1, e, rfl⟩ := h
  unfold lamF
  rw [e]
@[simp] theorem lamSt_nil : lamSt [] = [] := rfl
@[simp] theorem lamSt_none {w : Ev} : lamSt (none :: w) = none :: lamSt w := rfl
theorem lamSt_some {d : D} {w : Ev} (h : cap d = true) : lamSt (some d :: w) = some d :: lamSt w := by
  show (if cap d then some d else none) :: _ = _
  rw [if_pos h]; rfl
@[simp] theorem lz_Disp1 {f g : PM D} {w : Ev} {Q : D → Ev → Prop} : Wp (xDisp1 f g w) Q ↔ Wp (f w) fun k w1 => Wp (g w1) fun z w2 => (isK true k = true ∧ pl z = true) ∧ Q (.odc true (pK [] k) (pV [] [] k z)) w2 := by
  unfold xDisp1
  rw [wp_bind]
  constructor
  · rintro ⟨k, w1, e, h⟩
    refine ⟨k, w1, e, ?_⟩
    rw [wp_bind] at h
    obtain ⟨z, w2, e2, h⟩ := h
    refine ⟨z, w2, e2, ?_⟩
    by_cases c : isK true k = true ∧ pl z = true
    · rw [if_pos c] at h; exact ⟨c, wp_ok.mp h⟩
    · rw [if_neg c] at h; exact (wp_bad.mp h).elim
  · rintro ⟨k, w1, e, z, w2, e2, c, h⟩
    refine ⟨k, w1, e, ?_⟩
    refine wp_bind.mpr ⟨z, w2, e2, ?_⟩
    show Wp (if isK true k = true ∧ pl z = true then Rs.ok (D.odc true (pK [] k) (pV [] [] k z)) w2 else Rs.bad) Q
    rw [if_pos c]; exact wp_ok.mpr h
theorem lz_Get {j : Nat} {f g : PM D} {w : Ev} {Q : D → Ev → Prop} {t0 : Bool} {ks0 vs0 : List D} (h0 : slot w j = some (.odc t0 ks0 vs0)) (h : Wp (f w) fun k w1 => Wp (g w1) fun z w2 => ob (slot w2 j) fun x => ob (dGet x k z) fun y => Q y w2) : Wp (xGet j f g w) Q := by
  unfold xGet
  have e0 : (slot w j).bind dctD = some (t0, ks0, vs0) := by rw [h0]; rfl
  rw [e0]
  obtain ⟨k, w1, e1, z, w2, e2, x, e3, y, e4, q⟩ := h
  show Wp ((f w).bind _) Q
  rw [wp_bind]
  refine ⟨k, w1, e1, ?_⟩
  refine wp_bind.mpr ⟨z, w2, e2, y, w2, ?_, q⟩
  rw [e3]
  show back (dGet x k z) w2 = _
  rw [e4]; rfl
theorem dGet_odc {t : Bool} {ks vs : List D} {k z : D} (h : isK t k = true) (hz : pl z = true) : dGet (.odc t ks vs) k z = match vD ks vs k with
  | some d => if pl d = true then some d else none
  | none => some z := by
  show (if isK t k = true ∧ pl z = true then (match vD ks vs k with
  | some d => if pl d = true then some d else none
  | none => some z) else none) = _
  rw [if_pos ⟨h, hz⟩]
end Pm

set_option autoImplicit false
namespace K17
open PySem PySem.Spec L2 Pm
def topS (i : Nat) : Stmt := PySem.Challenge.pw_nowhereworse_k17_rankings_of_rows.main.body.getD i (.Pass ⟨0, 0, 0, 0⟩)
abbrev s_is_nought : Stmt := topS 1
abbrev s_grown_sets : Stmt := topS 4
abbrev s_rankings_by : Stmt := topS 8
abbrev s_number_by : Stmt := topS 9
abbrev s_first_by : Stmt := topS 12
abbrev s_law_feed : Stmt := topS 15
abbrev s_law_draw : Stmt := topS 16
abbrev s_law_joined : Stmt := topS 23
abbrev s_law_is_below : Stmt := topS 26
abbrev s_law_orders : Stmt := topS 28
abbrev s_law_bars : Stmt := topS 30
abbrev s_law_same : Stmt := topS 32
abbrev s_free_rules : Stmt := topS 2
abbrev s_law_shuffled : Stmt := topS 17
abbrev s_law_size : Stmt := topS 18
abbrev s_law_fits : Stmt := topS 27
abbrev s_law_feasible : Stmt := topS 31
abbrev s_law_same_all : Stmt := topS 33
abbrev s_law_lead : Stmt := topS 19
abbrev s_law_link : Stmt := topS 20
abbrev s_law_bar_row : Stmt := topS 21
abbrev s_law_family : Stmt := topS 24
abbrev s_law_family_rows : Stmt := topS 25
abbrev s_law_rankings : Stmt := topS 29
abbrev s_law_world : Stmt := topS 22
abbrev s_row_sets : Stmt := topS 5
abbrev s_feasible_of : Stmt := topS 6
abbrev s_all_rankings : Stmt := topS 10
abbrev s_ranking_number : Stmt := topS 11
abbrev s_first_ranking : Stmt := topS 13
abbrev s_law_asked : Stmt := topS 34
abbrev s_law_first_alone : Stmt := topS 35
abbrev s_law_long : Stmt := topS 36
abbrev s_law_wide : Stmt := topS 37
abbrev s_law : Stmt := topS 38
theorem sc_is_nought : FnScope ["row", "some", "rule"] ["row", "some"] (defScope s_is_nought) := ⟨rfl, rfl, rfl, by decide +kernel, rfl, by decide +kernel, by decide +kernel⟩
theorem sc_grown_sets : FnScope ["free_at", "found", "queue", "at", "some", "rule"] ["free_at"] (defScope s_grown_sets) := ⟨rfl, rfl, rfl, by decide +kernel, rfl, by decide +kernel, by decide +kernel⟩
theorem sc_rankings_by : FnScope ["many", "sets", "rows", "_", "further", "begun", "rule"] ["many", "sets"] (defScope s_rankings_by) := ⟨rfl, rfl, rfl, by decide +kernel, rfl, by decide +kernel, by decide +kernel⟩
theorem sc_number_by : FnScope ["many", "sets", "counts", "size", "some", "rule", "other"] ["many", "sets"] (defScope s_number_by) := ⟨rfl, rfl, rfl, by decide +kernel, rfl, by decide +kernel, by decide +kernel⟩
theorem sc_first_by : FnScope ["many", "sets", "begun"] ["many", "sets"] (defScope s_first_by) := ⟨rfl, rfl, rfl, by decide +kernel, rfl, by decide +kernel, by decide +kernel⟩
theorem sc_law_feed : FnScope ["script", "cells", "cell"] ["script"] (defScope s_law_feed) := ⟨rfl, rfl, rfl, by decide +kernel, rfl, by decide +kernel, by decide +kernel⟩
theorem sc_law_draw : FnScope ["feed", "many", "cell", "pick"] ["feed", "many"] (defScope s_law_draw) := ⟨rfl, rfl, rfl, by decide +kernel, rfl, by decide +kernel, by decide +kernel⟩
theorem sc_law_joined : FnScope ["one", "other", "rule"] ["one", "other"] (defScope s_law_joined) := ⟨rfl, rfl, rfl, by decide +kernel, rfl, by decide +kernel, by decide +kernel⟩
theorem sc_law_is_below : FnScope ["row", "order", "rule"] ["row", "order"] (defScope s_law_is_below) := ⟨rfl, rfl, rfl, by decide +kernel, rfl, by decide +kernel, by decide +kernel⟩
theorem sc_law_orders : FnScope ["many", "orders", "size", "longer", "order", "rule"] ["many"] (defScope s_law_orders) := ⟨rfl, rfl, rfl, by decide +kernel, rfl, by decide +kernel, by decide +kernel⟩
theorem sc_law_bars : FnScope ["rows", "some", "rule", "row", "noughts", "other"] ["rows", "some", "rule"] (defScope s_law_bars) := ⟨rfl, rfl, rfl, by decide +kernel, rfl, by decide +kernel, by decide +kernel⟩
theorem sc_law_same : FnScope ["told", "due", "place", "one"] ["told", "due"] (defScope s_law_same) := ⟨rfl, rfl, rfl, by decide +kernel, rfl, by decide +kernel, by decide +kernel⟩
theorem sc_free_rules : FnScope ["many", "rows", "some", "tied", "told", "rule", "row"] ["many", "rows", "some"] (defScope s_free_rules) := ⟨rfl, rfl, rfl, by decide +kernel, rfl, by decide +kernel, by decide +kernel⟩
theorem sc_law_shuffled : FnScope ["feed", "things", "left", "out", "place"] ["feed", "things"] (defScope s_law_shuffled) := ⟨rfl, rfl, rfl, by decide +kernel, rfl, by decide +kernel, by decide +kernel⟩
theorem sc_law_size : FnScope ["feed", "kind"] ["feed"] (defScope s_law_size) := ⟨rfl, rfl, rfl, by decide +kernel, rfl, by decide +kernel, by decide +kernel⟩
theorem sc_law_fits : FnScope ["rows", "order", "row"] ["rows", "order"] (defScope s_law_fits) := ⟨rfl, rfl, rfl, by decide +kernel, rfl, by decide +kernel, by decide +kernel⟩
theorem sc_law_feasible : FnScope ["many", "rows", "sets", "layer", "size", "more", "some", "rule", "longer"] ["many", "rows"] (defScope s_law_feasible) := ⟨rfl, rfl, rfl, by decide +kernel, rfl, by decide +kernel, by decide +kernel⟩
theorem sc_law_same_all : FnScope ["told", "due", "place"] ["told", "due"] (defScope s_law_same_all) := ⟨rfl, rfl, rfl, by decide +kernel, rfl, by decide +kernel, by decide +kernel⟩
theorem sc_law_lead : FnScope ["feed", "order", "place", "row", "rule"] ["feed", "order", "place"] (defScope s_law_lead) := ⟨rfl, rfl, rfl, by decide +kernel, rfl, by decide +kernel, by decide +kernel⟩
theorem sc_law_link : FnScope ["feed", "order", "place", "row", "rule"] ["feed", "order", "place"] (defScope s_law_link) := ⟨rfl, rfl, rfl, by decide +kernel, rfl, by decide +kernel, by decide +kernel⟩
theorem sc_law_bar_row : FnScope ["feed", "order", "top", "rule", "row", "other"] ["feed", "order", "top", "rule"] (defScope s_law_bar_row) := ⟨rfl, rfl, rfl, by decide +kernel, rfl, by decide +kernel, by decide +kernel⟩
theorem sc_law_family : FnScope ["feed", "many", "sets", "lap", "order", "size", "some", "both"] ["feed", "many"] (defScope s_law_family) := ⟨rfl, rfl, rfl, by decide +kernel, rfl, by decide +kernel, by decide +kernel⟩
theorem sc_law_family_rows : FnScope ["feed", "many", "sets", "rows", "some", "rule", "row", "other"] ["feed", "many", "sets"] (defScope s_law_family_rows) := ⟨rfl, rfl, rfl, by decide +kernel, rfl, by decide +kernel, by decide +kernel⟩
theorem sc_law_rankings : FnScope ["many", "rows", "order"] ["many", "rows"] (defScope s_law_rankings) := ⟨rfl, rfl, rfl, by decide +kernel, rfl, by decide +kernel, by decide +kernel⟩
theorem sc_law_world : FnScope ["feed", "order", "top", "plain", "many", "core", "place", "rule", "ahead", "lap"] ["feed", "order", "top", "plain"] (defScope s_law_world) := ⟨rfl, rfl, rfl, by decide +kernel, rfl, by decide +kernel, by decide +kernel⟩
theorem sc_row_sets : FnScope ["many", "rows"] ["many", "rows"] (defScope s_row_sets) := ⟨rfl, rfl, rfl, by decide +kernel, rfl, by decide +kernel, by decide +kernel⟩
theorem sc_feasible_of : FnScope ["many", "rows"] ["many", "rows"] (defScope s_feasible_of) := ⟨rfl, rfl, rfl, by decide +kernel, rfl, by decide +kernel, by decide +kernel⟩
theorem sc_all_rankings : FnScope ["many", "rows"] ["many", "rows"] (defScope s_all_rankings) := ⟨rfl, rfl, rfl, by decide +kernel, rfl, by decide +kernel, by decide +kernel⟩
theorem sc_ranking_number : FnScope ["many", "rows"] ["many", "rows"] (defScope s_ranking_number) := ⟨rfl, rfl, rfl, by decide +kernel, rfl, by decide +kernel, by decide +kernel⟩
theorem sc_first_ranking : FnScope ["many", "rows"] ["many", "rows"] (defScope s_first_ranking) := ⟨rfl, rfl, rfl, by decide +kernel, rfl, by decide +kernel, by decide +kernel⟩
theorem sc_law_asked : FnScope ["many", "rows", "only", "due", "first"] ["many", "rows", "only"] (defScope s_law_asked) := ⟨rfl, rfl, rfl, by decide +kernel, rfl, by decide +kernel, by decide +kernel⟩
theorem sc_law_first_alone : FnScope ["many", "rows", "due", "order"] ["many", "rows"] (defScope s_law_first_alone) := ⟨rfl, rfl, rfl, by decide +kernel, rfl, by decide +kernel, by decide +kernel⟩
theorem sc_law_long : FnScope ["feed", "order", "rows"] ["feed"] (defScope s_law_long) := ⟨rfl, rfl, rfl, by decide +kernel, rfl, by decide +kernel, by decide +kernel⟩
theorem sc_law_wide : FnScope ["feed", "kind", "order", "only", "rows", "rule"] ["feed"] (defScope s_law_wide) := ⟨rfl, rfl, rfl, by decide +kernel, rfl, by decide +kernel, by decide +kernel⟩
theorem sc_law : FnScope ["script", "feed", "many", "wide", "long", "order", "sets", "rows"] ["script"] (defScope s_law) := ⟨rfl, rfl, rfl, by decide +kernel, rfl, by decide +kernel, by decide +kernel⟩
noncomputable abbrev b_is_nought : PM Fl := (sSeq (sFor [some 1] (iW qG (xCons (xK 1) xNil)) (.nm 2) (sIf (tBl (x2gg dNe (x2pp dIxA (qV 0) (qV 2)) (xC (.int 0)))) (sRet (xC (.bl false))) sNx)) (sRet (xC (.bl true))))
noncomputable def m_is_nought : List D → Rd := mkDef 3 2 [] b_is_nought
noncomputable abbrev b_grown_sets (G : D → Option D) : PM Fl := (sSeq (sSet 1 (xNewD true)) (sSeq (sSet 2 (xOwn (xCons (xTup xNil) xNil))) (sSeq (sSet 3 (xC (.int 0))) (sSeq (sWh (tBl (x2vg dLtA 3 (x1p dLen (qV 2)))) (sSeq (sSet 4 (x2pp dIxA (qV 2) (qV 3))) (sSeq (sAug 3 (dI fun i j => some (.int (i + j))) (xC (.int 1))) (sIf (tBl (x2pp (dInA true) (qV 4) (qV 1))) (sSeq (sSetD 1 (xAct 0 G (xI 4)) (xP (qV 4))) (sFor [none] (iW qG (xCons (x2pp dIxA (qV 1) (qV 4)) xNil)) (.nm 5) (sExpr (xApp 2 (x1g dTuple (x1g dSortU (x2vg dAdd 4 (xTup (xCons (xI 5) xNil))))))))) sNx)))) (sRet (xT 1))))))
noncomputable def m_grown_sets (G : D → Option D) : List D → Rd := mkDef 6 1 [0] (b_grown_sets G)
noncomputable abbrev b_rankings_by : PM Fl := (sSeq (sSet 2 (xOwn (xCons (xTup xNil) xNil))) (sSeq (sFor [none] (iW qR1 (xCons (xP (qV 0)) xNil)) (.nm 3) (sSeq (sSet 4 (xOwn xNil)) (sSeq (sFor [some 2] (iW qG (xCons (xK 2) xNil)) (.nm 5) (sFor [none] (iW qG (xCons (x2vg dIxA 1 (x1g dTuple (x1p dSortU (qV 5)))) xNil)) (.nm 6) (sExpr (xApp 4 (x2vg dAdd 5 (xTup (xCons (xI 6) xNil))))))) (sSet 2 (xI 4))))) (sRet (x1p dSortU (qV 2)))))
noncomputable def m_rankings_by : List D → Rd := mkDef 7 2 [] b_rankings_by
noncomputable abbrev b_number_by : PM Fl := (sSeq (sSet 2 (xDisp1 (xTup xNil) (xC (.int 1)))) (sSeq (sFor [none] (iW qR1 (xCons (xP (qV 0)) xNil)) (.nm 3) (sFor [none] (iW qG (xCons (x1p dSortU (qV 1)) xNil)) (.nm 4) (sIf (tBl (x2gp dEq (x1p dLen (qV 4)) (qV 3))) (sFor [none] (iW qG (xCons (x2pp dIxA (qV 1) (qV 4)) xNil)) (.nm 5) (sSeq (sSet 6 (x1g dTuple (x1g dSortU (x2vg dAdd 4 (xTup (xCons (xI 5) xNil)))))) (sSetD 2 (x2gg dAdd (xGet 2 (xI 6) (xC (.int 0))) (x2pp dIxA (qV 2) (qV 4))) (xP (qV 6))))) sNx))) (sRet (xGet 2 (x1g dRngT (xP (qV 0))) (xC (.int 0))))))
noncomputable def m_number_by : List D → Rd := mkDef 7 2 [] b_number_by
noncomputable abbrev b_first_by : PM Fl := (sSeq (sIf (tBl (x2gp (dInA true) (x1g dRngT (xP (qV 0))) (qV 1))) (sRet (xC .non)) sNx) (sSeq (sSet 2 (xTup xNil)) (sSeq (sWh (tBl (x2gp dLtA (x1p dLen (qV 2)) (qV 0))) (sSet 2 (x2vg dAdd 2 (xTup (xCons (x2gg dIxA (x2vg dIxA 1 (x1g dTuple (x1p dSortU (qV 2)))) (xC (.int 0))) xNil))))) (sRet (xT 2)))))
noncomputable def m_first_by : List D → Rd := mkDef 3 2 [] b_first_by
noncomputable abbrev b_law_feed : PM Fl := (sSeq (sSet 1 (xComp [none] (iW qG (xCons (xSlv 0 bN (bS (xC (.int 63)))) xNil)) (.nm 2) tYesF (x1p dInt (qV 2)) [2])) (sRet (xOwn (xCons (xI 1) (xCons (xC (.int 0)) (xCons (xC (.int 0)) (xCons (x2gg dMod (x1g dInt (x2gg dAdd (x2gg dMulA (x1p dLen (qV 1)) (xC (.int 5009))) (xC (.int 733)))) (xC (.int 2147483587))) xNil)))))))
noncomputable def m_law_feed : List D → Rd := mkDef 3 1 [] b_law_feed
noncomputable abbrev b_law_draw : PM Fl := (sSeq (sIf (tAndF (tBl (x2gg dEq (x2vg dIxA 0 (xC (.int 2))) (xC (.int 0)))) (tBl (x2gg dLtA (x2vg dIxA 0 (xC (.int 1))) (x1g dLen (x2vg dIxA 0 (xC (.int 0))))))) (sSeq (sSet 2 (x2gg dIxA (x2vg dIxA 0 (xC (.int 0))) (x2vg dIxA 0 (xC (.int 1))))) (sSeq (sSetI 0 (x2gg dAdd (x2vg dIxA 0 (xC (.int 1))) (xC (.int 1))) (xC (.int 1))) (sSeq (sIf (tBl (x2vg dLtA 2 (xC (.int 0)))) (sSet 2 (x1g dNeg (xP (qV 2)))) sNx) (sIf (tBl (x2vg dLtA 2 (x2gg dPow (xC (.int 10)) (xC (.int 18))))) (sSetI 0 (x2gg dMod (x1g dInt (x2gg dAdd (x2gg dAdd (x2gg dMulA (x2vg dIxA 0 (xC (.int 3))) (xC (.int 52774))) (x2vg dMulA 2 (xC (.int 41)))) (xC (.int 9)))) (xC (.int 2147483587))) (xC (.int 3))) (sSetI 0 (x2gg dMod (x1p dInt (qV 2)) (x2gg dPow (x2gg dPow (xC (.int 10)) (xC (.int 60))) (xC (.int 10)))) (xC (.int 2))))))) sNx) (sSeq (sIf (tBl (x2gg dGtA (x2vg dIxA 0 (xC (.int 2))) (xC (.int 0)))) (sSeq (sSet 3 (x2gp dMod (x1g dInt (x2vg dIxA 0 (xC (.int 2)))) (qV 1))) (sSeq (sSetI 0 (x2gp dDiv (x1g dInt (x2vg dIxA 0 (xC (.int 2)))) (qV 1)) (xC (.int 2))) (sRet (xT 3)))) sNx) (sSeq (sSetI 0 (x2gg dMod (x1g dInt (x2gg dAdd (x2gg dMulA (x2vg dIxA 0 (xC (.int 3))) (xC (.int 45742))) (xC (.int 23)))) (xC (.int 2147483587))) (xC (.int 3))) (sRet (x2gp dMod (x1g dInt (x2gg dDiv (x2vg dIxA 0 (xC (.int 3))) (xC (.int 128)))) (qV 1))))))
noncomputable def m_law_draw : List D → Rd := mkDef 4 2 [0] b_law_draw
noncomputable abbrev b_law_joined : PM Fl := (sRet (x1g dTuple (x1g dSortU (x2gg dAdd (x1p dList (qV 0)) (xComp [some 1] (iW qG (xCons (xK 1) xNil)) (.nm 2) (tBl (x2pp (dInA true) (qV 2) (qV 0))) (xI 2) [2])))))
noncomputable def m_law_joined : List D → Rd := mkDef 3 2 [] b_law_joined
noncomputable abbrev b_law_is_below : PM Fl := (sSeq (sFor [some 1] (iW qG (xCons (xK 1) xNil)) (.nm 2) (sIf (tBl (x2gg dNe (x2pp dIxA (qV 0) (qV 2)) (xC (.int 0)))) (sRet (x2gg dLtA (x2pp dIxA (qV 0) (qV 2)) (xC (.int 0)))) sNx)) (sRet (xC (.bl false))))
noncomputable def m_law_is_below : List D → Rd := mkDef 3 2 [] b_law_is_below
noncomputable abbrev b_law_orders : PM Fl := (sSeq (sSet 1 (xOwn (xCons (xTup xNil) xNil))) (sSeq (sFor [none] (iW qR1 (xCons (xP (qV 0)) xNil)) (.nm 2) (sSeq (sSet 3 (xOwn xNil)) (sSeq (sFor [some 1] (iW qG (xCons (xK 1) xNil)) (.nm 4) (sFor [none] (iW qR1 (xCons (xP (qV 0)) xNil)) (.nm 5) (sIf (tBl (x2pp (dInA true) (qV 5) (qV 4))) (sExpr (xApp 3 (x2vg dAdd 4 (xTup (xCons (xI 5) xNil))))) sNx))) (sSet 1 (xI 3))))) (sRet (xT 1))))
noncomputable def m_law_orders : List D → Rd := mkDef 6 1 [] b_law_orders
noncomputable abbrev b_law_bars : PM Fl := (sSeq (sFor [some 0] (iW qG (xCons (xK 0) xNil)) (.nm 3) (sIf (tBl (x2gg dLtA (x2pp dIxA (qV 3) (qV 2)) (xC (.int 0)))) (sSeq (sSet 4 (xComp [some 1] (iW qG (xCons (xK 1) xNil)) (.nm 5) (tBl (x2gg dEq (x2pp dIxA (qV 3) (qV 5)) (xC (.int 0)))) (xI 5) [5])) (sIf (tBl (x2gg dEq (x1p dLen (qV 4)) (x1p dLen (qV 1)))) (sRet (xC (.bl true))) sNx)) sNx)) (sRet (xC (.bl false))))
noncomputable def m_law_bars : List D → Rd := mkDef 6 3 [] b_law_bars
noncomputable abbrev b_law_same : PM Fl := (sSeq (sIf (tBl (x2vg (dIsX false) 1 (xC .non))) (sRet (x2vg (dIsX false) 0 (xC .non))) sNx) (sSeq (sIf (tTru (x1p (dIsi "int") (qV 1))) (sRet (xAnd (x1p (dIsi "int") (qV 0)) (xAnd (x1g dNot (x1p (dIsi "bool") (qV 0))) (x2pp dEq (qV 0) (qV 1))))) sNx) (sSeq (sIf (tOrF (tNotF (tTru (x1p (dIsi "tuple") (qV 0)))) (tBl (x2gg dNe (x1p dLen (qV 0)) (x1p dLen (qV 1))))) (sRet (xC (.bl false))) sNx) (sSeq (sFor [none] (iW qR1 (xCons (x1p dLen (qV 1)) xNil)) (.nm 2) (sSeq (sSet 3 (x2pp dIxA (qV 0) (qV 2))) (sIf (tOrF (tNotF (tTru (x1p (dIsi "int") (qV 3)))) (tOrF (tTru (x1p (dIsi "bool") (qV 3))) (tBl (x2vg dNe 3 (x2pp dIxA (qV 1) (qV 2)))))) (sRet (xC (.bl false))) sNx))) (sRet (xC (.bl true)))))))
noncomputable def m_law_same : List D → Rd := mkDef 4 2 [] b_law_same
noncomputable abbrev b_free_rules : PM Fl := (sSeq (sSet 3 (xComp [some 1] (iW qG (xCons (xK 1) xNil)) (.nm 6) (tTru (xCal 2 [] m_is_nought (xCons (xI 6) (xCons (xI 2) xNil)))) (xI 6) [6])) (sSeq (sSet 4 (xOwn xNil)) (sSeq (sFor [none] (iW qR1 (xCons (xP (qV 0)) xNil)) (.nm 5) (sIf (tAndF (tBl (x2pp (dInA true) (qV 5) (qV 2))) (tNotF (tTru (xComp [some 3] (iW qG (xCons (xK 3) xNil)) (.nm 6) (tBl (x2gg dLtA (x2pp dIxA (qV 6) (qV 5)) (xC (.int 0)))) (xI 6) [6])))) (sExpr (xApp 4 (xI 5))) sNx)) (sRet (x1p dTuple (qV 4))))))
noncomputable def m_free_rules : List D → Rd := mkDef 7 3 [] b_free_rules
noncomputable abbrev b_law_shuffled : PM Fl := (sSeq (sSet 2 (x1p dList (qV 1))) (sSeq (sSet 3 (xOwn xNil)) (sSeq (sFor [none] (iW qR1 (xCons (x1p dLen (qV 1)) xNil)) (.nm 4) (sExpr (xApp 3 (xPopAt 2 (xCal 2 [some 0] m_law_draw (xZ 0 (xCons (x1p dLen (qV 2)) xNil))))))) (sRet (xT 3)))))
noncomputable def m_law_shuffled : List D → Rd := mkDef 5 2 [0] b_law_shuffled
noncomputable abbrev b_law_size : PM Fl := (sSeq (sSet 1 (xCal 2 [some 0] m_law_draw (xZ 0 (xCons (xC (.int 5)) xNil)))) (sSeq (sIf (tBl (x2vg dLtA 1 (xC (.int 2)))) (sRet (x2gp dAdd (xC (.int 1)) (qV 1))) sNx) (sSeq (sIf (tBl (x2vg dEq 1 (xC (.int 2)))) (sRet (x2gg dAdd (xC (.int 3)) (xCal 2 [some 0] m_law_draw (xZ 0 (xCons (xC (.int 60)) xNil))))) sNx) (sSeq (sIf (tBl (x2vg dEq 1 (xC (.int 3)))) (sRet (x2gg dSub (x2gg dPow (xC (.int 10)) (xC (.int 6))) (xCal 2 [some 0] m_law_draw (xZ 0 (xCons (xC (.int 4)) xNil))))) sNx) (sRet (x2gg dAdd (xC (.int 1)) (xCal 2 [some 0] m_law_draw (xZ 0 (xCons (x2gg dPow (xC (.int 10)) (xC (.int 6))) xNil)))))))))
noncomputable def m_law_size : List D → Rd := mkDef 2 1 [0] b_law_size
noncomputable abbrev b_law_fits : PM Fl := (sSeq (sFor [some 0] (iW qG (xCons (xK 0) xNil)) (.nm 2) (sIf (tTru (xCal 2 [] m_law_is_below (xCons (xI 2) (xCons (xI 1) xNil)))) (sRet (xC (.bl false))) sNx)) (sRet (xC (.bl true))))
noncomputable def m_law_fits : List D → Rd := mkDef 3 2 [] b_law_fits
noncomputable abbrev b_law_feasible : PM Fl := (sSeq (sSet 2 (xOwn (xCons (xTup xNil) xNil))) (sSeq (sSet 3 (xOwn (xCons (xTup xNil) xNil))) (sSeq (sFor [none] (iW qR1 (xCons (xP (qV 0)) xNil)) (.nm 4) (sSeq (sSet 5 (xOwn xNil)) (sSeq (sFor [some 3] (iW qG (xCons (xK 3) xNil)) (.nm 6) (sFor [none] (iW qR1 (xCons (xP (qV 0)) xNil)) (.nm 7) (sSeq (sSet 8 (xCal 2 [] m_law_joined (xCons (xI 6) (xCons (xTup (xCons (xI 7) xNil)) xNil)))) (sIf (tAndF (tBl (x2pp (dInA true) (qV 7) (qV 6))) (tAndF (tBl (x2pp (dInA true) (qV 8) (qV 5))) (tNotF (tTru (xCal 3 [] m_law_bars (xCons (xI 1) (xCons (xI 6) (xCons (xI 7) xNil)))))))) (sExpr (xApp 5 (xI 8))) sNx)))) (sSeq (sSet 3 (xI 5)) (sSet 2 (x2pp dAddA (qV 2) (qV 5))))))) (sRet (x1g dTuple (x1p dSortU (qV 2)))))))
noncomputable def m_law_feasible : List D → Rd := mkDef 9 2 [] b_law_feasible
noncomputable abbrev b_law_same_all : PM Fl := (sSeq (sIf (tOrF (tNotF (tTru (x1p (dIsi "tuple") (qV 0)))) (tBl (x2gg dNe (x1p dLen (qV 0)) (x1p dLen (qV 1))))) (sRet (xC (.bl false))) sNx) (sSeq (sFor [none] (iW qR1 (xCons (x1p dLen (qV 1)) xNil)) (.nm 2) (sIf (tNotF (tTru (xCal 2 [] m_law_same (xCons (x2pp dIxA (qV 0) (qV 2)) (xCons (x2pp dIxA (qV 1) (qV 2)) xNil))))) (sRet (xC (.bl false))) sNx)) (sRet (xC (.bl true)))))
noncomputable def m_law_same_all : List D → Rd := mkDef 3 2 [] b_law_same_all
noncomputable abbrev b_law_lead : PM Fl := (sSeq (sSet 3 (xComp [some 1] (iW qG (xCons (xK 1) xNil)) (.nm 4) tYesF (xC (.int 0)) [4])) (sSeq (sSetI 3 (xCal 1 [some 0] m_law_size (xZ 0 xNil)) (x2pp dIxA (qV 1) (qV 2))) (sSeq (sFor [none] (iW qG (xCons (xSlv 1 (bS (x2vg dAdd 2 (xC (.int 1)))) bN) xNil)) (.nm 4) (sSetI 3 (x2gg dMulA (x2gg dSub (xCal 2 [some 0] m_law_draw (xZ 0 (xCons (xC (.int 3)) xNil))) (xC (.int 1))) (xCal 1 [some 0] m_law_size (xZ 0 xNil))) (xP (qV 4)))) (sRet (x1p dTuple (qV 3))))))
noncomputable def m_law_lead : List D → Rd := mkDef 5 3 [0] b_law_lead
noncomputable abbrev b_law_link : PM Fl := (sSeq (sSet 3 (xComp [some 1] (iW qG (xCons (xK 1) xNil)) (.nm 4) tYesF (xC (.int 0)) [4])) (sSeq (sSetI 3 (xCal 1 [some 0] m_law_size (xZ 0 xNil)) (x2pp dIxA (qV 1) (qV 2))) (sSeq (sSetI 3 (x1g dNeg (xCal 1 [some 0] m_law_size (xZ 0 xNil))) (x2vg dIxA 1 (x2vg dAdd 2 (xC (.int 1))))) (sRet (x1p dTuple (qV 3))))))
noncomputable def m_law_link : List D → Rd := mkDef 5 3 [0] b_law_link
noncomputable abbrev b_law_bar_row : PM Fl := (sSeq (sSet 4 (xComp [some 1] (iW qG (xCons (xK 1) xNil)) (.nm 5) tYesF (xC (.int 0)) [5])) (sSeq (sFor [none] (iW qG (xCons (xSlv 1 (bS (xP (qV 2))) bN) xNil)) (.nm 5) (sSetI 4 (x2gg dMulA (x2gg dSub (xCal 2 [some 0] m_law_draw (xZ 0 (xCons (xC (.int 3)) xNil))) (xC (.int 1))) (xCal 1 [some 0] m_law_size (xZ 0 xNil))) (xP (qV 5)))) (sSeq (sSetI 4 (x1g dNeg (xCal 1 [some 0] m_law_size (xZ 0 xNil))) (xP (qV 3))) (sRet (x1p dTuple (qV 4))))))
noncomputable def m_law_bar_row : List D → Rd := mkDef 6 4 [0] b_law_bar_row
noncomputable abbrev b_law_family : PM Fl := (sSeq (sSet 2 (xOwn (xCons (xTup xNil) xNil))) (sSeq (sFor [none] (iW qR1 (xCons (x2gg dAdd (xC (.int 1)) (xCal 2 [some 0] m_law_draw (xZ 0 (xCons (xC (.int 3)) xNil)))) xNil)) (.nm 3) (sSeq (sSet 4 (xCal 2 [some 0] m_law_shuffled (xZ 0 (xCons (xRngL (xP (qV 1))) xNil)))) (sFor [none, none] (iW qR2 (xCons (xC (.int 1)) (xCons (x2vg dAdd 1 (xC (.int 1))) xNil))) (.nm 5) (sFor [none] (iW qG (xCons (x1p dList (qV 2)) xNil)) (.nm 6) (sSeq (sSet 7 (xCal 2 [] m_law_joined (xCons (xI 6) (xCons (xSlv 4 bN (bS (xP (qV 5)))) xNil)))) (sIf (tBl (x2pp (dInA true) (qV 7) (qV 2))) (sExpr (xApp 2 (xI 7))) sNx)))))) (sRet (x1p dSortU (qV 2)))))
noncomputable def m_law_family : List D → Rd := mkDef 8 2 [0] b_law_family
noncomputable abbrev b_law_family_rows : PM Fl := (sSeq (sSet 3 (xOwn xNil)) (sSeq (sFor [none] (iW qG (xCons (xI 2) xNil)) (.nm 4) (sFor [none] (iW qR1 (xCons (xP (qV 1)) xNil)) (.nm 5) (sIf (tAndF (tBl (x2pp (dInA true) (qV 5) (qV 4))) (tBl (x2gp (dInA true) (xCal 2 [] m_law_joined (xCons (xI 4) (xCons (xTup (xCons (xI 5) xNil)) xNil))) (qV 2)))) (sSeq (sSet 6 (xComp [none] (iW qR1 (xCons (xP (qV 1)) xNil)) (.nm 7) tYesF (xC (.int 0)) [7])) (sSeq (sFor [none] (iW qR1 (xCons (xP (qV 1)) xNil)) (.nm 7) (sIf (tBl (x2pp (dInA true) (qV 7) (qV 4))) (sSetI 6 (xCal 1 [some 0] m_law_size (xZ 0 xNil)) (xP (qV 7))) sNx)) (sSeq (sSetI 6 (x1g dNeg (xCal 1 [some 0] m_law_size (xZ 0 xNil))) (xP (qV 5))) (sExpr (xApp 3 (x1p dTuple (qV 6))))))) sNx))) (sRet (x1g dTuple (xCal 2 [some 0] m_law_shuffled (xZ 0 (xCons (xI 3) xNil)))))))
noncomputable def m_law_family_rows : List D → Rd := mkDef 8 3 [0] b_law_family_rows
noncomputable abbrev b_law_rankings : PM Fl := (sRet (x1g dTuple (xComp [none] (iW qG (xCons (xCal 1 [] m_law_orders (xCons (xI 0) xNil)) xNil)) (.nm 2) (tTru (xCal 2 [] m_law_fits (xCons (xI 1) (xCons (xI 2) xNil)))) (xI 2) [2])))
noncomputable def m_law_rankings : List D → Rd := mkDef 3 2 [] b_law_rankings
noncomputable abbrev b_law_world : PM Fl := (sSeq (sSet 4 (x1p dLen (qV 1))) (sSeq (sSet 5 (xOwn xNil)) (sSeq (sIf (tBl (x2vg dGtA 2 (xC (.int 0)))) (sSet 5 (xComp [none] (iW qR1 (xCons (xCal 2 [some 0] m_law_draw (xZ 0 (xCons (xC (.int 4)) xNil))) xNil)) (.nm 9) tYesF (xCal 3 [some 0] m_law_lead (xZ 0 (xCons (xI 1) (xCons (xCal 2 [some 0] m_law_draw (xZ 0 (xCons (xI 2) xNil))) xNil)))) [9])) sNx) (sSeq (sFor [none] (iW qR1 (xCons (x2gg dMin (xP (qV 2)) (x2vg dSub 4 (xC (.int 1)))) xNil)) (.nm 6) (sIf (tBl (x2gg dEq (xCal 2 [some 0] m_law_draw (xZ 0 (xCons (xC (.int 2)) xNil))) (xC (.int 1)))) (sExpr (xApp 5 (xCal 3 [some 0] m_law_link (xZ 0 (xCons (xI 1) (xCons (xI 6) xNil)))))) sNx)) (sSeq (sFor [none] (iW qG (xCons (xSlv 1 (bS (xP (qV 2))) bN) xNil)) (.nm 7) (sExpr (xApp 5 (xCal 4 [some 0] m_law_bar_row (xZ 0 (xCons (xI 1) (xCons (xI 2) (xCons (xI 7) xNil)))))))) (sSeq (sSet 8 (xOwn xNil)) (sSeq (sIf (tBl (x2vg dGtA 3 (xC (.int 20)))) (sSet 3 (x2vg dSub 3 (x1p dLen (qV 5)))) sNx) (sSeq (sFor [none] (iW qR1 (xCons (xP (qV 3)) xNil)) (.nm 9) (sExpr (xApp 8 (x1g dTuple (xComp [none] (iW qR1 (xCons (xP (qV 4)) xNil)) (.nm 6) tYesF (x2gg dMulA (xCal 2 [some 0] m_law_draw (xZ 0 (xCons (xC (.int 2)) xNil))) (xCal 1 [some 0] m_law_size (xZ 0 xNil))) [6]))))) (sSeq (sIf (tBl (x2gg dGtA (x1p dLen (qV 8)) (xC (.int 20)))) (sRet (x1g dTuple (x2vg dAdd 8 (xCal 2 [some 0] m_law_shuffled (xZ 0 (xCons (xI 5) xNil)))))) sNx) (sRet (x1g dTuple (xCal 2 [some 0] m_law_shuffled (xZ 0 (xCons (x2pp dAdd (qV 8) (qV 5)) xNil))))))))))))))
noncomputable def m_law_world : List D → Rd := mkDef 10 4 [0] b_law_world
noncomputable abbrev b_row_sets : PM Fl := (sRet (xLam 1 m_grown_sets (xCal 3 [] m_free_rules (xCons (xI 0) (xCons (xI 1) (xCons (xI 2) xNil)))) xNil))
noncomputable def m_row_sets : List D → Rd := mkDef 2 2 [] b_row_sets
noncomputable abbrev b_feasible_of : PM Fl := (sRet (x1g dTuple (x1g dSortU (xCal 2 [] m_row_sets (xCons (xI 0) (xCons (xI 1) xNil))))))
noncomputable def m_feasible_of : List D → Rd := mkDef 2 2 [] b_feasible_of
noncomputable abbrev b_all_rankings : PM Fl := (sRet (x1g dTuple (xCal 2 [] m_rankings_by (xCons (xI 0) (xCons (xCal 2 [] m_row_sets (xCons (xI 0) (xCons (xI 1) xNil))) xNil)))))
noncomputable def m_all_rankings : List D → Rd := mkDef 2 2 [] b_all_rankings
noncomputable abbrev b_ranking_number : PM Fl := (sRet (xCal 2 [] m_number_by (xCons (xI 0) (xCons (xCal 2 [] m_row_sets (xCons (xI 0) (xCons (xI 1) xNil))) xNil))))
noncomputable def m_ranking_number : List D → Rd := mkDef 2 2 [] b_ranking_number
noncomputable abbrev b_first_ranking : PM Fl := (sRet (xCal 2 [] m_first_by (xCons (xI 0) (xCons (xCal 2 [] m_row_sets (xCons (xI 0) (xCons (xI 1) xNil))) xNil))))
noncomputable def m_first_ranking : List D → Rd := mkDef 2 2 [] b_first_ranking
noncomputable abbrev b_law_asked : PM Fl := (sSeq (sSet 3 (xCal 2 [] m_law_rankings (xCons (xI 0) (xCons (xI 1) xNil)))) (sSeq (sIf (tAndF (tBl (x2vg dNe 2 (xC (.int 1)))) (tNotF (tTru (xCal 2 [] m_law_same_all (xCons (xCal 2 [] m_all_rankings (xCons (xI 0) (xCons (xI 1) xNil))) (xCons (xI 3) xNil)))))) (sRet (x1g dNeg (xC (.int 1)))) sNx) (sSeq (sIf (tOrF (tBl (x2vg dEq 2 (xC (.int 1)))) (tBl (x2vg dEq 2 (xC (.int 0))))) (sIf (tNotF (tTru (xCal 2 [] m_law_same (xCons (xCal 2 [] m_ranking_number (xCons (xI 0) (xCons (xI 1) xNil))) (xCons (x1p dLen (qV 3)) xNil))))) (sRet (x1g dNeg (xC (.int 1)))) sNx) sNx) (sSeq (sIf (tBl (x2vg dEq 2 (xC (.int 0)))) (sSeq (sSet 4 (xC .non)) (sSeq (sIf (tBl (x2gg dGtA (x1p dLen (qV 3)) (xC (.int 0)))) (sSet 4 (x2vg dIxA 3 (xC (.int 0)))) sNx) (sIf (tNotF (tTru (xCal 2 [] m_law_same (xCons (xCal 2 [] m_first_ranking (xCons (xI 0) (xCons (xI 1) xNil))) (xCons (xI 4) xNil))))) (sRet (x1g dNeg (xC (.int 1)))) sNx))) sNx) (sSeq (sIf (tNotF (tTru (xCal 2 [] m_law_same_all (xCons (xCal 2 [] m_feasible_of (xCons (xI 0) (xCons (xI 1) xNil))) (xCons (xCal 2 [] m_law_feasible (xCons (xI 0) (xCons (xI 1) xNil))) xNil))))) (sRet (x1g dNeg (xC (.int 1)))) sNx) (sRet (x1p dLen (qV 3))))))))
noncomputable def m_law_asked : List D → Rd := mkDef 5 3 [] b_law_asked
noncomputable abbrev b_law_first_alone : PM Fl := (sSeq (sSet 2 (xC .non)) (sSeq (sFor [none] (iW qG (xCons (xCal 1 [] m_law_orders (xCons (xI 0) xNil)) xNil)) (.nm 3) (sIf (tTru (xCal 2 [] m_law_fits (xCons (xI 1) (xCons (xI 3) xNil)))) (sSeq (sSet 2 (xI 3)) sBk) sNx)) (sSeq (sIf (tNotF (tTru (xCal 2 [] m_law_same (xCons (xCal 2 [] m_first_ranking (xCons (xI 0) (xCons (xI 1) xNil))) (xCons (xI 2) xNil))))) (sRet (xC (.bl false))) sNx) (sRet (xCal 2 [] m_law_same_all (xCons (xCal 2 [] m_feasible_of (xCons (xI 0) (xCons (xI 1) xNil))) (xCons (xCal 2 [] m_law_feasible (xCons (xI 0) (xCons (xI 1) xNil))) xNil)))))))
noncomputable def m_law_first_alone : List D → Rd := mkDef 4 2 [] b_law_first_alone
noncomputable abbrev b_law_long : PM Fl := (sSeq (sSet 1 (xCal 2 [some 0] m_law_shuffled (xZ 0 (xCons (xOwn (xCons (xC (.int 0)) (xCons (xC (.int 1)) (xCons (xC (.int 2)) xNil)))) xNil)))) (sSeq (sSet 2 (xCal 4 [some 0] m_law_world (xZ 0 (xCons (xI 1) (xCons (x2gg dSub (xC (.int 3)) (xCal 2 [some 0] m_law_draw (xZ 0 (xCons (xC (.int 4)) xNil)))) (xCons (x2gg dSub (xC (.int 200)) (xCal 2 [some 0] m_law_draw (xZ 0 (xCons (xC (.int 3)) xNil)))) xNil)))))) (sRet (x2gg dGeA (xCal 3 [] m_law_asked (xCons (xC (.int 3)) (xCons (xI 2) (xCons (xC (.int 0)) xNil)))) (xC (.int 0))))))
noncomputable def m_law_long : List D → Rd := mkDef 3 1 [0] b_law_long
noncomputable abbrev b_law_wide : PM Fl := (sSeq (sSet 1 (xCal 2 [some 0] m_law_draw (xZ 0 (xCons (xC (.int 4)) xNil)))) (sSeq (sSet 2 (xCal 2 [some 0] m_law_shuffled (xZ 0 (xCons (xRngL (xC (.int 6))) xNil)))) (sSeq (sIf (tBl (x2vg dEq 1 (xC (.int 0)))) (sSet 4 (xSlg (xCal 3 [some 0] m_law_family_rows (xZ 0 (xCons (xC (.int 6)) (xCons (xCal 2 [some 0] m_law_family (xZ 0 (xCons (xC (.int 6)) xNil))) xNil)))) (bS (x1g dNeg (xC (.int 40)))) bN)) (sIf (tBl (x2vg dEq 1 (xC (.int 1)))) (sSet 4 (xCal 4 [some 0] m_law_world (xZ 0 (xCons (xI 2) (xCons (xCal 2 [some 0] m_law_draw (xZ 0 (xCons (xC (.int 7)) xNil))) (xCons (xC (.int 2)) xNil)))))) (sSet 4 (xTup (xCons (xCal 3 [some 0] m_law_link (xZ 0 (xCons (xI 2) (xCons (xCal 2 [some 0] m_law_draw (xZ 0 (xCons (xC (.int 5)) xNil))) xNil)))) (xCons (x1g dTuple (xComp [some 2] (iW qG (xCons (xK 2) xNil)) (.nm 5) tYesF (xCal 2 [some 0] m_law_draw (xZ 0 (xCons (xC (.int 2)) xNil))) [5])) xNil)))))) (sSeq (sSet 3 (xCal 2 [some 0] m_law_draw (xZ 0 (xCons (xC (.int 3)) xNil)))) (sSeq (sIf (tBl (x2vg dEq 3 (xC (.int 0)))) (sRet (xCal 2 [] m_law_first_alone (xCons (xC (.int 6)) (xCons (xI 4) xNil)))) sNx) (sRet (x2gg dGeA (xCal 3 [] m_law_asked (xCons (xC (.int 6)) (xCons (xI 4) (xCons (xI 3) xNil)))) (xC (.int 0)))))))))
noncomputable def m_law_wide : List D → Rd := mkDef 6 1 [0] b_law_wide
noncomputable abbrev b_law : PM Fl := (sSeq (sSet 1 (xCal 1 [] m_law_feed (xCons (xI 0) xNil))) (sSeq (sSet 2 (x2gg dAdd (xC (.int 1)) (xCal 2 [some 1] m_law_draw (xZ 1 (xCons (xC (.int 4)) xNil))))) (sSeq (sIf (tBl (x2gg dEq (xCal 2 [some 1] m_law_draw (xZ 1 (xCons (xC (.int 5)) xNil))) (xC (.int 2)))) (sSet 2 (xC (.int 5))) sNx) (sSeq (sSet 3 (x2gg dEq (xCal 2 [some 1] m_law_draw (xZ 1 (xCons (xC (.int 3)) xNil))) (xC (.int 1)))) (sSeq (sSet 4 (x2gg dEq (xCal 2 [some 1] m_law_draw (xZ 1 (xCons (xC (.int 11)) xNil))) (xC (.int 4)))) (sSeq (sSet 5 (xCal 2 [some 1] m_law_shuffled (xZ 1 (xCons (xRngL (xP (qV 2))) xNil)))) (sSeq (sIf (tBl (x2gg dLtA (xCal 3 [] m_law_asked (xCons (xI 2) (xCons (xCal 4 [some 1] m_law_world (xZ 1 (xCons (xI 5) (xCons (xI 2) (xCons (xCal 2 [some 1] m_law_draw (xZ 1 (xCons (xC (.int 3)) xNil))) xNil))))) (xCons (xC (.int 0)) xNil)))) (xC (.int 1)))) (sRet (xC (.bl false))) sNx) (sSeq (sIf (tBl (x2gg dNe (xCal 3 [] m_law_asked (xCons (xI 2) (xCons (xCal 4 [some 1] m_law_world (xZ 1 (xCons (xI 5) (xCons (xCal 2 [some 1] m_law_draw (xZ 1 (xCons (xI 2) xNil))) (xCons (xCal 2 [some 1] m_law_draw (xZ 1 (xCons (xC (.int 3)) xNil))) xNil))))) (xCons (xC (.int 0)) xNil)))) (xC (.int 0)))) (sRet (xC (.bl false))) sNx) (sSeq (sSet 6 (xCal 2 [some 1] m_law_family (xZ 1 (xCons (xI 2) xNil)))) (sSeq (sSet 7 (xCal 3 [some 1] m_law_family_rows (xZ 1 (xCons (xI 2) (xCons (xI 6) xNil))))) (sSeq (sIf (tOrF (tNotF (tTru (xCal 2 [] m_law_same_all (xCons (xCal 2 [] m_feasible_of (xCons (xI 2) (xCons (xI 7) xNil))) (xCons (xI 6) xNil))))) (tBl (x2gg dLtA (xCal 3 [] m_law_asked (xCons (xI 2) (xCons (xI 7) (xCons (xC (.int 0)) xNil)))) (xC (.int 1))))) (sRet (xC (.bl false))) sNx) (sSeq (sIf (tBl (x2gg dLtA (xCal 3 [] m_law_asked (xCons (xI 2) (xCons (xTup xNil) (xCons (xC (.int 0)) xNil)))) (xC (.int 1)))) (sRet (xC (.bl false))) sNx) (sSeq (sSet 7 (xTup (xCons (xTup (xCons (xCal 1 [some 1] m_law_size (xZ 1 xNil)) (xCons (x1g dNeg (xCal 1 [some 1] m_law_size (xZ 1 xNil))) (xCons (xC (.int 0)) xNil)))) xNil))) (sSeq (sIf (tOrF (tNotF (tTru (xCal 2 [] m_law_same (xCons (xCal 2 [] m_first_ranking (xCons (xC (.int 3)) (xCons (xI 7) xNil))) (xCons (xTup (xCons (xC (.int 0)) (xCons (xC (.int 1)) (xCons (xC (.int 2)) xNil)))) xNil))))) (tBl (x2gg dNe (xCal 3 [] m_law_asked (xCons (xC (.int 3)) (xCons (xI 7) (xCons (xC (.int 0)) xNil)))) (xC (.int 3))))) (sRet (xC (.bl false))) sNx) (sSeq (sIf (tAndF (tTruP (qV 4)) (tNotF (tTru (xCal 1 [some 1] m_law_long (xZ 1 xNil))))) (sRet (xC (.bl false))) sNx) (sRet (xOr (x1g dNot (xI 3)) (xCal 1 [some 1] m_law_wide (xZ 1 xNil)))))))))))))))))))
noncomputable def m_law : List D → Rd := mkDef 8 1 [] b_law
structure Top (K : PySem.W.Frag) (mg : Str → Option Value) where
  d_is_nought : Dn K mg "is_nought" s_is_nought ["row", "some"]
  d_grown_sets : Dn K mg "grown_sets" s_grown_sets ["free_at"]
  d_rankings_by : Dn K mg "rankings_by" s_rankings_by ["many", "sets"]
  d_number_by : Dn K mg "number_by" s_number_by ["many", "sets"]
  d_first_by : Dn K mg "first_by" s_first_by ["many", "sets"]
  d_law_feed : Dn K mg "_law_feed" s_law_feed ["script"]
  d_law_draw : Dn K mg "_law_draw" s_law_draw ["feed", "many"]
  d_law_joined : Dn K mg "_law_joined" s_law_joined ["one", "other"]
  d_law_is_below : Dn K mg "_law_is_below" s_law_is_below ["row", "order"]
  d_law_orders : Dn K mg "_law_orders" s_law_orders ["many"]
  d_law_bars : Dn K mg "_law_bars" s_law_bars ["rows", "some", "rule"]
  d_law_same : Dn K mg "_law_same" s_law_same ["told", "due"]
  d_free_rules : Dn K mg "free_rules" s_free_rules ["many", "rows", "some"]
  d_law_shuffled : Dn K mg "_law_shuffled" s_law_shuffled ["feed", "things"]
  d_law_size : Dn K mg "_law_size" s_law_size ["feed"]
  d_law_fits : Dn K mg "_law_fits" s_law_fits ["rows", "order"]
  d_law_feasible : Dn K mg "_law_feasible" s_law_feasible ["many", "rows"]
  d_law_same_all : Dn K mg "_law_same_all" s_law_same_all ["told", "due"]
  d_law_lead : Dn K mg "_law_lead" s_law_lead ["feed", "order", "place"]
  d_law_link : Dn K mg "_law_link" s_law_link ["feed", "order", "place"]
  d_law_bar_row : Dn K mg "_law_bar_row" s_law_bar_row ["feed", "order", "top", "rule"]
  d_law_family : Dn K mg "_law_family" s_law_family ["feed", "many"]
  d_law_family_rows : Dn K mg "_law_family_rows" s_law_family_rows ["feed", "many", "sets"]
  d_law_rankings : Dn K mg "_law_rankings" s_law_rankings ["many", "rows"]
  d_law_world : Dn K mg "_law_world" s_law_world ["feed", "order", "top", "plain"]
  d_row_sets : Dn K mg "row_sets" s_row_sets ["many", "rows"]
  d_feasible_of : Dn K mg "feasible_of" s_feasible_of ["many", "rows"]
  d_all_rankings : Dn K mg "all_rankings" s_all_rankings ["many", "rows"]
  d_ranking_number : Dn K mg "ranking_number" s_ranking_number ["many", "rows"]
  d_first_ranking : Dn K mg "first_ranking" s_first_ranking ["many", "rows"]
  d_law_asked : Dn K mg "_law_asked" s_law_asked ["many", "rows", "only"]
  d_law_first_alone : Dn K mg "_law_first_alone" s_law_first_alone ["many", "rows"]
  d_law_long : Dn K mg "_law_long" s_law_long ["feed"]
  d_law_wide : Dn K mg "_law_wide" s_law_wide ["feed"]
  d_law : Dn K mg "law" s_law ["script"]
  cc_row_sets : Addr
  tb_row_sets : Addr
  hc_row_sets : d_row_sets.fd.code = .ref cc_row_sets
  m_bool : mg "bool" = none
  m_int : mg "int" = none
  m_isinstance : mg "isinstance" = none
  m_len : mg "len" = none
  m_list : mg "list" = none
  m_min : mg "min" = none
  m_range : mg "range" = none
  m_sorted : mg "sorted" = none
  m_tuple : mg "tuple" = none
structure Mk {u0 : Unit} [Tab0 u0] (base : Heap) {K : PySem.W.Frag} {mg : Str → Option Value} (T : Top K mg) : Prop where
  t_row_sets : LamX.TabB base mg T.cc_row_sets T.tb_row_sets
  i_row_sets : (T.tb_row_sets, lamQ "row_sets" s_row_sets) ∈ (Tab0.T : List (Addr × Str))
  j_row_sets : ∀ p ∈ (Tab0.T : List (Addr × Str)), p.1 = T.tb_row_sets → p.2 = lamQ "row_sets" s_row_sets
section
variable {P : Program} {w : World} {K : PySem.W.Frag} {mg : Str → Option Value} {base : Heap} {u0 : Unit} [J0 : Tab0 u0]
theorem ok_is_nought (T : Top K mg) (k : Nat) : FnOk P w K mg base CX0 (k + 1) T.d_is_nought.f T.d_is_nought.fd ["row", "some"] (spP K 2 [] m_is_nought) :=
 fn_p (N := ["row", "some", "rule"]) (ps := ["row", "some"]) (io := []) (k := k + 0) (body := b_is_nought) T.d_is_nought.F sc_is_nought (fun cdv A outer s H E hr =>
 (ss_cons (ss_for PassesOwn.never rfl (it_v (pv 1)) (pg_name (i := 2) sc_is_nought.nd rfl (by first | exact Or.inl rfl | exact Or.inr rfl)) (tgr_name 2)
 (ss_one (ss_if (pt_gg (op_neD hr.units) ro_ne (ixA_pp hr.units (pb_var (pv 0)) (pb_var (pv 2)) (fun _ _ => rfl)) pp_int (nomark _))
 (ss_one (ss_ret pp_bl))
 ss_nil)))
 (ss_one (ss_ret pp_bl))))
theorem wk_grown_sets {u1 : Unit} (T : Top K mg) (k : Nat) (J : Tab0 u1) (G : D → Option D) (cdv : Value) (A : Around) (outer : List Env) (s : Shared) (H : Hp) (E : XK) (hr : Room (k + 0) (A.deeper (PyProof.Rows.envOfC "grown_sets" (defScope s_grown_sets) s.heap.objs.size T.d_grown_sets.f cdv))) (act : @ActR u1 J (cxOf CX0 P w K mg base ["free_at", "found", "queue", "at", "some", "rule"] "grown_sets" (defScope s_grown_sets) T.d_grown_sets.f cdv A outer s H E).nox "free_at" 0 G) :
  PSs (cxOf CX0 P w K mg base ["free_at", "found", "queue", "at", "some", "rule"] "grown_sets" (defScope s_grown_sets) T.d_grown_sets.f cdv A outer s H E).nox (defBody s_grown_sets) (@tS u1 J K mg EhN [1, 2, 3, 4, 5] (b_grown_sets G)) :=
 ss_weakS (ss_cons (ss_set (i := 1) sc_grown_sets.nd rfl (by first | exact Or.inl rfl | exact Or.inr rfl) (pp_dnew true))
 (ss_cons (ss_set (i := 2) sc_grown_sets.nd rfl (by first | exact Or.inl rfl | exact Or.inr rfl) (pp_own (pa1 (pp_tup pa0) pa0)))
 (ss_cons (ss_set (i := 3) sc_grown_sets.nd rfl (by first | exact Or.inl rfl | exact Or.inr rfl) pp_int)
 (ss_cons (ss_while PassesOwn.never (pt_vg (op_ltA hr.units) ro_ltA (pv_var (pv 3)) (bi_p call_len ro_len (by rfl) T.m_len boot_len (pb_var (pv 2))) (nomark _))
 (ss_cons (ss_set (i := 4) sc_grown_sets.nd rfl (by first | exact Or.inl rfl | exact Or.inr rfl) (ixA_pp hr.units (pb_var (pv 2)) (pb_var (pv 3)) (fun _ _ => rfl)))
 (ss_cons (ss_aug (i := 3) ip_add ro_ip sc_grown_sets.nd rfl (by first | exact Or.inl rfl | exact Or.inr rfl) pp_int)
 (ss_one (ss_if (pt_pp (op_notIn_any hr.units) (ro_inA true) (pb_var (pv 4)) (pb_var (pv 1)) (by rfl))
 (ss_cons (ss_setD hr.units (pp_act act (pp_ice (pv 4))) (pv_var (pv 1)) (pp_place (pb_var (pv 4))))
 (ss_one (ss_for PassesOwn.never rfl (it_g (ixA_pp hr.units (pb_var (pv 1)) (pb_var (pv 4)) (fun _ _ => rfl))) (pg_name (i := 5) sc_grown_sets.nd rfl (by first | exact Or.inl rfl | exact Or.inr rfl)) (tgr_name 5)
 (ss_one (ss_expr (pp_app (pv_var (pv 2)) (bt_g call_tuple_of ro_tuple (by rfl) T.m_tuple PyProof.Rows.boot_tuple (bi_g (cr_srtV rfl (u128 hr)) ro_srtV (by rfl) T.m_sorted PyProof.Rows.boot_sorted (bin_vg op_add' ro_add (pv_var (pv 4)) (pp_tup (pa1 (pp_ice (pv 5)) pa0)))))))))))
 ss_nil)))))
 (ss_one (ss_ret (pp_take (pv 1)))))))) (by decide)
theorem ok_rankings_by (T : Top K mg) (k : Nat) : FnOk P w K mg base CX0 (k + 1) T.d_rankings_by.f T.d_rankings_by.fd ["many", "sets"] (spP K 2 [] m_rankings_by) :=
 fn_p (N := ["many", "sets", "rows", "_", "further", "begun", "rule"]) (ps := ["many", "sets"]) (io := []) (k := k + 0) (body := b_rankings_by) T.d_rankings_by.F sc_rankings_by (fun cdv A outer s H E hr =>
 (ss_cons (ss_set (i := 2) sc_rankings_by.nd rfl (by first | exact Or.inl rfl | exact Or.inr rfl) (pp_own (pa1 (pp_tup pa0) pa0)))
 (ss_cons (ss_for PassesOwn.never rfl (it_r1 (by rfl) T.m_range (pal1 (pp_place (pb_var (pv 0))) pal0)) (pg_name (i := 3) sc_rankings_by.nd rfl (by first | exact Or.inl rfl | exact Or.inr rfl)) (tgr_name 3)
 (ss_cons (ss_set (i := 4) sc_rankings_by.nd rfl (by first | exact Or.inl rfl | exact Or.inr rfl) (pp_own pa0))
 (ss_cons (ss_for PassesOwn.never rfl (it_v (pv 2)) (pg_name (i := 5) sc_rankings_by.nd rfl (by first | exact Or.inl rfl | exact Or.inr rfl)) (tgr_name 5)
 (ss_one (ss_for PassesOwn.never rfl (it_g (ixA_vg hr.units (pv_var (pv 1)) (bt_g call_tuple_of ro_tuple (by rfl) T.m_tuple PyProof.Rows.boot_tuple (bi_p (cr_srtV rfl (u128 hr)) ro_srtV (by rfl) T.m_sorted PyProof.Rows.boot_sorted (pb_var (pv 5)))) (fun _ _ => rfl))) (pg_name (i := 6) sc_rankings_by.nd rfl (by first | exact Or.inl rfl | exact Or.inr rfl)) (tgr_name 6)
 (ss_one (ss_expr (pp_app (pv_var (pv 4)) (bin_vg op_add' ro_add (pv_var (pv 5)) (pp_tup (pa1 (pp_ice (pv 6)) pa0)))))))))
 (ss_one (ss_set (i := 2) sc_rankings_by.nd rfl (by first | exact Or.inl rfl | exact Or.inr rfl) (pp_ice (pv 4)))))))
 (ss_one (ss_ret (bi_p (cr_srtV rfl (u128 hr)) ro_srtV (by rfl) T.m_sorted PyProof.Rows.boot_sorted (pb_var (pv 2))))))))
theorem ok_number_by (T : Top K mg) (k : Nat) : FnOk P w K mg base CX0 (k + 1) T.d_number_by.f T.d_number_by.fd ["many", "sets"] (spP K 2 [] m_number_by) :=
 fn_p (N := ["many", "sets", "counts", "size", "some", "rule", "other"]) (ps := ["many", "sets"]) (io := []) (k := k + 0) (body := b_number_by) T.d_number_by.F sc_number_by (fun cdv A outer s H E hr =>
 (ss_cons (ss_set (i := 2) sc_number_by.nd rfl (by first | exact Or.inl rfl | exact Or.inr rfl) (pp_disp1 (ltu hr.units) (pp_tup pa0) pp_int))
 (ss_cons (ss_for PassesOwn.never rfl (it_r1 (by rfl) T.m_range (pal1 (pp_place (pb_var (pv 0))) pal0)) (pg_name (i := 3) sc_number_by.nd rfl (by first | exact Or.inl rfl | exact Or.inr rfl)) (tgr_name 3)
 (ss_one (ss_for PassesOwn.never rfl (it_g (bi_p (cr_srtV rfl (u128 hr)) ro_srtV (by rfl) T.m_sorted PyProof.Rows.boot_sorted (pb_var (pv 1)))) (pg_name (i := 4) sc_number_by.nd rfl (by first | exact Or.inl rfl | exact Or.inr rfl)) (tgr_name 4)
 (ss_one (ss_if (pt_gp (op_eqD hr.units) ro_eq (bi_p call_len ro_len (by rfl) T.m_len boot_len (pb_var (pv 4))) (pb_var (pv 3)) (nomark _))
 (ss_one (ss_for PassesOwn.never rfl (it_g (ixA_pp hr.units (pb_var (pv 1)) (pb_var (pv 4)) (fun _ _ => rfl))) (pg_name (i := 5) sc_number_by.nd rfl (by first | exact Or.inl rfl | exact Or.inr rfl)) (tgr_name 5)
 (ss_cons (ss_set (i := 6) sc_number_by.nd rfl (by first | exact Or.inl rfl | exact Or.inr rfl) (bt_g call_tuple_of ro_tuple (by rfl) T.m_tuple PyProof.Rows.boot_tuple (bi_g (cr_srtV rfl (u128 hr)) ro_srtV (by rfl) T.m_sorted PyProof.Rows.boot_sorted (bin_vg op_add' ro_add (pv_var (pv 4)) (pp_tup (pa1 (pp_ice (pv 5)) pa0))))))
 (ss_one (ss_setD hr.units (bin_gg op_add' ro_add (pp_get (ltu hr.units) (pv_var (pv 2)) (pp_ice (pv 6)) pp_int ⟨by rfl, by rfl, by rfl, by rfl⟩) (ixA_pp hr.units (pb_var (pv 2)) (pb_var (pv 4)) (fun _ _ => rfl))) (pv_var (pv 2)) (pp_place (pb_var (pv 6))))))))
 ss_nil)))))
 (ss_one (ss_ret (pp_get (ltu hr.units) (pv_var (pv 2)) (pp_rngT rfl (by rfl) T.m_tuple (by rfl) T.m_range (pp_place (pb_var (pv 0)))) pp_int ⟨by rfl, by rfl, by rfl, by rfl⟩))))))
theorem ok_first_by (T : Top K mg) (k : Nat) : FnOk P w K mg base CX0 (k + 1) T.d_first_by.f T.d_first_by.fd ["many", "sets"] (spP K 2 [] m_first_by) :=
 fn_p (N := ["many", "sets", "begun"]) (ps := ["many", "sets"]) (io := []) (k := k + 0) (body := b_first_by) T.d_first_by.F sc_first_by (fun cdv A outer s H E hr =>
 (ss_cons (ss_if (pt_gp (op_notIn_any hr.units) (ro_inA true) (pp_rngT rfl (by rfl) T.m_tuple (by rfl) T.m_range (pp_place (pb_var (pv 0)))) (pb_var (pv 1)) (by rfl))
 (ss_one (ss_ret pp_non))
 ss_nil)
 (ss_cons (ss_set (i := 2) sc_first_by.nd rfl (by first | exact Or.inl rfl | exact Or.inr rfl) (pp_tup pa0))
 (ss_cons (ss_while PassesOwn.never (pt_gp (op_ltA hr.units) ro_ltA (bi_p call_len ro_len (by rfl) T.m_len boot_len (pb_var (pv 2))) (pb_var (pv 0)) (nomark _))
 (ss_one (ss_set (i := 2) sc_first_by.nd rfl (by first | exact Or.inl rfl | exact Or.inr rfl) (bin_vg op_add' ro_add (pv_var (pv 2)) (pp_tup (pa1 (ixA_gg hr.units (ixA_vg hr.units (pv_var (pv 1)) (bt_g call_tuple_of ro_tuple (by rfl) T.m_tuple PyProof.Rows.boot_tuple (bi_p (cr_srtV rfl (u128 hr)) ro_srtV (by rfl) T.m_sorted PyProof.Rows.boot_sorted (pb_var (pv 2)))) (fun _ _ => rfl)) pp_int (fun _ _ => rfl)) pa0))))))
 (ss_one (ss_ret (pp_take (pv 2))))))))
theorem ok_law_feed (T : Top K mg) (k : Nat) : FnOk P w K mg base CX0 (k + 1) T.d_law_feed.f T.d_law_feed.fd ["script"] (spP K 1 [] m_law_feed) :=
 fn_p (N := ["script", "cells", "cell"]) (ps := ["script"]) (io := []) (k := k + 0) (body := b_law_feed) T.d_law_feed.F sc_law_feed (fun cdv A outer s H E hr =>
 (ss_cons (ss_setLc (i := 1) (own := [("cell", 2)]) rfl sc_law_feed.nd rfl rfl (by rfl) (it_g (sl_v (pv_var (pv 0)) po_n (po_s pp_int))) (blkOk_by (own := [("cell", 2)]) (N := ["script", "cells", "cell"]) (sc := defScope s_law_feed) (by decide +kernel)) (tgr_name 2) (fun _ _ _ _ _ => (pg_name (i := 2) sc_law_feed.nd rfl (by first | exact Or.inl rfl | exact Or.inr rfl))) (fun _ _ _ _ _ => pts0) (fun _ _ _ _ _ => (bt_p call_int1 ro_int (by rfl) T.m_int PyProof.Rows.boot_int (pb_var (pv 2)))))
 (ss_one (ss_ret (pp_own (pa1 (pp_ice (pv 1)) (pa1 pp_int (pa1 pp_int (pa1 (bin_gg op_mod ro_mod (bt_g call_int1 ro_int (by rfl) T.m_int PyProof.Rows.boot_int (bin_gg op_add' ro_add (bin_gg op_mulA ro_mulA (bi_p call_len ro_len (by rfl) T.m_len boot_len (pb_var (pv 1))) pp_int) pp_int)) pp_int) pa0)))))))))
theorem ok_law_draw (T : Top K mg) (k : Nat) : FnOk P w K mg base CX0 (k + 1) T.d_law_draw.f T.d_law_draw.fd ["feed", "many"] (spP K 2 [0] m_law_draw) :=
 fn_p (N := ["feed", "many", "cell", "pick"]) (ps := ["feed", "many"]) (io := [0]) (k := k + 0) (body := b_law_draw) T.d_law_draw.F sc_law_draw (fun cdv A outer s H E hr =>
 (ss_cons (ss_if (PW.pt (pw_an (pt_gg (op_eqD hr.units) ro_eq (ixA_vg hr.units (pv_var (pv 0)) pp_int (fun _ _ => rfl)) pp_int (nomark _)) (pw_and1 (pt_gg (op_ltA hr.units) ro_ltA (ixA_vg hr.units (pv_var (pv 0)) pp_int (fun _ _ => rfl)) (bi_g call_len ro_len (by rfl) T.m_len boot_len (ixA_vg hr.units (pv_var (pv 0)) pp_int (fun _ _ => rfl))) (nomark _)))))
 (ss_cons (ss_set (i := 2) sc_law_draw.nd rfl (by first | exact Or.inl rfl | exact Or.inr rfl) (ixA_gg hr.units (ixA_vg hr.units (pv_var (pv 0)) pp_int (fun _ _ => rfl)) (ixA_vg hr.units (pv_var (pv 0)) pp_int (fun _ _ => rfl)) (fun _ _ => rfl)))
 (ss_cons (ss_setI (bin_gg op_add' ro_add (ixA_vg hr.units (pv_var (pv 0)) pp_int (fun _ _ => rfl)) pp_int) (pv_var (pv 0)) pp_int)
 (ss_cons (ss_if (pt_vg (op_ltA hr.units) ro_ltA (pv_var (pv 2)) pp_int (nomark _))
 (ss_one (ss_set (i := 2) sc_law_draw.nd rfl (by first | exact Or.inl rfl | exact Or.inr rfl) (neg_g (pp_place (pb_var (pv 2))))))
 ss_nil)
 (ss_one (ss_if (pt_vg (op_ltA hr.units) ro_ltA (pv_var (pv 2)) (bin_gg op_powW ro_pow pp_int pp_int) (nomark _))
 (ss_one (ss_setI (bin_gg op_mod ro_mod (bt_g call_int1 ro_int (by rfl) T.m_int PyProof.Rows.boot_int (bin_gg op_add' ro_add (bin_gg op_add' ro_add (bin_gg op_mulA ro_mulA (ixA_vg hr.units (pv_var (pv 0)) pp_int (fun _ _ => rfl)) pp_int) (bin_vg op_mulA ro_mulA (pv_var (pv 2)) pp_int)) pp_int)) pp_int) (pv_var (pv 0)) pp_int))
 (ss_one (ss_setI (bin_gg op_mod ro_mod (bt_p call_int1 ro_int (by rfl) T.m_int PyProof.Rows.boot_int (pb_var (pv 2))) (bin_gg op_powW ro_pow (bin_gg op_powW ro_pow pp_int pp_int) pp_int)) (pv_var (pv 0)) pp_int)))))))
 ss_nil)
 (ss_cons (ss_if (pt_gg (op_gtA hr.units) ro_gtA (ixA_vg hr.units (pv_var (pv 0)) pp_int (fun _ _ => rfl)) pp_int (nomark _))
 (ss_cons (ss_set (i := 3) sc_law_draw.nd rfl (by first | exact Or.inl rfl | exact Or.inr rfl) (bin_gp op_mod ro_mod (bt_g call_int1 ro_int (by rfl) T.m_int PyProof.Rows.boot_int (ixA_vg hr.units (pv_var (pv 0)) pp_int (fun _ _ => rfl))) (pb_var (pv 1))))
 (ss_cons (ss_setI (bin_gp op_fdiv ro_div (bt_g call_int1 ro_int (by rfl) T.m_int PyProof.Rows.boot_int (ixA_vg hr.units (pv_var (pv 0)) pp_int (fun _ _ => rfl))) (pb_var (pv 1))) (pv_var (pv 0)) pp_int)
 (ss_one (ss_ret (pp_take (pv 3))))))
 ss_nil)
 (ss_cons (ss_setI (bin_gg op_mod ro_mod (bt_g call_int1 ro_int (by rfl) T.m_int PyProof.Rows.boot_int (bin_gg op_add' ro_add (bin_gg op_mulA ro_mulA (ixA_vg hr.units (pv_var (pv 0)) pp_int (fun _ _ => rfl)) pp_int) pp_int)) pp_int) (pv_var (pv 0)) pp_int)
 (ss_one (ss_ret (bin_gp op_mod ro_mod (bt_g call_int1 ro_int (by rfl) T.m_int PyProof.Rows.boot_int (bin_gg op_fdiv ro_div (ixA_vg hr.units (pv_var (pv 0)) pp_int (fun _ _ => rfl)) pp_int)) (pb_var (pv 1)))))))))
theorem ok_law_joined (T : Top K mg) (k : Nat) : FnOk P w K mg base CX0 (k + 1) T.d_law_joined.f T.d_law_joined.fd ["one", "other"] (spP K 2 [] m_law_joined) :=
 fn_p (N := ["one", "other", "rule"]) (ps := ["one", "other"]) (io := []) (k := k + 0) (body := b_law_joined) T.d_law_joined.F sc_law_joined (fun cdv A outer s H E hr =>
 (ss_one (ss_ret (bt_g call_tuple_of ro_tuple (by rfl) T.m_tuple PyProof.Rows.boot_tuple (bi_g (cr_srtV rfl (u128 hr)) ro_srtV (by rfl) T.m_sorted PyProof.Rows.boot_sorted (bin_gg op_add' ro_add (bt_p call_list_of ro_list (by rfl) T.m_list PyProof.Rows.boot_list (pb_var (pv 0))) (pp_comp (own := [("rule", 2)]) rfl sc_law_joined.nd (it_v (pv 1)) (blkOk_by (own := [("rule", 2)]) (N := ["one", "other", "rule"]) (sc := defScope s_law_joined) (by decide +kernel)) (tgr_name 2) (fun _ _ _ _ _ => (pg_name (i := 2) sc_law_joined.nd rfl (by first | exact Or.inl rfl | exact Or.inr rfl))) (fun _ _ _ _ _ => (pts1 (pt_pp (op_notIn_any hr.units) (ro_inA true) (pb_var (pv 2)) (pb_var (pv 0)) (by rfl)))) (fun _ _ _ _ _ => (pp_ice (pv 2))))))))))
theorem ok_law_is_below (T : Top K mg) (k : Nat) : FnOk P w K mg base CX0 (k + 1) T.d_law_is_below.f T.d_law_is_below.fd ["row", "order"] (spP K 2 [] m_law_is_below) :=
 fn_p (N := ["row", "order", "rule"]) (ps := ["row", "order"]) (io := []) (k := k + 0) (body := b_law_is_below) T.d_law_is_below.F sc_law_is_below (fun cdv A outer s H E hr =>
 (ss_cons (ss_for PassesOwn.never rfl (it_v (pv 1)) (pg_name (i := 2) sc_law_is_below.nd rfl (by first | exact Or.inl rfl | exact Or.inr rfl)) (tgr_name 2)
 (ss_one (ss_if (pt_gg (op_neD hr.units) ro_ne (ixA_pp hr.units (pb_var (pv 0)) (pb_var (pv 2)) (fun _ _ => rfl)) pp_int (nomark _))
 (ss_one (ss_ret (cmp_gg (op_ltA hr.units) ro_ltA (ixA_pp hr.units (pb_var (pv 0)) (pb_var (pv 2)) (fun _ _ => rfl)) pp_int (nomark _))))
 ss_nil)))
 (ss_one (ss_ret pp_bl))))
theorem ok_law_orders (T : Top K mg) (k : Nat) : FnOk P w K mg base CX0 (k + 1) T.d_law_orders.f T.d_law_orders.fd ["many"] (spP K 1 [] m_law_orders) :=
 fn_p (N := ["many", "orders", "size", "longer", "order", "rule"]) (ps := ["many"]) (io := []) (k := k + 0) (body := b_law_orders) T.d_law_orders.F sc_law_orders (fun cdv A outer s H E hr =>
 (ss_cons (ss_set (i := 1) sc_law_orders.nd rfl (by first | exact Or.inl rfl | exact Or.inr rfl) (pp_own (pa1 (pp_tup pa0) pa0)))
 (ss_cons (ss_for PassesOwn.never rfl (it_r1 (by rfl) T.m_range (pal1 (pp_place (pb_var (pv 0))) pal0)) (pg_name (i := 2) sc_law_orders.nd rfl (by first | exact Or.inl rfl | exact Or.inr rfl)) (tgr_name 2)
 (ss_cons (ss_set (i := 3) sc_law_orders.nd rfl (by first | exact Or.inl rfl | exact Or.inr rfl) (pp_own pa0))
 (ss_cons (ss_for PassesOwn.never rfl (it_v (pv 1)) (pg_name (i := 4) sc_law_orders.nd rfl (by first | exact Or.inl rfl | exact Or.inr rfl)) (tgr_name 4)
 (ss_one (ss_for PassesOwn.never rfl (it_r1 (by rfl) T.m_range (pal1 (pp_place (pb_var (pv 0))) pal0)) (pg_name (i := 5) sc_law_orders.nd rfl (by first | exact Or.inl rfl | exact Or.inr rfl)) (tgr_name 5)
 (ss_one (ss_if (pt_pp (op_notIn_any hr.units) (ro_inA true) (pb_var (pv 5)) (pb_var (pv 4)) (by rfl))
 (ss_one (ss_expr (pp_app (pv_var (pv 3)) (bin_vg op_add' ro_add (pv_var (pv 4)) (pp_tup (pa1 (pp_ice (pv 5)) pa0))))))
 ss_nil)))))
 (ss_one (ss_set (i := 1) sc_law_orders.nd rfl (by first | exact Or.inl rfl | exact Or.inr rfl) (pp_ice (pv 3)))))))
 (ss_one (ss_ret (pp_take (pv 1)))))))
theorem ok_law_bars (T : Top K mg) (k : Nat) : FnOk P w K mg base CX0 (k + 1) T.d_law_bars.f T.d_law_bars.fd ["rows", "some", "rule"] (spP K 3 [] m_law_bars) :=
 fn_p (N := ["rows", "some", "rule", "row", "noughts", "other"]) (ps := ["rows", "some", "rule"]) (io := []) (k := k + 0) (body := b_law_bars) T.d_law_bars.F sc_law_bars (fun cdv A outer s H E hr =>
 (ss_cons (ss_for PassesOwn.never rfl (it_v (pv 0)) (pg_name (i := 3) sc_law_bars.nd rfl (by first | exact Or.inl rfl | exact Or.inr rfl)) (tgr_name 3)
 (ss_one (ss_if (pt_gg (op_ltA hr.units) ro_ltA (ixA_pp hr.units (pb_var (pv 3)) (pb_var (pv 2)) (fun _ _ => rfl)) pp_int (nomark _))
 (ss_cons (ss_setLc (i := 4) (own := [("other", 5)]) rfl sc_law_bars.nd rfl rfl (by rfl) (it_v (pv 1)) (blkOk_by (own := [("other", 5)]) (N := ["rows", "some", "rule", "row", "noughts", "other"]) (sc := defScope s_law_bars) (by decide +kernel)) (tgr_name 5) (fun _ _ _ _ _ => (pg_name (i := 5) sc_law_bars.nd rfl (by first | exact Or.inl rfl | exact Or.inr rfl))) (fun _ _ _ _ _ => (pts1 (pt_gg (op_eqD hr.units) ro_eq (ixA_pp hr.units (pb_var (pv 3)) (pb_var (pv 5)) (fun _ _ => rfl)) pp_int (nomark _)))) (fun _ _ _ _ _ => (pp_ice (pv 5))))
 (ss_one (ss_if (pt_gg (op_eqD hr.units) ro_eq (bi_p call_len ro_len (by rfl) T.m_len boot_len (pb_var (pv 4))) (bi_p call_len ro_len (by rfl) T.m_len boot_len (pb_var (pv 1))) (nomark _))
 (ss_one (ss_ret pp_bl))
 ss_nil)))
 ss_nil)))
 (ss_one (ss_ret pp_bl))))
theorem ok_law_same (T : Top K mg) (k : Nat) : FnOk P w K mg base CX0 (k + 1) T.d_law_same.f T.d_law_same.fd ["told", "due"] (spP K 2 [] m_law_same) :=
 fn_p (N := ["told", "due", "place", "one"]) (ps := ["told", "due"]) (io := []) (k := k + 0) (body := b_law_same) T.d_law_same.F sc_law_same (fun cdv A outer s H E hr =>
 (ss_cons (ss_if (pt_vg op_isX (ro_isX false) (pv_var (pv 1)) pp_non (nomark _))
 (ss_one (ss_ret (cmp_vg op_isX (ro_isX false) (pv_var (pv 0)) pp_non (nomark _))))
 ss_nil)
 (ss_cons (ss_if (pt_tru (isi_p (by rfl) T.m_isinstance (by rfl) T.m_int PyProof.Rows.boot_int (pb_var (pv 1))))
 (ss_one (ss_ret (pp_and (isi_p (by rfl) T.m_isinstance (by rfl) T.m_int PyProof.Rows.boot_int (pb_var (pv 0))) (pp_and (pp_not (isi_p (by rfl) T.m_isinstance (by rfl) T.m_bool PyProof.Rows.boot_bool (pb_var (pv 0)))) (pe_one (cmp_pp (op_eqD hr.units) ro_eq (pb_var (pv 0)) (pb_var (pv 1)) (nomark _)))))))
 ss_nil)
 (ss_cons (ss_if (PW.pt (pw_orr (pt_no (pt_tru (isi_p (by rfl) T.m_isinstance (by rfl) T.m_tuple PyProof.Rows.boot_tuple (pb_var (pv 0))))) (pw_or1 (pt_gg (op_neD hr.units) ro_ne (bi_p call_len ro_len (by rfl) T.m_len boot_len (pb_var (pv 0))) (bi_p call_len ro_len (by rfl) T.m_len boot_len (pb_var (pv 1))) (nomark _)))))
 (ss_one (ss_ret pp_bl))
 ss_nil)
 (ss_cons (ss_for PassesOwn.never rfl (it_r1 (by rfl) T.m_range (pal1 (bi_p call_len ro_len (by rfl) T.m_len boot_len (pb_var (pv 1))) pal0)) (pg_name (i := 2) sc_law_same.nd rfl (by first | exact Or.inl rfl | exact Or.inr rfl)) (tgr_name 2)
 (ss_cons (ss_set (i := 3) sc_law_same.nd rfl (by first | exact Or.inl rfl | exact Or.inr rfl) (ixA_pp hr.units (pb_var (pv 0)) (pb_var (pv 2)) (fun _ _ => rfl)))
 (ss_one (ss_if (PW.pt (pw_orr (pt_no (pt_tru (isi_p (by rfl) T.m_isinstance (by rfl) T.m_int PyProof.Rows.boot_int (pb_var (pv 3))))) (pw_orr (pt_tru (isi_p (by rfl) T.m_isinstance (by rfl) T.m_bool PyProof.Rows.boot_bool (pb_var (pv 3)))) (pw_or1 (pt_vg (op_neD hr.units) ro_ne (pv_var (pv 3)) (ixA_pp hr.units (pb_var (pv 1)) (pb_var (pv 2)) (fun _ _ => rfl)) (nomark _))))))
 (ss_one (ss_ret pp_bl))
 ss_nil))))
 (ss_one (ss_ret pp_bl)))))))
theorem ok_free_rules (T : Top K mg) (k : Nat) : FnOk P w K mg base CX0 (k + 2) T.d_free_rules.f T.d_free_rules.fd ["many", "rows", "some"] (spP K 3 [] m_free_rules) :=
 fn_p (N := ["many", "rows", "some", "tied", "told", "rule", "row"]) (ps := ["many", "rows", "some"]) (io := []) (k := k + 1) (body := b_free_rules) T.d_free_rules.F sc_free_rules (fun cdv A outer s H E hr =>
 (ss_cons (ss_setLc (i := 3) (own := [("row", 6)]) rfl sc_free_rules.nd rfl rfl (by rfl) (it_v (pv 1)) (blkOk_by (own := [("row", 6)]) (N := ["many", "rows", "some", "tied", "told", "rule", "row"]) (sc := defScope s_free_rules) (by decide +kernel)) (tgr_name 6) (fun _ _ _ _ _ => (pg_name (i := 6) sc_free_rules.nd rfl (by first | exact Or.inl rfl | exact Or.inr rfl))) (fun _ _ _ _ _ => (pts1 (pt_tru (pp_cal (js := []) 2 (ok_is_nought T (k + 0)) hr (by rfl) T.d_is_nought.g T.d_is_nought.F.kp T.d_is_nought.b (pal1 (pp_ice (pv 6)) (pal1 (pp_ice (pv 2)) pal0)))))) (fun _ _ _ _ _ => (pp_ice (pv 6))))
 (ss_cons (ss_set (i := 4) sc_free_rules.nd rfl (by first | exact Or.inl rfl | exact Or.inr rfl) (pp_own pa0))
 (ss_cons (ss_for PassesOwn.never rfl (it_r1 (by rfl) T.m_range (pal1 (pp_place (pb_var (pv 0))) pal0)) (pg_name (i := 5) sc_free_rules.nd rfl (by first | exact Or.inl rfl | exact Or.inr rfl)) (tgr_name 5)
 (ss_one (ss_if (PW.pt (pw_an (pt_pp (op_notIn_any hr.units) (ro_inA true) (pb_var (pv 5)) (pb_var (pv 2)) (by rfl)) (pw_and1 (pt_no (pt_tru (pp_comp (own := [("row", 6)]) rfl sc_free_rules.nd (it_v (pv 3)) (blkOk_by (own := [("row", 6)]) (N := ["many", "rows", "some", "tied", "told", "rule", "row"]) (sc := defScope s_free_rules) (by decide +kernel)) (tgr_name 6) (fun _ _ _ _ _ => (pg_name (i := 6) sc_free_rules.nd rfl (by first | exact Or.inl rfl | exact Or.inr rfl))) (fun _ _ _ _ _ => (pts1 (pt_gg (op_ltA hr.units) ro_ltA (ixA_pp hr.units (pb_var (pv 6)) (pb_var (pv 5)) (fun _ _ => rfl)) pp_int (nomark _)))) (fun _ _ _ _ _ => (pp_ice (pv 6)))))))))
 (ss_one (ss_expr (pp_app (pv_var (pv 4)) (pp_ice (pv 5)))))
 ss_nil)))
 (ss_one (ss_ret (bt_p call_tuple_of ro_tuple (by rfl) T.m_tuple PyProof.Rows.boot_tuple (pb_var (pv 4)))))))))
theorem ok_law_shuffled (T : Top K mg) (k : Nat) : FnOk P w K mg base CX0 (k + 2) T.d_law_shuffled.f T.d_law_shuffled.fd ["feed", "things"] (spP K 2 [0] m_law_shuffled) :=
 fn_p (N := ["feed", "things", "left", "out", "place"]) (ps := ["feed", "things"]) (io := [0]) (k := k + 1) (body := b_law_shuffled) T.d_law_shuffled.F sc_law_shuffled (fun cdv A outer s H E hr =>
 (ss_cons (ss_set (i := 2) sc_law_shuffled.nd rfl (by first | exact Or.inl rfl | exact Or.inr rfl) (bt_p call_list_of ro_list (by rfl) T.m_list PyProof.Rows.boot_list (pb_var (pv 1))))
 (ss_cons (ss_set (i := 3) sc_law_shuffled.nd rfl (by first | exact Or.inl rfl | exact Or.inr rfl) (pp_own pa0))
 (ss_cons (ss_for PassesOwn.never rfl (it_r1 (by rfl) T.m_range (pal1 (bi_p call_len ro_len (by rfl) T.m_len boot_len (pb_var (pv 1))) pal0)) (pg_name (i := 4) sc_law_shuffled.nd rfl (by first | exact Or.inl rfl | exact Or.inr rfl)) (tgr_name 4)
 (ss_one (ss_expr (pp_app (pv_var (pv 3)) (pp_popAt (pv_var (pv 2)) (pp_cal (js := [some 0]) 2 (ok_law_draw T (k + 0)) hr (by rfl) T.d_law_draw.g T.d_law_draw.F.kp T.d_law_draw.b (palz (pv 0) (pal1 (bi_p call_len ro_len (by rfl) T.m_len boot_len (pb_var (pv 2))) pal0))))))))
 (ss_one (ss_ret (pp_take (pv 3))))))))
theorem ok_law_size (T : Top K mg) (k : Nat) : FnOk P w K mg base CX0 (k + 2) T.d_law_size.f T.d_law_size.fd ["feed"] (spP K 1 [0] m_law_size) :=
 fn_p (N := ["feed", "kind"]) (ps := ["feed"]) (io := [0]) (k := k + 1) (body := b_law_size) T.d_law_size.F sc_law_size (fun cdv A outer s H E hr =>
 (ss_cons (ss_set (i := 1) sc_law_size.nd rfl (by first | exact Or.inl rfl | exact Or.inr rfl) (pp_cal (js := [some 0]) 2 (ok_law_draw T (k + 0)) hr (by rfl) T.d_law_draw.g T.d_law_draw.F.kp T.d_law_draw.b (palz (pv 0) (pal1 pp_int pal0))))
 (ss_cons (ss_if (pt_vg (op_ltA hr.units) ro_ltA (pv_var (pv 1)) pp_int (nomark _))
 (ss_one (ss_ret (bin_gp op_add' ro_add pp_int (pb_var (pv 1)))))
 ss_nil)
 (ss_cons (ss_if (pt_vg (op_eqD hr.units) ro_eq (pv_var (pv 1)) pp_int (nomark _))
 (ss_one (ss_ret (bin_gg op_add' ro_add pp_int (pp_cal (js := [some 0]) 2 (ok_law_draw T (k + 0)) hr (by rfl) T.d_law_draw.g T.d_law_draw.F.kp T.d_law_draw.b (palz (pv 0) (pal1 pp_int pal0))))))
 ss_nil)
 (ss_cons (ss_if (pt_vg (op_eqD hr.units) ro_eq (pv_var (pv 1)) pp_int (nomark _))
 (ss_one (ss_ret (bin_gg op_sub ro_sub (bin_gg op_powW ro_pow pp_int pp_int) (pp_cal (js := [some 0]) 2 (ok_law_draw T (k + 0)) hr (by rfl) T.d_law_draw.g T.d_law_draw.F.kp T.d_law_draw.b (palz (pv 0) (pal1 pp_int pal0))))))
 ss_nil)
 (ss_one (ss_ret (bin_gg op_add' ro_add pp_int (pp_cal (js := [some 0]) 2 (ok_law_draw T (k + 0)) hr (by rfl) T.d_law_draw.g T.d_law_draw.F.kp T.d_law_draw.b (palz (pv 0) (pal1 (bin_gg op_powW ro_pow pp_int pp_int) pal0)))))))))))
theorem ok_law_fits (T : Top K mg) (k : Nat) : FnOk P w K mg base CX0 (k + 2) T.d_law_fits.f T.d_law_fits.fd ["rows", "order"] (spP K 2 [] m_law_fits) :=
 fn_p (N := ["rows", "order", "row"]) (ps := ["rows", "order"]) (io := []) (k := k + 1) (body := b_law_fits) T.d_law_fits.F sc_law_fits (fun cdv A outer s H E hr =>
 (ss_cons (ss_for PassesOwn.never rfl (it_v (pv 0)) (pg_name (i := 2) sc_law_fits.nd rfl (by first | exact Or.inl rfl | exact Or.inr rfl)) (tgr_name 2)
 (ss_one (ss_if (pt_tru (pp_cal (js := []) 2 (ok_law_is_below T (k + 0)) hr (by rfl) T.d_law_is_below.g T.d_law_is_below.F.kp T.d_law_is_below.b (pal1 (pp_ice (pv 2)) (pal1 (pp_ice (pv 1)) pal0))))
 (ss_one (ss_ret pp_bl))
 ss_nil)))
 (ss_one (ss_ret pp_bl))))
theorem ok_law_feasible (T : Top K mg) (k : Nat) : FnOk P w K mg base CX0 (k + 2) T.d_law_feasible.f T.d_law_feasible.fd ["many", "rows"] (spP K 2 [] m_law_feasible) :=
 fn_p (N := ["many", "rows", "sets", "layer", "size", "more", "some", "rule", "longer"]) (ps := ["many", "rows"]) (io := []) (k := k + 1) (body := b_law_feasible) T.d_law_feasible.F sc_law_feasible (fun cdv A outer s H E hr =>
 (ss_cons (ss_set (i := 2) sc_law_feasible.nd rfl (by first | exact Or.inl rfl | exact Or.inr rfl) (pp_own (pa1 (pp_tup pa0) pa0)))
 (ss_cons (ss_set (i := 3) sc_law_feasible.nd rfl (by first | exact Or.inl rfl | exact Or.inr rfl) (pp_own (pa1 (pp_tup pa0) pa0)))
 (ss_cons (ss_for PassesOwn.never rfl (it_r1 (by rfl) T.m_range (pal1 (pp_place (pb_var (pv 0))) pal0)) (pg_name (i := 4) sc_law_feasible.nd rfl (by first | exact Or.inl rfl | exact Or.inr rfl)) (tgr_name 4)
 (ss_cons (ss_set (i := 5) sc_law_feasible.nd rfl (by first | exact Or.inl rfl | exact Or.inr rfl) (pp_own pa0))
 (ss_cons (ss_for PassesOwn.never rfl (it_v (pv 3)) (pg_name (i := 6) sc_law_feasible.nd rfl (by first | exact Or.inl rfl | exact Or.inr rfl)) (tgr_name 6)
 (ss_one (ss_for PassesOwn.never rfl (it_r1 (by rfl) T.m_range (pal1 (pp_place (pb_var (pv 0))) pal0)) (pg_name (i := 7) sc_law_feasible.nd rfl (by first | exact Or.inl rfl | exact Or.inr rfl)) (tgr_name 7)
 (ss_cons (ss_set (i := 8) sc_law_feasible.nd rfl (by first | exact Or.inl rfl | exact Or.inr rfl) (pp_cal (js := []) 2 (ok_law_joined T (k + 0)) hr (by rfl) T.d_law_joined.g T.d_law_joined.F.kp T.d_law_joined.b (pal1 (pp_ice (pv 6)) (pal1 (pp_tup (pa1 (pp_ice (pv 7)) pa0)) pal0))))
 (ss_one (ss_if (PW.pt (pw_an (pt_pp (op_notIn_any hr.units) (ro_inA true) (pb_var (pv 7)) (pb_var (pv 6)) (by rfl)) (pw_an (pt_pp (op_notIn_any hr.units) (ro_inA true) (pb_var (pv 8)) (pb_var (pv 5)) (by rfl)) (pw_and1 (pt_no (pt_tru (pp_cal (js := []) 3 (ok_law_bars T (k + 0)) hr (by rfl) T.d_law_bars.g T.d_law_bars.F.kp T.d_law_bars.b (pal1 (pp_ice (pv 1)) (pal1 (pp_ice (pv 6)) (pal1 (pp_ice (pv 7)) pal0))))))))))
 (ss_one (ss_expr (pp_app (pv_var (pv 5)) (pp_ice (pv 8)))))
 ss_nil))))))
 (ss_cons (ss_set (i := 3) sc_law_feasible.nd rfl (by first | exact Or.inl rfl | exact Or.inr rfl) (pp_ice (pv 5)))
 (ss_one (ss_set (i := 2) sc_law_feasible.nd rfl (by first | exact Or.inl rfl | exact Or.inr rfl) (bin_pp op_addA ro_addA (pb_var (pv 2)) (pb_var (pv 5)))))))))
 (ss_one (ss_ret (bt_g call_tuple_of ro_tuple (by rfl) T.m_tuple PyProof.Rows.boot_tuple (bi_p (cr_srtV rfl (u128 hr)) ro_srtV (by rfl) T.m_sorted PyProof.Rows.boot_sorted (pb_var (pv 2))))))))))
theorem ok_law_same_all (T : Top K mg) (k : Nat) : FnOk P w K mg base CX0 (k + 2) T.d_law_same_all.f T.d_law_same_all.fd ["told", "due"] (spP K 2 [] m_law_same_all) :=
 fn_p (N := ["told", "due", "place"]) (ps := ["told", "due"]) (io := []) (k := k + 1) (body := b_law_same_all) T.d_law_same_all.F sc_law_same_all (fun cdv A outer s H E hr =>
 (ss_cons (ss_if (PW.pt (pw_orr (pt_no (pt_tru (isi_p (by rfl) T.m_isinstance (by rfl) T.m_tuple PyProof.Rows.boot_tuple (pb_var (pv 0))))) (pw_or1 (pt_gg (op_neD hr.units) ro_ne (bi_p call_len ro_len (by rfl) T.m_len boot_len (pb_var (pv 0))) (bi_p call_len ro_len (by rfl) T.m_len boot_len (pb_var (pv 1))) (nomark _)))))
 (ss_one (ss_ret pp_bl))
 ss_nil)
 (ss_cons (ss_for PassesOwn.never rfl (it_r1 (by rfl) T.m_range (pal1 (bi_p call_len ro_len (by rfl) T.m_len boot_len (pb_var (pv 1))) pal0)) (pg_name (i := 2) sc_law_same_all.nd rfl (by first | exact Or.inl rfl | exact Or.inr rfl)) (tgr_name 2)
 (ss_one (ss_if (pt_no (pt_tru (pp_cal (js := []) 2 (ok_law_same T (k + 0)) hr (by rfl) T.d_law_same.g T.d_law_same.F.kp T.d_law_same.b (pal1 (ixA_pp hr.units (pb_var (pv 0)) (pb_var (pv 2)) (fun _ _ => rfl)) (pal1 (ixA_pp hr.units (pb_var (pv 1)) (pb_var (pv 2)) (fun _ _ => rfl)) pal0)))))
 (ss_one (ss_ret pp_bl))
 ss_nil)))
 (ss_one (ss_ret pp_bl)))))
theorem ok_law_lead (T : Top K mg) (k : Nat) : FnOk P w K mg base CX0 (k + 3) T.d_law_lead.f T.d_law_lead.fd ["feed", "order", "place"] (spP K 3 [0] m_law_lead) :=
 fn_p (N := ["feed", "order", "place", "row", "rule"]) (ps := ["feed", "order", "place"]) (io := [0]) (k := k + 2) (body := b_law_lead) T.d_law_lead.F sc_law_lead (fun cdv A outer s H E hr =>
 (ss_cons (ss_setLc (i := 3) (own := [("rule", 4)]) rfl sc_law_lead.nd rfl rfl (by rfl) (it_v (pv 1)) (blkOk_by (own := [("rule", 4)]) (N := ["feed", "order", "place", "row", "rule"]) (sc := defScope s_law_lead) (by decide +kernel)) (tgr_name 4) (fun _ _ _ _ _ => (pg_name (i := 4) sc_law_lead.nd rfl (by first | exact Or.inl rfl | exact Or.inr rfl))) (fun _ _ _ _ _ => pts0) (fun _ _ _ _ _ => pp_int))
 (ss_cons (ss_setI (pp_cal (js := [some 0]) 1 (ok_law_size T (k + 0)) hr (by rfl) T.d_law_size.g T.d_law_size.F.kp T.d_law_size.b (palz (pv 0) pal0)) (pv_var (pv 3)) (ixA_pp hr.units (pb_var (pv 1)) (pb_var (pv 2)) (fun _ _ => rfl)))
 (ss_cons (ss_for PassesOwn.never rfl (it_g (sl_v (pv_var (pv 1)) (po_s (bin_vg op_add' ro_add (pv_var (pv 2)) pp_int)) po_n)) (pg_name (i := 4) sc_law_lead.nd rfl (by first | exact Or.inl rfl | exact Or.inr rfl)) (tgr_name 4)
 (ss_one (ss_setI (bin_gg op_mulA ro_mulA (bin_gg op_sub ro_sub (pp_cal (js := [some 0]) 2 (ok_law_draw T (k + 1)) hr (by rfl) T.d_law_draw.g T.d_law_draw.F.kp T.d_law_draw.b (palz (pv 0) (pal1 pp_int pal0))) pp_int) (pp_cal (js := [some 0]) 1 (ok_law_size T (k + 0)) hr (by rfl) T.d_law_size.g T.d_law_size.F.kp T.d_law_size.b (palz (pv 0) pal0))) (pv_var (pv 3)) (pp_place (pb_var (pv 4))))))
 (ss_one (ss_ret (bt_p call_tuple_of ro_tuple (by rfl) T.m_tuple PyProof.Rows.boot_tuple (pb_var (pv 3)))))))))
theorem ok_law_link (T : Top K mg) (k : Nat) : FnOk P w K mg base CX0 (k + 3) T.d_law_link.f T.d_law_link.fd ["feed", "order", "place"] (spP K 3 [0] m_law_link) :=
 fn_p (N := ["feed", "order", "place", "row", "rule"]) (ps := ["feed", "order", "place"]) (io := [0]) (k := k + 2) (body := b_law_link) T.d_law_link.F sc_law_link (fun cdv A outer s H E hr =>
 (ss_cons (ss_setLc (i := 3) (own := [("rule", 4)]) rfl sc_law_link.nd rfl rfl (by rfl) (it_v (pv 1)) (blkOk_by (own := [("rule", 4)]) (N := ["feed", "order", "place", "row", "rule"]) (sc := defScope s_law_link) (by decide +kernel)) (tgr_name 4) (fun _ _ _ _ _ => (pg_name (i := 4) sc_law_link.nd rfl (by first | exact Or.inl rfl | exact Or.inr rfl))) (fun _ _ _ _ _ => pts0) (fun _ _ _ _ _ => pp_int))
 (ss_cons (ss_setI (pp_cal (js := [some 0]) 1 (ok_law_size T (k + 0)) hr (by rfl) T.d_law_size.g T.d_law_size.F.kp T.d_law_size.b (palz (pv 0) pal0)) (pv_var (pv 3)) (ixA_pp hr.units (pb_var (pv 1)) (pb_var (pv 2)) (fun _ _ => rfl)))
 (ss_cons (ss_setI (neg_g (pp_cal (js := [some 0]) 1 (ok_law_size T (k + 0)) hr (by rfl) T.d_law_size.g T.d_law_size.F.kp T.d_law_size.b (palz (pv 0) pal0))) (pv_var (pv 3)) (ixA_vg hr.units (pv_var (pv 1)) (bin_vg op_add' ro_add (pv_var (pv 2)) pp_int) (fun _ _ => rfl)))
 (ss_one (ss_ret (bt_p call_tuple_of ro_tuple (by rfl) T.m_tuple PyProof.Rows.boot_tuple (pb_var (pv 3)))))))))
theorem ok_law_bar_row (T : Top K mg) (k : Nat) : FnOk P w K mg base CX0 (k + 3) T.d_law_bar_row.f T.d_law_bar_row.fd ["feed", "order", "top", "rule"] (spP K 4 [0] m_law_bar_row) :=
 fn_p (N := ["feed", "order", "top", "rule", "row", "other"]) (ps := ["feed", "order", "top", "rule"]) (io := [0]) (k := k + 2) (body := b_law_bar_row) T.d_law_bar_row.F sc_law_bar_row (fun cdv A outer s H E hr =>
 (ss_cons (ss_setLc (i := 4) (own := [("other", 5)]) rfl sc_law_bar_row.nd rfl rfl (by rfl) (it_v (pv 1)) (blkOk_by (own := [("other", 5)]) (N := ["feed", "order", "top", "rule", "row", "other"]) (sc := defScope s_law_bar_row) (by decide +kernel)) (tgr_name 5) (fun _ _ _ _ _ => (pg_name (i := 5) sc_law_bar_row.nd rfl (by first | exact Or.inl rfl | exact Or.inr rfl))) (fun _ _ _ _ _ => pts0) (fun _ _ _ _ _ => pp_int))
 (ss_cons (ss_for PassesOwn.never rfl (it_g (sl_v (pv_var (pv 1)) (po_s (pp_place (pb_var (pv 2)))) po_n)) (pg_name (i := 5) sc_law_bar_row.nd rfl (by first | exact Or.inl rfl | exact Or.inr rfl)) (tgr_name 5)
 (ss_one (ss_setI (bin_gg op_mulA ro_mulA (bin_gg op_sub ro_sub (pp_cal (js := [some 0]) 2 (ok_law_draw T (k + 1)) hr (by rfl) T.d_law_draw.g T.d_law_draw.F.kp T.d_law_draw.b (palz (pv 0) (pal1 pp_int pal0))) pp_int) (pp_cal (js := [some 0]) 1 (ok_law_size T (k + 0)) hr (by rfl) T.d_law_size.g T.d_law_size.F.kp T.d_law_size.b (palz (pv 0) pal0))) (pv_var (pv 4)) (pp_place (pb_var (pv 5))))))
 (ss_cons (ss_setI (neg_g (pp_cal (js := [some 0]) 1 (ok_law_size T (k + 0)) hr (by rfl) T.d_law_size.g T.d_law_size.F.kp T.d_law_size.b (palz (pv 0) pal0))) (pv_var (pv 4)) (pp_place (pb_var (pv 3))))
 (ss_one (ss_ret (bt_p call_tuple_of ro_tuple (by rfl) T.m_tuple PyProof.Rows.boot_tuple (pb_var (pv 4)))))))))
theorem ok_law_family (T : Top K mg) (k : Nat) : FnOk P w K mg base CX0 (k + 3) T.d_law_family.f T.d_law_family.fd ["feed", "many"] (spP K 2 [0] m_law_family) :=
 fn_p (N := ["feed", "many", "sets", "lap", "order", "size", "some", "both"]) (ps := ["feed", "many"]) (io := [0]) (k := k + 2) (body := b_law_family) T.d_law_family.F sc_law_family (fun cdv A outer s H E hr =>
 (ss_cons (ss_set (i := 2) sc_law_family.nd rfl (by first | exact Or.inl rfl | exact Or.inr rfl) (pp_own (pa1 (pp_tup pa0) pa0)))
 (ss_cons (ss_for PassesOwn.never rfl (it_r1 (by rfl) T.m_range (pal1 (bin_gg op_add' ro_add pp_int (pp_cal (js := [some 0]) 2 (ok_law_draw T (k + 1)) hr (by rfl) T.d_law_draw.g T.d_law_draw.F.kp T.d_law_draw.b (palz (pv 0) (pal1 pp_int pal0)))) pal0)) (pg_name (i := 3) sc_law_family.nd rfl (by first | exact Or.inl rfl | exact Or.inr rfl)) (tgr_name 3)
 (ss_cons (ss_set (i := 4) sc_law_family.nd rfl (by first | exact Or.inl rfl | exact Or.inr rfl) (pp_cal (js := [some 0]) 2 (ok_law_shuffled T (k + 0)) hr (by rfl) T.d_law_shuffled.g T.d_law_shuffled.F.kp T.d_law_shuffled.b (palz (pv 0) (pal1 (pp_rngL rfl (by rfl) T.m_list (by rfl) T.m_range (pp_place (pb_var (pv 1)))) pal0))))
 (ss_one (ss_for PassesOwn.never rfl (it_r2 (by rfl) T.m_range (pal1 pp_int (pal1 (bin_vg op_add' ro_add (pv_var (pv 1)) pp_int) pal0))) (pg_name (i := 5) sc_law_family.nd rfl (by first | exact Or.inl rfl | exact Or.inr rfl)) (tgr_name 5)
 (ss_one (ss_for PassesOwn.never rfl (it_g (bt_p call_list_of ro_list (by rfl) T.m_list PyProof.Rows.boot_list (pb_var (pv 2)))) (pg_name (i := 6) sc_law_family.nd rfl (by first | exact Or.inl rfl | exact Or.inr rfl)) (tgr_name 6)
 (ss_cons (ss_set (i := 7) sc_law_family.nd rfl (by first | exact Or.inl rfl | exact Or.inr rfl) (pp_cal (js := []) 2 (ok_law_joined T (k + 1)) hr (by rfl) T.d_law_joined.g T.d_law_joined.F.kp T.d_law_joined.b (pal1 (pp_ice (pv 6)) (pal1 (sl_v (pv_var (pv 4)) po_n (po_s (pp_place (pb_var (pv 5))))) pal0))))
 (ss_one (ss_if (pt_pp (op_notIn_any hr.units) (ro_inA true) (pb_var (pv 7)) (pb_var (pv 2)) (by rfl))
 (ss_one (ss_expr (pp_app (pv_var (pv 2)) (pp_ice (pv 7)))))
 ss_nil)))))))))
 (ss_one (ss_ret (bi_p (cr_srtV rfl (u128 hr)) ro_srtV (by rfl) T.m_sorted PyProof.Rows.boot_sorted (pb_var (pv 2))))))))
theorem ok_law_family_rows (T : Top K mg) (k : Nat) : FnOk P w K mg base CX0 (k + 3) T.d_law_family_rows.f T.d_law_family_rows.fd ["feed", "many", "sets"] (spP K 3 [0] m_law_family_rows) :=
 fn_p (N := ["feed", "many", "sets", "rows", "some", "rule", "row", "other"]) (ps := ["feed", "many", "sets"]) (io := [0]) (k := k + 2) (body := b_law_family_rows) T.d_law_family_rows.F sc_law_family_rows (fun cdv A outer s H E hr =>
 (ss_cons (ss_set (i := 3) sc_law_family_rows.nd rfl (by first | exact Or.inl rfl | exact Or.inr rfl) (pp_own pa0))
 (ss_cons (ss_for PassesOwn.never rfl (it_g (pp_ice (pv 2))) (pg_name (i := 4) sc_law_family_rows.nd rfl (by first | exact Or.inl rfl | exact Or.inr rfl)) (tgr_name 4)
 (ss_one (ss_for PassesOwn.never rfl (it_r1 (by rfl) T.m_range (pal1 (pp_place (pb_var (pv 1))) pal0)) (pg_name (i := 5) sc_law_family_rows.nd rfl (by first | exact Or.inl rfl | exact Or.inr rfl)) (tgr_name 5)
 (ss_one (ss_if (PW.pt (pw_an (pt_pp (op_notIn_any hr.units) (ro_inA true) (pb_var (pv 5)) (pb_var (pv 4)) (by rfl)) (pw_and1 (pt_gp (op_notIn_any hr.units) (ro_inA true) (pp_cal (js := []) 2 (ok_law_joined T (k + 1)) hr (by rfl) T.d_law_joined.g T.d_law_joined.F.kp T.d_law_joined.b (pal1 (pp_ice (pv 4)) (pal1 (pp_tup (pa1 (pp_ice (pv 5)) pa0)) pal0))) (pb_var (pv 2)) (by rfl)))))
 (ss_cons (ss_setLc (i := 6) (own := [("other", 7)]) rfl sc_law_family_rows.nd rfl rfl (by rfl) (it_r1 (by rfl) T.m_range (pal1 (pp_place (pb_var (pv 1))) pal0)) (blkOk_by (own := [("other", 7)]) (N := ["feed", "many", "sets", "rows", "some", "rule", "row", "other"]) (sc := defScope s_law_family_rows) (by decide +kernel)) (tgr_name 7) (fun _ _ _ _ _ => (pg_name (i := 7) sc_law_family_rows.nd rfl (by first | exact Or.inl rfl | exact Or.inr rfl))) (fun _ _ _ _ _ => pts0) (fun _ _ _ _ _ => pp_int))
 (ss_cons (ss_for PassesOwn.never rfl (it_r1 (by rfl) T.m_range (pal1 (pp_place (pb_var (pv 1))) pal0)) (pg_name (i := 7) sc_law_family_rows.nd rfl (by first | exact Or.inl rfl | exact Or.inr rfl)) (tgr_name 7)
 (ss_one (ss_if (pt_pp (op_notIn_any hr.units) (ro_inA true) (pb_var (pv 7)) (pb_var (pv 4)) (by rfl))
 (ss_one (ss_setI (pp_cal (js := [some 0]) 1 (ok_law_size T (k + 0)) hr (by rfl) T.d_law_size.g T.d_law_size.F.kp T.d_law_size.b (palz (pv 0) pal0)) (pv_var (pv 6)) (pp_place (pb_var (pv 7)))))
 ss_nil)))
 (ss_cons (ss_setI (neg_g (pp_cal (js := [some 0]) 1 (ok_law_size T (k + 0)) hr (by rfl) T.d_law_size.g T.d_law_size.F.kp T.d_law_size.b (palz (pv 0) pal0))) (pv_var (pv 6)) (pp_place (pb_var (pv 5))))
 (ss_one (ss_expr (pp_app (pv_var (pv 3)) (bt_p call_tuple_of ro_tuple (by rfl) T.m_tuple PyProof.Rows.boot_tuple (pb_var (pv 6)))))))))
 ss_nil)))))
 (ss_one (ss_ret (bt_g call_tuple_of ro_tuple (by rfl) T.m_tuple PyProof.Rows.boot_tuple (pp_cal (js := [some 0]) 2 (ok_law_shuffled T (k + 0)) hr (by rfl) T.d_law_shuffled.g T.d_law_shuffled.F.kp T.d_law_shuffled.b (palz (pv 0) (pal1 (pp_ice (pv 3)) pal0)))))))))
theorem ok_law_rankings (T : Top K mg) (k : Nat) : FnOk P w K mg base CX0 (k + 3) T.d_law_rankings.f T.d_law_rankings.fd ["many", "rows"] (spP K 2 [] m_law_rankings) :=
 fn_p (N := ["many", "rows", "order"]) (ps := ["many", "rows"]) (io := []) (k := k + 2) (body := b_law_rankings) T.d_law_rankings.F sc_law_rankings (fun cdv A outer s H E hr =>
 (ss_one (ss_ret (bt_g call_tuple_of ro_tuple (by rfl) T.m_tuple PyProof.Rows.boot_tuple (pp_comp (own := [("order", 2)]) rfl sc_law_rankings.nd (it_g (pp_cal (js := []) 1 (ok_law_orders T (k + 1)) hr (by rfl) T.d_law_orders.g T.d_law_orders.F.kp T.d_law_orders.b (pal1 (pp_ice (pv 0)) pal0))) (blkOk_by (own := [("order", 2)]) (N := ["many", "rows", "order"]) (sc := defScope s_law_rankings) (by decide +kernel)) (tgr_name 2) (fun _ _ _ _ _ => (pg_name (i := 2) sc_law_rankings.nd rfl (by first | exact Or.inl rfl | exact Or.inr rfl))) (fun _ _ _ _ _ => (pts1 (pt_tru (pp_cal (js := []) 2 (ok_law_fits T (k + 0)) hr (by rfl) T.d_law_fits.g T.d_law_fits.F.kp T.d_law_fits.b (pal1 (pp_ice (pv 1)) (pal1 (pp_ice (pv 2)) pal0)))))) (fun _ _ _ _ _ => (pp_ice (pv 2))))))))
theorem ok_law_world (T : Top K mg) (k : Nat) : FnOk P w K mg base CX0 (k + 4) T.d_law_world.f T.d_law_world.fd ["feed", "order", "top", "plain"] (spP K 4 [0] m_law_world) :=
 fn_p (N := ["feed", "order", "top", "plain", "many", "core", "place", "rule", "ahead", "lap"]) (ps := ["feed", "order", "top", "plain"]) (io := [0]) (k := k + 3) (body := b_law_world) T.d_law_world.F sc_law_world (fun cdv A outer s H E hr =>
 (ss_cons (ss_set (i := 4) sc_law_world.nd rfl (by first | exact Or.inl rfl | exact Or.inr rfl) (bi_p call_len ro_len (by rfl) T.m_len boot_len (pb_var (pv 1))))
 (ss_cons (ss_set (i := 5) sc_law_world.nd rfl (by first | exact Or.inl rfl | exact Or.inr rfl) (pp_own pa0))
 (ss_cons (ss_if (pt_vg (op_gtA hr.units) ro_gtA (pv_var (pv 2)) pp_int (nomark _))
 (ss_one (ss_setLc (i := 5) (own := [("lap", 9)]) rfl sc_law_world.nd rfl rfl (by rfl) (it_r1 (by rfl) T.m_range (pal1 (pp_cal (js := [some 0]) 2 (ok_law_draw T (k + 2)) hr (by rfl) T.d_law_draw.g T.d_law_draw.F.kp T.d_law_draw.b (palz (pv 0) (pal1 pp_int pal0))) pal0)) (blkOk_by (own := [("lap", 9)]) (N := ["feed", "order", "top", "plain", "many", "core", "place", "rule", "ahead", "lap"]) (sc := defScope s_law_world) (by decide +kernel)) (tgr_name 9) (fun _ _ _ _ _ => (pg_name (i := 9) sc_law_world.nd rfl (by first | exact Or.inl rfl | exact Or.inr rfl))) (fun _ _ _ _ _ => pts0) (fun _ _ _ _ _ => (pp_cal (js := [some 0]) 3 (ok_law_lead T (k + 0)) hr (by rfl) T.d_law_lead.g T.d_law_lead.F.kp T.d_law_lead.b (palz (pv 0) (pal1 (pp_ice (pv 1)) (pal1 (pp_cal (js := [some 0]) 2 (ok_law_draw T (k + 2)) hr (by rfl) T.d_law_draw.g T.d_law_draw.F.kp T.d_law_draw.b (palz (pv 0) (pal1 (pp_ice (pv 2)) pal0))) pal0)))))))
 ss_nil)
 (ss_cons (ss_for PassesOwn.never rfl (it_r1 (by rfl) T.m_range (pal1 (bi2_gg (call_min2 rfl) ro_min (by rfl) T.m_min PyProof.Rows.boot_min (pp_place (pb_var (pv 2))) (bin_vg op_sub ro_sub (pv_var (pv 4)) pp_int)) pal0)) (pg_name (i := 6) sc_law_world.nd rfl (by first | exact Or.inl rfl | exact Or.inr rfl)) (tgr_name 6)
 (ss_one (ss_if (pt_gg (op_eqD hr.units) ro_eq (pp_cal (js := [some 0]) 2 (ok_law_draw T (k + 2)) hr (by rfl) T.d_law_draw.g T.d_law_draw.F.kp T.d_law_draw.b (palz (pv 0) (pal1 pp_int pal0))) pp_int (nomark _))
 (ss_one (ss_expr (pp_app (pv_var (pv 5)) (pp_cal (js := [some 0]) 3 (ok_law_link T (k + 0)) hr (by rfl) T.d_law_link.g T.d_law_link.F.kp T.d_law_link.b (palz (pv 0) (pal1 (pp_ice (pv 1)) (pal1 (pp_ice (pv 6)) pal0)))))))
 ss_nil)))
 (ss_cons (ss_for PassesOwn.never rfl (it_g (sl_v (pv_var (pv 1)) (po_s (pp_place (pb_var (pv 2)))) po_n)) (pg_name (i := 7) sc_law_world.nd rfl (by first | exact Or.inl rfl | exact Or.inr rfl)) (tgr_name 7)
 (ss_one (ss_expr (pp_app (pv_var (pv 5)) (pp_cal (js := [some 0]) 4 (ok_law_bar_row T (k + 0)) hr (by rfl) T.d_law_bar_row.g T.d_law_bar_row.F.kp T.d_law_bar_row.b (palz (pv 0) (pal1 (pp_ice (pv 1)) (pal1 (pp_ice (pv 2)) (pal1 (pp_ice (pv 7)) pal0)))))))))
 (ss_cons (ss_set (i := 8) sc_law_world.nd rfl (by first | exact Or.inl rfl | exact Or.inr rfl) (pp_own pa0))
 (ss_cons (ss_if (pt_vg (op_gtA hr.units) ro_gtA (pv_var (pv 3)) pp_int (nomark _))
 (ss_one (ss_set (i := 3) sc_law_world.nd rfl (by first | exact Or.inl rfl | exact Or.inr rfl) (bin_vg op_sub ro_sub (pv_var (pv 3)) (bi_p call_len ro_len (by rfl) T.m_len boot_len (pb_var (pv 5))))))
 ss_nil)
 (ss_cons (ss_for PassesOwn.never rfl (it_r1 (by rfl) T.m_range (pal1 (pp_place (pb_var (pv 3))) pal0)) (pg_name (i := 9) sc_law_world.nd rfl (by first | exact Or.inl rfl | exact Or.inr rfl)) (tgr_name 9)
 (ss_one (ss_expr (pp_app (pv_var (pv 8)) (bt_g call_tuple_of ro_tuple (by rfl) T.m_tuple PyProof.Rows.boot_tuple (pp_comp (own := [("place", 6)]) rfl sc_law_world.nd (it_r1 (by rfl) T.m_range (pal1 (pp_place (pb_var (pv 4))) pal0)) (blkOk_by (own := [("place", 6)]) (N := ["feed", "order", "top", "plain", "many", "core", "place", "rule", "ahead", "lap"]) (sc := defScope s_law_world) (by decide +kernel)) (tgr_name 6) (fun _ _ _ _ _ => (pg_name (i := 6) sc_law_world.nd rfl (by first | exact Or.inl rfl | exact Or.inr rfl))) (fun _ _ _ _ _ => pts0) (fun _ _ _ _ _ => (bin_gg op_mulA ro_mulA (pp_cal (js := [some 0]) 2 (ok_law_draw T (k + 2)) hr (by rfl) T.d_law_draw.g T.d_law_draw.F.kp T.d_law_draw.b (palz (pv 0) (pal1 pp_int pal0))) (pp_cal (js := [some 0]) 1 (ok_law_size T (k + 1)) hr (by rfl) T.d_law_size.g T.d_law_size.F.kp T.d_law_size.b (palz (pv 0) pal0))))))))))
 (ss_cons (ss_if (pt_gg (op_gtA hr.units) ro_gtA (bi_p call_len ro_len (by rfl) T.m_len boot_len (pb_var (pv 8))) pp_int (nomark _))
 (ss_one (ss_ret (bt_g call_tuple_of ro_tuple (by rfl) T.m_tuple PyProof.Rows.boot_tuple (bin_vg op_add' ro_add (pv_var (pv 8)) (pp_cal (js := [some 0]) 2 (ok_law_shuffled T (k + 1)) hr (by rfl) T.d_law_shuffled.g T.d_law_shuffled.F.kp T.d_law_shuffled.b (palz (pv 0) (pal1 (pp_ice (pv 5)) pal0)))))))
 ss_nil)
 (ss_one (ss_ret (bt_g call_tuple_of ro_tuple (by rfl) T.m_tuple PyProof.Rows.boot_tuple (pp_cal (js := [some 0]) 2 (ok_law_shuffled T (k + 1)) hr (by rfl) T.d_law_shuffled.g T.d_law_shuffled.F.kp T.d_law_shuffled.b (palz (pv 0) (pal1 (bin_pp op_add' ro_add (pb_var (pv 8)) (pb_var (pv 5))) pal0))))))))))))))))
theorem ok_row_sets (T : Top K mg) (M : Mk base T) (k : Nat) : FnOk P w K mg base CX0 (k + 5) T.d_row_sets.f T.d_row_sets.fd ["many", "rows"] (spP K 2 [] m_row_sets) :=
 fn_pc (N := ["many", "rows"]) (ps := ["many", "rows"]) (io := []) (k := k + 4) (body := b_row_sets) T.d_row_sets.F sc_row_sets T.hc_row_sets (fun A outer s H E hr =>
 (ss_one (ss_ret (pp_lam (J := J0) (b := "some") (k := k + 3) (kl := k + 2) (bx := b_grown_sets) T.d_grown_sets.F sc_grown_sets T.d_grown_sets.b (by rfl) T.d_grown_sets.g (hr.mono (by omega)) (by omega) (fun J G cdv A outer s H E hr act => wk_grown_sets T k J G cdv A outer s H E (hr.mono (by omega)) act) rfl M.t_row_sets rfl M.i_row_sets M.j_row_sets (lam1_by (sc := defScope s_row_sets) (by decide +kernel)) (show ("some" : Str) ∉ (["many", "rows"] : List Str) by decide) rfl (fun _ _ _ _ _ _ => rfl) (fun J A outer s H f c' hr => (pp_cal (js := []) 3 (ok_free_rules T (k + 0)) hr (by rfl) T.d_free_rules.g T.d_free_rules.F.kp T.d_free_rules.b (pal1 (pp_ice (pv 0)) (pal1 (pp_ice (pv 1)) (pal1 (pp_ice (pv 2)) pal0))))) pa0))))
theorem ok_feasible_of (T : Top K mg) (M : Mk base T) (k : Nat) : FnOk P w K mg base CX0 (k + 6) T.d_feasible_of.f T.d_feasible_of.fd ["many", "rows"] (spP K 2 [] m_feasible_of) :=
 fn_p (N := ["many", "rows"]) (ps := ["many", "rows"]) (io := []) (k := k + 5) (body := b_feasible_of) T.d_feasible_of.F sc_feasible_of (fun cdv A outer s H E hr =>
 (ss_one (ss_ret (bt_g call_tuple_of ro_tuple (by rfl) T.m_tuple PyProof.Rows.boot_tuple (bi_g (cr_srtV rfl (u128 hr)) ro_srtV (by rfl) T.m_sorted PyProof.Rows.boot_sorted (pp_cal (js := []) 2 (ok_row_sets T M (k + 0)) hr (by rfl) T.d_row_sets.g T.d_row_sets.F.kp T.d_row_sets.b (pal1 (pp_ice (pv 0)) (pal1 (pp_ice (pv 1)) pal0))))))))
theorem ok_all_rankings (T : Top K mg) (M : Mk base T) (k : Nat) : FnOk P w K mg base CX0 (k + 6) T.d_all_rankings.f T.d_all_rankings.fd ["many", "rows"] (spP K 2 [] m_all_rankings) :=
 fn_p (N := ["many", "rows"]) (ps := ["many", "rows"]) (io := []) (k := k + 5) (body := b_all_rankings) T.d_all_rankings.F sc_all_rankings (fun cdv A outer s H E hr =>
 (ss_one (ss_ret (bt_g call_tuple_of ro_tuple (by rfl) T.m_tuple PyProof.Rows.boot_tuple (pp_cal (js := []) 2 (ok_rankings_by T (k + 4)) hr (by rfl) T.d_rankings_by.g T.d_rankings_by.F.kp T.d_rankings_by.b (pal1 (pp_ice (pv 0)) (pal1 (pp_cal (js := []) 2 (ok_row_sets T M (k + 0)) hr (by rfl) T.d_row_sets.g T.d_row_sets.F.kp T.d_row_sets.b (pal1 (pp_ice (pv 0)) (pal1 (pp_ice (pv 1)) pal0))) pal0)))))))
theorem ok_ranking_number (T : Top K mg) (M : Mk base T) (k : Nat) : FnOk P w K mg base CX0 (k + 6) T.d_ranking_number.f T.d_ranking_number.fd ["many", "rows"] (spP K 2 [] m_ranking_number) :=
 fn_p (N := ["many", "rows"]) (ps := ["many", "rows"]) (io := []) (k := k + 5) (body := b_ranking_number) T.d_ranking_number.F sc_ranking_number (fun cdv A outer s H E hr =>
 (ss_one (ss_ret (pp_cal (js := []) 2 (ok_number_by T (k + 4)) hr (by rfl) T.d_number_by.g T.d_number_by.F.kp T.d_number_by.b (pal1 (pp_ice (pv 0)) (pal1 (pp_cal (js := []) 2 (ok_row_sets T M (k + 0)) hr (by rfl) T.d_row_sets.g T.d_row_sets.F.kp T.d_row_sets.b (pal1 (pp_ice (pv 0)) (pal1 (pp_ice (pv 1)) pal0))) pal0))))))
theorem ok_first_ranking (T : Top K mg) (M : Mk base T) (k : Nat) : FnOk P w K mg base CX0 (k + 6) T.d_first_ranking.f T.d_first_ranking.fd ["many", "rows"] (spP K 2 [] m_first_ranking) :=
 fn_p (N := ["many", "rows"]) (ps := ["many", "rows"]) (io := []) (k := k + 5) (body := b_first_ranking) T.d_first_ranking.F sc_first_ranking (fun cdv A outer s H E hr =>
 (ss_one (ss_ret (pp_cal (js := []) 2 (ok_first_by T (k + 4)) hr (by rfl) T.d_first_by.g T.d_first_by.F.kp T.d_first_by.b (pal1 (pp_ice (pv 0)) (pal1 (pp_cal (js := []) 2 (ok_row_sets T M (k + 0)) hr (by rfl) T.d_row_sets.g T.d_row_sets.F.kp T.d_row_sets.b (pal1 (pp_ice (pv 0)) (pal1 (pp_ice (pv 1)) pal0))) pal0))))))
theorem ok_law_asked (T : Top K mg) (M : Mk base T) (k : Nat) : FnOk P w K mg base CX0 (k + 7) T.d_law_asked.f T.d_law_asked.fd ["many", "rows", "only"] (spP K 3 [] m_law_asked) :=
 fn_p (N := ["many", "rows", "only", "due", "first"]) (ps := ["many", "rows", "only"]) (io := []) (k := k + 6) (body := b_law_asked) T.d_law_asked.F sc_law_asked (fun cdv A outer s H E hr =>
 (ss_cons (ss_set (i := 3) sc_law_asked.nd rfl (by first | exact Or.inl rfl | exact Or.inr rfl) (pp_cal (js := []) 2 (ok_law_rankings T (k + 3)) hr (by rfl) T.d_law_rankings.g T.d_law_rankings.F.kp T.d_law_rankings.b (pal1 (pp_ice (pv 0)) (pal1 (pp_ice (pv 1)) pal0))))
 (ss_cons (ss_if (PW.pt (pw_an (pt_vg (op_neD hr.units) ro_ne (pv_var (pv 2)) pp_int (nomark _)) (pw_and1 (pt_no (pt_tru (pp_cal (js := []) 2 (ok_law_same_all T (k + 4)) hr (by rfl) T.d_law_same_all.g T.d_law_same_all.F.kp T.d_law_same_all.b (pal1 (pp_cal (js := []) 2 (ok_all_rankings T M (k + 0)) hr (by rfl) T.d_all_rankings.g T.d_all_rankings.F.kp T.d_all_rankings.b (pal1 (pp_ice (pv 0)) (pal1 (pp_ice (pv 1)) pal0))) (pal1 (pp_ice (pv 3)) pal0))))))))
 (ss_one (ss_ret (neg_g pp_int)))
 ss_nil)
 (ss_cons (ss_if (PW.pt (pw_orr (pt_vg (op_eqD hr.units) ro_eq (pv_var (pv 2)) pp_int (nomark _)) (pw_or1 (pt_vg (op_eqD hr.units) ro_eq (pv_var (pv 2)) pp_int (nomark _)))))
 (ss_one (ss_if (pt_no (pt_tru (pp_cal (js := []) 2 (ok_law_same T (k + 5)) hr (by rfl) T.d_law_same.g T.d_law_same.F.kp T.d_law_same.b (pal1 (pp_cal (js := []) 2 (ok_ranking_number T M (k + 0)) hr (by rfl) T.d_ranking_number.g T.d_ranking_number.F.kp T.d_ranking_number.b (pal1 (pp_ice (pv 0)) (pal1 (pp_ice (pv 1)) pal0))) (pal1 (bi_p call_len ro_len (by rfl) T.m_len boot_len (pb_var (pv 3))) pal0)))))
 (ss_one (ss_ret (neg_g pp_int)))
 ss_nil))
 ss_nil)
 (ss_cons (ss_if (pt_vg (op_eqD hr.units) ro_eq (pv_var (pv 2)) pp_int (nomark _))
 (ss_cons (ss_set (i := 4) sc_law_asked.nd rfl (by first | exact Or.inl rfl | exact Or.inr rfl) pp_non)
 (ss_cons (ss_if (pt_gg (op_gtA hr.units) ro_gtA (bi_p call_len ro_len (by rfl) T.m_len boot_len (pb_var (pv 3))) pp_int (nomark _))
 (ss_one (ss_set (i := 4) sc_law_asked.nd rfl (by first | exact Or.inl rfl | exact Or.inr rfl) (ixA_vg hr.units (pv_var (pv 3)) pp_int (fun _ _ => rfl))))
 ss_nil)
 (ss_one (ss_if (pt_no (pt_tru (pp_cal (js := []) 2 (ok_law_same T (k + 5)) hr (by rfl) T.d_law_same.g T.d_law_same.F.kp T.d_law_same.b (pal1 (pp_cal (js := []) 2 (ok_first_ranking T M (k + 0)) hr (by rfl) T.d_first_ranking.g T.d_first_ranking.F.kp T.d_first_ranking.b (pal1 (pp_ice (pv 0)) (pal1 (pp_ice (pv 1)) pal0))) (pal1 (pp_ice (pv 4)) pal0)))))
 (ss_one (ss_ret (neg_g pp_int)))
 ss_nil))))
 ss_nil)
 (ss_cons (ss_if (pt_no (pt_tru (pp_cal (js := []) 2 (ok_law_same_all T (k + 4)) hr (by rfl) T.d_law_same_all.g T.d_law_same_all.F.kp T.d_law_same_all.b (pal1 (pp_cal (js := []) 2 (ok_feasible_of T M (k + 0)) hr (by rfl) T.d_feasible_of.g T.d_feasible_of.F.kp T.d_feasible_of.b (pal1 (pp_ice (pv 0)) (pal1 (pp_ice (pv 1)) pal0))) (pal1 (pp_cal (js := []) 2 (ok_law_feasible T (k + 4)) hr (by rfl) T.d_law_feasible.g T.d_law_feasible.F.kp T.d_law_feasible.b (pal1 (pp_ice (pv 0)) (pal1 (pp_ice (pv 1)) pal0))) pal0)))))
 (ss_one (ss_ret (neg_g pp_int)))
 ss_nil)
 (ss_one (ss_ret (bi_p call_len ro_len (by rfl) T.m_len boot_len (pb_var (pv 3)))))))))))
theorem ok_law_first_alone (T : Top K mg) (M : Mk base T) (k : Nat) : FnOk P w K mg base CX0 (k + 7) T.d_law_first_alone.f T.d_law_first_alone.fd ["many", "rows"] (spP K 2 [] m_law_first_alone) :=
 fn_p (N := ["many", "rows", "due", "order"]) (ps := ["many", "rows"]) (io := []) (k := k + 6) (body := b_law_first_alone) T.d_law_first_alone.F sc_law_first_alone (fun cdv A outer s H E hr =>
 (ss_cons (ss_set (i := 2) sc_law_first_alone.nd rfl (by first | exact Or.inl rfl | exact Or.inr rfl) pp_non)
 (ss_cons (ss_for PassesOwn.never rfl (it_g (pp_cal (js := []) 1 (ok_law_orders T (k + 5)) hr (by rfl) T.d_law_orders.g T.d_law_orders.F.kp T.d_law_orders.b (pal1 (pp_ice (pv 0)) pal0))) (pg_name (i := 3) sc_law_first_alone.nd rfl (by first | exact Or.inl rfl | exact Or.inr rfl)) (tgr_name 3)
 (ss_one (ss_if (pt_tru (pp_cal (js := []) 2 (ok_law_fits T (k + 4)) hr (by rfl) T.d_law_fits.g T.d_law_fits.F.kp T.d_law_fits.b (pal1 (pp_ice (pv 1)) (pal1 (pp_ice (pv 3)) pal0))))
 (ss_cons (ss_set (i := 2) sc_law_first_alone.nd rfl (by first | exact Or.inl rfl | exact Or.inr rfl) (pp_ice (pv 3)))
 (ss_one ss_break))
 ss_nil)))
 (ss_cons (ss_if (pt_no (pt_tru (pp_cal (js := []) 2 (ok_law_same T (k + 5)) hr (by rfl) T.d_law_same.g T.d_law_same.F.kp T.d_law_same.b (pal1 (pp_cal (js := []) 2 (ok_first_ranking T M (k + 0)) hr (by rfl) T.d_first_ranking.g T.d_first_ranking.F.kp T.d_first_ranking.b (pal1 (pp_ice (pv 0)) (pal1 (pp_ice (pv 1)) pal0))) (pal1 (pp_ice (pv 2)) pal0)))))
 (ss_one (ss_ret pp_bl))
 ss_nil)
 (ss_one (ss_ret (pp_cal (js := []) 2 (ok_law_same_all T (k + 4)) hr (by rfl) T.d_law_same_all.g T.d_law_same_all.F.kp T.d_law_same_all.b (pal1 (pp_cal (js := []) 2 (ok_feasible_of T M (k + 0)) hr (by rfl) T.d_feasible_of.g T.d_feasible_of.F.kp T.d_feasible_of.b (pal1 (pp_ice (pv 0)) (pal1 (pp_ice (pv 1)) pal0))) (pal1 (pp_cal (js := []) 2 (ok_law_feasible T (k + 4)) hr (by rfl) T.d_law_feasible.g T.d_law_feasible.F.kp T.d_law_feasible.b (pal1 (pp_ice (pv 0)) (pal1 (pp_ice (pv 1)) pal0))) pal0)))))))))
theorem ok_law_long (T : Top K mg) (M : Mk base T) (k : Nat) : FnOk P w K mg base CX0 (k + 8) T.d_law_long.f T.d_law_long.fd ["feed"] (spP K 1 [0] m_law_long) :=
 fn_p (N := ["feed", "order", "rows"]) (ps := ["feed"]) (io := [0]) (k := k + 7) (body := b_law_long) T.d_law_long.F sc_law_long (fun cdv A outer s H E hr =>
 (ss_cons (ss_set (i := 1) sc_law_long.nd rfl (by first | exact Or.inl rfl | exact Or.inr rfl) (pp_cal (js := [some 0]) 2 (ok_law_shuffled T (k + 5)) hr (by rfl) T.d_law_shuffled.g T.d_law_shuffled.F.kp T.d_law_shuffled.b (palz (pv 0) (pal1 (pp_own (pa1 pp_int (pa1 pp_int (pa1 pp_int pa0)))) pal0))))
 (ss_cons (ss_set (i := 2) sc_law_long.nd rfl (by first | exact Or.inl rfl | exact Or.inr rfl) (pp_cal (js := [some 0]) 4 (ok_law_world T (k + 3)) hr (by rfl) T.d_law_world.g T.d_law_world.F.kp T.d_law_world.b (palz (pv 0) (pal1 (pp_ice (pv 1)) (pal1 (bin_gg op_sub ro_sub pp_int (pp_cal (js := [some 0]) 2 (ok_law_draw T (k + 6)) hr (by rfl) T.d_law_draw.g T.d_law_draw.F.kp T.d_law_draw.b (palz (pv 0) (pal1 pp_int pal0)))) (pal1 (bin_gg op_sub ro_sub pp_int (pp_cal (js := [some 0]) 2 (ok_law_draw T (k + 6)) hr (by rfl) T.d_law_draw.g T.d_law_draw.F.kp T.d_law_draw.b (palz (pv 0) (pal1 pp_int pal0)))) pal0))))))
 (ss_one (ss_ret (cmp_gg (op_geA hr.units) ro_geA (pp_cal (js := []) 3 (ok_law_asked T M (k + 0)) hr (by rfl) T.d_law_asked.g T.d_law_asked.F.kp T.d_law_asked.b (pal1 pp_int (pal1 (pp_ice (pv 2)) (pal1 pp_int pal0)))) pp_int (nomark _)))))))
theorem ok_law_wide (T : Top K mg) (M : Mk base T) (k : Nat) : FnOk P w K mg base CX0 (k + 8) T.d_law_wide.f T.d_law_wide.fd ["feed"] (spP K 1 [0] m_law_wide) :=
 fn_p (N := ["feed", "kind", "order", "only", "rows", "rule"]) (ps := ["feed"]) (io := [0]) (k := k + 7) (body := b_law_wide) T.d_law_wide.F sc_law_wide (fun cdv A outer s H E hr =>
 (ss_cons (ss_set (i := 1) sc_law_wide.nd rfl (by first | exact Or.inl rfl | exact Or.inr rfl) (pp_cal (js := [some 0]) 2 (ok_law_draw T (k + 6)) hr (by rfl) T.d_law_draw.g T.d_law_draw.F.kp T.d_law_draw.b (palz (pv 0) (pal1 pp_int pal0))))
 (ss_cons (ss_set (i := 2) sc_law_wide.nd rfl (by first | exact Or.inl rfl | exact Or.inr rfl) (pp_cal (js := [some 0]) 2 (ok_law_shuffled T (k + 5)) hr (by rfl) T.d_law_shuffled.g T.d_law_shuffled.F.kp T.d_law_shuffled.b (palz (pv 0) (pal1 (pp_rngL rfl (by rfl) T.m_list (by rfl) T.m_range pp_int) pal0))))
 (ss_cons (ss_if (pt_vg (op_eqD hr.units) ro_eq (pv_var (pv 1)) pp_int (nomark _))
 (ss_one (ss_set (i := 4) sc_law_wide.nd rfl (by first | exact Or.inl rfl | exact Or.inr rfl) (sl_g (pp_cal (js := [some 0]) 3 (ok_law_family_rows T (k + 4)) hr (by rfl) T.d_law_family_rows.g T.d_law_family_rows.F.kp T.d_law_family_rows.b (palz (pv 0) (pal1 pp_int (pal1 (pp_cal (js := [some 0]) 2 (ok_law_family T (k + 4)) hr (by rfl) T.d_law_family.g T.d_law_family.F.kp T.d_law_family.b (palz (pv 0) (pal1 pp_int pal0))) pal0)))) (po_s (neg_g pp_int)) po_n)))
 (ss_one (ss_if (pt_vg (op_eqD hr.units) ro_eq (pv_var (pv 1)) pp_int (nomark _))
 (ss_one (ss_set (i := 4) sc_law_wide.nd rfl (by first | exact Or.inl rfl | exact Or.inr rfl) (pp_cal (js := [some 0]) 4 (ok_law_world T (k + 3)) hr (by rfl) T.d_law_world.g T.d_law_world.F.kp T.d_law_world.b (palz (pv 0) (pal1 (pp_ice (pv 2)) (pal1 (pp_cal (js := [some 0]) 2 (ok_law_draw T (k + 6)) hr (by rfl) T.d_law_draw.g T.d_law_draw.F.kp T.d_law_draw.b (palz (pv 0) (pal1 pp_int pal0))) (pal1 pp_int pal0)))))))
 (ss_one (ss_set (i := 4) sc_law_wide.nd rfl (by first | exact Or.inl rfl | exact Or.inr rfl) (pp_tup (pa1 (pp_cal (js := [some 0]) 3 (ok_law_link T (k + 4)) hr (by rfl) T.d_law_link.g T.d_law_link.F.kp T.d_law_link.b (palz (pv 0) (pal1 (pp_ice (pv 2)) (pal1 (pp_cal (js := [some 0]) 2 (ok_law_draw T (k + 6)) hr (by rfl) T.d_law_draw.g T.d_law_draw.F.kp T.d_law_draw.b (palz (pv 0) (pal1 pp_int pal0))) pal0)))) (pa1 (bt_g call_tuple_of ro_tuple (by rfl) T.m_tuple PyProof.Rows.boot_tuple (pp_comp (own := [("rule", 5)]) rfl sc_law_wide.nd (it_v (pv 2)) (blkOk_by (own := [("rule", 5)]) (N := ["feed", "kind", "order", "only", "rows", "rule"]) (sc := defScope s_law_wide) (by decide +kernel)) (tgr_name 5) (fun _ _ _ _ _ => (pg_name (i := 5) sc_law_wide.nd rfl (by first | exact Or.inl rfl | exact Or.inr rfl))) (fun _ _ _ _ _ => pts0) (fun _ _ _ _ _ => (pp_cal (js := [some 0]) 2 (ok_law_draw T (k + 6)) hr (by rfl) T.d_law_draw.g T.d_law_draw.F.kp T.d_law_draw.b (palz (pv 0) (pal1 pp_int pal0)))))) pa0))))))))
 (ss_cons (ss_set (i := 3) sc_law_wide.nd rfl (by first | exact Or.inl rfl | exact Or.inr rfl) (pp_cal (js := [some 0]) 2 (ok_law_draw T (k + 6)) hr (by rfl) T.d_law_draw.g T.d_law_draw.F.kp T.d_law_draw.b (palz (pv 0) (pal1 pp_int pal0))))
 (ss_cons (ss_if (pt_vg (op_eqD hr.units) ro_eq (pv_var (pv 3)) pp_int (nomark _))
 (ss_one (ss_ret (pp_cal (js := []) 2 (ok_law_first_alone T M (k + 0)) hr (by rfl) T.d_law_first_alone.g T.d_law_first_alone.F.kp T.d_law_first_alone.b (pal1 pp_int (pal1 (pp_ice (pv 4)) pal0)))))
 ss_nil)
 (ss_one (ss_ret (cmp_gg (op_geA hr.units) ro_geA (pp_cal (js := []) 3 (ok_law_asked T M (k + 0)) hr (by rfl) T.d_law_asked.g T.d_law_asked.F.kp T.d_law_asked.b (pal1 pp_int (pal1 (pp_ice (pv 4)) (pal1 (pp_ice (pv 3)) pal0)))) pp_int (nomark _))))))))))
theorem ok_law (T : Top K mg) (M : Mk base T) (k : Nat) : FnOk P w K mg base CX0 (k + 9) T.d_law.f T.d_law.fd ["script"] (spP K 1 [] m_law) :=
 fn_p (N := ["script", "feed", "many", "wide", "long", "order", "sets", "rows"]) (ps := ["script"]) (io := []) (k := k + 8) (body := b_law) T.d_law.F sc_law (fun cdv A outer s H E hr =>
 (ss_cons (ss_set (i := 1) sc_law.nd rfl (by first | exact Or.inl rfl | exact Or.inr rfl) (pp_cal (js := []) 1 (ok_law_feed T (k + 7)) hr (by rfl) T.d_law_feed.g T.d_law_feed.F.kp T.d_law_feed.b (pal1 (pp_ice (pv 0)) pal0)))
 (ss_cons (ss_set (i := 2) sc_law.nd rfl (by first | exact Or.inl rfl | exact Or.inr rfl) (bin_gg op_add' ro_add pp_int (pp_cal (js := [some 1]) 2 (ok_law_draw T (k + 7)) hr (by rfl) T.d_law_draw.g T.d_law_draw.F.kp T.d_law_draw.b (palz (pv 1) (pal1 pp_int pal0)))))
 (ss_cons (ss_if (pt_gg (op_eqD hr.units) ro_eq (pp_cal (js := [some 1]) 2 (ok_law_draw T (k + 7)) hr (by rfl) T.d_law_draw.g T.d_law_draw.F.kp T.d_law_draw.b (palz (pv 1) (pal1 pp_int pal0))) pp_int (nomark _))
 (ss_one (ss_set (i := 2) sc_law.nd rfl (by first | exact Or.inl rfl | exact Or.inr rfl) pp_int))
 ss_nil)
 (ss_cons (ss_set (i := 3) sc_law.nd rfl (by first | exact Or.inl rfl | exact Or.inr rfl) (cmp_gg (op_eqD hr.units) ro_eq (pp_cal (js := [some 1]) 2 (ok_law_draw T (k + 7)) hr (by rfl) T.d_law_draw.g T.d_law_draw.F.kp T.d_law_draw.b (palz (pv 1) (pal1 pp_int pal0))) pp_int (nomark _)))
 (ss_cons (ss_set (i := 4) sc_law.nd rfl (by first | exact Or.inl rfl | exact Or.inr rfl) (cmp_gg (op_eqD hr.units) ro_eq (pp_cal (js := [some 1]) 2 (ok_law_draw T (k + 7)) hr (by rfl) T.d_law_draw.g T.d_law_draw.F.kp T.d_law_draw.b (palz (pv 1) (pal1 pp_int pal0))) pp_int (nomark _)))
 (ss_cons (ss_set (i := 5) sc_law.nd rfl (by first | exact Or.inl rfl | exact Or.inr rfl) (pp_cal (js := [some 1]) 2 (ok_law_shuffled T (k + 6)) hr (by rfl) T.d_law_shuffled.g T.d_law_shuffled.F.kp T.d_law_shuffled.b (palz (pv 1) (pal1 (pp_rngL rfl (by rfl) T.m_list (by rfl) T.m_range (pp_place (pb_var (pv 2)))) pal0))))
 (ss_cons (ss_if (pt_gg (op_ltA hr.units) ro_ltA (pp_cal (js := []) 3 (ok_law_asked T M (k + 1)) hr (by rfl) T.d_law_asked.g T.d_law_asked.F.kp T.d_law_asked.b (pal1 (pp_ice (pv 2)) (pal1 (pp_cal (js := [some 1]) 4 (ok_law_world T (k + 4)) hr (by rfl) T.d_law_world.g T.d_law_world.F.kp T.d_law_world.b (palz (pv 1) (pal1 (pp_ice (pv 5)) (pal1 (pp_ice (pv 2)) (pal1 (pp_cal (js := [some 1]) 2 (ok_law_draw T (k + 7)) hr (by rfl) T.d_law_draw.g T.d_law_draw.F.kp T.d_law_draw.b (palz (pv 1) (pal1 pp_int pal0))) pal0))))) (pal1 pp_int pal0)))) pp_int (nomark _))
 (ss_one (ss_ret pp_bl))
 ss_nil)
 (ss_cons (ss_if (pt_gg (op_neD hr.units) ro_ne (pp_cal (js := []) 3 (ok_law_asked T M (k + 1)) hr (by rfl) T.d_law_asked.g T.d_law_asked.F.kp T.d_law_asked.b (pal1 (pp_ice (pv 2)) (pal1 (pp_cal (js := [some 1]) 4 (ok_law_world T (k + 4)) hr (by rfl) T.d_law_world.g T.d_law_world.F.kp T.d_law_world.b (palz (pv 1) (pal1 (pp_ice (pv 5)) (pal1 (pp_cal (js := [some 1]) 2 (ok_law_draw T (k + 7)) hr (by rfl) T.d_law_draw.g T.d_law_draw.F.kp T.d_law_draw.b (palz (pv 1) (pal1 (pp_ice (pv 2)) pal0))) (pal1 (pp_cal (js := [some 1]) 2 (ok_law_draw T (k + 7)) hr (by rfl) T.d_law_draw.g T.d_law_draw.F.kp T.d_law_draw.b (palz (pv 1) (pal1 pp_int pal0))) pal0))))) (pal1 pp_int pal0)))) pp_int (nomark _))
 (ss_one (ss_ret pp_bl))
 ss_nil)
 (ss_cons (ss_set (i := 6) sc_law.nd rfl (by first | exact Or.inl rfl | exact Or.inr rfl) (pp_cal (js := [some 1]) 2 (ok_law_family T (k + 5)) hr (by rfl) T.d_law_family.g T.d_law_family.F.kp T.d_law_family.b (palz (pv 1) (pal1 (pp_ice (pv 2)) pal0))))
 (ss_cons (ss_set (i := 7) sc_law.nd rfl (by first | exact Or.inl rfl | exact Or.inr rfl) (pp_cal (js := [some 1]) 3 (ok_law_family_rows T (k + 5)) hr (by rfl) T.d_law_family_rows.g T.d_law_family_rows.F.kp T.d_law_family_rows.b (palz (pv 1) (pal1 (pp_ice (pv 2)) (pal1 (pp_ice (pv 6)) pal0)))))
 (ss_cons (ss_if (PW.pt (pw_orr (pt_no (pt_tru (pp_cal (js := []) 2 (ok_law_same_all T (k + 6)) hr (by rfl) T.d_law_same_all.g T.d_law_same_all.F.kp T.d_law_same_all.b (pal1 (pp_cal (js := []) 2 (ok_feasible_of T M (k + 2)) hr (by rfl) T.d_feasible_of.g T.d_feasible_of.F.kp T.d_feasible_of.b (pal1 (pp_ice (pv 2)) (pal1 (pp_ice (pv 7)) pal0))) (pal1 (pp_ice (pv 6)) pal0))))) (pw_or1 (pt_gg (op_ltA hr.units) ro_ltA (pp_cal (js := []) 3 (ok_law_asked T M (k + 1)) hr (by rfl) T.d_law_asked.g T.d_law_asked.F.kp T.d_law_asked.b (pal1 (pp_ice (pv 2)) (pal1 (pp_ice (pv 7)) (pal1 pp_int pal0)))) pp_int (nomark _)))))
 (ss_one (ss_ret pp_bl))
 ss_nil)
 (ss_cons (ss_if (pt_gg (op_ltA hr.units) ro_ltA (pp_cal (js := []) 3 (ok_law_asked T M (k + 1)) hr (by rfl) T.d_law_asked.g T.d_law_asked.F.kp T.d_law_asked.b (pal1 (pp_ice (pv 2)) (pal1 (pp_tup pa0) (pal1 pp_int pal0)))) pp_int (nomark _))
 (ss_one (ss_ret pp_bl))
 ss_nil)
 (ss_cons (ss_set (i := 7) sc_law.nd rfl (by first | exact Or.inl rfl | exact Or.inr rfl) (pp_tup (pa1 (pp_tup (pa1 (pp_cal (js := [some 1]) 1 (ok_law_size T (k + 6)) hr (by rfl) T.d_law_size.g T.d_law_size.F.kp T.d_law_size.b (palz (pv 1) pal0)) (pa1 (neg_g (pp_cal (js := [some 1]) 1 (ok_law_size T (k + 6)) hr (by rfl) T.d_law_size.g T.d_law_size.F.kp T.d_law_size.b (palz (pv 1) pal0))) (pa1 pp_int pa0)))) pa0)))
 (ss_cons (ss_if (PW.pt (pw_orr (pt_no (pt_tru (pp_cal (js := []) 2 (ok_law_same T (k + 7)) hr (by rfl) T.d_law_same.g T.d_law_same.F.kp T.d_law_same.b (pal1 (pp_cal (js := []) 2 (ok_first_ranking T M (k + 2)) hr (by rfl) T.d_first_ranking.g T.d_first_ranking.F.kp T.d_first_ranking.b (pal1 pp_int (pal1 (pp_ice (pv 7)) pal0))) (pal1 (pp_tup (pa1 pp_int (pa1 pp_int (pa1 pp_int pa0)))) pal0))))) (pw_or1 (pt_gg (op_neD hr.units) ro_ne (pp_cal (js := []) 3 (ok_law_asked T M (k + 1)) hr (by rfl) T.d_law_asked.g T.d_law_asked.F.kp T.d_law_asked.b (pal1 pp_int (pal1 (pp_ice (pv 7)) (pal1 pp_int pal0)))) pp_int (nomark _)))))
 (ss_one (ss_ret pp_bl))
 ss_nil)
 (ss_cons (ss_if (PW.pt (pw_an (pt_truP (pb_var (pv 4))) (pw_and1 (pt_no (pt_tru (pp_cal (js := [some 1]) 1 (ok_law_long T M (k + 0)) hr (by rfl) T.d_law_long.g T.d_law_long.F.kp T.d_law_long.b (palz (pv 1) pal0)))))))
 (ss_one (ss_ret pp_bl))
 ss_nil)
 (ss_one (ss_ret (pp_or (pp_not (pp_ice (pv 3))) (pe_one (pp_cal (js := [some 1]) 1 (ok_law_wide T M (k + 0)) hr (by rfl) T.d_law_wide.g T.d_law_wide.F.kp T.d_law_wide.b (palz (pv 1) pal0))))))))))))))))))))))
end
end K17


set_option autoImplicit false
namespace K17
open PySem PySem.Spec L2 Pm
theorem draw_ok {f : D} (hf : Fd f) {m : Int} (h1 : 1 ≤ m) (h2 : m ≤ 1000000000) : WpR (m_law_draw [f, .int m]) (DrawQ m) := by
  refine wpr_mk rfl ?_
  unfold b_law_draw startE
  rw [wp_Seq]
  refine Wp.mono (Q := fun fl w => fl = .nx ∧ ∃ f' c, Fd f' ∧ w = [some f', some (.int m), c, none]) ?_ ?_
  · obtain ⟨ns, p, b, s, rfl, hb, hs, hs2⟩ := hf
    have hF : ∀ {p : Nat} {b s : Int}, 0 ≤ b → 0 ≤ s → s < 2147483647 → Fd (.own [.lst (ns.map .int), .int p, .int b, .int s]) := fun h1 h2 h3 => ⟨_, _, _, _, rfl, h1, h2, h3⟩
    have hF1 : ∀ {b s : Int}, 0 ≤ b → 0 ≤ s → s < 2147483647 → Fd (.own [.lst (ns.map .int), .int ((p : Int) + 1), .int b, .int s]) := fun {b s} h1 h2 h3 => hF (p := p + 1) h1 h2 h3
    simp [-Int.reducePow]
    by_cases c : b = 0
    · subst c
      simp [-Int.reducePow]
      by_cases c2 : p < ns.length
      · have g : seqIx (ns.map D.int) (p : Int) = some (.int ns[p]) := seqIx_ints (List.getElem?_eq_getElem c2)
        simp [c2, g, -Int.reducePow]
        have key : ∀ x : Int, 0 ≤ x → powC 10 18 = true ∧ brQ (decide (x < 10 ^ 18)) (mulC s 52774 = true ∧ mulC x 41 = true ∧ Fd (D.own [D.lst (List.map D.int ns), D.int (↑p + 1), D.int 0, D.int ((s * 52774 + x * 41 + 9) % 2147483587)]))
            (powC 10 60 = true ∧ powC (10 ^ 60) 10 = true ∧ 0 < (10 ^ 60 : Int) ^ 10 ∧ Fd (D.own [D.lst (List.map D.int ns), D.int (↑p + 1), D.int (x % (10 ^ 60) ^ 10), D.int s])) := fun x hx => by
          refine ⟨pow18, brQ_of (fun h => ?_) fun h => ?_⟩
          · have hc : x < 10 ^ 18 := of_decide_eq_true h
            exact ⟨mulC_s (by omega) (by omega) (by omega) (by omega), mulC_s (by omega) (by have := p18; omega) (by omega) (by omega), hF1 (by omega) (by omega) (by omega)⟩
          · exact ⟨pow60, pow600, p600, hF1 (Int.emod_nonneg _ (by have := p600; omega)) hs hs2⟩
        by_cases hx : ns[p] < 0
        · simp [hx, -Int.reducePow]
          exact key _ (by omega)
        · simp [hx, -Int.reducePow]
          exact key _ (by omega)
      · simp [c2]
        exact hF hb hs hs2
    · simp [c]
      exact hF hb hs hs2
  · rintro fl w ⟨rfl, f', c, ⟨ns, p, b, s, rfl, hb, hs, hs2⟩, rfl⟩
    have hF : ∀ {p : Nat} {b s : Int}, 0 ≤ b → 0 ≤ s → s < 2147483647 → Fd (.own [.lst (ns.map .int), .int p, .int b, .int s]) := fun h1 h2 h3 => ⟨_, _, _, _, rfl, h1, h2, h3⟩
    have m0 : 0 < m := by omega
    have m1 : m < 1073741824 := by omega
    by_cases c : 0 < b
    · simp [c, m0, m1]
      exact ⟨_, _, rfl, rfl, Int.emod_nonneg _ (by omega), Int.emod_lt_of_pos _ (by omega), hF (Int.ediv_nonneg hb (by omega)) hs hs2⟩
    · have e1 : mulC s 45742 = true := mulC_s (by omega) (by omega) (by omega) (by omega)
      simp [c, m0, e1]
      exact ⟨_, _, rfl, rfl, Int.emod_nonneg _ (by omega), Int.emod_lt_of_pos _ (by omega), hF (by omega) (by omega) (by omega)⟩
theorem size_ok {f : D} (hf : Fd f) : WpR (m_law_size [f]) SizeQ := by
  refine wpr_mk rfl ?_
  unfold b_law_size startE
  simp [hf]
  refine WpR.mono (draw_ok hf (by decide) (by decide)) ?_
  rintro d os ⟨v, f', rfl, rfl, hv0, hv1, hf'⟩
  simp
  by_cases c : v < 2
  · simp [c]
    exact ⟨_, _, rfl, rfl, by omega, by omega, hf'⟩
  by_cases c2 : v = 2
  · simp [c, c2, hf']
    refine WpR.mono (draw_ok hf' (by decide) (by decide)) ?_
    rintro d os ⟨u, f2, rfl, rfl, hu0, hu1, hf2⟩
    simp
    exact ⟨_, _, rfl, rfl, by omega, by omega, hf2⟩
  by_cases c3 : v = 3
  · simp [c, c2, c3, pow6, hf']
    refine WpR.mono (draw_ok hf' (by decide) (by decide)) ?_
    rintro d os ⟨u, f2, rfl, rfl, hu0, hu1, hf2⟩
    simp
    exact ⟨_, _, rfl, rfl, by omega, by omega, hf2⟩
  simp [c, c2, c3, pow6, hf']
  refine WpR.mono (draw_ok hf' (by decide) (by decide)) ?_
  rintro d os ⟨u, f2, rfl, rfl, hu0, hu1, hf2⟩
  simp
  exact ⟨_, _, rfl, rfl, by omega, by omega, hf2⟩
theorem feed_ok {ns : List Int} : WpR (m_law_feed [.lst (ns.map .int)]) fun d os => Fd d ∧ os = [] := by
  refine wpr_mk rfl ?_
  unfold b_law_feed
  rw [show startE 3 [.lst (ns.map D.int)] = [some (.lst (ns.map .int)), none, none] from rfl]
  refine wp_mid (fun w => ∃ ms : List Int, ms.length ≤ 63 ∧ w = [some (.lst (ns.map .int)), some (.own (ms.map .int)), none]) ?_ ?_
  · have ct : cutD (ns.map D.int) none (some (63 : Int)) = (ns.take 63).map D.int := by
      rw [show (63 : Int) = ((63 : Nat) : Int) from rfl, cutD_to, List.map_take]
    simp only [lz_Set, wp_Comp, lz_iW, wp_cons, lz_Slv, slot_zero, slot_succ, ob_some, wp_bN, lz_bS, wp_C, intD_int, dSl_lst, pls_ints, if_true, ct, wp_nil, lz_qG, seqP_own]
    refine lz_cmp (fun i acc w => ∃ x, acc = ((ns.take 63).take i).map D.int ∧ w = [some (.lst (ns.map .int)), none, x]) ⟨none, rfl, rfl⟩ ?_ ?_
    · rintro acc w ⟨x, rfl, rfl⟩
      rw [List.length_map, List.take_length]
      simp
      exact ⟨ns.take 63, by rw [List.length_take]; omega, by rw [List.map_take]⟩
    · rintro i d acc w hi ⟨x, rfl, rfl⟩
      obtain ⟨hi', rfl⟩ := ints_at hi
      have hl : (ns.take 63).length ≤ 63 := by rw [List.length_take]; omega
      generalize ns.take 63 = ms at hi' hl
      simp
      refine ⟨line' (by omega), ?_⟩
      rw [List.take_add_one, List.getElem?_map, List.getElem?_eq_getElem hi']
      rfl
  · rintro w ⟨ms, hl, rfl⟩
    have e : mulC (ms.length : Int) 5009 = true := mulC_s (by omega) (by omega) (by omega) (by omega)
    simp [e]
    exact ⟨ms, 0, 0, _, rfl, by omega, by omega, by omega⟩
/-! a list shuffled -/
def ShQ (l : List Int) : D → List D → Prop := fun d os => ∃ (o : List Int) (f' : D), d = .own (o.map .int) ∧ os = [f'] ∧ o.Perm l ∧ Fd f'
def ShQD (l : List D) : D → List D → Prop := fun d os => ∃ (o : List D) (f' : D), d = .own o ∧ os = [f'] ∧ o.Perm l ∧ Fd f'
theorem perm_popD {o l : List D} {k : Nat} {z : List D} (hk : k < l.length) (h : (o ++ l).Perm z) : ((o ++ [l[k]]) ++ l.eraseIdx k).Perm z := by
  refine List.Perm.trans ?_ h
  rw [List.append_assoc]
  exact List.Perm.append_left o (get_erase hk)
theorem shuffledD_ok {f d0 : D} (hf : Fd f) {l : List D} (hd : d0 = .own l ∨ d0 = .lst l) (hp : pls l = true) (h2 : l.length ≤ 1000) : WpR (m_law_shuffled [f, d0]) (ShQD l) := by
  have e1 : dList d0 = some (.own l) := by rcases hd with rfl | rfl <;> (show (if pls l = true then some (D.own l) else none) = _; rw [if_pos hp])
  have e2 : dLen d0 = some (.int l.length) := by rcases hd with rfl | rfl <;> rfl
  have rc : rngC (l.length : Int) = true := rngC_of (by omega) (by omega)
  refine wpr_mk rfl ?_
  unfold b_law_shuffled startE
  simp [e1, e2, rc]
  refine lz_for (fun i w => ∃ f' x, ∃ m o : List D, w = [some f', some d0, some (.own m), some (.own o), x] ∧ m.length + i = l.length ∧ o.length = i ∧ (o ++ m).Perm l ∧ Fd f') ⟨f, none, l, [], rfl, by omega, rfl, List.Perm.refl _, hf⟩ ?_ ?_
  · rintro w ⟨f', x, m, o, rfl, hl, ho, hp', hf'⟩
    rw [rngD_len] at hl
    have e : m = [] := List.length_eq_zero_iff.mp (by omega)
    subst e
    rw [List.append_nil] at hp'
    simp
    exact ⟨o, f', rfl, rfl, hp', hf'⟩
  · rintro i d w hi ⟨f', x, m, o, rfl, hl, ho, hp', hf'⟩
    have hi2 : i < l.length := by
      have := (List.getElem?_eq_some_iff.mp hi).1
      rw [rngD_len] at this; exact this
    simp [hf']
    refine WpR.mono (draw_ok hf' (by omega) (by omega)) ?_
    rintro d os ⟨v, f2, rfl, rfl, hv0, hv1, hf2⟩
    have hk : v.toNat < m.length := by omega
    simp [ixN_at hv0 hv1, List.getElem?_eq_getElem hk, line (show m.length ≤ 1000000 by omega), line' (show o.length < 1000000 by omega)]
    refine ⟨f2, _, m.eraseIdx v.toNat, o ++ [m[v.toNat]], ⟨rfl, rfl, rfl, rfl⟩, ?_, by simp [ho], perm_popD hk hp', hf2⟩
    rw [List.length_eraseIdx_of_lt hk]; omega
theorem perm_mapD {α : Type} {g : α → D} (inj : ∀ a b, g a = g b → a = b) {o : List D} {l : List α} (h : o.Perm (l.map g)) : ∃ m : List α, o = m.map g ∧ m.Perm l := by
  have : ∀ {o : List D} {z : List D}, o.Perm z → ∀ l : List α, z = l.map g → ∃ m : List α, o = m.map g ∧ m.Perm l := fun {o z} h => by
    induction h with
    | nil => intro l e; exact ⟨[], rfl, by rw [List.map_eq_nil_iff.mp e.symm]⟩
    | cons x _ ih =>
      intro l e
      cases l with
      | nil => cases e
      | cons a l =>
        injection e with e1 e2
        obtain ⟨m, rfl, h2⟩ := ih l e2
        exact ⟨a :: m, by rw [e1]; rfl, h2.cons a⟩
    | swap x y _ =>
      intro l e
      match l, e with
      | a :: b :: l, e =>
        injection e with e1 e2
        injection e2 with e2 e3
        exact ⟨b :: a :: l, by rw [e1, e2, e3]; rfl, List.Perm.swap a b l⟩
    | trans _ _ ih1 ih2 =>
      intro l e
      obtain ⟨m, e1, h1⟩ := ih2 l e
      obtain ⟨m2, e2, h2⟩ := ih1 m e1
      exact ⟨m2, e2, h2.trans h1⟩
  exact this h l rfl
theorem int_inj (a b : Int) (h : D.int a = D.int b) : a = b := by injection h
theorem row_inj (a b : List Int) (h : D.tup (a.map D.int) = D.tup (b.map D.int)) : a = b := by
  injection h with h
  exact (List.map_inj_right int_inj).mp h
end K17

set_option autoImplicit false
namespace K17
open PySem PySem.Spec L2 Pm 
def IsSeq (d : D) (l : List D) : Prop := d = .tup l ∨ d = .lst l ∨ d = .own l
theorem inD_ints {s : List Int} {i : Int} : inD (.int i) (s.map .int) = s.contains i := by
  unfold inD
  induction s with
  | nil => rfl
  | cons a s ih =>
    rw [List.map_cons, List.any_cons, ih, List.contains_cons]
    show ((a == i) || _) = _
    have e : (a == i) = (i == a) := by
      by_cases h : a = i
      · simp [h]
      · have h2 : ¬ i = a := fun z => h z.symm
        simp [h, h2]
    rw [e]
theorem flat_ints {s : List Int} : (s.map D.int).all flatD = true := by
  rw [List.all_map]; simp [flatD, Function.comp_def]
theorem dIn_ints {d : D} {s : List Int} {i : Int} {neg : Bool} (h : IsSeq d (s.map .int)) : dIn neg (.int i) d = some (.bl (if neg = true then !s.contains i else s.contains i)) := by
  have hs : seqD d = some (s.map .int) := by rcases h with rfl | rfl | rfl <;> rfl
  unfold dIn
  rw [hs]
  dsimp only
  rw [if_pos ⟨rfl, flat_ints⟩, inD_ints]
theorem dInA_ints {d : D} {s : List Int} {i : Int} {neg : Bool} (h : IsSeq d (s.map .int)) : dInA neg (.int i) d = some (.bl (if neg = true then !s.contains i else s.contains i)) :=
  dInA_of (dIn_ints h) (by rcases h with rfl | rfl | rfl <;> rfl)
def InN (n : Nat) (s : List Int) : Prop := ∀ i ∈ s, 0 ≤ i ∧ i < (n : Int)
def Rect (n : Nat) (rows : List (List Int)) : Prop := ∀ r ∈ rows, r.length = n
@[simp] theorem dIsi_is {x : Str} : dIsi "int" (.str x) = some (.bl false) := congrArg (Option.map D.bl) (show kitB "str" "int" = some false by decide +kernel)
@[simp] theorem dIsi_il {x : List D} : dIsi "int" (.lst x) = some (.bl false) := congrArg (Option.map D.bl) (show kitB "list" "int" = some false by decide +kernel)
@[simp] theorem dIsi_io {x : List D} : dIsi "int" (.own x) = some (.bl false) := congrArg (Option.map D.bl) (show kitB "list" "int" = some false by decide +kernel)
@[simp] theorem dIsi_tl {x : List D} : dIsi "tuple" (.lst x) = some (.bl false) := congrArg (Option.map D.bl) (show kitB "list" "tuple" = some false by decide +kernel)
@[simp] theorem dIsi_to {x : List D} : dIsi "tuple" (.own x) = some (.bl false) := congrArg (Option.map D.bl) (show kitB "list" "tuple" = some false by decide +kernel)
@[simp] theorem dIsi_ts {x : Str} : dIsi "tuple" (.str x) = some (.bl false) := congrArg (Option.map D.bl) (show kitB "str" "tuple" = some false by decide +kernel)
@[simp] theorem dIsi_tb {x : Bool} : dIsi "tuple" (.bl x) = some (.bl false) := congrArg (Option.map D.bl) (show kitB "bool" "tuple" = some false by decide +kernel)
@[simp] theorem dIsi_tn : dIsi "tuple" .non = some (.bl false) := congrArg (Option.map D.bl) (show kitB "NoneType" "tuple" = some false by decide +kernel)
theorem map_int_inj {a b : List Int} (h : a.map D.int = b.map D.int) : a = b := (List.map_inj_right int_inj).mp h
theorem sortI_lt {o : List Int} (h : o.Nodup) : (sortI o).Pairwise (· < ·) := by
  have h1 := sortI_pw o
  have h2 : (sortI o).Nodup := (sortI_perm o).nodup_iff.mpr h
  exact List.Pairwise.imp₂ (fun a b h1 h2 => by omega) h1 h2
theorem sub_len {α : Type} [BEq α] [LawfulBEq α] : ∀ {l m : List α}, l.Nodup → (∀ x ∈ l, x ∈ m) → l.length ≤ m.length
  | [], m, _, _ => Nat.zero_le _
  | a :: l, m, h, h2 => by
    have ha := h2 a List.mem_cons_self
    have h3 := List.nodup_cons.mp h
    have := sub_len (l := l) (m := m.erase a) h3.2 fun x mx => (List.mem_erase_of_ne (fun e : x = a => h3.1 (by rw [← e]; exact mx))).mpr (h2 x (List.mem_cons_of_mem _ mx))
    rw [List.length_erase_of_mem ha] at this
    have := List.length_pos_of_mem ha
    rw [List.length_cons]; omega
theorem sx0 {a : D} {l : List D} (h : pl a = true) : seqIx (a :: l) 0 = some a := seqIx_nat (i := 0) rfl h
theorem sx1 {a b : D} {l : List D} (h : pl b = true) : seqIx (a :: b :: l) 1 = some b := seqIx_nat (i := 1) rfl h
theorem sx2 {a b c : D} {l : List D} (h : pl c = true) : seqIx (a :: b :: c :: l) 2 = some c := seqIx_nat (i := 2) rfl h
theorem sx3 {a b c d : D} {l : List D} (h : pl d = true) : seqIx (a :: b :: c :: d :: l) 3 = some d := seqIx_nat (i := 3) rfl h
theorem seqIx_at' {xs : List D} {i : Nat} (h : i < xs.length) (p : pls xs = true) : seqIx xs (i : Int) = some xs[i] := seqIx_nat (List.getElem?_eq_getElem h) (pls_all.mp p _ (List.getElem_mem h))
theorem cutD_from1 {xs : List D} {k : Nat} : cutD xs (some ((k : Int) + 1)) none = xs.drop (k + 1) := cutD_from (xs := xs) (k + 1)
theorem cutD_to1 {xs : List D} {k : Nat} : cutD xs none (some ((k : Int) + 1)) = xs.take (k + 1) := cutD_to (xs := xs) (k + 1)
theorem bel_plain {r : List Int} (h : ∀ i, 0 ≤ atR r i) : ∀ o : List Int, bel r o = false
  | [] => rfl
  | i :: o => by
    show (if atR r i = 0 then bel r o else decide (atR r i < 0)) = false
    by_cases c : atR r i = 0
    · rw [if_pos c]; exact bel_plain h o
    · rw [if_neg c, decide_eq_false_iff_not]; have := h i; omega
theorem take_lt {o : List Int} {top p : Nat} (hp : p < top) (hl : p < o.length) : p < (o.take top).length := by
  rw [List.length_take]; omega
theorem bel_at {r o : List Int} {top p : Nat} (hp : p < top) (hl : p < o.length) (h : ∀ q (hq : q < o.length), q < p → atR r o[q] = 0) (e : 1 ≤ atR r o[p]) : bel r (o.take top) = false := by
  rw [bel_lead (v := atR r o[p]) (by omega) (take_lt hp hl) (fun q hq l => by rw [List.getElem_take]; exact h q (by rw [List.length_take] at hq; omega) l) (by rw [List.getElem_take])]
  rw [decide_eq_false_iff_not]; omega
theorem bel_none {r o : List Int} {top : Nat} (h : ∀ q (hq : q < o.length), q < top → atR r o[q] = 0) : bel r (o.take top) = false := by
  refine bel_zero fun i m => ?_
  obtain ⟨q, hq, rfl⟩ := List.mem_iff_getElem.mp m
  rw [List.getElem_take]
  rw [List.length_take] at hq
  exact h q (by omega) (by omega)
def Fit (n : Nat) (o : List Int) (top : Nat) (rows : List (List Int)) : Prop := ∀ r ∈ rows, r.length = n ∧ bel r (o.take top) = false
def Bars (o : List Int) (top m : Nat) (rows : List (List Int)) : Prop := ∀ j (hj : j < o.length), top ≤ j → j < m → ∃ r ∈ rows, (∀ q (hq : q < o.length), q < top → atR r o[q] = 0) ∧ atR r o[j] < 0
theorem Fit.add {n top : Nat} {o r : List Int} {rows : List (List Int)} (h : Fit n o top rows) (h1 : r.length = n) (h2 : bel r (o.take top) = false) : Fit n o top (rows ++ [r]) := fun y m => by
  rcases List.mem_append.mp m with m | m
  · exact h y m
  · rw [List.mem_singleton.mp m]; exact ⟨h1, h2⟩
def World (n : Nat) (o : List Int) (top : Nat) (rows : List (List Int)) : Prop := Fit n o top rows ∧ Bars o top o.length rows
def WorldQ (n : Nat) (o : List Int) (top : Nat) : D → List D → Prop := fun d os => ∃ (rows : List (List Int)) (f' : D), d = .tup (rowsD rows) ∧ os = [f'] ∧ Fd f' ∧ rows.length ≤ 1000 ∧ World n o top rows
theorem World.perm {n top : Nat} {o : List Int} {a b : List (List Int)} (h : World n o top a) (p : ∀ r, r ∈ b ↔ r ∈ a) : World n o top b :=
  ⟨fun r m => h.1 r ((p r).mp m), fun j hj l1 l2 => by
    obtain ⟨r, m, hr⟩ := h.2 j hj l1 l2
    exact ⟨r, (p r).mpr m, hr⟩⟩
theorem cmp_filt {α : Type} (g h : α → D) (xs : List α) (p : α → Bool) {c : PM Bool} {elt : PM D} {j : Nat} {w : Ev} {QL : List D → Ev → Prop} (hj : j < w.length) (hl : xs.length ≤ 100000) (hc : ∀ x ∈ xs, Wp (c (w.set j (some (g x)))) fun b w3 => b = p x ∧ w3 = w.set j (some (g x)))
    (he : ∀ x ∈ xs, p x = true → Wp (elt (w.set j (some (g x)))) fun d w3 => d = h x ∧ w3 = w.set j (some (g x))) (hq : ∀ (w2 : Ev), w2.set j none = w.set j none → w2.length = w.length → QL ((xs.filter p).map h) w2) : Wp (cmpL (.nm j) c elt [j] (xs.map g) [] w) QL := by
  refine lz_cmp (fun i acc w2 => w2.set j none = w.set j none ∧ w2.length = w.length ∧ acc = ((xs.take i).filter p).map h) ⟨rfl, rfl, rfl⟩ ?_ ?_
  · rintro acc w2 ⟨h1, h2, h3⟩
    rw [List.length_map, List.take_length] at h3
    rw [h3]; exact hq w2 h1 h2
  · rintro i d acc w2 hi ⟨h1, h2, h3⟩
    rw [List.getElem?_map] at hi
    obtain ⟨x, e1, e2⟩ := Option.map_eq_some_iff.mp hi
    obtain ⟨hil, e3⟩ := List.getElem?_eq_some_iff.mp e1
    have hx : x ∈ xs := List.mem_of_getElem? e1
    subst e2
    have ew : w2.set j (some (g x)) = w.set j (some (g x)) := by
      have := congrArg (fun z : Ev => z.set j (some (g x))) h1
      simpa using this
    simp [h2, hj]
    rw [ew]
    refine Wp.mono (hc x hx) ?_
    rintro b w3 ⟨rfl, rfl⟩
    refine brQ_of (fun hp => ?_) fun hp => ?_
    · refine Wp.mono (he x hx hp) ?_
      rintro d w4 ⟨rfl, rfl⟩
      refine ⟨Nat.lt_of_lt_of_le (by rw [h3, List.length_map]; have := List.length_filter_le p (xs.take i); rw [List.length_take] at this; omega) big, by simp, by simp, ?_⟩
      rw [h3, List.take_add_one, e1]; simp [hp]
    · refine ⟨by simp, by simp, ?_⟩
      rw [h3, List.take_add_one, e1]; simp [hp]
theorem filt_empty {α : Type} (p : α → Bool) : ∀ l : List α, (l.filter p).isEmpty = !(l.any p)
  | [] => rfl
  | a :: l => by
    by_cases h : p a = true
    · simp [h]
    · have ih := filt_empty p l
      rw [List.filter_cons, if_neg h, ih, List.any_cons]
      simp [h]
/-! nothing at some rules -/
def nt (r s : List Int) : Bool := s.all fun i => decide (atR r i = 0)
theorem nt_drop {r s : List Int} {i : Nat} (hi : i < s.length) : nt r (s.drop i) = (decide (atR r s[i] = 0) && nt r (s.drop (i + 1))) := by
  rw [List.drop_eq_getElem_cons hi]; rfl
theorem is_nought_ok {n : Nat} {r s : List Int} (hr : r.length = n) (hs : InN n s) : WpR (m_is_nought [.tup (r.map .int), .tup (s.map .int)]) (BlQ (nt r s)) := by
  refine wpr_mk rfl ?_
  unfold b_is_nought startE
  simp
  refine lz_for (fun i w => ∃ x, w = [some (.tup (r.map .int)), some (.tup (s.map .int)), x] ∧ nt r (s.drop i) = nt r s) ⟨none, rfl, rfl⟩ ?_ ?_
  · rintro w ⟨x, rfl, hb⟩
    rw [List.length_map, List.drop_length] at hb
    simp
    exact ⟨by rw [← hb]; rfl, rfl⟩
  · rintro i d w hi ⟨x, rfl, hb⟩
    obtain ⟨hi', rfl⟩ := ints_at hi
    obtain ⟨h1, h2⟩ := hs _ (List.getElem_mem hi')
    rw [nt_drop hi'] at hb
    simp [seqIx_at h1 (by rw [hr]; exact h2)]
    by_cases c : atR r s[i] = 0
    · simp [c] at hb ⊢
      exact hb
    · simp [c] at hb ⊢
      exact ⟨by rw [← hb], rfl⟩
/-! free rules -/
def freeP (rows : List (List Int)) (s : List Int) (i : Int) : Bool := !s.contains i && !((rows.filter (nt · s)).any fun r => decide (atR r i < 0))
def freeL (n : Nat) (rows : List (List Int)) (s : List Int) : List Int := (intsTo n).filter (freeP rows s)
theorem free_rules_ok {n : Nat} {rows : List (List Int)} {s : List Int} (hn : n ≤ 1000) (hl : rows.length ≤ 1000) (hr : Rect n rows) (hs : InN n s) : WpR (m_free_rules [.int (n : Int), .tup (rowsD rows), .tup (s.map .int)]) (DQ (.tup ((freeL n rows s).map .int))) := by
  have rc : rngC (n : Int) = true := rngC_of (by omega) (by omega)
  refine wpr_mk rfl ?_
  unfold b_free_rules
  rw [show startE 7 [.int (n : Int), .tup (rowsD rows), .tup (s.map .int)] = [some (.int (n : Int)), some (.tup (rowsD rows)), some (.tup (s.map .int)), none, none, none, none] from rfl]
  refine wp_mid (fun w => w = [some (.int (n : Int)), some (.tup (rowsD rows)), some (.tup (s.map .int)), some (.own (rowsD (rows.filter (nt · s)))), none, none, none]) ?_ ?_
  · simp
    refine cmp_filt (fun r : List Int => D.tup (r.map .int)) (fun r => D.tup (r.map .int)) rows (nt · s) (by simp) (by omega) (fun r m => ?_) (fun r m _ => by simp) fun w2 e el => ?_
    · simp
      refine WpR.mono (is_nought_ok (hr r m) hs) ?_
      rintro d os ⟨rfl, rfl⟩
      simp
    · simp at e el
      simp [e, el, rowsD]
  rintro w rfl
  refine wp_mid (fun w => w = [some (.int (n : Int)), some (.tup (rowsD rows)), some (.tup (s.map .int)), some (.own (rowsD (rows.filter (nt · s)))), some (.own []), none, none]) (by simp) ?_
  rintro w rfl
  have hrt : ∀ r ∈ rows.filter (nt · s), r.length = n := fun r m => hr r (List.mem_filter.mp m).1
  have hlt : (rows.filter (nt · s)).length ≤ 1000 := Nat.le_trans (List.length_filter_le _ _) hl
  refine wp_mid (fun w => ∃ x5 x6, w = [some (.int (n : Int)), some (.tup (rowsD rows)), some (.tup (s.map .int)), some (.own (rowsD (rows.filter (nt · s)))), some (.own ((freeL n rows s).map .int)), x5, x6]) ?_ ?_
  · unfold freeL freeP
    generalize rows.filter (nt · s) = tied at hrt hlt
    simp [rc, rngD_ints]
    refine lz_for (fun i w => ∃ x5 x6, w = [some (.int (n : Int)), some (.tup (rowsD rows)), some (.tup (s.map .int)), some (.own (rowsD tied)), some (.own ((((intsTo n).take i).filter fun i => !s.contains i && !(tied.any fun r => decide (atR r i < 0))).map .int)), x5, x6]) ⟨none, none, rfl⟩ ?_ ?_
    · rintro w ⟨x5, x6, rfl⟩
      rw [List.length_map, List.take_length]
      simp
    · rintro i d w hi ⟨x5, x6, rfl⟩
      obtain ⟨hi', rfl⟩ := ints_at hi
      have hv := intsTo_mem.mp (List.getElem_mem hi')
      have ln : (intsTo n).length = n := intsTo_len n
      have ht : (intsTo n).take (i + 1) = (intsTo n).take i ++ [(intsTo n)[i]] := by rw [List.take_add_one, List.getElem?_eq_getElem hi']; rfl
      have lf : (((intsTo n).take i).filter fun i => !s.contains i && !(tied.any fun r => decide (atR r i < 0))).length < sizeLine := line' (by
        have := List.length_filter_le (fun i => !s.contains i && !(tied.any fun r => decide (atR r i < 0))) ((intsTo n).take i)
        rw [List.length_take] at this; omega)
      rw [ht, List.filter_append, List.map_append]
      generalize (((intsTo n).take i).filter fun i => !s.contains i && !(tied.any fun r => decide (atR r i < 0))) = acc at lf
      generalize (intsTo n)[i] = v at hv
      simp [dInA_ints (neg := true) (i := v) (s := s) (.inl rfl)]
      refine brQ_of (fun c1 => ?_) fun c1 => ?_
      · refine cmp_filt (fun r : List Int => D.tup (r.map .int)) (fun r => D.tup (r.map .int)) tied (fun r => decide (atR r v < 0)) (by simp) (by omega) (fun r m => by simp [seqIx_at hv.1 (show v < (r.length : Int) by rw [hrt r m]; exact hv.2)]) (fun r m _ => by simp) fun w2 e el => ?_
        simp at e el
        have ee : (tied.filter fun r => decide (atR r v < 0)).isEmpty = !(tied.any fun r => decide (atR r v < 0)) := filt_empty _ _
        cases ea : (tied.any fun r => decide (atR r v < 0)) with
        | true =>
          rw [ea] at ee
          simp [e, ee]
          simp at c1
          obtain ⟨x, m, hx⟩ := List.any_eq_true.mp ea
          simp [c1]
          exact ⟨x, m, of_decide_eq_true hx⟩
        | false =>
          rw [ea] at ee
          simp [e, ee, lf]
          simp at c1
          simp [ea, c1]
      · simp at c1
        simp [c1]
  rintro w ⟨x5, x6, rfl⟩
  simp [DQ]
/-! strata -/
theorem nt_perm {r s t : List Int} (h : s.Perm t) : nt r s = nt r t := by
  unfold nt
  rw [Bool.eq_iff_iff, List.all_eq_true, List.all_eq_true]
  exact ⟨fun a x m => a x (h.mem_iff.mpr m), fun a x m => a x (h.mem_iff.mp m)⟩
theorem freeL_perm {n : Nat} {rows : List (List Int)} {s t : List Int} (h : s.Perm t) : freeL n rows s = freeL n rows t := by
  unfold freeL
  congr 1
  funext i
  unfold freeP
  have e1 : s.contains i = t.contains i := by
    rw [Bool.eq_iff_iff, List.contains_iff_mem, List.contains_iff_mem]; exact h.mem_iff
  have e2 : (nt · s) = (nt · t) := by funext r; exact nt_perm h
  rw [e1, e2]
theorem free_mem {n : Nat} {rows : List (List Int)} {s : List Int} {i : Int} (h : i ∈ freeL n rows s) : (0 ≤ i ∧ i < (n : Int)) ∧ i ∉ s := by
  obtain ⟨h1, h2⟩ := List.mem_filter.mp h
  refine ⟨intsTo_mem.mp h1, fun m => ?_⟩
  unfold freeP at h2
  rw [show s.contains i = true from List.contains_iff_mem.mpr m] at h2
  simp at h2
theorem free_len {n : Nat} {rows : List (List Int)} {s : List Int} : (freeL n rows s).length ≤ n := by
  have := List.length_filter_le (freeP rows s) (intsTo n)
  rw [intsTo_len] at this; exact this
theorem InN.app {n : Nat} {rows : List (List Int)} {s : List Int} (h : InN n s) : InN n (s ++ freeL n rows s) := fun i m => by
  rcases List.mem_append.mp m with m | m
  · exact h i m
  · exact (free_mem m).1
def leftN (n : Nat) (s : List Int) : Nat := ((intsTo n).filter fun i => !s.contains i).length
theorem left_lt {n : Nat} {rows : List (List Int)} {s : List Int} (h : freeL n rows s ≠ []) : leftN n (s ++ freeL n rows s) < leftN n s := by
  obtain ⟨i, hi⟩ := List.exists_mem_of_ne_nil _ h
  obtain ⟨h1, h2⟩ := free_mem hi
  unfold leftN
  have e : ((intsTo n).filter fun i => !(s ++ freeL n rows s).contains i) = ((intsTo n).filter fun i => !s.contains i).filter fun i => !(freeL n rows s).contains i := by
    rw [List.filter_filter]
    congr 1
    funext j
    rw [Bool.eq_iff_iff]
    simp
    exact And.comm
  rw [e]
  refine List.length_filter_lt_length_iff_exists.mpr ⟨i, List.mem_filter.mpr ⟨intsTo_mem.mpr h1, by simp [h2]⟩, by simp [hi]⟩
/-! told and due -/
/-! what the strata hold -/
theorem freeL_nd {n : Nat} {rows : List (List Int)} {s : List Int} : (freeL n rows s).Nodup := (intsTo_nd n).filter _
def IsPerm (n : Nat) (o : List Int) : Prop := o.Perm (intsTo n)
theorem IsPerm.ord {n : Nat} {o : List Int} (h : IsPerm n o) : IsOrd n o := isOrd_of h
theorem IsPerm.at {n : Nat} {o : List Int} (h : IsPerm n o) {i : Int} (h0 : 0 ≤ i) (h1 : i < n) : ∃ j, ∃ hj : j < o.length, o[j] = i := List.mem_iff_getElem.mp (h.mem_iff.mpr (intsTo_mem.mpr ⟨h0, h1⟩))
theorem mem_take {o : List Int} {top : Nat} {i : Int} : i ∈ o.take top ↔ ∃ j, ∃ hj : j < o.length, j < top ∧ o[j] = i := by
  constructor
  · intro m
    obtain ⟨j, hj, e⟩ := List.mem_iff_getElem.mp m
    rw [List.getElem_take] at e
    rw [List.length_take] at hj
    exact ⟨j, by omega, by omega, e⟩
  · rintro ⟨j, hj, l, rfl⟩
    exact List.mem_iff_getElem.mpr ⟨j, by rw [List.length_take]; omega, by rw [List.getElem_take]⟩
theorem nt_iff {r s : List Int} : nt r s = true ↔ ∀ i ∈ s, atR r i = 0 := by
  unfold nt
  rw [List.all_eq_true]
  exact ⟨fun h i m => of_decide_eq_true (h i m), fun h i m => decide_eq_true (h i m)⟩
theorem freeP_iff {rows : List (List Int)} {s : List Int} {i : Int} : freeP rows s i = true ↔ i ∉ s ∧ ∀ r ∈ rows, (∀ j ∈ s, atR r j = 0) → 0 ≤ atR r i := by
  unfold freeP
  rw [Bool.and_eq_true, Bool.not_eq_true', Bool.not_eq_true', List.any_eq_false]
  constructor
  · rintro ⟨h1, h2⟩
    refine ⟨fun m => ?_, fun r m hz => ?_⟩
    · rw [List.contains_iff_mem.mpr m] at h1; cases h1
    · have := h2 r (List.mem_filter.mpr ⟨m, nt_iff.mpr hz⟩)
      have h3 : ¬ atR r i < 0 := fun z => this (decide_eq_true z)
      omega
  · rintro ⟨h1, h2⟩
    refine ⟨?_, fun r m z => ?_⟩
    · cases e : s.contains i with
      | false => rfl
      | true => exact absurd (List.contains_iff_mem.mp e) h1
    · obtain ⟨m1, m2⟩ := List.mem_filter.mp m
      have := h2 r m1 (nt_iff.mp m2)
      have := of_decide_eq_true z
      omega
theorem freeL_iff {n : Nat} {rows : List (List Int)} {s : List Int} {i : Int} : i ∈ freeL n rows s ↔ (0 ≤ i ∧ i < (n : Int)) ∧ i ∉ s ∧ ∀ r ∈ rows, (∀ j ∈ s, atR r j = 0) → 0 ≤ atR r i := by
  unfold freeL
  rw [List.mem_filter, intsTo_mem, freeP_iff]
end K17

set_option autoImplicit false
namespace K17
open PySem PySem.Spec L2 Pm 
/-! ### sets as numbers, families, their closure: plain -/
abbrev Asc (S : List Int) : Prop := S.Pairwise (· < ·)
theorem asc_nd {S : List Int} (h : Asc S) : S.Nodup := h.imp fun h => by omega
theorem asc_ext {S T : List Int} (h1 : Asc S) (h2 : Asc T) (h : ∀ i, i ∈ S ↔ i ∈ T) : S = T :=
  List.Perm.eq_of_pairwise (le := (· < ·)) (fun a b _ _ x y => absurd (Int.lt_trans x y) (Int.lt_irrefl a)) h1 h2 ((List.perm_ext_iff_of_nodup (asc_nd h1) (asc_nd h2)).mpr h)
/-- a set as a number -/
def mks (S : List Int) : Nat := (S.map fun r => 2 ^ r.toNat).sum
theorem mk_dvd {a : Nat} : ∀ {S : List Int}, (∀ r ∈ S, (a : Int) < r) → 2 ^ (a + 1) ∣ mks S
  | [], _ => ⟨0, rfl⟩
  | r :: S, h => by
    show _ ∣ 2 ^ r.toNat + mks S
    refine Nat.dvd_add (Nat.pow_dvd_pow 2 ?_) (mk_dvd fun x m => h x (List.mem_cons_of_mem _ m))
    have := h r List.mem_cons_self
    omega
theorem bit_add {a i x : Nat} (h : 2 ^ (a + 1) ∣ x) : (2 ^ a + x).testBit i = (decide (i = a) || x.testBit i) := by
  obtain ⟨y, rfl⟩ := h
  rw [Nat.add_comm, Nat.two_pow_add_eq_or_of_lt (Nat.pow_lt_pow_right (by omega) (by omega)), Nat.testBit_or, Nat.testBit_two_pow, Bool.or_comm]
  have e : decide (a = i) = decide (i = a) := by rw [decide_eq_decide]; exact eq_comm
  rw [e]
theorem mk_bit : ∀ {S : List Int}, Asc S → (∀ r ∈ S, 0 ≤ r) → ∀ i : Nat, (mks S).testBit i = S.contains (i : Int)
  | [], _, _, i => by simp [mks]
  | r :: S, h, h0, i => by
    replace h := List.pairwise_cons.mp h
    show (2 ^ r.toNat + mks S).testBit i = _
    have r0 := h0 r List.mem_cons_self
    rw [bit_add (mk_dvd fun x m => by have := h.1 x m; omega), mk_bit h.2 (fun x m => h0 x (List.mem_cons_of_mem _ m)), List.contains_cons]
    congr 1
    rw [Bool.eq_iff_iff]; simp; omega
structure Sb (n : Nat) (S : List Int) : Prop where
  asc : Asc S
  inn : InN n S
theorem Sb.nn {n : Nat} {S : List Int} (h : Sb n S) : ∀ r ∈ S, 0 ≤ r := fun r m => (h.inn r m).1
theorem Sb.bit {n : Nat} {S : List Int} (h : Sb n S) (i : Nat) : (mks S).testBit i = S.contains (i : Int) := mk_bit h.asc h.nn i
theorem Sb.of_bit {n : Nat} {S T : List Int} (h : Sb n S) (h2 : Sb n T) (e : ∀ i : Nat, (mks S).testBit i = (mks T).testBit i) : S = T := by
  refine asc_ext h.asc h2.asc fun i => ?_
  by_cases c : 0 ≤ i
  · have := e i.toNat
    rw [h.bit, h2.bit, show ((i.toNat : Nat) : Int) = i by omega, Bool.eq_iff_iff] at this
    simpa using this
  · exact ⟨fun m => absurd (h.nn i m) c, fun m => absurd (h2.nn i m) c⟩
theorem Sb.inj {n : Nat} {S T : List Int} (h : Sb n S) (h2 : Sb n T) (e : mks S = mks T) : S = T := h.of_bit h2 fun i => by rw [e]
/-- union and without -/
def uniL (S T : List Int) : List Int := sortI (S ++ T.filter fun r => !S.contains r)
theorem uniL_mem {S T : List Int} {i : Int} : i ∈ uniL S T ↔ i ∈ S ∨ i ∈ T := by
  unfold uniL
  rw [(sortI_perm _).mem_iff]
  simp
  by_cases c : i ∈ S <;> simp [c]
theorem uniL_sub {n : Nat} {S T : List Int} (h : Sb n S) (h2 : Sb n T) : Sb n (uniL S T) where
  asc := sortI_lt (List.nodup_append.mpr ⟨asc_nd h.asc, (asc_nd h2.asc).sublist List.filter_sublist, fun a m b mb e => by
    subst e
    have := (List.mem_filter.mp mb).2
    simp at this
    exact this m⟩)
  inn i m := (uniL_mem.mp m).elim (h.inn i) (h2.inn i)
theorem uniL_mk {n : Nat} {S T : List Int} (h : Sb n S) (h2 : Sb n T) : mks (uniL S T) = mks S ||| mks T := by
  refine Nat.eq_of_testBit_eq fun i => ?_
  rw [Nat.testBit_or, (uniL_sub h h2).bit, h.bit, h2.bit, Bool.eq_iff_iff]
  simp [uniL_mem]
def witL (S : List Int) (r : Int) : List Int := S.filter (· != r)
theorem witL_sub {n : Nat} {S : List Int} {r : Int} (h : Sb n S) : Sb n (witL S r) := ⟨h.asc.sublist List.filter_sublist, fun i m => h.inn i (List.mem_filter.mp m).1⟩
theorem witL_mk {n : Nat} {S : List Int} {r : Int} (h : Sb n S) (m : r ∈ S) : 2 ^ r.toNat + mks (witL S r) = mks S := by
  have p := List.perm_cons_erase m
  rw [(asc_nd h.asc).erase_eq_filter] at p
  have := (p.map fun r => 2 ^ r.toNat).sum_nat
  show 2 ^ r.toNat + ((S.filter (· != r)).map fun r => 2 ^ r.toNat).sum = (S.map fun r => 2 ^ r.toNat).sum
  rw [this]; rfl
theorem mk_zero {n : Nat} {S : List Int} (h : Sb n S) : mks S = 0 ↔ S = [] := ⟨fun e => h.inj (T := []) ⟨List.Pairwise.nil, nofun⟩ e, fun e => by subst e; rfl⟩
theorem intsTo_sub (n : Nat) : Sb n (intsTo n) where
  asc := by
    unfold intsTo
    refine List.pairwise_map.mpr ?_
    exact List.pairwise_lt_range.imp fun h => by omega
  inn i m := intsTo_mem.mp m
theorem mk_full (n : Nat) : mks (intsTo n) = 2 ^ n - 1 := by
  refine Nat.eq_of_testBit_eq fun i => ?_
  rw [(intsTo_sub n).bit, Nat.testBit_two_pow_sub_one, Bool.eq_iff_iff]
  simp [intsTo_mem]
/-! ### rankings that fit: plain -/
theorem rev_ind {P : List Int → Prop} (h0 : P []) (hs : ∀ l i, P l → P (l ++ [i])) (l : List Int) : P l := by
  have : ∀ m : List Int, P m.reverse := fun m => by
    induction m with
    | nil => exact h0
    | cons i m ih => rw [List.reverse_cons]; exact hs _ _ ih
  have := this l.reverse
  rwa [List.reverse_reverse] at this
theorem bel_snoc {r : List Int} {i : Int} : ∀ {o : List Int}, bel r (o ++ [i]) = if nt r o = true then decide (atR r i < 0) else bel r o
  | [] => by
    show (if atR r i = 0 then false else decide (atR r i < 0)) = if true = true then _ else _
    rw [if_pos rfl]
    by_cases c : atR r i = 0
    · rw [if_pos c, c]; rfl
    · rw [if_neg c]
  | j :: o => by
    have e : nt r (j :: o) = (decide (atR r j = 0) && nt r o) := rfl
    show (if atR r j = 0 then bel r (o ++ [i]) else decide (atR r j < 0)) = if nt r (j :: o) = true then _ else (if atR r j = 0 then bel r o else decide (atR r j < 0))
    rw [e]
    by_cases c : atR r j = 0
    · simp only [c, if_true, decide_true, Bool.true_and]
      rw [bel_snoc]
    · simp [c]
def fit (rows : List (List Int)) (o : List Int) : Bool := rows.all fun r => !bel r o
theorem fit_iff {rows : List (List Int)} {o : List Int} : fit rows o = true ↔ ∀ r ∈ rows, bel r o = false := by
  unfold fit; rw [List.all_eq_true]; simp
theorem fit_snoc {rows : List (List Int)} {o : List Int} {i : Int} : fit rows (o ++ [i]) = true ↔ fit rows o = true ∧ ∀ r ∈ rows, (∀ j ∈ o, atR r j = 0) → 0 ≤ atR r i := by
  rw [fit_iff, fit_iff]
  constructor
  · intro h
    refine ⟨fun r m => ?_, fun r m hz => ?_⟩
    · have := h r m
      rw [bel_snoc] at this
      by_cases c : nt r o = true
      · exact bel_zero (nt_iff.mp c)
      · rw [if_neg c] at this; exact this
    · have := h r m
      rw [bel_snoc, if_pos (nt_iff.mpr hz), decide_eq_false_iff_not] at this
      omega
  · rintro ⟨h1, h2⟩ r m
    rw [bel_snoc]
    by_cases c : nt r o = true
    · rw [if_pos c, decide_eq_false_iff_not]
      have := h2 r m (nt_iff.mp c)
      omega
    · rw [if_neg c]; exact h1 r m
/-- a beginning of a ranking, no row below -/
structure RunO (n : Nat) (rows : List (List Int)) (o : List Int) : Prop where
  nd : o.Nodup
  inn : InN n o
  fit : fit rows o = true
theorem run_nil {n : Nat} {rows : List (List Int)} : RunO n rows [] := ⟨List.nodup_nil, nofun, fit_iff.mpr fun r m => rfl⟩
theorem run_snoc {n : Nat} {rows : List (List Int)} {o : List Int} {i : Int} : RunO n rows (o ++ [i]) ↔ RunO n rows o ∧ i ∈ freeL n rows o := by
  rw [freeL_iff]
  constructor
  · rintro ⟨h1, h2, h3⟩
    obtain ⟨f1, f2⟩ := fit_snoc.mp h3
    have nd := List.nodup_append.mp h1
    exact ⟨⟨nd.1, fun j m => h2 j (List.mem_append_left _ m), f1⟩, h2 i (by simp), fun m => nd.2.2 i m i (by simp) rfl, f2⟩
  · rintro ⟨⟨h1, h2, h3⟩, h4, h5, h6⟩
    refine ⟨List.nodup_append.mpr ⟨h1, by simp, fun a m b mb e => ?_⟩, fun j m => ?_, fit_snoc.mpr ⟨h3, h6⟩⟩
    · simp at mb; subst mb; subst e; exact h5 m
    · rcases List.mem_append.mp m with m | m
      · exact h2 j m
      · simp at m; subst m; exact h4
theorem run_pre {n : Nat} {rows : List (List Int)} {o t : List Int} : RunO n rows (o ++ t) → RunO n rows o :=
  rev_ind (P := fun t => RunO n rows (o ++ t) → RunO n rows o) (fun h => by rwa [List.append_nil] at h) (fun t i ih h => by
    rw [← List.append_assoc] at h
    exact ih (run_snoc.mp h).1) t
theorem run_take {n : Nat} {rows : List (List Int)} {o : List Int} (h : RunO n rows o) (k : Nat) : RunO n rows (o.take k) := run_pre (t := o.drop k) (by rw [List.take_append_drop]; exact h)
theorem run_free {n : Nat} {rows : List (List Int)} {o : List Int} (h : RunO n rows o) {k : Nat} (hk : k < o.length) : o[k] ∈ freeL n rows (o.take k) := by
  have := run_take h (k + 1)
  rw [List.take_add_one, List.getElem?_eq_getElem hk] at this
  exact (run_snoc.mp this).2
theorem first_out {o0 o : List Int} : (∃ i ∈ o0, i ∉ o) → ∃ a i b, o0 = a ++ i :: b ∧ (∀ j ∈ a, j ∈ o) ∧ i ∉ o := by
  induction o0 with
  | nil => rintro ⟨i, m, _⟩; cases m
  | cons x o0 ih =>
    rintro ⟨i, m, hn⟩
    by_cases c : x ∈ o
    · rcases List.mem_cons.mp m with e | m
      · subst e; exact absurd c hn
      · obtain ⟨a, j, b, e, h1, h2⟩ := ih ⟨i, m, hn⟩
        exact ⟨x :: a, j, b, by rw [e]; rfl, fun y my => (List.mem_cons.mp my).elim (fun e => e ▸ c) (h1 y), h2⟩
    · exact ⟨[], x, o0, rfl, nofun, c⟩
/-- a ranking that fits -/
structure Rk (n : Nat) (rows : List (List Int)) (o : List Int) : Prop where
  perm : IsPerm n o
  fit : fit rows o = true
theorem Rk.run {n : Nat} {rows : List (List Int)} {o : List Int} (h : Rk n rows o) : RunO n rows o := ⟨h.perm.ord.1, h.perm.ord.2.2, h.fit⟩
theorem run_ext {n : Nat} {rows : List (List Int)} {o0 o : List Int} (h0 : Rk n rows o0) (h : ∃ i, (0 ≤ i ∧ i < (n : Int)) ∧ i ∉ o) : ∃ i, i ∈ freeL n rows o := by
  obtain ⟨i, hi, hn⟩ := h
  obtain ⟨a, j, b, e, h1, h2⟩ := first_out (o0 := o0) (o := o) ⟨i, h0.perm.mem_iff.mpr (intsTo_mem.mpr hi), hn⟩
  refine ⟨j, freeL_iff.mpr ⟨h0.perm.ord.2.2 j (by rw [e]; simp), h2, fun r m hz => ?_⟩⟩
  have hr := h0.run
  rw [e, show a ++ j :: b = (a ++ [j]) ++ b by simp] at hr
  exact (fit_snoc.mp (run_pre hr).fit).2 r m fun q mq => hz q (h1 q mq)
theorem full_perm {n : Nat} {o : List Int} (nd : o.Nodup) (h : InN n o) (hl : ∀ i, (0 ≤ i ∧ i < (n : Int)) → i ∈ o) : IsPerm n o :=
  (List.perm_ext_iff_of_nodup nd (intsTo_nd n)).mpr fun i => ⟨fun m => intsTo_mem.mpr (h i m), fun m => hl i (intsTo_mem.mp m)⟩
/-- a beginning goes on to a ranking -/
theorem run_full {n : Nat} {rows : List (List Int)} {o0 : List Int} (h0 : Rk n rows o0) : ∀ (k : Nat) (o : List Int), RunO n rows o → leftN n o ≤ k → ∃ t, Rk n rows (o ++ t)
  | k, o, h, hk => by
    by_cases c : ∃ i, (0 ≤ i ∧ i < (n : Int)) ∧ i ∉ o
    · obtain ⟨i, hi⟩ := run_ext h0 c
      have h2 := run_snoc.mpr ⟨h, hi⟩
      have lt : leftN n (o ++ [i]) < leftN n o := by
        have hm := free_mem hi
        unfold leftN
        have e : ((intsTo n).filter fun j => !(o ++ [i]).contains j) = ((intsTo n).filter fun j => !o.contains j).filter fun j => !decide (j = i) := by
          rw [List.filter_filter]
          congr 1
          funext j
          rw [Bool.eq_iff_iff]
          simp
          exact And.comm
        rw [e]
        exact List.length_filter_lt_length_iff_exists.mpr ⟨i, List.mem_filter.mpr ⟨intsTo_mem.mpr hm.1, by simp [hm.2]⟩, by simp⟩
      match k, hk with
      | 0, hk => omega
      | k + 1, hk =>
        obtain ⟨t, ht⟩ := run_full h0 k (o ++ [i]) h2 (by omega)
        exact ⟨i :: t, by rw [show o ++ i :: t = (o ++ [i]) ++ t by simp]; exact ht⟩
    · refine ⟨[], ?_⟩
      rw [List.append_nil]
      exact ⟨full_perm h.nd h.inn fun i hi => Classical.byContradiction fun m => c ⟨i, hi, m⟩, h.fit⟩
theorem run_goes {n : Nat} {rows : List (List Int)} {o0 o : List Int} (h0 : Rk n rows o0) (h : RunO n rows o) : ∃ t, Rk n rows (o ++ t) := run_full h0 _ o h (Nat.le_refl _)
/-- the feasible sets -/
def Fea (n : Nat) (rows : List (List Int)) (S : List Int) : Prop := ∃ o, RunO n rows o ∧ S = sortI o
theorem sort_perm_eq {a b : List Int} (h : a.Perm b) : sortI a = sortI b := sortI_eq ((sortI_perm a).trans h) (sortI_pw a)
theorem Fea.sb {n : Nat} {rows : List (List Int)} {S : List Int} (h : Fea n rows S) : Sb n S := by
  obtain ⟨o, h, rfl⟩ := h
  exact ⟨sortI_lt h.nd, fun i m => h.inn i ((sortI_perm o).mem_iff.mp m)⟩
theorem fea_nil {n : Nat} {rows : List (List Int)} : Fea n rows [] := ⟨[], run_nil, by simp [sortI]⟩
theorem Fea.step {n : Nat} {rows : List (List Int)} {S : List Int} (h : Fea n rows S) {i : Int} (m : i ∈ freeL n rows S) : Fea n rows (sortI (S ++ [i])) := by
  obtain ⟨o, h, rfl⟩ := h
  rw [freeL_perm (sortI_perm o)] at m
  exact ⟨o ++ [i], run_snoc.mpr ⟨h, m⟩, sort_perm_eq ((sortI_perm o).append_right _)⟩
/-- what holds the empty set and grows by free rules holds all -/
theorem fea_all {n : Nat} {rows : List (List Int)} {P : List Int → Prop} (h0 : P []) (hs : ∀ S, P S → ∀ i ∈ freeL n rows S, P (sortI (S ++ [i]))) {S : List Int} (h : Fea n rows S) : P S := by
  obtain ⟨o, h, rfl⟩ := h
  revert h
  refine rev_ind (P := fun o => RunO n rows o → P (sortI o)) (fun _ => by simpa [sortI] using h0) (fun o i ih h => ?_) o
  obtain ⟨h1, h2⟩ := run_snoc.mp h
  have := hs _ (ih h1) i (by rw [freeL_perm (sortI_perm o)]; exact h2)
  rwa [sort_perm_eq ((sortI_perm o).append_right [i])] at this
theorem mks_lt {n : Nat} {S : List Int} (h : Sb n S) : mks S < 2 ^ n := by
  refine Nat.lt_of_not_le fun z => ?_
  obtain ⟨i, hi, hb⟩ := Nat.exists_ge_and_testBit_of_ge_two_pow z
  rw [h.bit] at hb
  have := h.inn _ (List.contains_iff_mem.mp hb)
  omega
theorem sb_count {n : Nat} {G : List (List Int)} (nd : G.Nodup) (h : ∀ S ∈ G, Sb n S) (hn : n ≤ 6) : G.length ≤ 64 := by
  have p : 2 ^ n ≤ 2 ^ 6 := Nat.pow_le_pow_right (by omega) hn
  have := sub_len (l := G.map fun S => ((mks S : Nat) : Int)) (m := intsTo 64) (List.pairwise_map.mpr (List.Pairwise.imp_of_mem (fun {a b} ma mb hab e => hab ((h a ma).inj (h b mb) (by omega))) nd)) fun x m => by
    obtain ⟨S, mS, rfl⟩ := List.mem_map.mp m
    have := mks_lt (h S mS)
    exact intsTo_mem.mpr ⟨by omega, by omega⟩
  rwa [List.length_map, intsTo_len] at this
end K17

set_option autoImplicit false
namespace K17
open PySem PySem.Spec L2 Pm 
/-! what is known -/
theorem isK_ints {S : List Int} : isK true (.tup (S.map .int)) = true := by
  show (ksOf (S.map D.int)).isSome = true
  have : S.map D.int = (S.map fun i => (Sum.inl i : Key)).map keyD := by rw [List.map_map]; rfl
  rw [this, ksOf_keyD]; rfl
structure Kn (l ks vs : List D) : Prop where
  mem : ∀ x, x ∈ ks ↔ x ∈ l
  len : ks.length ≤ l.length
  vp : pls vs = true
theorem Kn.inK {l ks vs : List D} (h : Kn l ks vs) {x : D} {b : Bool} (e : x ∈ l ↔ b = true) : inK x ks = b := by
  rw [Bool.eq_iff_iff, inK_iff, h.mem, e]
theorem tup_inj {S T : List Int} (h : D.tup (S.map .int) = .tup (T.map .int)) : S = T := by
  injection h with h; exact map_int_inj h
theorem mem_rowsD {F : List (List Int)} {S : List Int} : D.tup (S.map .int) ∈ rowsD F ↔ F.contains S = true := by
  rw [List.contains_iff_mem]
  unfold rowsD
  rw [List.mem_map]
  exact ⟨fun ⟨T, m, e⟩ => tup_inj e ▸ m, fun m => ⟨S, m, rfl⟩⟩
theorem mem_natD {K : List Nat} {m : Nat} : D.int (m : Int) ∈ K.map (fun k : Nat => D.int (k : Int)) ↔ K.contains m = true := by
  rw [List.contains_iff_mem, List.mem_map]
  constructor
  · rintro ⟨k, mk, e⟩
    injection e with e
    have : k = m := by omega
    exact this ▸ mk
  · exact fun h => ⟨m, h, rfl⟩
theorem pK_mem {ks : List D} {k x : D} : x ∈ pK ks k ↔ x ∈ ks ∨ x = k := by
  unfold pK
  split
  · rename_i h
    exact ⟨.inl, fun o => o.elim id fun e => e ▸ h⟩
  · simp
theorem pK_len {ks : List D} {k : D} : (pK ks k).length ≤ ks.length + 1 := by
  unfold pK
  split <;> simp
theorem rD_pls {k v : D} (hv : pl v = true) : ∀ {ks vs : List D}, pls vs = true → pls (rD ks vs k v) = true
  | [], _, _ => by unfold rD; rfl
  | _ :: _, [], _ => by unfold rD; rfl
  | k0 :: ks, v0 :: vs, h => by
    have h2 : (pl v0 && pls vs) = true := h
    rw [Bool.and_eq_true] at h2
    unfold rD
    show (pl _ && pls (rD ks vs k v)) = true
    rw [rD_pls hv h2.2]
    split <;> simp [hv, h2.1]
theorem pV_pls {ks vs : List D} {k v : D} (hv : pl v = true) (h : pls vs = true) : pls (pV ks vs k v) = true := by
  unfold pV
  split
  · exact rD_pls hv h
  · rw [pls_app, h]; simp [hv]
theorem Kn.snoc {l ks vs : List D} (h : Kn l ks vs) {k v : D} (hv : pl v = true) : Kn (l ++ [k]) (pK ks k) (pV ks vs k v) where
  mem x := by rw [pK_mem, h.mem]; simp
  len := by rw [List.length_append]; exact Nat.le_trans pK_len (Nat.succ_le_succ h.len)
  vp := pV_pls hv h.vp


theorem pK_new {ks : List D} {k : D} (h : k ∉ ks) : pK ks k = ks ++ [k] := by unfold pK; rw [if_neg h]
theorem pV_new {ks vs : List D} {k v : D} (h : k ∉ ks) : pV ks vs k v = vs ++ [v] := by unfold pV; rw [if_neg h]
theorem vD_rows {g : List Int → List Int} : ∀ {F : List (List Int)} {S : List Int}, S ∈ F → vD (rowsD F) (rowsD (F.map g)) (.tup (S.map .int)) = some (.tup ((g S).map .int))
  | T :: F, S, h => by
    show vD (.tup (T.map .int) :: rowsD F) (.tup ((g T).map .int) :: rowsD (F.map g)) _ = _
    unfold vD
    by_cases c : T = S
    · subst c; rw [if_pos rfl]
    · rw [if_neg (fun e => c (tup_inj e))]
      exact vD_rows ((List.mem_cons.mp h).resolve_left fun e => c e.symm)
/-- the dict of the feasible sets -/
structure FeaD (n : Nat) (rows : List (List Int)) (F : List (List Int)) : Prop where
  nd : F.Nodup
  mem : ∀ S, S ∈ F ↔ Fea n rows S
def feaD (n : Nat) (rows F : List (List Int)) : D := .odc true (rowsD F) (rowsD (F.map (freeL n rows)))
def feaF (n : Nat) (rows F : List (List Int)) : D := .fdc true (rowsD F) (rowsD (F.map (freeL n rows)))
theorem FeaD.len {n : Nat} {rows F : List (List Int)} (h : FeaD n rows F) (hn : n ≤ 6) : F.length ≤ 64 := sb_count h.nd (fun S m => ((h.mem S).mp m).sb) hn
theorem fea_take {Q : List (List Int)} {a : Nat} (h : a < Q.length) {F : List (List Int)} (ht : ∀ S ∈ Q.take a, S ∈ F) {F' : List (List Int)} (hs : ∀ S ∈ F, S ∈ F') (hq : Q[a] ∈ F') {T : List (List Int)} : ∀ S ∈ (Q ++ T).take (a + 1), S ∈ F' := fun S m => by
  rw [List.take_append_of_le_length (by omega), List.take_add_one, List.getElem?_eq_getElem h] at m
  rcases List.mem_append.mp m with m | m
  · exact hs S (ht S m)
  · simp at m; subst m; exact hq
theorem Sb.len {n : Nat} {S : List Int} (h : Sb n S) : S.length ≤ n := by
  have := sub_len (l := S) (m := intsTo n) (asc_nd h.asc) fun x m => intsTo_mem.mpr (h.inn x m)
  rwa [intsTo_len] at this
structure GI (n : Nat) (rows F Q : List (List Int)) (a k : Nat) : Prop where
  nd : F.Nodup
  fF : ∀ S ∈ F, Fea n rows S
  fQ : ∀ S ∈ Q, Fea n rows S
  tk : ∀ S ∈ Q.take a, S ∈ F
  cl : ∀ S ∈ F, ∀ i ∈ freeL n rows S, sortI (S ++ [i]) ∈ Q
  em : [] ∈ Q
  le : a ≤ Q.length
  ln : Q.length ≤ 1 + 6 * F.length
  me : (64 - F.length) * 7 + (Q.length - a) ≤ k
def GInv (n : Nat) (rows : List (List Int)) (k : Nat) (w : Ev) : Prop := ∃ (F Q : List (List Int)) (a : Nat) (x4 x5 : Option D), w = [some .fn, some (feaD n rows F), some (.own (rowsD (Q))), some (.int ((a : Int))), x4, x5] ∧ GI n rows F Q a k
theorem GInv.of {n : Nat} {rows F Q : List (List Int)} {a k : Nat} {x4 x5 : Option D} {w : Ev} (h : GI n rows F Q a k) (e : w = [some .fn, some (feaD n rows F), some (.own (rowsD (Q))), some (.int ((a : Int))), x4, x5]) : GInv n rows k w := ⟨F, Q, a, x4, x5, e, h⟩
def GEnd (n : Nat) (rows : List (List Int)) (w : Ev) : Prop := ∃ F x2 x3 x4 x5, w = [some .fn, some (feaD n rows F), x2, x3, x4, x5] ∧ FeaD n rows F
@[simp] theorem dI_ints {f : Int → Int → Option D} {i j : Int} : dI f (.int i) (.int j) = f i j := rfl
theorem grown_ok {n : Nat} {rows : List (List Int)} {G : D → Option D} (hn : n ≤ 6) (hG : ∀ S, Sb n S → G (.tup (S.map .int)) = some (.tup ((freeL n rows S).map .int))) :
    WpR (m_grown_sets G [.fn]) fun d os => os = [.fn] ∧ ∃ F, d = feaD n rows F ∧ FeaD n rows F := by
  refine wpr_mk rfl ?_
  unfold b_grown_sets
  rw [show startE 6 [.fn] = [some .fn, none, none, none, none, none] from rfl]
  refine wp_to (fun w => w = [some .fn, some (feaD n rows []), none, none, none, none]) (by simp; exact .mk rfl) ?_
  rintro w rfl
  refine wp_to (fun w => w = [some .fn, some (feaD n rows []), some (.own (rowsD ([[]]))), none, none, none]) (by simp; exact .mk rfl) ?_
  rintro w rfl
  refine wp_to (fun w => w = [some .fn, some (feaD n rows []), some (.own (rowsD ([[]]))), some (.int (((0 : Nat) : Int))), none, none]) (by simp; exact .mk rfl) ?_
  rintro w rfl
  refine wp_to (GEnd n rows) ?_ ?_
  · refine lz_while (GInv n rows) (n := 449) (GInv.of (F := []) (Q := [[]]) (a := 0) ⟨List.nodup_nil, (fun S m => by cases m), fun S m => by simp at m; subst m; exact fea_nil, (fun S m => by cases m), (fun S m => by cases m), by simp, by simp, by simp, by simp⟩ rfl) ?_
    rintro k w ⟨F, Q, a, x4, x5, rfl, h1, h2, h3, h4, h5, h6, h7, h8, h9⟩
    have fl := sb_count h1 (fun S m => (h2 S m).sb) hn
    refine Wp.mono (Q := fun b w1 => b = decide (a < Q.length) ∧ w1 = [some .fn, some (feaD n rows F), some (.own (rowsD (Q))), some (.int ((a : Int))), x4, x5]) (by simp) ?_
    rintro b w1 ⟨rfl, rfl⟩
    refine brQ_of (fun c => ?_) fun c => ?_
    · simp at c
      have hS := h3 _ (List.getElem_mem c)
      have ex := rowsD_ix c
      have hin : inK (.tup (Q[a].map .int)) (rowsD F) = F.contains Q[a] := by rw [Bool.eq_iff_iff, inK_iff, mem_rowsD]
      have tk : ∀ F', (∀ S ∈ F, S ∈ F') → Q[a] ∈ F' → ∀ T, ∀ S ∈ (Q ++ T).take (a + 1), S ∈ F' := fun F' hs hq T => fea_take c h4 hs hq
      generalize Q[a] = S at hS ex hin tk
      have hsb := hS.sb
      refine wp_to (fun w => w = [some .fn, some (feaD n rows F), some (.own (rowsD (Q))), some (.int ((a : Int))), some (.tup ((S).map D.int)), x5]) (by simp [ex]; exact .mk rfl) ?_
      rintro w rfl
      refine wp_to (fun w => w = [some .fn, some (feaD n rows F), some (.own (rowsD (Q))), some (.int (((a + 1 : Nat) : Int))), some (.tup ((S).map D.int)), x5]) (by simp; exact .mk rfl) ?_
      rintro w rfl
      by_cases cS : S ∈ F
      · have := tk F (fun S m => m) cS []
        rw [List.append_nil] at this
        simp [feaD, isK_ints, hin, cS]
        exact ⟨(64 - F.length) * 7 + (Q.length - (a + 1)), by omega, GInv.of (F := F) (Q := Q) (a := a + 1) ⟨h1, h2, h3, this, h5, h6, by omega, h8, Nat.le_refl _⟩ rfl⟩
      · have hSK : D.tup (S.map .int) ∉ rowsD F := fun m => cS (by rw [mem_rowsD, List.contains_iff_mem] at m; exact m)
        have nd2 : (F ++ [S]).Nodup := List.nodup_append.mpr ⟨h1, by simp, fun x m y my e => by simp at my; subst my; subst e; exact cS m⟩
        have h2' : ∀ T ∈ F ++ [S], Fea n rows T := fun T m => (List.mem_append.mp m).elim (h2 T) fun m => by simp at m; subst m; exact hS
        have fl2 := sb_count nd2 (fun S m => (h2' S m).sb) hn
        rw [List.length_append, List.length_singleton] at fl2
        have fr := free_len (n := n) (rows := rows) (s := S)
        have eK : pK (rowsD F) (.tup (S.map .int)) = rowsD (F ++ [S]) := by rw [pK_new hSK, rowsD_one]
        have eV : pV (rowsD F) (rowsD (F.map (freeL n rows))) (.tup (S.map .int)) (.tup ((freeL n rows S).map .int)) = rowsD ((F ++ [S]).map (freeL n rows)) := by rw [pV_new hSK, rowsD_one, List.map_append]; rfl
        have lF : F.length < sizeLine := line' (by omega)
        have vS : vD (rowsD (F ++ [S])) (rowsD ((F ++ [S]).map (freeL n rows))) (.tup (S.map .int)) = some (.tup ((freeL n rows S).map .int)) := vD_rows (by simp)
        simp [feaD, isK_ints, hin, cS, hG S hsb, lF, eK, eV, vS, -List.map_append]
        refine lz_forM (fun i w => ∃ x5, w = [some .fn, some (feaD n rows (F ++ [S])), some (.own (rowsD ((Q ++ ((freeL n rows S).take i).map fun r => sortI (S ++ [r]))))), some (.int (((a + 1 : Nat) : Int))), some (.tup ((S).map D.int)), x5]) ⟨x5, by simp [feaD]⟩ ?_ ?_
        · rintro w ⟨x5, rfl⟩
          rw [List.length_map, List.take_length]
          have lq : (Q ++ (freeL n rows S).map fun r => sortI (S ++ [r])).length = Q.length + (freeL n rows S).length := by rw [List.length_append, List.length_map]
          simp
          refine ⟨(64 - (F.length + 1)) * 7 + ((Q.length + (freeL n rows S).length) - (a + 1)), by omega, GInv.of (F := F ++ [S]) (Q := Q ++ (freeL n rows S).map fun r => sortI (S ++ [r])) (a := a + 1) ⟨nd2, h2', ?_, tk _ (fun S m => List.mem_append_left _ m) (by simp) _, ?_, List.mem_append_left _ h6, by rw [lq]; omega, by rw [lq, List.length_append, List.length_singleton]; omega, by rw [lq, List.length_append, List.length_singleton]; omega⟩ rfl⟩
          · intro T m
            rcases List.mem_append.mp m with m | m
            · exact h3 T m
            · obtain ⟨i, mi, rfl⟩ := List.mem_map.mp m
              exact hS.step mi
          · intro T m i mi
            rcases List.mem_append.mp m with m | m
            · exact List.mem_append_left _ (h5 T m i mi)
            · simp at m
              subst m
              exact List.mem_append_right _ (List.mem_map.mpr ⟨i, mi, rfl⟩)
        · rintro i d w hi ⟨x5, rfl⟩
          obtain ⟨hi', rfl⟩ := ints_at hi
          have sl := hsb.len
          have l1 : S.length + 1 ≤ sizeLine := line (by omega)
          have cm : S.map D.int ++ [D.int (freeL n rows S)[i]] = (S ++ [(freeL n rows S)[i]]).map D.int := by rw [List.map_append]; rfl
          have l2 : Q.length + min i (freeL n rows S).length < sizeLine := line' (by omega)
          simp [l1, l2, cm, dSortU_tup, -List.map_append]
          refine .mk ⟨some (.int (freeL n rows S)[i]), ?_⟩
          rw [List.take_add_one, List.getElem?_map, List.getElem?_eq_getElem hi', ← List.append_assoc]
          rw [show (Option.map (fun r => sortI (S ++ [r])) (some (freeL n rows S)[i])).toList = [sortI (S ++ [(freeL n rows S)[i]])] from rfl, ← rowsD_one]
    · simp at c
      have ea : a = Q.length := by omega
      subst ea
      rw [List.take_length] at h4
      refine ⟨rfl, .mk ⟨F, _, _, _, _, rfl, ⟨h1, fun S => ⟨h2 S, fun h => ?_⟩⟩⟩⟩
      exact fea_all (P := fun S => S ∈ F) (h4 _ h6) (fun S m i mi => h4 _ (h5 S m i mi)) h
  rintro w ⟨F, x2, x3, x4, x5, rfl, hF⟩
  simp
  exact ⟨F, rfl, hF⟩
theorem row_sets_ok {n : Nat} {rows : List (List Int)} (hn : n ≤ 6) (hl : rows.length ≤ 1000) (hr : Rect n rows) : WpR (m_row_sets [.int (n : Int), .tup (rowsD rows)]) fun d os => os = [] ∧ ∃ F, d = feaD n rows F ∧ FeaD n rows F := by
  refine wpr_mk rfl ?_
  unfold b_row_sets
  rw [show startE 2 [.int (n : Int), .tup (rowsD rows)] = [some (.int ((n : Int))), some (.tup (rowsD (rows)))] from rfl]
  rw [wp_Ret]
  refine wp_lam (by simp) ?_
  refine wp_nil.mpr ⟨nfs_nil, by simp, rfl, ?_⟩
  have hG : ∀ S, Sb n S → lamF (xCal 3 [] m_free_rules (xCons (xI 0) (xCons (xI 1) (xCons (xI 2) xNil)))) [some (.int ((n : Int))), some (.tup (rowsD (rows)))] (.tup (S.map .int)) = some (.tup ((freeL n rows S).map .int)) := fun S hS => by
    refine lamF_of ?_
    rw [lamSt_some (by simp), lamSt_some (by simp)]
    simp
    refine (free_rules_ok (by omega) hl hr hS.inn).dq ?_
    simp
  refine WpR.mono (grown_ok hn hG) ?_
  rintro d os ⟨rfl, F, rfl, hF⟩
  exact ⟨rfl, by simp [feaD], [], rfl, rfl, F, rfl, hF⟩
end K17

set_option autoImplicit false
namespace K17
open PySem PySem.Spec L2 Pm 
/-! ### all orders -/
def growL (n : Nat) (q : List Int → Int → Bool) : Nat → List (List Int)
  | 0 => [[]]
  | k + 1 => (growL n q k).flatMap fun o => ((intsTo n).filter (q o)).map fun i => o ++ [i]
theorem flat_len {α β : Type} {c : Nat} {f : α → List β} (h : ∀ a, (f a).length ≤ c) : ∀ l : List α, (l.flatMap f).length ≤ c * l.length
  | [] => by simp
  | a :: l => by
    rw [List.flatMap_cons, List.length_append, List.length_cons, Nat.mul_succ]
    have := h a
    have := flat_len h l
    omega
theorem grow_len {n : Nat} {q : List Int → Int → Bool} : ∀ k, (growL n q k).length ≤ n ^ k
  | 0 => Nat.le_refl _
  | k + 1 => by
    refine Nat.le_trans (flat_len (c := n) (fun o => ?_) _) ?_
    · rw [List.length_map]
      have := List.length_filter_le (q o) (intsTo n)
      rwa [intsTo_len] at this
    · rw [Nat.pow_succ, Nat.mul_comm]
      exact Nat.mul_le_mul_right n (grow_len k)
theorem grow_big {n k : Nat} {q : List Int → Int → Bool} (hn : n ≤ 6) (hk : k ≤ n) : (growL n q k).length ≤ 50000 := by
  refine Nat.le_trans (grow_len k) ?_
  have h1 : n ^ k ≤ 6 ^ k := Nat.pow_le_pow_left hn k
  have h2 : 6 ^ k ≤ 6 ^ 6 := Nat.pow_le_pow_right (by omega) (by omega)
  have : (6 : Nat) ^ 6 = 46656 := by decide
  omega
theorem grow_mem {n k : Nat} {q : List Int → Int → Bool} {o : List Int} : o ∈ growL n q (k + 1) ↔ ∃ p i, p ∈ growL n q k ∧ (0 ≤ i ∧ i < (n : Int)) ∧ q p i = true ∧ o = p ++ [i] := by
  show o ∈ (growL n q k).flatMap _ ↔ _
  rw [List.mem_flatMap]
  constructor
  · rintro ⟨p, hp, m⟩
    obtain ⟨i, mi, rfl⟩ := List.mem_map.mp m
    obtain ⟨m1, m2⟩ := List.mem_filter.mp mi
    exact ⟨p, i, hp, intsTo_mem.mp m1, m2, rfl⟩
  · rintro ⟨p, i, hp, hi, hq, rfl⟩
    exact ⟨p, hp, List.mem_map.mpr ⟨i, List.mem_filter.mpr ⟨intsTo_mem.mpr hi, hq⟩, rfl⟩⟩
theorem snoc_inj {p q : List Int} {i j : Int} (h : p ++ [i] = q ++ [j]) : p = q ∧ i = j := by
  have := List.append_inj' h rfl
  exact ⟨this.1, by simpa using this.2⟩
def ordsL (n : Nat) : Nat → List (List Int) := growL n fun o i => !o.contains i
theorem ords_mem {n : Nat} : ∀ {k : Nat} {o : List Int}, o ∈ ordsL n k ↔ o.length = k ∧ o.Nodup ∧ InN n o
  | 0, o => by
    show o ∈ [[]] ↔ _
    constructor
    · intro m; simp at m; subst m; exact ⟨rfl, List.nodup_nil, nofun⟩
    · rintro ⟨h, _⟩; rw [List.length_eq_zero_iff.mp h]; simp
  | k + 1, o => by
    refine Iff.trans grow_mem ?_
    constructor
    · rintro ⟨p, i, hp, hi, hq, rfl⟩
      obtain ⟨h1, h2, h3⟩ := ords_mem.mp hp
      simp at hq
      exact ⟨by simp [h1], List.nodup_append.mpr ⟨h2, by simp, fun a m b mb e => by simp at mb; subst mb; subst e; exact hq m⟩, fun j m => (List.mem_append.mp m).elim (h3 j) fun m => by simp at m; subst m; exact hi⟩
    · rintro ⟨h1, h2, h3⟩
      rcases List.eq_nil_or_concat o with rfl | ⟨p, i, rfl⟩
      · cases h1
      · rw [List.concat_eq_append] at *
        have nd := List.nodup_append.mp h2
        refine ⟨p, i, ords_mem.mpr ⟨by simpa using h1, nd.1, fun j m => h3 j (List.mem_append_left _ m)⟩, h3 i (by simp), ?_, rfl⟩
        simp
        exact fun m => nd.2.2 i m i (by simp) rfl
theorem ords_perm {n : Nat} {o : List Int} : o ∈ ordsL n n ↔ IsPerm n o := by
  rw [ords_mem]
  constructor
  · rintro ⟨h1, h2, h3⟩
    refine full_perm h2 h3 fun i hi => ?_
    refine Classical.byContradiction fun m => ?_
    have := sub_len (l := i :: o) (m := intsTo n) (List.nodup_cons.mpr ⟨m, h2⟩) fun x mx => intsTo_mem.mpr ((List.mem_cons.mp mx).elim (fun e => e ▸ hi) (h3 x))
    rw [intsTo_len, List.length_cons] at this
    omega
  · intro h; exact ⟨h.ord.2.1, h.ord.1, h.ord.2.2⟩
theorem grow_in {n : Nat} {q : List Int → Int → Bool} : ∀ {k : Nat} {o : List Int}, o ∈ growL n q k → o.length = k ∧ InN n o
  | 0, o, m => by
    have : o = [] := by simpa [growL] using m
    subst this; exact ⟨rfl, nofun⟩
  | k + 1, o, m => by
    obtain ⟨p, i, hp, hi, _, rfl⟩ := grow_mem.mp m
    obtain ⟨h1, h2⟩ := grow_in hp
    exact ⟨by simp [h1], fun j m => (List.mem_append.mp m).elim (h2 j) fun m => by simp at m; subst m; exact hi⟩
theorem flat_take {α β : Type} {f : α → List β} (l : List α) (i : Nat) : ((l.take i).flatMap f).length ≤ (l.flatMap f).length := by
  conv => rhs; rw [← List.take_append_drop i l, List.flatMap_append, List.length_append]
  omega
def OInv (n k : Nat) (w : Ev) : Prop := ∃ d1 x2 x3 x4 x5, w = [some (.int ((n : Int))), some d1, x2, x3, x4, x5] ∧ (d1 = .own (rowsD (ordsL n k)) ∨ d1 = .lst (rowsD (ordsL n k))) ∧ (k ≠ 0 → d1 = .lst (rowsD (ordsL n k)))
theorem law_orders_ok {n : Nat} (h1 : 1 ≤ n) (hn : n ≤ 6) : WpR (m_law_orders [.int (n : Int)]) (DQ (.lst (rowsD (ordsL n n)))) := by
  have rc : rngC (n : Int) = true := rngC_of (by omega) (by omega)
  refine wpr_mk rfl ?_
  unfold b_law_orders
  rw [show startE 6 [.int (n : Int)] = [some (.int ((n : Int))), none, none, none, none, none] from rfl]
  refine wp_to (fun w => w = [some (.int ((n : Int))), some (.own (rowsD ([[]]))), none, none, none, none]) (by simp; exact .mk rfl) ?_
  rintro w rfl
  have key : ∀ (k : Nat) (x1 x2 x4 x5 : Option D) (QS : Fl → Ev → Prop), k < n → (∀ y4 y5, QS .nx [some (.int ((n : Int))), x1, x2, some (.own (rowsD ((ordsL n (k + 1))))), y4, y5]) →
      Wp (forL (.nm 4) (sFor [none] (iW qR1 (xCons (xP (qV 0)) xNil)) (.nm 5) (sIf (tBl (x2pp (dInA true) (qV 5) (qV 4))) (sExpr (xApp 3 (x2vg dAdd 4 (xTup (xCons (xI 5) xNil))))) sNx)) (rowsD (ordsL n k)) [some (.int ((n : Int))), x1, x2, some (.own ([])), x4, x5]) QS := by
    intro k x1 x2 x4 x5 QS hk hQ
    have bg := grow_big (q := fun o i => !o.contains i) hn (show k + 1 ≤ n by omega)
    refine lz_for (fun i w => ∃ y4 y5, w = [some (.int ((n : Int))), x1, x2, some (.own (rowsD ((((ordsL n k).take i).flatMap fun o => ((intsTo n).filter fun i => !o.contains i).map fun i => o ++ [i])))), y4, y5]) ⟨_, _, rfl⟩ ?_ ?_
    · rintro w ⟨y4, y5, rfl⟩
      rw [rowsD_len, List.take_length]
      exact hQ y4 y5
    · rintro i d w hi ⟨y4, y5, rfl⟩
      obtain ⟨hi', rfl⟩ := rowsD_at hi
      have ho := grow_in (List.getElem_mem hi')
      have tk : (ordsL n k).take (i + 1) = (ordsL n k).take i ++ [(ordsL n k)[i]] := by rw [List.take_add_one, List.getElem?_eq_getElem hi']; rfl
      have lb : (((ordsL n k).take (i + 1)).flatMap fun o => ((intsTo n).filter fun i => !o.contains i).map fun i => o ++ [i]).length ≤ 50000 := by
        exact Nat.le_trans (flat_take _ _) bg
      rw [tk] at lb ⊢
      rw [List.flatMap_append, List.flatMap_singleton] at lb ⊢
      generalize ((ordsL n k).take i).flatMap (fun o => ((intsTo n).filter fun i => !o.contains i).map fun i => o ++ [i]) = acc at lb
      generalize (ordsL n k)[i] = o at ho lb
      simp [rc, rngD_ints, -List.contains_eq_mem]
      refine lz_forM (fun j w => ∃ y5, w = [some (.int ((n : Int))), x1, x2, some (.own (rowsD ((acc ++ (((intsTo n).take j).filter fun i => !o.contains i).map fun i => o ++ [i])))), some (.tup ((o).map D.int)), y5]) ⟨y5, by simp⟩ ?_ ?_
      · rintro w ⟨y5, rfl⟩
        rw [List.length_map, List.take_length]
        exact ⟨_, _, rfl⟩
      · rintro j d w hj ⟨y5, rfl⟩
        obtain ⟨hj', rfl⟩ := ints_at hj
        have tj : (intsTo n).take (j + 1) = (intsTo n).take j ++ [(intsTo n)[j]] := by rw [List.take_add_one, List.getElem?_eq_getElem hj']; rfl
        have ll : (acc ++ (((intsTo n).take j).filter fun i => !o.contains i).map fun i => o ++ [i]).length < sizeLine := line' (by
          rw [List.length_append, List.length_map] at lb ⊢
          have : (((intsTo n).take j).filter fun i => !o.contains i).length ≤ ((intsTo n).filter fun i => !o.contains i).length := ((List.take_sublist _ _).filter _).length_le
          omega)
        rw [tj, List.filter_append, List.map_append, ← List.append_assoc]
        generalize acc ++ (((intsTo n).take j).filter fun i => !o.contains i).map (fun i => o ++ [i]) = acc2 at ll
        generalize (intsTo n)[j] = v
        simp [dInA_ints (neg := true) (i := v) (s := o) (.inl rfl), -List.contains_eq_mem]
        have l1 : o.length + 1 ≤ sizeLine := line (by omega)
        have cm : o.map D.int ++ [D.int v] = (o ++ [v]).map D.int := by rw [List.map_append]; rfl
        refine brQ_of (fun c => ?_) fun c => ?_
        · simp only [Bool.not_eq_true'] at c
          simp [l1, ll, cm, c, rowsD_one, -List.contains_eq_mem, -List.map_append]
          exact .mk ⟨_, rfl⟩
        · simp only [Bool.not_eq_false'] at c
          simp [c, -List.contains_eq_mem]
          exact .mk ⟨_, rfl⟩
  refine wp_to (fun w => ∃ x2 x3 x4 x5, w = [some (.int ((n : Int))), some (.lst (rowsD ((ordsL n n)))), x2, x3, x4, x5]) ?_ ?_
  · simp [rc, rngD_ints]
    refine lz_forM (OInv n) ⟨_, none, none, none, none, rfl, .inl rfl, fun h => absurd rfl h⟩ ?_ ?_
    · rintro w ⟨d1, x2, x3, x4, x5, rfl, _, h2⟩
      rw [List.length_map, intsTo_len] at h2
      rw [h2 (by omega)]
      exact ⟨rfl, .mk ⟨_, _, _, _, rfl⟩⟩
    · rintro k d w hk ⟨d1, x2, x3, x4, x5, rfl, hd, _⟩
      obtain ⟨hk', rfl⟩ := ints_at hk
      rw [intsTo_len] at hk'
      rcases hd with rfl | rfl
      · simp
        refine key k _ _ _ _ _ hk' fun y4 y5 => ?_
        simp
        exact .mk ⟨_, _, _, _, _, rfl, .inr rfl, fun _ => rfl⟩
      · simp
        refine key k _ _ _ _ _ hk' fun y4 y5 => ?_
        simp
        exact .mk ⟨_, _, _, _, _, rfl, .inr rfl, fun _ => rfl⟩
  rintro w ⟨x2, x3, x4, x5, rfl⟩
  simp [DQ]
/-! rankings that fit -/
theorem is_below_ok {n : Nat} {r o : List Int} (hr : r.length = n) (ho : InN n o) : WpR (m_law_is_below [.tup (r.map .int), .tup (o.map .int)]) (BlQ (bel r o)) := by
  refine wpr_mk rfl ?_
  unfold b_law_is_below
  rw [show startE 3 [.tup (r.map .int), .tup (o.map .int)] = [some (.tup ((r).map D.int)), some (.tup ((o).map D.int)), none] from rfl]
  simp
  refine lz_for (fun j w => ∃ x, w = [some (.tup ((r).map D.int)), some (.tup ((o).map D.int)), x] ∧ bel r o = bel r (o.drop j)) ⟨_, rfl, rfl⟩ ?_ ?_
  · rintro w ⟨x, rfl, hb⟩
    rw [List.length_map, List.drop_length, show bel r [] = false from rfl] at hb
    simp [BlQ, hb]
  · rintro j d w hj ⟨x, rfl, hb⟩
    obtain ⟨hj', rfl⟩ := ints_at hj
    obtain ⟨q1, q2⟩ := ho _ (List.getElem_mem hj')
    rw [bel_drop hj'] at hb
    have sx := seqIx_at (r := r) q1 (by rw [hr]; exact q2)
    generalize o[j] = v at sx hb
    simp [sx]
    by_cases c : atR r v = 0
    · simp [c] at hb ⊢
      exact hb
    · simp [c] at hb ⊢
      simp [BlQ, hb]
theorem fits_ok {n : Nat} {rows : List (List Int)} {o : List Int} (hr : Rect n rows) (ho : InN n o) : WpR (m_law_fits [.tup (rowsD rows), .tup (o.map .int)]) (BlQ (fit rows o)) := by
  refine wpr_mk rfl ?_
  unfold b_law_fits
  rw [show startE 3 [.tup (rowsD rows), .tup (o.map .int)] = [some (.tup (rowsD (rows))), some (.tup ((o).map D.int)), none] from rfl]
  simp
  refine lz_for (fun i w => ∃ x2, w = [some (.tup (rowsD (rows))), some (.tup ((o).map D.int)), x2] ∧ fit rows o = fit (rows.drop i) o) ⟨none, rfl, rfl⟩ ?_ ?_
  · rintro w ⟨x2, rfl, h⟩
    rw [rowsD_len, List.drop_length, show fit [] o = true from rfl] at h
    simp [BlQ, h]
  · rintro i d w hi ⟨x2, rfl, h⟩
    obtain ⟨hi', rfl⟩ := rowsD_at hi
    have hl := hr _ (List.getElem_mem hi')
    rw [List.drop_eq_getElem_cons hi', show fit (rows[i] :: rows.drop (i + 1)) o = (!bel rows[i] o && fit (rows.drop (i + 1)) o) from rfl] at h
    generalize rows[i] = r at hl h
    simp
    refine (is_below_ok hl ho).bq ?_
    cases c : bel r o with
    | true =>
      rw [c] at h
      simp [BlQ, h]
    | false =>
      rw [c] at h
      simp [h]
def rkL (n : Nat) (rows : List (List Int)) : List (List Int) := (ordsL n n).filter (fit rows)
theorem rk_mem {n : Nat} {rows : List (List Int)} {o : List Int} : o ∈ rkL n rows ↔ Rk n rows o := by
  unfold rkL
  rw [List.mem_filter, ords_perm]
  exact ⟨fun h => ⟨h.1, h.2⟩, fun h => ⟨h.1, h.2⟩⟩
theorem rk_len {n : Nat} {rows : List (List Int)} (hn : n ≤ 6) : (rkL n rows).length ≤ 50000 := Nat.le_trans (List.length_filter_le _ _) (grow_big hn (Nat.le_refl n))
theorem rankings_ok {n : Nat} {rows : List (List Int)} (h1 : 1 ≤ n) (hn : n ≤ 6) (hr : Rect n rows) : WpR (m_law_rankings [.int (n : Int), .tup (rowsD rows)]) (DQ (.tup (rowsD (rkL n rows)))) := by
  refine wpr_mk rfl ?_
  unfold b_law_rankings
  rw [show startE 3 [.int (n : Int), .tup (rowsD rows)] = [some (.int ((n : Int))), some (.tup (rowsD (rows))), none] from rfl]
  simp
  refine (law_orders_ok h1 hn).dq ?_
  simp
  refine cmp_pure (α := List Int) (fun o => .tup (o.map .int)) (fun o => .tup (o.map .int)) (ordsL n n) (fit rows) (fun o => [some (.int ((n : Int))), some (.tup (rowsD (rows))), some (.tup ((o).map D.int))]) (Nat.le_trans (grow_big hn (Nat.le_refl n)) (by omega)) (fun _ _ => rfl) (fun _ _ => rfl) (fun o m => ?_) (fun o m _ => by simp) fun w2 e el => ?_
  · simp
    refine (fits_ok hr (grow_in m).2).bq ?_
    simp
  · simp at e el
    simp [e, el, DQ, rkL, rowsD]
end K17

set_option autoImplicit false
namespace K17
open PySem PySem.Spec L2 Pm PySem.W PyProof.Rows
/-! ### the order of int tuples; sorted over them -/
theorem ltL_irr : ∀ a : List Int, ltL a a = false
  | [] => rfl
  | x :: a => by unfold ltL; rw [if_pos rfl]; exact ltL_irr a
theorem ltL_tri : ∀ a b : List Int, a = b ∨ ltL a b = true ∨ ltL b a = true
  | [], [] => .inl rfl
  | [], _ :: _ => .inr (.inl rfl)
  | _ :: _, [] => .inr (.inr rfl)
  | x :: a, y :: b => by
    by_cases c : x = y
    · subst c
      rcases ltL_tri a b with rfl | h | h
      · exact .inl rfl
      · exact .inr (.inl (by unfold ltL; rw [if_pos rfl]; exact h))
      · exact .inr (.inr (by unfold ltL; rw [if_pos rfl]; exact h))
    · unfold ltL
      rw [if_neg c, if_neg fun e => c e.symm]
      by_cases l : x < y
      · exact .inr (.inl (decide_eq_true l))
      · exact .inr (.inr (decide_eq_true (by omega)))
theorem ltL_tr : ∀ {a b c : List Int}, ltL a b = true → ltL b c = true → ltL a c = true
  | [], [], _, h, _ => by cases h
  | _ :: _, [], _, h, _ => by cases h
  | _, _ :: _, [], _, h => by cases h
  | [], _ :: _, _ :: _, _, _ => rfl
  | x :: a, y :: b, z :: c, h1, h2 => by
    unfold ltL at h1 h2 ⊢
    by_cases c1 : x = y
    · subst c1
      rw [if_pos rfl] at h1
      by_cases c2 : x = z
      · subst c2
        rw [if_pos rfl] at h2 ⊢
        exact ltL_tr h1 h2
      · rw [if_neg c2] at h2 ⊢; exact h2
    · rw [if_neg c1] at h1
      have l1 := of_decide_eq_true h1
      by_cases c2 : y = z
      · subst c2; rw [if_neg c1]; exact h1
      · rw [if_neg c2] at h2
        have l2 := of_decide_eq_true h2
        rw [if_neg (by omega)]; exact decide_eq_true (by omega)
def leL (a b : List Int) : Bool := !ltL b a
theorem leL_iff {a b : List Int} : leL a b = true ↔ a = b ∨ ltL a b = true := by
  unfold leL
  rcases ltL_tri a b with rfl | h | h
  · simp [ltL_irr]
  · have : ltL b a = false := by
      cases c : ltL b a with
      | false => rfl
      | true => have := ltL_tr h c; rw [ltL_irr] at this; cases this
    simp [h, this]
  · have : ltL a b = false := by
      cases c : ltL a b with
      | false => rfl
      | true => have := ltL_tr h c; rw [ltL_irr] at this; cases this
    have hne : ¬ a = b := fun e => by subst e; rw [ltL_irr] at h; cases h
    simp [h, this, hne]
def sortR (F : List (List Int)) : List (List Int) := F.mergeSort leL
theorem sortR_perm (F : List (List Int)) : (sortR F).Perm F := List.mergeSort_perm _ _
theorem sortR_pw (F : List (List Int)) : (sortR F).Pairwise fun a b => leL a b = true := by
  refine List.pairwise_mergeSort (fun a b c h1 h2 => ?_) (fun a b => ?_) F
  · rw [leL_iff] at *
    rcases h1 with rfl | h1
    · exact h2
    · rcases h2 with rfl | h2
      · exact .inr h1
      · exact .inr (ltL_tr h1 h2)
  · rw [Bool.or_eq_true, leL_iff, leL_iff]
    rcases ltL_tri a b with h | h | h
    · exact .inl (.inl h)
    · exact .inl (.inr h)
    · exact .inr (.inr h)
theorem sortR_lt {F : List (List Int)} (h : F.Nodup) : (sortR F).Pairwise fun a b => ltL a b = true := by
  have h1 := sortR_pw F
  have h2 : (sortR F).Nodup := (sortR_perm F).nodup_iff.mpr h
  exact List.Pairwise.imp₂ (fun a b h1 h2 => (leL_iff.mp h1).resolve_left h2) h1 h2
theorem alike_ints : ∀ a b : List Int, alikeAll (toPys (a.map .int)) (toPys (b.map .int)) = true
  | [], _ => by show alikeAll [] _ = true; unfold alikeAll; rfl
  | _ :: _, [] => by show alikeAll (_ :: _) [] = true; unfold alikeAll; rfl
  | x :: a, y :: b => by
    show alikeAll (.int x :: toPys (a.map .int)) (.int y :: toPys (b.map .int)) = true
    unfold alikeAll
    rw [alike_ints a b]; simp [alike]
theorem toks_ints : ∀ a b : List Int, PyProof.Rows.lexLt itemOrd (keyToksAll (toPys (a.map .int))) (keyToksAll (toPys (b.map .int))) = ltL a b
  | [], [] => by show PyProof.Rows.lexLt itemOrd (keyToksAll []) (keyToksAll []) = false; simp only [keyToksAll]; exact lex_self (O := itemOrd) _ _ _
  | [], y :: b => by
    show PyProof.Rows.lexLt itemOrd (keyToksAll []) (keyToksAll (.int y :: toPys (b.map .int))) = true
    simp only [keyToksAll]
    exact (lex_diff (O := itemOrd) (by simp)).trans (by decide)
  | x :: a, [] => by
    show PyProof.Rows.lexLt itemOrd (keyToksAll (.int x :: toPys (a.map .int))) (keyToksAll []) = false
    simp only [keyToksAll]
    exact (lex_diff (O := itemOrd) (by simp)).trans (by decide)
  | x :: a, y :: b => by
    show PyProof.Rows.lexLt itemOrd (keyToksAll (.int x :: toPys (a.map .int))) (keyToksAll (.int y :: toPys (b.map .int))) = _
    unfold ltL
    have al : alike (.int x) (.int y) = true := by simp [alike]
    by_cases c : x = y
    · rw [if_pos c, dataLt_all_yes al (by simp [PyData.eqv, c]), toks_ints a b]
    · rw [if_neg c, dataLt_all_no al (by simp [PyData.eqv, c]), dataLt_int]
theorem leD_tup {a b : List Int} : leD (.tup (a.map .int)) (.tup (b.map .int)) = leL a b := by
  show (!dataLt (.tuple (toPys (b.map .int))) (.tuple (toPys (a.map .int)))) = _
  rw [dataLt_tuple, toks_ints]; rfl
theorem srtOk_rows {F : List (List Int)} : srtOk (rowsD F) = true := by
  unfold srtOk
  rw [Bool.and_eq_true, Bool.and_eq_true]
  refine ⟨⟨?_, ?_⟩, ?_⟩
  · refine List.all_eq_true.mpr fun a ma => List.all_eq_true.mpr fun b mb => ?_
    unfold rowsD at ma mb
    obtain ⟨s, _, rfl⟩ := List.mem_map.mp ma
    obtain ⟨t, _, rfl⟩ := List.mem_map.mp mb
    show alike (.tuple (toPys (s.map .int))) (.tuple (toPys (t.map .int))) = true
    unfold alike
    exact alike_ints s t
  · rw [Bool.or_eq_true]; left
    refine List.all_eq_true.mpr fun a ma => ?_
    unfold rowsD at ma
    obtain ⟨s, _, rfl⟩ := List.mem_map.mp ma
    rfl
  · refine List.all_eq_true.mpr fun a ma => ?_
    unfold rowsD at ma
    obtain ⟨s, _, rfl⟩ := List.mem_map.mp ma
    rw [Bool.and_eq_true]
    exact ⟨shaped_tup s, by simp⟩
theorem sort_rows {F : List (List Int)} : dSortU (.own (rowsD F)) = some (.own (rowsD (sortR F))) := by
  have e : (rowsD F).mergeSort leD = rowsD (sortR F) := by
    unfold rowsD sortR
    exact (List.map_mergeSort (r := leL) (s := leD) (f := fun r : List Int => D.tup (r.map D.int)) (fun a _ b _ => leD_tup.symm)).symm
  show dSortA _ = _
  unfold dSortA
  cases F with
  | nil =>
    have : dSorted (.own (rowsD [])) = some (.own ((Pm.sortI []).map .int)) := dSorted_own (ns := [])
    rw [this]
    simp [Pm.sortI, sortR, rowsD]
  | cons S F =>
    have : dSorted (.own (rowsD (S :: F))) = none := rfl
    rw [this]
    show (if srtOk (rowsD (S :: F)) = true then some (D.own ((rowsD (S :: F)).mergeSort leD)) else none) = _
    rw [if_pos srtOk_rows, e]

theorem merge_rows {F : List (List Int)} : (rowsD F).mergeSort leD = rowsD (sortR F) := by
  unfold rowsD sortR
  exact (List.map_mergeSort (r := leL) (s := leD) (f := fun r : List Int => D.tup (r.map D.int)) (fun a _ b _ => leD_tup.symm)).symm
theorem sort_rowsL {F : List (List Int)} : dSortU (.lst (rowsD F)) = some (.own (rowsD (sortR F))) := by
  show dSortA _ = _
  unfold dSortA
  cases F with
  | nil =>
    have : dSorted (.lst (rowsD [])) = some (.own ((Pm.sortI []).map .int)) := dSorted_lst (ns := [])
    rw [this]
    simp [Pm.sortI, sortR, rowsD]
  | cons S F =>
    have : dSorted (.lst (rowsD (S :: F))) = none := rfl
    rw [this]
    show (if srtOk (rowsD (S :: F)) = true then some (D.own ((rowsD (S :: F)).mergeSort leD)) else none) = _
    rw [if_pos srtOk_rows, merge_rows]
theorem sort_dict {F : List (List Int)} {vs : List D} : dSortU (.odc true (rowsD F) vs) = some (.own (rowsD (sortR F))) := by
  show (if srtOk (rowsD F) = true then some (D.own ((rowsD F).mergeSort leD)) else none) = _
  rw [if_pos srtOk_rows, merge_rows]
theorem sortR_uniq {F G : List (List Int)} (h : F.Pairwise fun a b => ltL a b = true) (nd : G.Nodup) (m : ∀ S, S ∈ G ↔ S ∈ F) : sortR G = F := by
  have nF : F.Nodup := h.imp fun hab e => by subst e; rw [ltL_irr] at hab; cases hab
  have p : G.Perm F := (List.perm_ext_iff_of_nodup nd nF).mpr m
  refine List.Perm.eq_of_pairwise (le := fun a b => ltL a b = true) (fun a b _ _ x y => ?_) (sortR_lt nd) h ((sortR_perm G).trans p)
  have := ltL_tr x y
  rw [ltL_irr] at this; cases this
theorem sortR_same {F G : List (List Int)} (h : F.Nodup) (nd : G.Nodup) (m : ∀ S, S ∈ G ↔ S ∈ F) : sortR G = sortR F :=
  sortR_uniq (sortR_lt h) nd fun S => (m S).trans (sortR_perm F).mem_iff.symm
end K17

set_option autoImplicit false
namespace K17
open PySem PySem.Spec L2 Pm 
/-! ### beginnings, one by one -/
def runL (n : Nat) (rows : List (List Int)) : Nat → List (List Int) := growL n (freeP rows)
theorem run_mem {n : Nat} {rows : List (List Int)} : ∀ {k : Nat} {o : List Int}, o ∈ runL n rows k ↔ RunO n rows o ∧ o.length = k
  | 0, o => by
    show o ∈ [[]] ↔ _
    rw [List.mem_singleton]
    exact ⟨fun e => by subst e; exact ⟨run_nil, rfl⟩, fun h => List.length_eq_zero_iff.mp h.2⟩
  | k + 1, o => by
    refine Iff.trans grow_mem ?_
    constructor
    · rintro ⟨p, i, hp, hi, hq, rfl⟩
      obtain ⟨h1, h2⟩ := run_mem.mp hp
      exact ⟨run_snoc.mpr ⟨h1, List.mem_filter.mpr ⟨intsTo_mem.mpr hi, hq⟩⟩, by simp [h2]⟩
    · rintro ⟨h1, h2⟩
      rcases List.eq_nil_or_concat o with rfl | ⟨p, i, rfl⟩
      · cases h2
      · rw [List.concat_eq_append] at *
        obtain ⟨h3, h4⟩ := run_snoc.mp h1
        obtain ⟨m1, m2⟩ := List.mem_filter.mp h4
        exact ⟨p, i, run_mem.mpr ⟨h3, by simpa using h2⟩, intsTo_mem.mp m1, m2, rfl⟩
theorem fit_grow {n : Nat} {rows : List (List Int)} : ∀ l : List (List Int), (∀ o ∈ l, InN n o) → (l.flatMap fun o => ((intsTo n).filter fun i => !o.contains i).map fun i => o ++ [i]).filter (fit rows) = (l.filter (fit rows)).flatMap fun o => ((intsTo n).filter (freeP rows o)).map fun i => o ++ [i]
  | [], _ => rfl
  | o :: l, h => by
    rw [List.flatMap_cons, List.filter_append, fit_grow l fun p m => h p (List.mem_cons_of_mem _ m), List.filter_map, List.filter_filter]
    by_cases c : fit rows o = true
    · rw [List.filter_cons_of_pos c, List.flatMap_cons]
      congr 2
      refine List.filter_congr fun i m => ?_
      show (fit rows (o ++ [i]) && !o.contains i) = freeP rows o i
      rw [Bool.eq_iff_iff, Bool.and_eq_true, freeP_iff, fit_snoc, Bool.not_eq_true']
      constructor
      · rintro ⟨⟨_, a⟩, b⟩
        exact ⟨fun m => (by rw [List.contains_iff_mem.mpr m] at b; cases b), a⟩
      · rintro ⟨a, b⟩
        refine ⟨⟨c, b⟩, ?_⟩
        cases e : o.contains i with
        | false => rfl
        | true => exact absurd (List.contains_iff_mem.mp e) a
    · rw [List.filter_cons_of_neg c]
      have : (intsTo n).filter (fun i => (fit rows ∘ fun i => o ++ [i]) i && !o.contains i) = [] := by
        rw [List.filter_eq_nil_iff]
        intro i m
        show ¬ ((fit rows (o ++ [i]) && !o.contains i) = true)
        rw [Bool.and_eq_true, fit_snoc]
        exact fun z => c z.1.1
      rw [this]; rfl
theorem fit_ords {n : Nat} {rows : List (List Int)} : ∀ k, (ordsL n k).filter (fit rows) = runL n rows k
  | 0 => by
    show [[]].filter (fit rows) = [[]]
    rw [List.filter_cons_of_pos (fit_iff.mpr fun r m => rfl)]; rfl
  | k + 1 => by
    show ((ordsL n k).flatMap _).filter (fit rows) = (runL n rows k).flatMap _
    rw [fit_grow (ordsL n k) fun o m => (grow_in m).2, fit_ords k]
theorem rk_eq {n : Nat} {rows : List (List Int)} : rkL n rows = runL n rows n := fit_ords n
theorem ltL_snoc {i j : Int} (h : i < j) : ∀ o : List Int, ltL (o ++ [i]) (o ++ [j]) = true
  | [] => by
    show ltL [i] [j] = true
    unfold ltL
    rw [if_neg (by omega)]; exact decide_eq_true h
  | x :: o => by
    show ltL (x :: (o ++ [i])) (x :: (o ++ [j])) = true
    unfold ltL
    rw [if_pos rfl]; exact ltL_snoc h o
theorem ltL_pre {i j : Int} : ∀ {o p : List Int}, o.length = p.length → ltL o p = true → ltL (o ++ [i]) (p ++ [j]) = true
  | [], [], _, h => by cases h
  | [], _ :: _, e, _ => by cases e
  | _ :: _, [], e, _ => by cases e
  | x :: o, y :: p, e, h => by
    show ltL (x :: (o ++ [i])) (y :: (p ++ [j])) = true
    unfold ltL at h ⊢
    by_cases c : x = y
    · rw [if_pos c] at h ⊢
      exact ltL_pre (by simpa using e) h
    · rw [if_neg c] at h ⊢; exact h
theorem grow_asc {n : Nat} {q : List Int → Int → Bool} : ∀ k, (growL n q k).Pairwise fun a b => ltL a b = true
  | 0 => List.pairwise_singleton _ _
  | k + 1 => by
    show ((growL n q k).flatMap _).Pairwise _
    rw [List.pairwise_flatMap]
    refine ⟨fun o m => ?_, ?_⟩
    · rw [List.pairwise_map]
      exact ((intsTo_sub n).asc.sublist List.filter_sublist).imp fun h => ltL_snoc h o
    · refine List.Pairwise.imp_of_mem (fun {a b} ma mb h x mx y my => ?_) (grow_asc k)
      obtain ⟨i, _, rfl⟩ := List.mem_map.mp mx
      obtain ⟨j, _, rfl⟩ := List.mem_map.mp my
      exact ltL_pre ((grow_in ma).1.trans (grow_in mb).1.symm) h
theorem ltL_nd {l : List (List Int)} (h : l.Pairwise fun a b => ltL a b = true) : l.Nodup := h.imp fun hab e => by subst e; rw [ltL_irr] at hab; cases hab
theorem run_sort {n k : Nat} {rows : List (List Int)} : sortR (runL n rows k) = runL n rows k := sortR_uniq (grow_asc k) (ltL_nd (grow_asc k)) fun _ => Iff.rfl
/-! how many ways on -/
def cntN (n : Nat) (rows : List (List Int)) : Nat → List Int → Nat
  | 0, _ => 1
  | k + 1, S => ((freeL n rows S).map fun i => cntN n rows k (sortI (S ++ [i]))).sum
theorem cnt_perm {n : Nat} {rows : List (List Int)} {k : Nat} {S T : List Int} (h : S.Perm T) : cntN n rows k S = cntN n rows k T := by
  cases k with
  | zero => rfl
  | succ k =>
    show ((freeL n rows S).map fun i => cntN n rows k (sortI (S ++ [i]))).sum = ((freeL n rows T).map fun i => cntN n rows k (sortI (T ++ [i]))).sum
    rw [freeL_perm h]
    congr 1
    refine List.map_congr_left fun i _ => ?_
    rw [sort_perm_eq (h.append_right [i])]
theorem sum_flat {α β : Type} (f : α → List β) (g : β → Nat) : ∀ l : List α, ((l.flatMap f).map g).sum = (l.map fun a => ((f a).map g).sum).sum
  | [] => rfl
  | a :: l => by rw [List.flatMap_cons, List.map_append, List.sum_append, sum_flat f g l, List.map_cons, List.sum_cons]
theorem cnt_lap {n : Nat} {rows : List (List Int)} {j m : Nat} : ((runL n rows (j + 1)).map (cntN n rows m)).sum = ((runL n rows j).map (cntN n rows (m + 1))).sum := by
  show (((runL n rows j).flatMap _).map _).sum = _
  rw [sum_flat]
  congr 1
  refine List.map_congr_left fun o _ => ?_
  rw [List.map_map]
  show (((intsTo n).filter (freeP rows o)).map fun i => cntN n rows m (o ++ [i])).sum = ((freeL n rows o).map fun i => cntN n rows m (sortI (o ++ [i]))).sum
  congr 1
  refine List.map_congr_left fun i _ => ?_
  exact (cnt_perm (sortI_perm _)).symm
theorem cnt_runs {n : Nat} {rows : List (List Int)} : ∀ {j m : Nat}, ((runL n rows j).map (cntN n rows m)).sum = cntN n rows (m + j) []
  | 0, m => by
    show ([[]].map (cntN n rows m)).sum = _
    simp
  | j + 1, m => by
    rw [cnt_lap, cnt_runs (j := j) (m := m + 1)]
    congr 1
    omega
theorem cnt_all {n : Nat} {rows : List (List Int)} : cntN n rows n [] = (rkL n rows).length := by
  have := cnt_runs (n := n) (rows := rows) (j := n) (m := 0)
  rw [Nat.zero_add] at this
  rw [← this, rk_eq]
  have : ∀ l : List (List Int), (l.map (cntN n rows 0)).sum = l.length := fun l => by
    induction l with
    | nil => rfl
    | cons a l ih => rw [List.map_cons, List.sum_cons, ih]; show 1 + l.length = _; rw [List.length_cons]; omega
  exact this _
end K17

set_option autoImplicit false
namespace K17
open PySem PySem.Spec L2 Pm 
/-! ### all rankings, by the sets -/
theorem fea_of {n : Nat} {rows F : List (List Int)} (h : FeaD n rows F) {o : List Int} (r : RunO n rows o) : sortI o ∈ F := (h.mem _).mpr ⟨o, r, rfl⟩
theorem vD_run {n : Nat} {rows F : List (List Int)} (h : FeaD n rows F) {o : List Int} (r : RunO n rows o) : vD (rowsD F) (rowsD (F.map (freeL n rows))) (.tup ((sortI o).map .int)) = some (.tup ((freeL n rows o).map .int)) := by
  rw [vD_rows (fea_of h r), freeL_perm (sortI_perm o)]
def RInv (n : Nat) (rows F : List (List Int)) (k : Nat) (w : Ev) : Prop := ∃ d2 x3 x4 x5 x6, w = [some (.int ((n : Int))), some (feaD n rows F), some d2, x3, x4, x5, x6] ∧ (d2 = .own (rowsD (runL n rows k)) ∨ d2 = .lst (rowsD (runL n rows k)))
theorem rankings_by_ok {n : Nat} {rows F : List (List Int)} (h : FeaD n rows F) (hn : n ≤ 6) : WpR (m_rankings_by [.int (n : Int), feaD n rows F]) (DQ (.own (rowsD (rkL n rows)))) := by
  have rc : rngC (n : Int) = true := rngC_of (by omega) (by omega)
  refine wpr_mk rfl ?_
  unfold b_rankings_by
  rw [show startE 7 [.int (n : Int), feaD n rows F] = [some (.int ((n : Int))), some (feaD n rows F), none, none, none, none, none] from rfl]
  refine wp_to (fun w => w = [some (.int ((n : Int))), some (feaD n rows F), some (.own (rowsD ([[]]))), none, none, none, none]) (by simp; exact .mk rfl) ?_
  rintro w rfl
  have key : ∀ (k : Nat) (x2 x3 x5 x6 : Option D) (QS : Fl → Ev → Prop), k < n → (∀ y5 y6, QS .nx [some (.int ((n : Int))), some (feaD n rows F), x2, x3, some (.own (rowsD ((runL n rows (k + 1))))), y5, y6]) →
      Wp (forL (.nm 5) (sFor [none] (iW qG (xCons (x2vg dIxA 1 (x1g dTuple (x1p dSortU (qV 5)))) xNil)) (.nm 6) (sExpr (xApp 4 (x2vg dAdd 5 (xTup (xCons (xI 6) xNil)))))) (rowsD (runL n rows k)) [some (.int ((n : Int))), some (feaD n rows F), x2, x3, some (.own ([])), x5, x6]) QS := by
    intro k x2 x3 x5 x6 QS hk hQ
    have bg := grow_big (q := freeP rows) hn (show k + 1 ≤ n by omega)
    refine lz_for (fun i w => ∃ y5 y6, w = [some (.int ((n : Int))), some (feaD n rows F), x2, x3, some (.own (rowsD ((((runL n rows k).take i).flatMap fun o => (freeL n rows o).map fun i => o ++ [i])))), y5, y6]) ⟨_, _, rfl⟩ ?_ ?_
    · rintro w ⟨y5, y6, rfl⟩
      rw [rowsD_len, List.take_length]
      exact hQ y5 y6
    · rintro i d w hi ⟨y5, y6, rfl⟩
      obtain ⟨hi', rfl⟩ := rowsD_at hi
      obtain ⟨ho, hol⟩ := run_mem.mp (List.getElem_mem hi')
      have tk : (runL n rows k).take (i + 1) = (runL n rows k).take i ++ [(runL n rows k)[i]] := by rw [List.take_add_one, List.getElem?_eq_getElem hi']; rfl
      have lb : (((runL n rows k).take (i + 1)).flatMap fun o => (freeL n rows o).map fun i => o ++ [i]).length ≤ 50000 := Nat.le_trans (flat_take _ _) bg
      rw [tk] at lb ⊢
      rw [List.flatMap_append, List.flatMap_singleton] at lb ⊢
      generalize ((runL n rows k).take i).flatMap (fun o => (freeL n rows o).map fun i => o ++ [i]) = acc at lb
      generalize (runL n rows k)[i] = o at ho hol lb
      rw [List.length_append, List.length_map] at lb
      simp [feaD, dSortU_tup, isK_ints, vD_run h ho]
      refine lz_forM (fun j w => ∃ y6, w = [some (.int ((n : Int))), some (feaD n rows F), x2, x3, some (.own (rowsD ((acc ++ ((freeL n rows o).take j).map fun i => o ++ [i])))), some (.tup ((o).map D.int)), y6]) ⟨y6, by simp [feaD]⟩ ?_ ?_
      · rintro w ⟨y6, rfl⟩
        rw [List.length_map, List.take_length]
        exact ⟨_, _, rfl⟩
      · rintro j d w hj ⟨y6, rfl⟩
        obtain ⟨hj', rfl⟩ := ints_at hj
        have l2 : acc.length + min j (freeL n rows o).length < sizeLine := line' (by omega)
        have l1 : o.length + 1 ≤ sizeLine := line (by omega)
        have cm : o.map D.int ++ [D.int (freeL n rows o)[j]] = (o ++ [(freeL n rows o)[j]]).map D.int := by rw [List.map_append]; rfl
        simp [l1, l2, cm, -List.map_append]
        refine .mk ⟨some (.int (freeL n rows o)[j]), ?_⟩
        rw [List.take_add_one, List.getElem?_map, List.getElem?_eq_getElem hj', ← List.append_assoc]
        rw [show (Option.map (fun i => o ++ [i]) (some (freeL n rows o)[j])).toList = [o ++ [(freeL n rows o)[j]]] from rfl, ← rowsD_one]
  refine wp_to (RInv n rows F n) ?_ ?_
  · simp [rc, rngD_ints]
    refine lz_forM (RInv n rows F) ⟨_, none, none, none, none, rfl, .inl rfl⟩ ?_ ?_
    · rintro w ⟨d2, x3, x4, x5, x6, rfl, h2⟩
      rw [List.length_map, intsTo_len] at h2
      exact ⟨rfl, .mk ⟨_, _, _, _, _, rfl, h2⟩⟩
    · rintro k d w hk ⟨d2, x3, x4, x5, x6, rfl, hd⟩
      obtain ⟨hk', rfl⟩ := ints_at hk
      rw [intsTo_len] at hk'
      rcases hd with rfl | rfl
      · simp
        refine key k _ _ _ _ _ hk' fun y5 y6 => ?_
        simp
        exact .mk ⟨_, _, _, _, _, rfl, .inr rfl⟩
      · simp
        refine key k _ _ _ _ _ hk' fun y5 y6 => ?_
        simp
        exact .mk ⟨_, _, _, _, _, rfl, .inr rfl⟩
  rintro w ⟨d2, x3, x4, x5, x6, rfl, rfl | rfl⟩
  · simp [DQ, sort_rows, run_sort, rk_eq]
  · simp [DQ, sort_rowsL, run_sort, rk_eq]
theorem all_rankings_ok {n : Nat} {rows : List (List Int)} (hn : n ≤ 6) (hl : rows.length ≤ 1000) (hr : Rect n rows) : WpR (m_all_rankings [.int (n : Int), .tup (rowsD rows)]) (DQ (.tup (rowsD (rkL n rows)))) := by
  refine wpr_mk rfl ?_
  unfold b_all_rankings
  rw [show startE 2 [.int (n : Int), .tup (rowsD rows)] = [some (.int ((n : Int))), some (.tup (rowsD (rows)))] from rfl]
  simp
  refine (row_sets_ok hn hl hr).mono ?_
  rintro d os ⟨rfl, F, rfl, hF⟩
  refine (rankings_by_ok hF hn).dq ?_
  simp [DQ]
/-! the first one -/
def fstR (l : List (List Int)) : D := match l.head? with
  | some o => .tup (o.map .int)
  | none => .non
theorem run_head {n : Nat} {rows : List (List Int)} {o0 : List Int} (h0 : Rk n rows o0) {k : Nat} {o : List Int} {l : List (List Int)} (hk : k < n) (e : runL n rows k = o :: l) : ∃ i t l', freeL n rows o = i :: t ∧ runL n rows (k + 1) = (o ++ [i]) :: l' := by
  obtain ⟨ro, lo⟩ := run_mem.mp (show o ∈ runL n rows k by rw [e]; exact List.mem_cons_self)
  have ex : ∃ i, (0 ≤ i ∧ i < (n : Int)) ∧ i ∉ o := by
    refine Classical.byContradiction fun z => ?_
    have p := full_perm ro.nd ro.inn fun i hi => Classical.byContradiction fun m => z ⟨i, hi, m⟩
    have := p.length_eq
    rw [intsTo_len] at this; omega
  obtain ⟨i, hi⟩ := run_ext h0 ex
  cases ef : freeL n rows o with
  | nil => rw [ef] at hi; cases hi
  | cons i t =>
    refine ⟨i, t, (t.map fun i => o ++ [i]) ++ l.flatMap fun o => ((intsTo n).filter (freeP rows o)).map fun i => o ++ [i], rfl, ?_⟩
    show (runL n rows k).flatMap (fun o => ((intsTo n).filter (freeP rows o)).map fun i => o ++ [i]) = _
    rw [e, List.flatMap_cons]
    show (freeL n rows o).map (fun i => o ++ [i]) ++ _ = _
    rw [ef]; rfl
theorem full_in {n : Nat} {rows F : List (List Int)} (h : FeaD n rows F) : F.contains (intsTo n) = !(rkL n rows).isEmpty := by
  rw [Bool.eq_iff_iff, List.contains_iff_mem, h.mem]
  constructor
  · rintro ⟨o, r, e⟩
    have p : IsPerm n o := by
      have := sortI_perm o
      rw [← e] at this
      exact this.symm
    have : o ∈ rkL n rows := rk_mem.mpr ⟨p, r.fit⟩
    cases c : rkL n rows with
    | nil => rw [c] at this; cases this
    | cons a l => rfl
  · intro c
    cases c2 : rkL n rows with
    | nil => rw [c2] at c; cases c
    | cons a l =>
      have ha := rk_mem.mp (show a ∈ rkL n rows by rw [c2]; exact List.mem_cons_self)
      exact ⟨a, ha.run, sortI_eq ha.perm.symm ((intsTo_sub n).asc.imp fun h => Int.le_of_lt h)⟩
theorem dRngT_n {n : Nat} (hn : n ≤ 1000) : dRngT (.int (n : Int)) = some (.tup ((intsTo n).map .int)) := by
  have rn : rngC (n : Int) = true := rngC_of (by omega) (by omega)
  have e1 : dRng (.int (n : Int)) = some (.own (rngD n)) := by
    unfold dRng
    simp [rn]
    omega
  unfold dRngT
  rw [e1, rngD_ints n]
  simp
theorem first_by_ok {n : Nat} {rows F : List (List Int)} (h : FeaD n rows F) (hn : n ≤ 6) : WpR (m_first_by [.int (n : Int), feaD n rows F]) (DQ (fstR (rkL n rows))) := by
  refine wpr_mk rfl ?_
  unfold b_first_by
  rw [show startE 3 [.int (n : Int), feaD n rows F] = [some (.int ((n : Int))), some (feaD n rows F), none] from rfl]
  have kIn : inK (.tup ((intsTo n).map .int)) (rowsD F) = !(rkL n rows).isEmpty := by rw [← full_in h, Bool.eq_iff_iff, inK_iff, mem_rowsD]
  cases er : rkL n rows with
  | nil =>
    rw [er] at kIn
    rw [wp_Seq]
    simp [feaD, dRngT_n (show n ≤ 1000 by omega), isK_ints, kIn, DQ, fstR]
  | cons o0 l0 =>
    rw [er] at kIn
    have h0 := rk_mem.mp (show o0 ∈ rkL n rows by rw [er]; exact List.mem_cons_self)
    refine wp_to (fun w => w = [some (.int ((n : Int))), some (feaD n rows F), none]) ?_ ?_
    · simp [feaD, dRngT_n (show n ≤ 1000 by omega), isK_ints, kIn]
      exact .mk rfl
    rintro w rfl
    refine wp_to (fun w => w = [some (.int ((n : Int))), some (feaD n rows F), some (.tup ((([] : List Int)).map D.int))]) (by simp; exact .mk rfl) ?_
    rintro w rfl
    refine wp_to (fun w => w = [some (.int ((n : Int))), some (feaD n rows F), some (.tup ((o0).map D.int))]) ?_ ?_
    · refine lz_while (fun m w => ∃ k o l, w = [some (.int ((n : Int))), some (feaD n rows F), some (.tup ((o).map D.int))] ∧ k + m = n ∧ runL n rows k = o :: l) (n := n) ⟨0, [], [], rfl, by omega, rfl⟩ ?_
      rintro m w ⟨k, o, l, rfl, hkm, e⟩
      obtain ⟨ro, lo⟩ := run_mem.mp (show o ∈ runL n rows k by rw [e]; exact List.mem_cons_self)
      refine Wp.mono (Q := fun b w1 => b = decide (o.length < n) ∧ w1 = [some (.int ((n : Int))), some (feaD n rows F), some (.tup ((o).map D.int))]) (by simp) ?_
      rintro b w1 ⟨rfl, rfl⟩
      refine brQ_of (fun c => ?_) fun c => ?_
      · simp at c
        obtain ⟨i, t, l', e1, e2⟩ := run_head h0 (show k < n by omega) e
        have l1 : o.length + 1 ≤ sizeLine := line (by omega)
        have cm : o.map D.int ++ [D.int i] = (o ++ [i]).map D.int := by rw [List.map_append]; rfl
        simp [feaD, dSortU_tup, isK_ints, vD_run h ro, e1, l1, cm, -List.map_append]
        exact ⟨m - 1, by omega, k + 1, o ++ [i], ⟨rfl, by omega, l', e2⟩⟩
      · simp at c
        have : k = n := by omega
        subst this
        rw [rk_eq, e] at er
        cases er
        exact ⟨rfl, .mk rfl⟩
    rintro w rfl
    simp [DQ, fstR]
theorem first_ranking_ok {n : Nat} {rows : List (List Int)} (hn : n ≤ 6) (hl : rows.length ≤ 1000) (hr : Rect n rows) : WpR (m_first_ranking [.int (n : Int), .tup (rowsD rows)]) (DQ (fstR (rkL n rows))) := by
  refine wpr_mk rfl ?_
  unfold b_first_ranking
  rw [show startE 2 [.int (n : Int), .tup (rowsD rows)] = [some (.int ((n : Int))), some (.tup (rowsD (rows)))] from rfl]
  simp
  refine (row_sets_ok hn hl hr).mono ?_
  rintro d os ⟨rfl, F, rfl, hF⟩
  refine (first_by_ok hF hn).dq ?_
  simp [DQ]
end K17

set_option autoImplicit false
namespace K17
open PySem PySem.Spec L2 Pm 
/-! ### counts by set: plain -/
abbrev Asl := List (List Int × Nat)
def cntD (A : Asl) : D := .odc true (rowsD (A.map (·.1))) (A.map fun p => D.int (p.2 : Nat))
def look : Asl → List Int → Option Nat
  | [], _ => none
  | p :: A, S => if p.1 = S then some p.2 else look A S
def upA : Asl → List Int → Nat → Asl
  | [], S, v => [(S, v)]
  | p :: A, S, v => if p.1 = S then (S, v) :: A else p :: upA A S v
theorem look_vD : ∀ (A : Asl) (S : List Int), vD (rowsD (A.map (·.1))) (A.map fun p => D.int (p.2 : Nat)) (.tup (S.map .int)) = (look A S).map fun v => D.int (v : Nat)
  | [], S => rfl
  | p :: A, S => by
    show vD (.tup (p.1.map .int) :: rowsD (A.map (·.1))) (.int (p.2 : Nat) :: A.map fun p => D.int (p.2 : Nat)) _ = _
    unfold vD look
    by_cases c : p.1 = S
    · rw [if_pos (by rw [c]), if_pos c]; rfl
    · rw [if_neg (fun e => c (tup_inj e)), if_neg c]; exact look_vD A S
theorem look_mem : ∀ {A : Asl} {S : List Int}, S ∈ A.map (·.1) ↔ (look A S).isSome = true
  | [], S => by simp [look]
  | p :: A, S => by
    unfold look
    rw [List.map_cons, List.mem_cons]
    by_cases c : p.1 = S
    · rw [if_pos c]; simp [c]
    · rw [if_neg c, ← look_mem]
      exact ⟨fun z => z.resolve_left fun e => c e.symm, .inr⟩
theorem key_mem {A : Asl} {S : List Int} : D.tup (S.map .int) ∈ rowsD (A.map (·.1)) ↔ S ∈ A.map (·.1) := by rw [mem_rowsD, List.contains_iff_mem]
theorem up_keys {A : Asl} {S T : List Int} {v : Nat} : T ∈ (upA A S v).map (·.1) ↔ T ∈ A.map (·.1) ∨ T = S := by
  induction A with
  | nil => simp [upA]
  | cons p A ih =>
    unfold upA
    by_cases c : p.1 = S
    · rw [if_pos c]
      simp only [List.map_cons, List.mem_cons]
      rw [c]
      constructor
      · rintro (e | m)
        · exact .inr e
        · exact .inl (.inr m)
      · rintro ((e | m) | e)
        · exact .inl e
        · exact .inr m
        · exact .inl e
    · rw [if_neg c]
      simp only [List.map_cons, List.mem_cons]
      rw [ih, or_assoc]
theorem up_old {A : Asl} {S : List Int} {v : Nat} (h : S ∈ A.map (·.1)) : (upA A S v).map (·.1) = A.map (·.1) := by
  induction A with
  | nil => cases h
  | cons p A ih =>
    unfold upA
    by_cases c : p.1 = S
    · rw [if_pos c, List.map_cons, List.map_cons, c]
    · rw [if_neg c, List.map_cons, List.map_cons, ih ((List.mem_cons.mp h).resolve_left fun e => c e.symm)]
theorem up_new {A : Asl} {S : List Int} {v : Nat} (h : S ∉ A.map (·.1)) : upA A S v = A ++ [(S, v)] := by
  induction A with
  | nil => rfl
  | cons p A ih =>
    unfold upA
    rw [List.map_cons, List.mem_cons] at h
    rw [if_neg fun c => h (.inl c.symm), ih fun m => h (.inr m)]; rfl
theorem up_rD : ∀ {A : Asl} {S : List Int} {v : Nat}, S ∈ A.map (·.1) → (A.map (·.1)).Nodup → rD (rowsD (A.map (·.1))) (A.map fun p => D.int (p.2 : Nat)) (.tup (S.map .int)) (.int (v : Nat)) = (upA A S v).map fun p => D.int (p.2 : Nat)
  | p :: A, S, v, h, nd => by
    rw [List.map_cons, List.nodup_cons] at nd
    show rD (.tup (p.1.map .int) :: rowsD (A.map (·.1))) (.int (p.2 : Nat) :: A.map fun p => D.int (p.2 : Nat)) _ _ = _
    unfold rD upA
    by_cases c : p.1 = S
    · have hS : S ∉ A.map (·.1) := by rw [← c]; exact nd.1
      have e : ∀ B : Asl, S ∉ B.map (·.1) → rD (rowsD (B.map (·.1))) (B.map fun p => D.int (p.2 : Nat)) (.tup (S.map .int)) (.int (v : Nat)) = B.map fun p => D.int (p.2 : Nat) := fun B => by
        induction B with
        | nil => intro _; show rD [] [] _ _ = _; unfold rD; rfl
        | cons q B ih =>
          intro hB
          rw [List.map_cons, List.mem_cons] at hB
          show rD (.tup (q.1.map .int) :: rowsD (B.map (·.1))) (.int (q.2 : Nat) :: B.map fun p => D.int (p.2 : Nat)) _ _ = _
          unfold rD
          rw [if_neg (fun z => hB (.inl (tup_inj z).symm)), ih fun m => hB (.inr m)]; rfl
      rw [if_pos (by rw [c]), if_pos c, e A hS]; rfl
    · rw [if_neg (fun z => c (tup_inj z)), if_neg c, up_rD ((List.mem_cons.mp h).resolve_left fun e => c e.symm) nd.2]; rfl
theorem up_D {A : Asl} {S : List Int} {v : Nat} (nd : (A.map (·.1)).Nodup) :
    pK (rowsD (A.map (·.1))) (.tup (S.map .int)) = rowsD ((upA A S v).map (·.1)) ∧ pV (rowsD (A.map (·.1))) (A.map fun p => D.int (p.2 : Nat)) (.tup (S.map .int)) (.int (v : Nat)) = (upA A S v).map fun p => D.int (p.2 : Nat) := by
  by_cases c : S ∈ A.map (·.1)
  · unfold pK pV
    rw [if_pos (key_mem.mpr c), if_pos (key_mem.mpr c), up_old c, up_rD c nd]
    exact ⟨rfl, rfl⟩
  · rw [pK_new (fun z => c (key_mem.mp z)), pV_new (fun z => c (key_mem.mp z)), up_new c]
    exact ⟨by rw [rowsD_one, List.map_append]; rfl, by rw [List.map_append]; rfl⟩
theorem up_nd {A : Asl} {S : List Int} {v : Nat} (nd : (A.map (·.1)).Nodup) : ((upA A S v).map (·.1)).Nodup := by
  by_cases c : S ∈ A.map (·.1)
  · rw [up_old c]; exact nd
  · rw [up_new c, List.map_append]
    exact List.nodup_append.mpr ⟨nd, List.pairwise_singleton _ _, fun a ma b mb e => by
      have e2 : a = S := e.trans (by simpa using mb)
      exact c (e2 ▸ ma)⟩
theorem up_look {A : Asl} {S T : List Int} {v : Nat} : look (upA A S v) T = if S = T then some v else look A T := by
  induction A with
  | nil => rfl
  | cons p A ih =>
    unfold upA
    by_cases c : p.1 = S
    · rw [if_pos c]
      unfold look
      by_cases e : S = T
      · rw [if_pos e, if_pos e]
      · rw [if_neg e, if_neg e, if_neg (by rw [c]; exact e)]
    · rw [if_neg c]
      unfold look
      rw [ih]
      by_cases e : p.1 = T
      · rw [if_pos e, if_pos e, if_neg fun z => c (e.trans z.symm)]
      · rw [if_neg e, if_neg e]
/-- the weight of what is still to be counted -/
def wgt (act : List Int → Bool) (f : List Int → Nat) : Asl → Nat
  | [] => 0
  | p :: A => (if act p.1 = true then p.2 * f p.1 else 0) + wgt act f A
theorem wgt_up {act : List Int → Bool} {f : List Int → Nat} {T : List Int} {c : Nat} : ∀ {A : Asl}, wgt act f (upA A T ((look A T).getD 0 + c)) = wgt act f A + if act T = true then c * f T else 0
  | [] => by
    unfold upA look
    show (if act T = true then (0 + c) * f T else 0) + 0 = 0 + _
    rw [Nat.zero_add, Nat.zero_add, Nat.add_zero]
  | p :: A => by
    unfold upA look
    by_cases e : p.1 = T
    · rw [if_pos e, if_pos e]
      unfold wgt
      rw [e]
      by_cases a : act T = true
      · simp only [a, if_true, Option.getD_some, Nat.add_mul]; omega
      · simp only [a, if_false]; simp
    · rw [if_neg e, if_neg e]
      unfold wgt
      rw [wgt_up]; omega
theorem wgt_congr {act act' : List Int → Bool} {f : List Int → Nat} : ∀ {A : Asl}, (∀ S ∈ A.map (·.1), act S = act' S) → wgt act f A = wgt act' f A
  | [], _ => rfl
  | p :: A, h => by
    unfold wgt
    rw [h p.1 (by simp), wgt_congr fun S m => h S (by rw [List.map_cons]; exact List.mem_cons_of_mem _ m)]
/-- one set is done -/
theorem wgt_off {act act' : List Int → Bool} {f : List Int → Nat} {S : List Int} (h1 : act S = true) (h2 : act' S = false) (h3 : ∀ T, T ≠ S → act T = act' T) : ∀ {A : Asl}, (A.map (·.1)).Nodup → wgt act f A = wgt act' f A + (look A S).getD 0 * f S
  | [], _ => by unfold wgt look; simp
  | p :: A, nd => by
    rw [List.map_cons, List.nodup_cons] at nd
    unfold wgt look
    by_cases e : p.1 = S
    · have : wgt act f A = wgt act' f A := wgt_congr fun T m => h3 T fun z => nd.1 (by rw [e, ← z]; exact m)
      rw [if_pos e, this, e, h1, h2]
      simp; omega
    · rw [if_neg e, h3 p.1 e, wgt_off h1 h2 h3 nd.2]; omega
theorem wgt_one {act : List Int → Bool} {f : List Int → Nat} {S : List Int} (h1 : act S = true) (h3 : ∀ T, act T = true → T = S) : ∀ {A : Asl}, (A.map (·.1)).Nodup → wgt act f A = (look A S).getD 0 * f S
  | A, nd => by
    rw [wgt_off (act' := fun _ => false) h1 rfl (fun T hT => by
      cases c : act T with
      | false => rfl
      | true => exact absurd (h3 T c) hT) nd]
    have : ∀ B : Asl, wgt (fun _ => false) f B = 0 := fun B => by
      induction B with
      | nil => rfl
      | cons p B ih => unfold wgt; rw [ih]; rfl
    rw [this]; omega
theorem len_sort {o : List Int} : (sortI o).length = o.length := (sortI_perm o).length_eq
/-! ### how many rankings -/
noncomputable def actN (F' : List (List Int)) (k j : Nat) (T : List Int) : Bool := (decide (T.length = k) && !(F'.take j).contains T) || decide (T.length = k + 1)
def fN (n : Nat) (rows : List (List Int)) (S : List Int) : Nat := cntN n rows (n - S.length) S
theorem take_in {F' : List (List Int)} {j : Nat} (hj : j < F'.length) (T : List Int) : (F'.take (j + 1)).contains T = ((F'.take j).contains T || decide (T = F'[j])) := by
  rw [List.take_add_one, List.getElem?_eq_getElem hj, Bool.eq_iff_iff, Bool.or_eq_true, List.contains_iff_mem, List.contains_iff_mem, List.mem_append, decide_eq_true_iff]
  show _ ∨ T ∈ [F'[j]] ↔ _
  rw [List.mem_singleton]
/-- what holds before the set j of size k -/
structure NI (n : Nat) (rows F' : List (List Int)) (k j : Nat) (A : Asl) : Prop where
  nd : (A.map (·.1)).Nodup
  fea : ∀ S ∈ A.map (·.1), Fea n rows S
  up : ∀ S ∈ A.map (·.1), S.length ≤ k + 1
  has : ∀ S ∈ F', S.length = k → S ∈ A.map (·.1)
  nx : ∀ S ∈ F'.take j, S.length = k → ∀ i ∈ freeL n rows S, sortI (S ++ [i]) ∈ A.map (·.1)
  w : wgt (actN F' k j) (fN n rows) A = (rkL n rows).length
theorem NI.first {n : Nat} {rows F' : List (List Int)} (hn : F'.Nodup) (hF : ∀ S, S ∈ F' ↔ Fea n rows S) : NI n rows F' 0 0 [([], 1)] where
  nd := by simp
  fea S m := by simp at m; subst m; exact fea_nil
  up S m := by simp at m; subst m; exact Nat.zero_le _
  has S m e := by simp; exact List.length_eq_zero_iff.mp e
  nx S m := by cases m
  w := by
    show (if actN F' 0 0 [] = true then 1 * fN n rows [] else 0) + 0 = _
    have : actN F' 0 0 [] = true := by simp [actN]
    rw [if_pos this, Nat.one_mul, ← cnt_all]; rfl
theorem NI.lap {n : Nat} {rows F' : List (List Int)} {k : Nat} {A : Asl} (hF : ∀ S, S ∈ F' ↔ Fea n rows S) (h : NI n rows F' k F'.length A) : NI n rows F' (k + 1) 0 A where
  nd := h.nd
  fea := h.fea
  up S m := Nat.le_succ_of_le (h.up S m)
  has S m e := by
    obtain ⟨o, r, rfl⟩ := (hF S).mp m
    rw [len_sort] at e
    rcases List.eq_nil_or_concat o with rfl | ⟨p, i, rfl⟩
    · cases e
    · rw [List.concat_eq_append] at *
      obtain ⟨r1, r2⟩ := run_snoc.mp r
      have := h.nx (sortI p) (by rw [List.take_length]; exact (hF _).mpr ⟨p, r1, rfl⟩) (by rw [len_sort]; simpa using e) i (by rw [freeL_perm (sortI_perm p)]; exact r2)
      rwa [sort_perm_eq ((sortI_perm p).append_right [i])] at this
  nx S m := by cases m
  w := by
    rw [← h.w]
    refine (wgt_congr fun S m => ?_).symm
    have := h.up S m
    have hm : F'.contains S = true := List.contains_iff_mem.mpr ((hF S).mpr (h.fea S m))
    unfold actN
    rw [List.take_length, hm]
    simp
    omega
/-- a set of another size -/
theorem NI.skip {n : Nat} {rows F' : List (List Int)} {k j : Nat} {A : Asl} (hj : j < F'.length) (h : NI n rows F' k j A) (hs : F'[j].length ≠ k) : NI n rows F' k (j + 1) A where
  nd := h.nd
  fea := h.fea
  up := h.up
  has := h.has
  nx S m e := by
    rw [List.take_add_one, List.getElem?_eq_getElem hj] at m
    rcases List.mem_append.mp m with m | m
    · exact h.nx S m e
    · simp at m; subst m; exact absurd e hs
  w := by
    rw [← h.w]
    refine (wgt_congr fun S m => ?_).symm
    unfold actN
    rw [take_in hj]
    by_cases c : S.length = k
    · have : S ≠ F'[j] := fun e => hs (e ▸ c)
      simp [c, this]
    · simp [c]
/-- within the set j of size k: r rules are done -/
structure NR (n : Nat) (rows F' : List (List Int)) (k j r : Nat) (S : List Int) (c : Nat) (A : Asl) : Prop where
  nd : (A.map (·.1)).Nodup
  fea : ∀ S ∈ A.map (·.1), Fea n rows S
  up : ∀ S ∈ A.map (·.1), S.length ≤ k + 1
  has : ∀ S ∈ F', S.length = k → S ∈ A.map (·.1)
  nx : ∀ S ∈ F'.take j, S.length = k → ∀ i ∈ freeL n rows S, sortI (S ++ [i]) ∈ A.map (·.1)
  nr : ∀ i ∈ (freeL n rows S).take r, sortI (S ++ [i]) ∈ A.map (·.1)
  lk : look A S = some c
  w : wgt (actN F' k (j + 1)) (fN n rows) A + (((freeL n rows S).drop r).map fun i => c * fN n rows (sortI (S ++ [i]))).sum = (rkL n rows).length
theorem sum_mul (c : Nat) (g : Int → Nat) : ∀ l : List Int, (l.map fun i => c * g i).sum = c * (l.map g).sum
  | [] => rfl
  | i :: l => by rw [List.map_cons, List.sum_cons, sum_mul c g l, List.map_cons, List.sum_cons, Nat.mul_add]
theorem fN_step {n : Nat} {rows : List (List Int)} {S : List Int} (h : S.length < n) : fN n rows S = ((freeL n rows S).map fun i => fN n rows (sortI (S ++ [i]))).sum := by
  unfold fN
  rw [show n - S.length = (n - (S.length + 1)) + 1 by omega]
  show ((freeL n rows S).map fun i => cntN n rows (n - (S.length + 1)) (sortI (S ++ [i]))).sum = _
  congr 1
  refine List.map_congr_left fun i _ => ?_
  rw [len_sort, List.length_append, List.length_singleton]
theorem NI.into {n : Nat} {rows F' : List (List Int)} {k j : Nat} {A : Asl} (hn : F'.Nodup) (hk : k < n) (hj : j < F'.length) (h : NI n rows F' k j A) (hs : F'[j].length = k) : ∃ c, NR n rows F' k j 0 F'[j] c A := by
  have hm := h.has _ (List.getElem_mem hj) hs
  obtain ⟨c, hc⟩ := Option.isSome_iff_exists.mp (look_mem.mp hm)
  refine ⟨c, ⟨h.nd, h.fea, h.up, h.has, h.nx, (fun i m => by cases m), hc, ?_⟩⟩
  have nt : F'[j] ∉ F'.take j := fun m => by
    rw [← List.take_append_drop j F', List.drop_eq_getElem_cons hj] at hn
    exact (List.nodup_append.mp hn).2.2 _ m _ List.mem_cons_self rfl
  rw [List.drop_zero, sum_mul, ← fN_step (by omega), ← h.w]
  have := wgt_off (act := actN F' k j) (act' := actN F' k (j + 1)) (f := fN n rows) (S := F'[j]) (by simp [actN, hs, nt]) (by
      unfold actN
      rw [take_in hj]
      simp [hs]) (fun T hT => by
      unfold actN
      rw [take_in hj]
      simp [hT]) h.nd
  rw [this, hc]; rfl
theorem NR.step {n : Nat} {rows F' : List (List Int)} {k j r c : Nat} {S : List Int} {A : Asl} (h : NR n rows F' k j r S c A) (hS : Fea n rows S) (hk : S.length = k) (hr : r < (freeL n rows S).length) :
    NR n rows F' k j (r + 1) S c (upA A (sortI (S ++ [(freeL n rows S)[r]])) ((look A (sortI (S ++ [(freeL n rows S)[r]]))).getD 0 + c)) where
  nd := up_nd h.nd
  fea T m := by
    rcases up_keys.mp m with m | rfl
    · exact h.fea T m
    · exact hS.step (List.getElem_mem hr)
  up T m := by
    rcases up_keys.mp m with m | rfl
    · exact h.up T m
    · rw [len_sort, List.length_append, List.length_singleton]; omega
  has T m e := up_keys.mpr (.inl (h.has T m e))
  nx T m e i mi := up_keys.mpr (.inl (h.nx T m e i mi))
  nr i m := by
    rw [List.take_add_one, List.getElem?_eq_getElem hr] at m
    rcases List.mem_append.mp m with m | m
    · exact up_keys.mpr (.inl (h.nr i m))
    · simp at m; subst m; exact up_keys.mpr (.inr rfl)
  lk := by
    rw [up_look, if_neg fun e => ?_, h.lk]
    have := congrArg List.length e
    rw [len_sort, List.length_append, List.length_singleton] at this
    omega
  w := by
    rw [wgt_up, ← h.w, List.drop_eq_getElem_cons hr, List.map_cons, List.sum_cons]
    have : actN F' k (j + 1) (sortI (S ++ [(freeL n rows S)[r]])) = true := by
      unfold actN
      rw [len_sort, List.length_append, List.length_singleton, hk]
      simp
    rw [if_pos this]; omega
theorem NR.out {n : Nat} {rows F' : List (List Int)} {k j c : Nat} {A : Asl} (hj : j < F'.length) (h : NR n rows F' k j (freeL n rows F'[j]).length F'[j] c A) : NI n rows F' k (j + 1) A where
  nd := h.nd
  fea := h.fea
  up := h.up
  has := h.has
  nx S m e i mi := by
    rw [List.take_add_one, List.getElem?_eq_getElem hj] at m
    rcases List.mem_append.mp m with m | m
    · exact h.nx S m e i mi
    · simp at m; subst m; exact h.nr i (by rw [List.take_length]; exact mi)
  w := by
    have := h.w
    rw [List.drop_length] at this
    simpa using this
theorem NI.last {n : Nat} {rows F' : List (List Int)} {A : Asl} (h : NI n rows F' n 0 A) : (look A (intsTo n)).getD 0 = (rkL n rows).length := by
  have e : wgt (actN F' n 0) (fN n rows) A = wgt (fun T => decide (T = intsTo n)) (fN n rows) A := wgt_congr fun S m => by
    have sb := (h.fea S m).sb
    have sl := sb.len
    unfold actN
    rw [Bool.eq_iff_iff]
    simp
    constructor
    · intro z
      have hl : S.length = n := by omega
      have p : IsPerm n S := full_perm (asc_nd sb.asc) sb.inn fun i hi => Classical.byContradiction fun mi => by
        have := sub_len (l := i :: S) (m := intsTo n) (List.nodup_cons.mpr ⟨mi, asc_nd sb.asc⟩) fun x mx => intsTo_mem.mpr ((List.mem_cons.mp mx).elim (fun e => e ▸ hi) (sb.inn x))
        rw [intsTo_len, List.length_cons] at this
        omega
      exact asc_ext sb.asc (intsTo_sub n).asc fun i => p.mem_iff
    · rintro rfl
      exact .inl (intsTo_len n)
  have hw := h.w
  rw [e, wgt_one (S := intsTo n) (by simp) (fun T hT => of_decide_eq_true hT) h.nd] at hw
  rw [← hw]
  have : fN n rows (intsTo n) = 1 := by
    unfold fN
    rw [intsTo_len, Nat.sub_self]; rfl
  rw [this, Nat.mul_one]
end K17

set_option autoImplicit false
namespace K17
open PySem PySem.Spec L2 Pm 
def NInv (n : Nat) (rows F : List (List Int)) (P : Asl → Prop) (w : Ev) : Prop := ∃ A x3 x4 x5 x6, w = [some (.int ((n : Int))), some (feaD n rows F), some (cntD A), x3, x4, x5, x6] ∧ P A
def N4 (n : Nat) (rows F : List (List Int)) (k : Nat) (P : Asl → Prop) (w : Ev) : Prop := ∃ A x4 x5 x6, w = [some (.int ((n : Int))), some (feaD n rows F), some (cntD A), some (.int ((k : Nat))), x4, x5, x6] ∧ P A
def N5 (n : Nat) (rows F : List (List Int)) (k : Nat) (S : List Int) (P : Asl → Prop) (w : Ev) : Prop := ∃ A x5 x6, w = [some (.int ((n : Int))), some (feaD n rows F), some (cntD A), some (.int ((k : Nat))), some (.tup ((S).map D.int)), x5, x6] ∧ P A
theorem NInv.of {n : Nat} {rows F : List (List Int)} {P : Asl → Prop} {A : Asl} {x3 x4 x5 x6 : Option D} (h : P A) : NInv n rows F P [some (.int ((n : Int))), some (feaD n rows F), some (cntD A), x3, x4, x5, x6] := ⟨_, _, _, _, _, rfl, h⟩
theorem N4.of {n : Nat} {rows F : List (List Int)} {k : Nat} {P : Asl → Prop} {A : Asl} {x4 x5 x6 : Option D} (h : P A) : N4 n rows F k P [some (.int ((n : Int))), some (feaD n rows F), some (cntD A), some (.int ((k : Nat))), x4, x5, x6] := ⟨_, _, _, _, rfl, h⟩
theorem N5.of {n : Nat} {rows F : List (List Int)} {k : Nat} {S : List Int} {P : Asl → Prop} {A : Asl} {x5 x6 : Option D} (h : P A) : N5 n rows F k S P [some (.int ((n : Int))), some (feaD n rows F), some (cntD A), some (.int ((k : Nat))), some (.tup ((S).map D.int)), x5, x6] := ⟨_, _, _, rfl, h⟩
theorem NI.len {n : Nat} {rows F' : List (List Int)} {k j r c : Nat} {S : List Int} {A : Asl} (h : NR n rows F' k j r S c A) (hn : n ≤ 6) : A.length ≤ 64 := by
  have := sb_count h.nd (fun S m => (h.fea S m).sb) hn
  rwa [List.length_map] at this
theorem number_by_ok {n : Nat} {rows F : List (List Int)} (h : FeaD n rows F) (hn : n ≤ 6) : WpR (m_number_by [.int (n : Int), feaD n rows F]) (DQ (.int ((rkL n rows).length : Nat))) := by
  have rc : rngC (n : Int) = true := rngC_of (by omega) (by omega)
  have hnd : (sortR F).Nodup := (sortR_perm F).nodup_iff.mpr h.nd
  have hF : ∀ S, S ∈ sortR F ↔ Fea n rows S := fun S => (sortR_perm F).mem_iff.trans (h.mem S)
  have sd : dSortU (feaD n rows F) = some (.own (rowsD (sortR F))) := sort_dict
  refine wpr_mk rfl ?_
  unfold b_number_by
  rw [show startE 7 [.int (n : Int), feaD n rows F] = [some (.int ((n : Int))), some (feaD n rows F), none, none, none, none, none] from rfl]
  refine wp_to (fun w => w = [some (.int ((n : Int))), some (feaD n rows F), some (cntD [([], 1)]), none, none, none, none]) ?_ ?_
  · have e1 : pK [] (D.tup []) = rowsD [[]] := by rw [pK_new (by simp)]; rfl
    have e2 : pV [] [] (D.tup []) (.int 1) = [.int 1] := by rw [pV_new (by simp)]; rfl
    have e3 : isK true (D.tup []) = true := isK_ints (S := [])
    simp [e1, e2, e3]
    exact .mk rfl
  rintro w rfl
  refine wp_to (NInv n rows F (NI n rows (sortR F) n 0)) ?_ ?_
  · simp [rc, rngD_ints]
    refine lz_forM (fun k w => NInv n rows F (NI n rows (sortR F) k 0) w) ⟨_, none, none, none, none, rfl, NI.first hnd hF⟩ ?_ ?_
    · rintro w hw
      rw [List.length_map, intsTo_len] at hw
      exact ⟨rfl, .mk hw⟩
    · rintro k d w hk ⟨A, x3, x4, x5, x6, rfl, hA⟩
      have hk2 : k < n := by
        have := (List.getElem?_eq_some_iff.mp hk).1
        rwa [List.length_map, intsTo_len] at this
      have ed : d = .int (k : Nat) := by
        rw [← rngD_ints] at hk
        have := rngD_get hk
        rw [this]; simp
      subst ed
      simp [sd]
      refine lz_forM (fun j w => N4 n rows F k (NI n rows (sortR F) k j) w) ⟨A, x4, x5, x6, rfl, hA⟩ ?_ ?_
      · rintro w ⟨A, x4, x5, x6, rfl, hA⟩
        rw [rowsD_len] at hA
        exact .mk (NInv.of (hA.lap hF))
      · rintro j d w hj ⟨A, x4, x5, x6, rfl, hA⟩
        obtain ⟨hj', rfl⟩ := rowsD_at hj
        by_cases cs : (sortR F)[j].length = k
        · obtain ⟨c, hR⟩ := hA.into hnd hk2 hj' cs
          have hfe := (hF _).mp (List.getElem_mem hj')
          have out : ∀ A, NR n rows (sortR F) k j (freeL n rows (sortR F)[j]).length (sortR F)[j] c A → NI n rows (sortR F) k (j + 1) A := fun A z => z.out hj'
          generalize (sortR F)[j] = S at cs hR hfe out
          have vS : vD (rowsD F) (rowsD (F.map (freeL n rows))) (.tup (S.map .int)) = some (.tup ((freeL n rows S).map .int)) := vD_rows ((h.mem S).mpr hfe)
          simp [cs, feaD, isK_ints, vS]
          refine lz_forM (fun r w => N5 n rows F k S (NR n rows (sortR F) k j r S c) w) ⟨A, x5, x6, by simp [feaD], hR⟩ ?_ ?_
          · rintro w ⟨A, x5, x6, rfl, hA⟩
            rw [List.length_map] at hA
            exact .mk (N4.of (out A hA))
          · rintro r d w hr ⟨A, x5, x6, rfl, hA⟩
            obtain ⟨hr', rfl⟩ := ints_at hr
            have hst := hA.step hfe cs hr'
            have l1 : S.length + 1 ≤ sizeLine := line (by have := hfe.sb.len; omega)
            have l2 : A.length < sizeLine := line' (by have := NI.len hA hn; omega)
            have cm : S.map D.int ++ [D.int (freeL n rows S)[r]] = (S ++ [(freeL n rows S)[r]]).map D.int := by rw [List.map_append]; rfl
            have hlk := hA.lk
            have hnd2 := hA.nd
            generalize (freeL n rows S)[r] = i at hst cm
            show ob _ _
            refine ⟨_, rfl, ?_⟩
            refine wp_mid (fun w => w = [some (.int ((n : Int))), some (feaD n rows F), some (cntD A), some (.int ((k : Nat))), some (.tup ((S).map D.int)), some (.int (i)), some (.tup ((sortI (S ++ [i])).map D.int))]) ?_ ?_
            · simp [l1, cm, dSortU_tup, -List.map_append]
            rintro w rfl
            generalize sortI (S ++ [i]) = T at hst
            obtain ⟨u1, u2⟩ := up_D (A := A) (S := T) (v := (look A T).getD 0 + c) hnd2
            simp
            refine lz_Get rfl ?_
            have hg : dGet (cntD A) (.tup (T.map .int)) (.int 0) = some (.int (((look A T).getD 0 : Nat) : Int)) := by
              unfold cntD
              rw [dGet_odc isK_ints rfl, look_vD]
              cases look A T <;> rfl
            have hv : vD (rowsD (A.map (·.1))) (A.map fun p => D.int (p.2 : Nat)) (.tup (S.map .int)) = some (.int (c : Nat)) := by rw [look_vD, hlk]; rfl
            have hpl : pls (A.map fun p => D.int (p.2 : Nat)) = true := pls_map (fun _ => rfl) A
            have e4 : (((look A T).getD 0 : Nat) : Int) + (c : Int) = (((look A T).getD 0 + c : Nat) : Int) := by omega
            simp [hg]
            have e5 : dIxA (cntD A) (.tup (S.map .int)) = some (.int (c : Nat)) := by
              unfold cntD
              rw [dIxA_odc, if_pos isK_ints, hv]; rfl
            have e6 : dAdd (.int (((look A T).getD 0 : Nat) : Int)) (.int (c : Nat)) = some (.int (((look A T).getD 0 + c : Nat) : Int)) := by rw [← e4]; rfl
            have e7 : D.odc true (pK (rowsD (A.map (·.1))) (.tup (T.map .int))) (pV (rowsD (A.map (·.1))) (A.map fun p => D.int (p.2 : Nat)) (.tup (T.map .int)) (.int (((look A T).getD 0 + c : Nat) : Int))) = cntD (upA A T ((look A T).getD 0 + c)) := by rw [u1, u2]; rfl
            refine ⟨_, e5, _, e6, _, rfl, ⟨isK_ints, rfl, by rw [rowsD_len, List.length_map]; exact l2, hpl⟩, ?_⟩
            exact .mk ⟨upA A T ((look A T).getD 0 + c), some (.int i), some (.tup (T.map .int)), by rw [← e7], hst⟩
        · have : ¬ ((sortR F)[j].length : Int) = (k : Int) := by omega
          have hs := hA.skip hj' cs
          generalize (sortR F)[j] = S at this
          simp [this]
          exact .mk (N4.of hs)
  rintro w ⟨A, x3, x4, x5, x6, rfl, hA⟩
  have hl := hA.last
  simp
  refine lz_Get rfl ?_
  have hg : dGet (cntD A) (.tup ((intsTo n).map .int)) (.int 0) = some (.int (((look A (intsTo n)).getD 0 : Nat) : Int)) := by
    unfold cntD
    rw [dGet_odc isK_ints rfl, look_vD]
    cases look A (intsTo n) <;> rfl
  simp [dRngT_n (show n ≤ 1000 by omega), hg, DQ, hl]
theorem ranking_number_ok {n : Nat} {rows : List (List Int)} (hn : n ≤ 6) (hl : rows.length ≤ 1000) (hr : Rect n rows) : WpR (m_ranking_number [.int (n : Int), .tup (rowsD rows)]) (DQ (.int ((rkL n rows).length : Nat))) := by
  refine wpr_mk rfl ?_
  unfold b_ranking_number
  rw [show startE 2 [.int (n : Int), .tup (rowsD rows)] = [some (.int ((n : Int))), some (.tup (rowsD (rows)))] from rfl]
  simp
  refine (row_sets_ok hn hl hr).mono ?_
  rintro d os ⟨rfl, F, rfl, hF⟩
  refine (number_by_ok hF hn).dq ?_
  simp [DQ]
end K17

set_option autoImplicit false
namespace K17
open PySem PySem.Spec L2 Pm 
/-! ### sets joined -/
@[simp] theorem dList_tup {xs : List D} : dList (.tup xs) = if pls xs = true then some (.own xs) else none := rfl
@[simp] theorem dList_own {xs : List D} : dList (.own xs) = if pls xs = true then some (.own xs) else none := rfl
@[simp] theorem dList_lst {xs : List D} : dList (.lst xs) = if pls xs = true then some (.own xs) else none := rfl
theorem joined_ok {S T : List Int} {d : D} (hd : d = .tup (T.map .int) ∨ d = .lst (T.map .int) ∨ d = .own (T.map .int)) (hl2 : S.length ≤ 1000) (hl : T.length ≤ 1000) : WpR (m_law_joined [.tup (S.map .int), d]) (DQ (.tup ((uniL S T).map .int))) := by
  refine wpr_mk rfl ?_
  unfold b_law_joined
  rw [show startE 3 [.tup (S.map .int), d] = [some (.tup ((S).map D.int)), some d, none] from rfl]
  have hso : dSortU (.own (S.map D.int ++ (T.filter fun r => !S.contains r).map D.int)) = some (.own ((uniL S T).map D.int)) := by
    rw [← List.map_append, dSortU_own]; rfl
  simp at hso
  have body : ∀ (d0 : D) (w : Ev) (y : Option D), w = [some (.tup ((S).map D.int)), y, none] → Wp (cmpL (.nm 2) (tBl (x2pp (dInA true) (qV 2) (qV 0))) (xI 2) [2] (T.map D.int) [] w) fun l w2 => l = (T.filter fun r => !S.contains r).map D.int ∧ w2.length = 3 := fun d0 w y e => by
    subst e
    refine cmp_pure (α := Int) (vs := [2]) D.int D.int T (fun r => !S.contains r) (fun i => [some (.tup ((S).map D.int)), y, some (.int (i))]) (by omega) (fun _ _ => rfl) (fun _ _ => rfl) (fun i m => ?_) (fun i m _ => by simp) fun w2 e el => ?_
    · simp [dInA_ints (neg := true) (i := i) (s := S) (.inl rfl)]
    · exact ⟨rfl, el⟩
  have ln : S.length + (T.filter fun r => !decide (r ∈ S)).length ≤ sizeLine := line (by have := List.length_filter_le (fun r => !decide (r ∈ S)) T; omega)
  rcases hd with rfl | rfl | rfl
  · simp
    refine (body (.tup (T.map .int)) _ _ rfl).mono ?_
    rintro l w2 ⟨rfl, hw⟩
    simp [hso, DQ, ln]
  · simp
    refine (body (.tup (T.map .int)) _ _ rfl).mono ?_
    rintro l w2 ⟨rfl, hw⟩
    simp [hso, DQ, ln]
  · simp
    refine (body (.tup (T.map .int)) _ _ rfl).mono ?_
    rintro l w2 ⟨rfl, hw⟩
    simp [hso, DQ, ln]
theorem dInA_rowsC {neg : Bool} {S : List Int} {G : List (List Int)} {d : D} (h : d = .tup (rowsD G) ∨ d = .own (rowsD G) ∨ d = .lst (rowsD G)) : dInA neg (.tup (S.map .int)) d = some (.bl (if neg = true then !G.contains S else G.contains S)) := by
  have lay : ∀ G : List (List Int), PyData.canLayAll0 (toPys (rowsD G)) = true := fun G => by
    induction G with
    | nil => rfl
    | cons S G ih =>
      show (PyData.canLayAll0 (toPys (S.map .int)) && PyData.canLayAll0 (toPys (rowsD G))) = true
      rw [ih, py_lay]; rfl
  have dep : ∀ G : List (List Int), PyData.depthAll (toPys (rowsD G)) ≤ 1 := fun G => by
    induction G with
    | nil => exact Nat.zero_le _
    | cons S G ih =>
      show max (PyData.depthAll (toPys (S.map .int)) + 1) (PyData.depthAll (toPys (rowsD G))) ≤ 1
      rw [py_depth]
      omega
  have hd : dctD d = none := by rcases h with rfl | rfl | rfl <;> rfl
  have hs : seqD d = some (rowsD G) := by rcases h with rfl | rfl | rfl <;> rfl
  have hh : shD d = true := by
    have : (PyData.canLayAll0 (toPys (rowsD G)) && decide (PyData.depthAll (toPys (rowsD G)) + 1 ≤ 64)) = true := by
      rw [lay, Bool.true_and]
      have := dep G
      exact decide_eq_true (by omega)
    rcases h with rfl | rfl | rfl <;> exact this
  have h1 : dIn neg (.tup (S.map .int)) d = none := by
    unfold dIn
    rw [hs]
    dsimp only
    rw [if_neg fun z => by cases z.1]
  have ea : ((rowsD G).any fun y => PyData.eqv (toPy y) (toPy (.tup (S.map .int)))) = G.contains S := by
    unfold rowsD
    rw [List.any_map]
    have : ((fun y => PyData.eqv (toPy y) (toPy (.tup (S.map .int)))) ∘ fun r : List Int => D.tup (r.map .int)) = fun r => decide (r = S) := funext fun r => py_eqv r S
    rw [this, Bool.eq_iff_iff, List.any_eq_true, List.contains_iff_mem]
    simp
  unfold dInA
  rw [hd]
  dsimp only
  rw [h1]
  dsimp only
  rw [hs]
  dsimp only
  rw [if_pos ⟨shaped_tup S, hh⟩, ea]
def pF (M : List (List Int)) (S : List Int) : List (List Int) := if M.contains S = true then M else M ++ [S]
theorem pF_mem {M : List (List Int)} {S T : List Int} : T ∈ pF M S ↔ T ∈ M ∨ T = S := by
  unfold pF
  split
  · rename_i h
    exact ⟨.inl, fun o => o.elim id fun e => e ▸ List.contains_iff_mem.mp h⟩
  · simp
theorem pF_nd {M : List (List Int)} {S : List Int} (h : M.Nodup) : (pF M S).Nodup := by
  unfold pF
  split
  · exact h
  · rename_i c
    exact List.nodup_append.mpr ⟨h, List.pairwise_singleton _ _, fun a ma b mb e => by
      rw [List.mem_singleton.mp mb] at e
      exact c (List.contains_iff_mem.mpr (e ▸ ma))⟩
/-! ### the law's own feasible sets -/
def barsB (rows : List (List Int)) (S : List Int) (i : Int) : Bool := rows.any fun r => decide (atR r i < 0) && nt r S
theorem freeP_bars {rows : List (List Int)} {S : List Int} {i : Int} : freeP rows S i = (!S.contains i && !barsB rows S i) := by
  unfold freeP barsB
  congr 2
  rw [List.any_filter]
  congr 1
  funext r
  exact Bool.and_comm _ _
theorem noughts_len {r S : List Int} : (S.filter fun i => decide (atR r i = 0)).length = S.length ↔ nt r S = true := by
  rw [List.length_filter_eq_length_iff]
  unfold nt
  rw [List.all_eq_true]
theorem law_bars_ok {n : Nat} {rows : List (List Int)} {S : List Int} {i : Int} (hr : Rect n rows) (hS : Sb n S) (hn : n ≤ 6) (hi : 0 ≤ i ∧ i < (n : Int)) : WpR (m_law_bars [.tup (rowsD rows), .tup (S.map .int), .int i]) (BlQ (barsB rows S i)) := by
  have sl := hS.len
  refine wpr_mk rfl ?_
  unfold b_law_bars
  rw [show startE 6 [.tup (rowsD rows), .tup (S.map .int), .int i] = [some (.tup (rowsD (rows))), some (.tup ((S).map D.int)), some (.int (i)), none, none, none] from rfl]
  simp
  refine lz_for (fun j w => ∃ x3 x4 x5, w = [some (.tup (rowsD (rows))), some (.tup ((S).map D.int)), some (.int (i)), x3, x4, x5] ∧ barsB rows S i = barsB (rows.drop j) S i) ⟨_, _, _, rfl, rfl⟩ ?_ ?_
  · rintro w ⟨x3, x4, x5, rfl, h⟩
    rw [rowsD_len, List.drop_length, show barsB [] S i = false from rfl] at h
    simp [BlQ, h]
  · rintro j d w hj ⟨x3, x4, x5, rfl, h⟩
    obtain ⟨hj', rfl⟩ := rowsD_at hj
    have hl := hr _ (List.getElem_mem hj')
    rw [List.drop_eq_getElem_cons hj', show barsB (rows[j] :: rows.drop (j + 1)) S i = ((decide (atR rows[j] i < 0) && nt rows[j] S) || barsB (rows.drop (j + 1)) S i) from rfl] at h
    generalize rows[j] = r at hl h
    have sx := seqIx_at (r := r) hi.1 (by rw [hl]; exact hi.2)
    by_cases c : atR r i < 0
    · simp [sx, c]
      refine cmp_pure (α := Int) (vs := [5]) D.int D.int S (fun i => decide (atR r i = 0)) (fun k => [some (.tup (rowsD (rows))), some (.tup ((S).map D.int)), some (.int (i)), some (.tup ((r).map D.int)), x4, some (.int (k))]) (by omega) (fun _ _ => rfl) (fun _ _ => rfl) (fun k m => ?_) (fun k m _ => by simp) fun w2 e el => ?_
      · obtain ⟨k1, k2⟩ := hS.inn k m
        simp [seqIx_at (r := r) k1 (by rw [hl]; exact k2)]
      · simp at e el
        simp [e, el]
        have hnl := noughts_len (r := r) (S := S)
        by_cases c2 : nt r S = true
        · have := hnl.mpr c2
          simp [c, c2] at h
          simp [this, BlQ, h]
        · have : ¬ (S.filter fun i => decide (atR r i = 0)).length = S.length := fun z => c2 (hnl.mp z)
          simp [c, c2] at h
          have e9 : decide (((S.filter fun i => decide (atR r i = 0)).length : Int) = (S.length : Int)) = false := by rw [decide_eq_false_iff_not]; omega
          rw [e9]
          exact h
    · simp [c] at h
      simp [sx, c]
      exact h
theorem uni_snoc {S : List Int} {r : Int} (h : r ∉ S) : uniL S [r] = sortI (S ++ [r]) := by
  unfold uniL
  rw [List.filter_cons_of_pos (by simp [h])]; rfl
/-- what a layer's rules add -/
def MrM (n : Nat) (rows : List (List Int)) (L : List (List Int)) (i j : Nat) (M : List (List Int)) : Prop := ∀ S, S ∈ M ↔ (∃ A ∈ L.take i, ∃ r ∈ freeL n rows A, S = uniL A [r]) ∨ ∃ A, L[i]? = some A ∧ ∃ r ∈ (intsTo n).take j, r ∈ freeL n rows A ∧ S = uniL A [r]
theorem MrM.zero {n : Nat} {rows L : List (List Int)} : MrM n rows L 0 0 [] := fun S => by simp
theorem MrM.next {n : Nat} {rows L M : List (List Int)} {i : Nat} {A : List Int} (hA : L[i]? = some A) (h : MrM n rows L i (intsTo n).length M) : MrM n rows L (i + 1) 0 M := fun S => by
  rw [h S, List.take_add_one, hA]
  simp only [List.mem_append, Option.toList_some, List.mem_singleton, List.take_zero, List.not_mem_nil, false_and, exists_false, and_false, or_false]
  constructor
  · rintro (⟨B, m, r, mr, rfl⟩ | ⟨B, e, r, _, mr, rfl⟩)
    · exact ⟨B, .inl m, r, mr, rfl⟩
    · cases e
      exact ⟨A, .inr rfl, r, mr, rfl⟩
  · rintro ⟨B, m | rfl, r, mr, rfl⟩
    · exact .inl ⟨B, m, r, mr, rfl⟩
    · exact .inr ⟨B, rfl, r, by rw [List.take_length]; exact intsTo_mem.mpr (free_mem mr).1, mr, rfl⟩
theorem MrM.skip {n : Nat} {rows L M : List (List Int)} {i j : Nat} {A : List Int} {r : Int} (hA : L[i]? = some A) (hr : (intsTo n)[j]? = some r) (hf : r ∉ freeL n rows A) (h : MrM n rows L i j M) : MrM n rows L i (j + 1) M := fun S => by
  rw [h S, List.take_add_one, hr]
  simp only [Option.toList_some]
  constructor
  · rintro (h | ⟨B, e, r', mr, f, rfl⟩)
    · exact .inl h
    · exact .inr ⟨B, e, r', List.mem_append_left _ mr, f, rfl⟩
  · rintro (h | ⟨B, e, r', mr, f, rfl⟩)
    · exact .inl h
    · rcases List.mem_append.mp mr with mr | mr
      · exact .inr ⟨B, e, r', mr, f, rfl⟩
      · cases hA.symm.trans e
        rw [List.mem_singleton.mp mr] at f
        exact absurd f hf
theorem MrM.step {n : Nat} {rows L M : List (List Int)} {i j : Nat} {A : List Int} {r : Int} (hA : L[i]? = some A) (hr : (intsTo n)[j]? = some r) (hf : r ∈ freeL n rows A) (h : MrM n rows L i j M) : MrM n rows L i (j + 1) (pF M (uniL A [r])) := fun S => by
  rw [pF_mem, h S, List.take_add_one, hr]
  simp only [Option.toList_some]
  constructor
  · rintro ((h | ⟨B, e, r', mr, f, rfl⟩) | rfl)
    · exact .inl h
    · exact .inr ⟨B, e, r', List.mem_append_left _ mr, f, rfl⟩
    · exact .inr ⟨A, hA, r, List.mem_append_right _ (List.mem_singleton.mpr rfl), hf, rfl⟩
  · rintro (h | ⟨B, e, r', mr, f, rfl⟩)
    · exact .inl (.inl h)
    · rcases List.mem_append.mp mr with mr | mr
      · exact .inl (.inr ⟨B, e, r', mr, f, rfl⟩)
      · cases hA.symm.trans e
        rw [List.mem_singleton.mp mr]
        exact .inr rfl
theorem fea_layer {n k : Nat} {rows L M : List (List Int)} (hL : ∀ S, S ∈ L ↔ Fea n rows S ∧ S.length = k) (hM : MrM n rows L L.length 0 M) : ∀ S, S ∈ M ↔ Fea n rows S ∧ S.length = k + 1 := fun S => by
  rw [hM S, List.take_length]
  simp only [List.take_zero, List.not_mem_nil, false_and, exists_false, and_false, or_false]
  constructor
  · rintro ⟨A, mA, r, mr, rfl⟩
    obtain ⟨aF, al⟩ := (hL A).mp mA
    rw [uni_snoc (free_mem mr).2]
    exact ⟨aF.step mr, by rw [len_sort, List.length_append, List.length_singleton, al]⟩
  · rintro ⟨⟨o, ro, rfl⟩, sl⟩
    rw [len_sort] at sl
    rcases List.eq_nil_or_concat o with rfl | ⟨p, i, rfl⟩
    · cases sl
    · rw [List.concat_eq_append] at *
      obtain ⟨r1, r2⟩ := run_snoc.mp ro
      have r3 : i ∈ freeL n rows (sortI p) := by rw [freeL_perm (sortI_perm p)]; exact r2
      refine ⟨sortI p, (hL _).mpr ⟨⟨p, r1, rfl⟩, by rw [len_sort]; simpa using sl⟩, i, r3, ?_⟩
      rw [uni_snoc (free_mem r3).2, sort_perm_eq ((sortI_perm p).append_right [i])]
def IsL (d : D) (L : List (List Int)) : Prop := d = .own (rowsD L) ∨ d = .lst (rowsD L)
theorem feas_in {n k : Nat} {rows Z L : List (List Int)} {l3 x4 x6 x7 x8 : Option D} (hn : n ≤ 6) (hr : Rect n rows) (hL : ∀ S, S ∈ L ↔ Fea n rows S ∧ S.length = k) :
    Wp (forL (.nm 6) (sFor [none] (iW qR1 (xCons (xP (qV 0)) xNil)) (.nm 7) (sSeq (sSet 8 (xCal 2 [] m_law_joined (xCons (xI 6) (xCons (xTup (xCons (xI 7) xNil)) xNil)))) (sIf (tAndF (tBl (x2pp (dInA true) (qV 7) (qV 6))) (tAndF (tBl (x2pp (dInA true) (qV 8) (qV 5))) (tNotF (tTru (xCal 3 [] m_law_bars (xCons (xI 1) (xCons (xI 6) (xCons (xI 7) xNil)))))))) (sExpr (xApp 5 (xI 8))) sNx))) (rowsD L) [some (.int ((n : Int))), some (.tup (rowsD (rows))), some (.own (rowsD (Z))), l3, x4, some (.own (rowsD [])), x6, x7, x8])
      fun fl w2 => fl = .nx ∧ ∃ x6 x7 x8 M, w2 = [some (.int ((n : Int))), some (.tup (rowsD (rows))), some (.own (rowsD (Z))), l3, x4, some (.own (rowsD M)), x6, x7, x8] ∧ M.Nodup ∧ ∀ S, S ∈ M ↔ Fea n rows S ∧ S.length = k + 1 := by
  have rc : rngC (n : Int) = true := rngC_of (by omega) (by omega)
  refine lz_forM (fun i w => ∃ x6 x7 x8 M, w = [some (.int ((n : Int))), some (.tup (rowsD (rows))), some (.own (rowsD (Z))), l3, x4, some (.own (rowsD M)), x6, x7, x8] ∧ M.Nodup ∧ (∀ S ∈ M, Fea n rows S) ∧ MrM n rows L i 0 M) ⟨_, _, _, [], rfl, List.nodup_nil, (fun S m => by cases m), MrM.zero⟩ ?_ ?_
  · rintro w ⟨x6, x7, x8, M, rfl, h1, _, h2⟩
    rw [rowsD_len] at h2
    exact ⟨rfl, _, _, _, M, rfl, h1, fea_layer hL h2⟩
  · rintro i d w hi ⟨x6, x7, x8, M, rfl, h1, h0, h2⟩
    obtain ⟨hi', rfl⟩ := rowsD_at hi
    have eA : L[i]? = some L[i] := List.getElem?_eq_getElem hi'
    have mA := ((hL _).mp (List.getElem_mem hi')).1
    generalize L[i] = A at eA mA
    have sA := mA.sb
    have sAl := sA.len
    simp [rc, rngD_ints]
    refine lz_forM (fun j w => ∃ x7 x8 M, w = [some (.int ((n : Int))), some (.tup (rowsD (rows))), some (.own (rowsD (Z))), l3, x4, some (.own (rowsD M)), some (.tup ((A).map D.int)), x7, x8] ∧ M.Nodup ∧ (∀ S ∈ M, Fea n rows S) ∧ MrM n rows L i j M) ⟨_, _, M, rfl, h1, h0, h2⟩ ?_ ?_
    · rintro w ⟨x7, x8, M, rfl, h1, h0, h2⟩
      rw [List.length_map] at h2
      simp
      exact .mk ⟨_, _, _, M, rfl, h1, h0, h2.next eA⟩
    · rintro j d w hj ⟨x7, x8, M, rfl, h1, h0, h2⟩
      obtain ⟨hj', rfl⟩ := ints_at hj
      have er : (intsTo n)[j]? = some (intsTo n)[j] := List.getElem?_eq_getElem hj'
      have ri := intsTo_mem.mp (List.getElem_mem hj')
      generalize (intsTo n)[j] = r at er ri
      have Ml := sb_count h1 (fun S m => (h0 S m).sb) hn
      have fp := freeP_bars (rows := rows) (S := A) (i := r)
      have fm : r ∈ freeL n rows A ↔ freeP rows A r = true := by
        unfold freeL
        rw [List.mem_filter, intsTo_mem]
        exact ⟨fun z => z.2, fun z => ⟨ri, z⟩⟩
      show ob _ _
      refine ⟨_, rfl, ?_⟩
      refine wp_mid (fun w => w = [some (.int ((n : Int))), some (.tup (rowsD (rows))), some (.own (rowsD (Z))), l3, x4, some (.own (rowsD M)), some (.tup ((A).map D.int)), some (.int (r)), some (.tup (((uniL A [r])).map D.int))]) ?_ ?_
      · simp
        refine (joined_ok (T := [r]) (.inl rfl) (by omega) (by simp)).dq ?_
        simp
      rintro w rfl
      by_cases c1 : A.contains r = true
      · have nf : r ∉ freeL n rows A := fun z => by rw [fm, fp, c1] at z; cases z
        simp [dInA_ints (neg := true) (i := r) (s := A) (.inl rfl), c1, -List.contains_eq_mem]
        exact .mk ⟨_, _, M, rfl, h1, h0, h2.skip eA er nf⟩
      · have c1' : A.contains r = false := by simpa using c1
        by_cases c2 : M.contains (uniL A [r]) = true
        · simp [dInA_ints (neg := true) (i := r) (s := A) (.inl rfl), c1', dInA_rowsC (neg := true) (S := uniL A [r]) (G := M) (.inr (.inl rfl)), c2, -List.contains_eq_mem]
          by_cases nf : r ∈ freeL n rows A
          · have h3 := h2.step eA er nf
            unfold pF at h3
            rw [if_pos c2] at h3
            exact .mk ⟨_, _, M, rfl, h1, h0, h3⟩
          · exact .mk ⟨_, _, M, rfl, h1, h0, h2.skip eA er nf⟩
        · have c2' : M.contains (uniL A [r]) = false := by simpa using c2
          simp [dInA_ints (neg := true) (i := r) (s := A) (.inl rfl), c1', dInA_rowsC (neg := true) (S := uniL A [r]) (G := M) (.inr (.inl rfl)), c2', -List.contains_eq_mem]
          refine (law_bars_ok hr sA hn ri).bq ?_
          cases c3 : barsB rows A r with
          | true =>
            have nf : r ∉ freeL n rows A := fun z => by rw [fm, fp, c3, c1'] at z; cases z
            simp
            exact .mk ⟨_, _, M, rfl, h1, h0, h2.skip eA er nf⟩
          | false =>
            have nf : r ∈ freeL n rows A := by rw [fm, fp, c3, c1']; rfl
            have h3 := h2.step eA er nf
            have h5 := pF_nd (S := uniL A [r]) h1
            have h4 : ∀ S ∈ pF M (uniL A [r]), Fea n rows S := fun S m => (pF_mem.mp m).elim (h0 S) fun e => by
              rw [e, uni_snoc (free_mem nf).2]; exact mA.step nf
            unfold pF at h3 h4 h5
            rw [if_neg (by rw [c2']; exact Bool.false_ne_true)] at h3 h4 h5
            simp
            exact ⟨line' (by omega), .mk ⟨_, _, M ++ [uniL A [r]], by unfold rowsD; rw [List.map_append]; rfl, h5, h4, h3⟩⟩
/-- the feasible sets, as tuples sort -/
structure IsFea (n : Nat) (rows G : List (List Int)) : Prop where
  ord : G.Pairwise fun a b => ltL a b = true
  mem : ∀ S, S ∈ G ↔ Fea n rows S
theorem IsFea.uniq {n : Nat} {rows G G2 : List (List Int)} (h : IsFea n rows G) (h2 : IsFea n rows G2) : G = G2 := by
  have a := sortR_uniq h.ord (ltL_nd h2.ord) fun S => (h2.mem S).trans (h.mem S).symm
  have b := sortR_uniq h2.ord (ltL_nd h2.ord) fun S => Iff.rfl
  exact a.symm.trans b
theorem IsFea.of {n : Nat} {rows Z : List (List Int)} (nd : Z.Nodup) (m : ∀ S, S ∈ Z ↔ Fea n rows S) : IsFea n rows (sortR Z) := ⟨sortR_lt nd, fun S => (sortR_perm Z).mem_iff.trans (m S)⟩
def FeaQ (n : Nat) (rows : List (List Int)) : D → List D → Prop := fun d os => os = [] ∧ ∃ G, d = .tup (rowsD G) ∧ IsFea n rows G
theorem feasible_of_ok {n : Nat} {rows : List (List Int)} (hn : n ≤ 6) (hl : rows.length ≤ 1000) (hr : Rect n rows) : WpR (m_feasible_of [.int (n : Int), .tup (rowsD rows)]) (FeaQ n rows) := by
  refine wpr_mk rfl ?_
  unfold b_feasible_of
  rw [show startE 2 [.int (n : Int), .tup (rowsD rows)] = [some (.int ((n : Int))), some (.tup (rowsD (rows)))] from rfl]
  simp
  refine (row_sets_ok hn hl hr).mono ?_
  rintro d os ⟨rfl, F, rfl, hF⟩
  have sd : dSortU (feaD n rows F) = some (.own (rowsD (sortR F))) := sort_dict
  simp [sd, FeaQ]
  exact ⟨_, rfl, .of hF.nd hF.mem⟩
theorem feasible_ok {n : Nat} {rows : List (List Int)} (hn : n ≤ 6) (hr : Rect n rows) : WpR (m_law_feasible [.int (n : Int), .tup (rowsD rows)]) (FeaQ n rows) := by
  have rn : rngC (n : Int) = true := rngC_of (by omega) (by omega)
  refine wpr_mk rfl ?_
  unfold b_law_feasible
  rw [show startE 9 [.int (n : Int), .tup (rowsD rows)] = [some (.int ((n : Int))), some (.tup (rowsD (rows))), none, none, none, none, none, none, none] from rfl]
  refine wp_to (fun w => w = [some (.int ((n : Int))), some (.tup (rowsD (rows))), some (.own (rowsD [[]])), none, none, none, none, none, none]) (by simp; exact .mk rfl) ?_
  rintro w rfl
  refine wp_to (fun w => w = [some (.int ((n : Int))), some (.tup (rowsD (rows))), some (.own (rowsD [[]])), some (.own (rowsD [[]])), none, none, none, none, none]) (by simp; exact .mk rfl) ?_
  rintro w rfl
  refine wp_to (fun w => ∃ x3 x4 x5 x6 x7 x8 Z, w = [some (.int ((n : Int))), some (.tup (rowsD (rows))), some (.own (rowsD (Z))), x3, x4, x5, x6, x7, x8] ∧ Z.Nodup ∧ ∀ S, S ∈ Z ↔ Fea n rows S) ?_ ?_
  · simp [rn]
    refine lz_forM (fun k w => ∃ x4 x5 x6 x7 x8 ld L Z, w = [some (.int ((n : Int))), some (.tup (rowsD (rows))), some (.own (rowsD (Z))), some ld, x4, x5, x6, x7, x8] ∧ IsL ld L ∧ (L.Nodup ∧ ∀ S, S ∈ L ↔ Fea n rows S ∧ S.length = k) ∧ Z.Nodup ∧ ∀ S, S ∈ Z ↔ Fea n rows S ∧ S.length ≤ k) ⟨none, none, none, none, none, .own (rowsD [[]]), [[]], [[]], rfl, .inl rfl, ⟨by simp, fun S => ?_⟩, by simp, fun S => ?_⟩ ?_ ?_
    · rw [List.mem_singleton]
      exact ⟨fun e => by subst e; exact ⟨fea_nil, rfl⟩, fun e => List.length_eq_zero_iff.mp e.2⟩
    · rw [List.mem_singleton]
      exact ⟨fun e => by subst e; exact ⟨fea_nil, Nat.le_refl 0⟩, fun e => List.length_eq_zero_iff.mp (Nat.le_zero.mp e.2)⟩
    · rintro w ⟨x4, x5, x6, x7, x8, ld, L, Z, rfl, _, _, h1, h2⟩
      rw [rngD_len] at h2
      simp
      exact .mk ⟨_, _, _, _, _, _, Z, rfl, h1, fun S => (h2 S).trans ⟨fun a => a.1, fun a => ⟨a, a.sb.len⟩⟩⟩
    · rintro k d w hk ⟨x4, x5, x6, x7, x8, ld, L, Z, rfl, hld, ⟨hL1, hL2⟩, hZ1, hZ2⟩
      obtain ⟨rfl, hk2⟩ := toNat_range (n := (n : Int)) k (by simpa using hk)
      have fin : ∀ M x6 x7 x8, M.Nodup → (∀ S, S ∈ M ↔ Fea n rows S ∧ S.length = k + 1) → Mid (fun w => ∃ x4 x5 x6 x7 x8 ld L Z, w = [some (.int ((n : Int))), some (.tup (rowsD (rows))), some (.own (rowsD (Z))), some ld, x4, x5, x6, x7, x8] ∧ IsL ld L ∧ (L.Nodup ∧ ∀ S, S ∈ L ↔ Fea n rows S ∧ S.length = k + 1) ∧ Z.Nodup ∧ ∀ S, S ∈ Z ↔ Fea n rows S ∧ S.length ≤ k + 1) [some (.int ((n : Int))), some (.tup (rowsD (rows))), some (.own (rowsD Z ++ rowsD M)), some (.lst (rowsD M)), some (.int ((k : Nat))), some (.lst (rowsD M)), x6, x7, x8] := fun M x6 x7 x8 hM1 hM2 => by
        refine .mk ⟨_, _, _, _, _, _, M, Z ++ M, by unfold rowsD; rw [List.map_append], .inr rfl, ⟨hM1, hM2⟩, ?_, fun S => ?_⟩
        · refine List.nodup_append.mpr ⟨hZ1, hM1, fun a ma b mb e => ?_⟩
          subst e
          have := ((hZ2 a).mp ma).2
          have := ((hM2 a).mp mb).2
          omega
        · rw [List.mem_append, hZ2, hM2]
          constructor
          · rintro (⟨a, b⟩ | ⟨a, b⟩)
            · exact ⟨a, by omega⟩
            · exact ⟨a, by omega⟩
          · rintro ⟨a, b⟩
            by_cases c : S.length ≤ k
            · exact .inl ⟨a, c⟩
            · exact .inr ⟨a, by omega⟩
      have ln : ∀ M : List (List Int), M.Nodup → (∀ S, S ∈ M ↔ Fea n rows S ∧ S.length = k + 1) → Z.length + M.length ≤ sizeLine := fun M h1 h2 => line (by
        have a := sb_count hZ1 (fun S m => ((hZ2 S).mp m).1.sb) hn
        have b := sb_count h1 (fun S m => ((h2 S).mp m).1.sb) hn
        omega)
      rcases hld with rfl | rfl
      · simp
        refine (feas_in hn hr hL2).mono ?_
        rintro fl w ⟨rfl, x6, x7, x8, M, rfl, hM1, hM2⟩
        simp
        exact ⟨ln M hM1 hM2, fin M _ _ _ hM1 hM2⟩
      · simp
        refine (feas_in hn hr hL2).mono ?_
        rintro fl w ⟨rfl, x6, x7, x8, M, rfl, hM1, hM2⟩
        simp
        exact ⟨ln M hM1 hM2, fin M _ _ _ hM1 hM2⟩
  rintro w ⟨x3, x4, x5, x6, x7, x8, Z, rfl, hZ1, hZ2⟩
  simp [sort_rows, FeaQ]
  exact ⟨_, rfl, .of hZ1 hZ2⟩
end K17

set_option autoImplicit false
namespace K17
open PySem PySem.Spec L2 Pm 
/-! ### same things -/
theorem same_non : WpR (m_law_same [.non, .non]) (BlQ true) := by
  refine wpr_mk rfl ?_
  unfold b_law_same startE
  simp [BlQ]
theorem same_int {i : Int} : WpR (m_law_same [.int i, .int i]) (BlQ true) := by
  refine wpr_mk rfl ?_
  unfold b_law_same startE
  simp [BlQ]
theorem same_row {r : List Int} (hl : r.length ≤ 1000) : WpR (m_law_same [.tup (r.map .int), .tup (r.map .int)]) (BlQ true) := by
  have rc : rngC (r.length : Int) = true := rngC_of (by omega) (by omega)
  refine wpr_mk rfl ?_
  unfold b_law_same
  rw [show startE 4 [.tup (r.map .int), .tup (r.map .int)] = [some (.tup ((r).map D.int)), some (.tup ((r).map D.int)), none, none] from rfl]
  simp [rc]
  refine lz_for (fun i w => ∃ x2 x3, w = [some (.tup ((r).map D.int)), some (.tup ((r).map D.int)), x2, x3]) ⟨_, _, rfl⟩ ?_ ?_
  · rintro w ⟨x2, x3, rfl⟩
    simp [BlQ]
  · rintro i d w hi ⟨x2, x3, rfl⟩
    obtain ⟨rfl, hi2⟩ := toNat_range (n := (r.length : Int)) i (by simpa using hi)
    have sx : seqIx (r.map D.int) (i : Int) = some (.int (r[i]'(by omega))) := seqIx_ints (List.getElem?_eq_getElem (by omega))
    simp [sx]
theorem same_fst {l : List (List Int)} (h : ∀ o ∈ l, o.length ≤ 1000) : WpR (m_law_same [fstR l, fstR l]) (BlQ true) := by
  cases l with
  | nil => exact same_non
  | cons o l => exact same_row (h o List.mem_cons_self)
theorem same_all_ok {l : List (List Int)} {d : D} (hd : d = .tup (rowsD l) ∨ d = .lst (rowsD l)) (hl : l.length ≤ 100000) (h : ∀ o ∈ l, o.length ≤ 1000) : WpR (m_law_same_all [.tup (rowsD l), d]) (BlQ true) := by
  have rc : rngC (l.length : Int) = true := rngC_of (by omega) (by omega)
  refine wpr_mk rfl ?_
  unfold b_law_same_all
  rw [show startE 3 [.tup (rowsD l), d] = [some (.tup (rowsD (l))), some d, none] from rfl]
  have body : ∀ QS : Fl → Ev → Prop, (∀ x, QS .nx [some (.tup (rowsD (l))), some d, x]) → Wp (forL (.nm 2) (sIf (tNotF (tTru (xCal 2 [] m_law_same (xCons (x2pp dIxA (qV 0) (qV 2)) (xCons (x2pp dIxA (qV 1) (qV 2)) xNil))))) (sRet (xC (.bl false))) sNx) (rngD l.length) [some (.tup (rowsD (l))), some d, none]) QS := fun QS hQ => by
    refine lz_for (fun i w => ∃ x, w = [some (.tup (rowsD (l))), some d, x]) ⟨_, rfl⟩ ?_ ?_
    · rintro w ⟨x, rfl⟩
      exact hQ x
    · rintro i e w hi ⟨x, rfl⟩
      have hi2 : i < l.length := by
        have := (List.getElem?_eq_some_iff.mp hi).1
        rwa [rngD_len] at this
      have ed := rngD_get hi
      rw [Int.zero_add] at ed
      subst ed
      have sx := rowsD_ix hi2
      have ho := h _ (List.getElem_mem hi2)
      generalize l[i] = o at sx ho
      rcases hd with rfl | rfl
      · simp [sx]
        refine (same_row ho).bq ?_
        simp
      · simp [sx]
        refine (same_row ho).bq ?_
        simp
  rcases hd with rfl | rfl
  · simp [rc]
    refine body _ fun x => ?_
    simp [BlQ]
  · simp [rc]
    refine body _ fun x => ?_
    simp [BlQ]
/-! ### what is asked -/
theorem rk_one {n : Nat} {rows : List (List Int)} (hn : n ≤ 6) : ∀ o ∈ rkL n rows, o.length ≤ 1000 := fun o m => by
  have := (rk_mem.mp m).perm.length_eq
  rw [intsTo_len] at this; omega
theorem IsFea.len {n : Nat} {rows G : List (List Int)} (h : IsFea n rows G) (hn : n ≤ 6) : G.length ≤ 64 ∧ ∀ S ∈ G, S.length ≤ 1000 :=
  ⟨sb_count (ltL_nd h.ord) (fun S m => ((h.mem S).mp m).sb) hn, fun S m => by have := ((h.mem S).mp m).sb.len; omega⟩
theorem law_asked_ok {n : Nat} {rows : List (List Int)} {c : Int} (h1 : 1 ≤ n) (hn : n ≤ 6) (hl : rows.length ≤ 1000) (hr : Rect n rows) : WpR (m_law_asked [.int (n : Int), .tup (rowsD rows), .int c]) (DQ (.int ((rkL n rows).length : Nat))) := by
  have rl := rk_len (rows := rows) hn
  have ro := rk_one (rows := rows) hn
  refine wpr_mk rfl ?_
  unfold b_law_asked
  rw [show startE 5 [.int (n : Int), .tup (rowsD rows), .int c] = [some (.int ((n : Int))), some (.tup (rowsD (rows))), some (.int (c)), none, none] from rfl]
  refine wp_to (fun w => w = [some (.int ((n : Int))), some (.tup (rowsD (rows))), some (.int (c)), some (.tup (rowsD (rkL n rows))), none]) ?_ ?_
  · simp
    refine (rankings_ok h1 hn hr).dq ?_
    try simp
    exact .mk rfl
  rintro w rfl
  refine wp_to (fun w => w = [some (.int ((n : Int))), some (.tup (rowsD (rows))), some (.int (c)), some (.tup (rowsD (rkL n rows))), none]) ?_ ?_
  · by_cases c1 : c = 1
    · simp [c1]
      exact .mk rfl
    · simp [c1]
      refine (all_rankings_ok hn hl hr).dq ?_
      try simp
      refine (same_all_ok (.inl rfl) (by omega) ro).bq ?_
      simp
      exact .mk rfl
  rintro w rfl
  refine wp_to (fun w => w = [some (.int ((n : Int))), some (.tup (rowsD (rows))), some (.int (c)), some (.tup (rowsD (rkL n rows))), none]) ?_ ?_
  · have key : ∀ QB : Bool → Ev → Prop, QB true [some (.int ((n : Int))), some (.tup (rowsD (rows))), some (.int (c)), some (.tup (rowsD (rkL n rows))), none] → Wp (tTru (xCal 2 [] m_law_same (xCons (xCal 2 [] m_ranking_number (xCons (xI 0) (xCons (xI 1) xNil))) (xCons (x1p dLen (qV 3)) xNil))) [some (.int ((n : Int))), some (.tup (rowsD (rows))), some (.int (c)), some (.tup (rowsD (rkL n rows))), none]) QB := fun QB hQ => by
      simp
      refine (ranking_number_ok hn hl hr).dq ?_
      try simp
      refine same_int.bq ?_
      simpa using hQ
    by_cases c1 : c = 1
    · subst c1
      simp [-lz_Tru]
      first
        | (refine key _ ?_; simp; exact .mk rfl)
        | skip
    · by_cases c0 : c = 0
      · subst c0
        simp [-lz_Tru]
        first
          | (refine key _ ?_; simp; exact .mk rfl)
          | skip
      · simp [c1, c0]
        exact .mk rfl
  rintro w rfl
  refine wp_to (fun w => ∃ x, w = [some (.int ((n : Int))), some (.tup (rowsD (rows))), some (.int (c)), some (.tup (rowsD (rkL n rows))), x]) ?_ ?_
  · by_cases c0 : c = 0
    · subst c0
      simp
      cases er : rkL n rows with
      | nil =>
        simp [rowsD]
        refine (first_ranking_ok hn hl hr).dq ?_
        rw [er]
        simp [fstR]
        refine same_non.bq ?_
        simp
        exact .mk ⟨_, rfl⟩
      | cons o l =>
        have e0 : (0 : Int) < ((l.length : Int) + 1) := by omega
        simp [rowsD, e0]
        refine (first_ranking_ok hn hl hr).dq ?_
        rw [er]
        simp [fstR]
        refine (same_row (ro o (by rw [er]; exact List.mem_cons_self))).bq ?_
        simp
        exact .mk ⟨_, rfl⟩
    · simp [c0]
      exact .mk ⟨_, rfl⟩
  rintro w ⟨x, rfl⟩
  rw [wp_Seq]
  simp
  refine (feasible_of_ok hn hl hr).mono ?_
  rintro d os ⟨rfl, G, rfl, hG⟩
  try simp
  refine (feasible_ok hn hr).mono ?_
  rintro d os ⟨rfl, G2, rfl, hG2⟩
  rw [hG.uniq hG2]
  try simp
  obtain ⟨g1, g2⟩ := hG2.len hn
  refine (same_all_ok (.inl rfl) (by omega) g2).bq ?_
  simp [DQ]
theorem first_alone_ok {n : Nat} {rows : List (List Int)} (h1 : 1 ≤ n) (hn : n ≤ 6) (hl : rows.length ≤ 1000) (hr : Rect n rows) : WpR (m_law_first_alone [.int (n : Int), .tup (rowsD rows)]) (BlQ true) := by
  have ro := rk_one (rows := rows) hn
  refine wpr_mk rfl ?_
  unfold b_law_first_alone
  rw [show startE 4 [.int (n : Int), .tup (rowsD rows)] = [some (.int ((n : Int))), some (.tup (rowsD (rows))), none, none] from rfl]
  refine wp_to (fun w => w = [some (.int ((n : Int))), some (.tup (rowsD (rows))), some .non, none]) (by simp; exact .mk rfl) ?_
  rintro w rfl
  have hfs : fstR (rkL n rows) = match (ordsL n n).find? (fit rows) with
      | some o => .tup (o.map .int)
      | none => .non := by
    unfold fstR rkL
    rw [List.head?_filter]
    try rfl
  refine wp_to (fun w => ∃ x, w = [some (.int ((n : Int))), some (.tup (rowsD (rows))), some (fstR (rkL n rows)), x]) ?_ ?_
  · simp
    refine (law_orders_ok h1 hn).dq ?_
    simp
    refine lz_for (fun i w => ∃ x, w = [some (.int ((n : Int))), some (.tup (rowsD (rows))), some .non, x] ∧ ((ordsL n n).take i).find? (fit rows) = none) ⟨_, rfl, rfl⟩ ?_ ?_
    · rintro w ⟨x, rfl, h⟩
      rw [rowsD_len, List.take_length] at h
      rw [hfs, h]
      exact ⟨rfl, .mk ⟨_, rfl⟩⟩
    · rintro i d w hi ⟨x, rfl, h⟩
      obtain ⟨hi', rfl⟩ := rowsD_at hi
      have ho := (grow_in (List.getElem_mem hi')).2
      have tk : (ordsL n n).take (i + 1) = (ordsL n n).take i ++ [(ordsL n n)[i]] := by rw [List.take_add_one, List.getElem?_eq_getElem hi']; rfl
      have hfd : fit rows (ordsL n n)[i] = true → (ordsL n n).find? (fit rows) = some (ordsL n n)[i] := fun hh => by
        have : (ordsL n n).find? (fit rows) = ((ordsL n n).take (i + 1) ++ (ordsL n n).drop (i + 1)).find? (fit rows) := by rw [List.take_append_drop]
        rw [this, tk, List.find?_append, List.find?_append, h, List.find?_cons_of_pos hh]; rfl
      rw [tk, List.find?_append, h]
      generalize (ordsL n n)[i] = o at ho hfd
      simp
      refine (fits_ok hr ho).bq ?_
      by_cases c : fit rows o = true
      · rw [hfs, hfd c]
        simp [c]
        exact .mk ⟨_, rfl⟩
      · simp [c]
  rintro w ⟨x, rfl⟩
  have pf : pl (fstR (rkL n rows)) = true := by
    unfold fstR
    cases (rkL n rows).head? <;> simp
  have ic : ∀ {Q : D → Ev → Prop} {j : Nat} {w : Ev}, iceQ Q j w (fstR (rkL n rows)) ↔ Q (fstR (rkL n rows)) w := fun {Q j w} => by
    unfold fstR
    cases (rkL n rows).head? <;> simp
  rw [wp_Seq]
  simp
  refine (first_ranking_ok hn hl hr).dq ?_
  simp [ic]
  refine (same_fst ro).bq ?_
  simp
  refine (feasible_of_ok hn hl hr).mono ?_
  rintro d os ⟨rfl, G, rfl, hG⟩
  try simp
  refine (feasible_ok hn hr).mono ?_
  rintro d os ⟨rfl, G2, rfl, hG2⟩
  rw [hG.uniq hG2]
  try simp
  obtain ⟨g1, g2⟩ := hG2.len hn
  refine (same_all_ok (.inl rfl) (by omega) g2).bq ?_
  simp [BlQ]
end K17

set_option autoImplicit false
namespace K17
open PySem PySem.Spec L2 Pm 
/-! ### rows of a ranking -/
theorem z0 (n : Nat) (j : Int) : atR (List.replicate n 0) j = 0 := by
  unfold atR
  rw [List.getD_eq_getElem?_getD, List.getElem?_replicate]
  by_cases h : j.toNat < n
  · rw [if_pos h]; rfl
  · rw [if_neg h]; rfl
def RQ (P : List Int → Prop) : D → List D → Prop := fun d os => ∃ (r : List Int) (f' : D), d = .tup (r.map .int) ∧ os = [f'] ∧ Fd f' ∧ P r
def LeadP (n : Nat) (o : List Int) (p : Nat) (r : List Int) : Prop := r.length = n ∧ (∀ q (hq : q < o.length), q < p → atR r o[q] = 0) ∧ (∀ hq : p < o.length, 1 ≤ atR r o[p])
theorem em_rep {o : List Int} {n : Nat} (h : o.length = n) : List.map ((fun x => D.int 0) ∘ D.int) o = List.replicate n (D.int 0) := by
  show List.map (fun _ => D.int 0) o = _
  rw [List.map_const', h]
theorem lead_ok {f : D} (hf : Fd f) {n p : Nat} {o : List Int} (ho : IsOrd n o) (hn : n ≤ 1000) (hp : p < n) : WpR (m_law_lead [f, .lst (o.map .int), .int (p : Int)]) (RQ (LeadP n o p)) := by
  have hol : o.length = n := ho.2.1
  have c : p < o.length := by omega
  refine wpr_mk rfl ?_
  unfold b_law_lead
  rw [show startE 5 [f, .lst (o.map .int), .int (p : Int)] = [some f, some (.lst (o.map .int)), some (.int (p : Int)), none, none] from rfl]
  refine wp_mid (fun w => w = [some f, some (.lst (o.map .int)), some (.int p), some (.own ((List.replicate n (0 : Int)).map D.int)), none]) ?_ ?_
  · simp
    refine cmp_const (by simp) (by rw [List.length_map]; omega) fun w2 e => ?_
    simp at e
    have el : w2.length = 5 := by
      have := congrArg List.length e
      simpa using this
    simp [e, el, em_rep hol]
  rintro w rfl
  refine wp_mid (fun w => ∃ f' x, ∃ r : List Int, w = [some f', some (.lst (o.map .int)), some (.int p), some (.own (r.map .int)), x] ∧ Fd f' ∧ LeadP n o p r) ?_ ?_
  · obtain ⟨g1, g2⟩ := ord_get ho c
    have gx : seqIx (o.map D.int) (p : Int) = some (.int o[p]) := seqIx_ints (List.getElem?_eq_getElem c)
    simp [hf]
    refine WpR.mono (size_ok hf) ?_
    rintro d os ⟨u, f3, rfl, rfl, hu0, hu1, hf3⟩
    simp [gx, ixN_at g1 g2]
    refine ⟨f3, _, (List.replicate n (0 : Int)).set (o[p]).toNat u, ⟨rfl, ?_, rfl⟩, hf3, by simp, fun q hq l => ?_, fun _ => ?_⟩
    · rw [← ints_set, List.map_replicate]
    · rw [atR_set g1 (ord_get ho hq).1, if_neg (fun z => ord_ne ho c hq (by omega) z.1)]
      exact z0 _ _
    · rw [atR_set g1 g1, if_pos ⟨rfl, by rw [List.length_replicate]; exact g2⟩]; exact hu0
  · rintro w ⟨f', x, r, rfl, hf', hr, h0, h1⟩
    simp
    rw [show ((p : Int) + 1) = ((p + 1 : Nat) : Int) by omega, cutD_from]
    have pd : pls ((o.map D.int).drop (p + 1)) = true := by rw [← List.map_drop]; exact pls_ints
    simp [pd]
    refine lz_for (fun i w => ∃ f' x, ∃ r : List Int, w = [some f', some (.lst (o.map .int)), some (.int p), some (.own (r.map .int)), x] ∧ Fd f' ∧ LeadP n o p r) ⟨f', x, r, rfl, hf', hr, h0, h1⟩ ?_ ?_
    · rintro w ⟨f', x, r, rfl, hf', hr⟩
      simp
      exact ⟨r, f', rfl, rfl, hf', hr⟩
    · rintro i d w hi ⟨f', x, r, rfl, hf', hr, h0, h1⟩
      rw [← List.map_drop] at hi
      obtain ⟨hi', rfl⟩ := ints_at hi
      rw [List.length_drop] at hi'
      have ei : (o.drop (p + 1))[i] = o[p + 1 + i] := List.getElem_drop ..
      have hq : p + 1 + i < o.length := by omega
      rw [ei]
      obtain ⟨g1, g2⟩ := ord_get ho hq
      simp [hf']
      refine WpR.mono (draw_ok hf' (by decide) (by decide)) ?_
      rintro d os ⟨v, f2, rfl, rfl, hv0, hv1, hf2⟩
      simp [hf2]
      refine WpR.mono (size_ok hf2) ?_
      rintro d os ⟨u, f3, rfl, rfl, hu0, hu1, hf3⟩
      have e1 : mulC (v - 1) u = true := mulC_s (by omega) (by omega) (by omega) (by omega)
      simp [e1, hr, ixN_at g1 g2]
      refine ⟨f3, _, r.set (o[p + 1 + i]).toNat ((v - 1) * u), ⟨rfl, ints_set, rfl⟩, hf3, by simp [hr], fun q hq' l => ?_, fun hq' => ?_⟩
      · rw [atR_set g1 (ord_get ho hq').1, if_neg (fun z => ord_ne ho hq hq' (by omega) z.1)]
        exact h0 q hq' l
      · rw [atR_set g1 (ord_get ho hq').1, if_neg (fun z => ord_ne ho hq hq' (by omega) z.1)]
        exact h1 hq'
def BarP (n : Nat) (o : List Int) (top : Nat) (rule : Int) (r : List Int) : Prop := r.length = n ∧ (∀ q (hq : q < o.length), q < top → atR r o[q] = 0) ∧ atR r rule < 0
theorem bar_ok {f : D} (hf : Fd f) {n top j : Nat} {o : List Int} (ho : IsOrd n o) (hn : n ≤ 1000) (hj : j < o.length) (ht : top ≤ j) : WpR (m_law_bar_row [f, .lst (o.map .int), .int (top : Int), .int o[j]]) (RQ (BarP n o top o[j])) := by
  have hol : o.length = n := ho.2.1
  refine wpr_mk rfl ?_
  unfold b_law_bar_row
  rw [show startE 6 [f, .lst (o.map .int), .int (top : Int), .int o[j]] = [some f, some (.lst (o.map .int)), some (.int (top : Int)), some (.int o[j]), none, none] from rfl]
  refine wp_mid (fun w => w = [some f, some (.lst (o.map .int)), some (.int top), some (.int o[j]), some (.own ((List.replicate n (0 : Int)).map D.int)), none]) ?_ ?_
  · simp
    refine cmp_const (by simp) (by rw [List.length_map]; omega) fun w2 e => ?_
    simp at e
    have el : w2.length = 6 := by
      have := congrArg List.length e
      simpa using this
    simp [e, el, em_rep hol]
  rintro w rfl
  refine wp_mid (fun w => ∃ f' x, ∃ r : List Int, w = [some f', some (.lst (o.map .int)), some (.int top), some (.int o[j]), some (.own (r.map .int)), x] ∧ Fd f' ∧ r.length = n ∧ (∀ q (hq : q < o.length), q < top → atR r o[q] = 0)) ?_ ?_
  · have pd : pls ((o.map D.int).drop top) = true := by rw [← List.map_drop]; exact pls_ints
    simp [cutD_from, pd]
    refine lz_for (fun i w => ∃ f' x, ∃ r : List Int, w = [some f', some (.lst (o.map .int)), some (.int top), some (.int o[j]), some (.own (r.map .int)), x] ∧ Fd f' ∧ r.length = n ∧ (∀ q (hq : q < o.length), q < top → atR r o[q] = 0)) ⟨f, none, List.replicate n 0, by rw [List.map_replicate], hf, by simp, fun q hq l => z0 _ _⟩ ?_ ?_
    · rintro w ⟨f', x, r, rfl, hf', hr, h0⟩
      simp
      exact ⟨f', _, r, ⟨rfl, rfl, rfl⟩, hf', hr, h0⟩
    · rintro i d w hi ⟨f', x, r, rfl, hf', hr, h0⟩
      rw [← List.map_drop] at hi
      obtain ⟨hi', rfl⟩ := ints_at hi
      rw [List.length_drop] at hi'
      have ei : (o.drop top)[i] = o[top + i] := List.getElem_drop ..
      have hq : top + i < o.length := by omega
      rw [ei]
      obtain ⟨g1, g2⟩ := ord_get ho hq
      simp [hf']
      refine WpR.mono (draw_ok hf' (by decide) (by decide)) ?_
      rintro d os ⟨v, f2, rfl, rfl, hv0, hv1, hf2⟩
      simp [hf2]
      refine WpR.mono (size_ok hf2) ?_
      rintro d os ⟨u, f3, rfl, rfl, hu0, hu1, hf3⟩
      have e1 : mulC (v - 1) u = true := mulC_s (by omega) (by omega) (by omega) (by omega)
      simp [e1, hr, ixN_at g1 g2]
      refine ⟨f3, _, r.set (o[top + i]).toNat ((v - 1) * u), ⟨rfl, ints_set, rfl⟩, hf3, by simp [hr], fun q hq' l => ?_⟩
      rw [atR_set g1 (ord_get ho hq').1, if_neg (fun z => ord_ne ho hq hq' (by omega) z.1)]
      exact h0 q hq' l
  · rintro w ⟨f', x, r, rfl, hf', hr, h0⟩
    obtain ⟨g1, g2⟩ := ord_get ho hj
    simp [hf']
    refine WpR.mono (size_ok hf') ?_
    rintro d os ⟨v, f3, rfl, rfl, hv0, hv1, hf3⟩
    have ix : ixN r.length o[j] = some (o[j]).toNat := ixN_at g1 (by rw [hr]; exact g2)
    have pl2 : pls ((r.map D.int).set (o[j]).toNat (D.int (-v))) = true := by rw [ints_set]; exact pls_ints
    simp [ix, pl2]
    refine ⟨r.set (o[j]).toNat (-v), f3, by rw [ints_set], rfl, hf3, by simp [hr], fun q hq l => ?_, ?_⟩
    · rw [atR_set g1 (ord_get ho hq).1, if_neg (fun z => ord_ne ho hj hq (by omega) z.1)]; exact h0 q hq l
    · rw [atR_set g1 g1, if_pos ⟨rfl, by rw [hr]; exact g2⟩]; omega
/-- above at one rule of the ranking, below at the next one -/
theorem link_ok {f : D} (hf : Fd f) {n p : Nat} {o : List Int} (ho : IsOrd n o) (hn : n ≤ 1000) (hp : p + 1 < n) : WpR (m_law_link [f, .lst (o.map .int), .int (p : Int)]) (RQ (LeadP n o p)) := by
  have hol : o.length = n := ho.2.1
  have c : p < o.length := by omega
  have c2 : p + 1 < o.length := by omega
  refine wpr_mk rfl ?_
  unfold b_law_link
  rw [show startE 5 [f, .lst (o.map .int), .int (p : Int)] = [some f, some (.lst ((o).map D.int)), some (.int ((p : Int))), none, none] from rfl]
  refine wp_to (fun w => w = [some f, some (.lst ((o).map D.int)), some (.int ((p : Int))), some (.own ((List.replicate n (0 : Int)).map D.int)), none]) ?_ ?_
  · simp
    refine cmp_const (by simp) (by rw [List.length_map]; omega) fun w2 e => ?_
    simp at e
    have el : w2.length = 5 := by
      have := congrArg List.length e
      simpa using this
    simp [e, el, em_rep hol]
    exact .mk rfl
  rintro w rfl
  obtain ⟨g1, g2⟩ := ord_get ho c
  obtain ⟨g3, g4⟩ := ord_get ho c2
  have gx : seqIx (o.map D.int) (p : Int) = some (.int o[p]) := seqIx_ints (List.getElem?_eq_getElem c)
  have gy : seqIx (o.map D.int) ((p : Int) + 1) = some (.int o[p + 1]) := by
    rw [show ((p : Int) + 1) = ((p + 1 : Nat) : Int) by omega]
    exact seqIx_ints (List.getElem?_eq_getElem c2)
  refine wp_to (fun w => ∃ f', Fd f' ∧ ∃ u, 1 ≤ u ∧ w = [some f', some (.lst ((o).map D.int)), some (.int ((p : Int))), some (.own (((List.replicate n (0 : Int)).set (o[p]).toNat u).map D.int)), none]) ?_ ?_
  · simp [hf]
    refine (size_ok hf).size fun u f2 h0 h1 hf2 => ?_
    simp [gx, ixN_at g1 g2]
    exact .mk ⟨f2, hf2, u, h0, rfl⟩
  rintro w ⟨f, hf, u, hu, rfl⟩
  refine wp_to (fun w => ∃ f', Fd f' ∧ ∃ v, 1 ≤ v ∧ w = [some f', some (.lst ((o).map D.int)), some (.int ((p : Int))), some (.own ((((List.replicate n (0 : Int)).set (o[p]).toNat u).set (o[p + 1]).toNat (-v)).map D.int)), none]) ?_ ?_
  · simp [hf]
    refine (size_ok hf).size fun v f2 h0 h1 hf2 => ?_
    have ix : ixN n o[p + 1] = some (o[p + 1]).toNat := ixN_at g3 g4
    simp [gy, ix]
    exact .mk ⟨f2, hf2, v, h0, rfl⟩
  rintro w ⟨f, hf, v, hv, rfl⟩
  have hl : ((List.replicate n (0 : Int)).set (o[p]).toNat u).length = n := by simp
  have em : ((List.replicate n (D.int 0)).set (o[p]).toNat (D.int u)).set (o[p + 1]).toNat (D.int (-v)) = (((List.replicate n (0 : Int)).set (o[p]).toNat u).set (o[p + 1]).toNat (-v)).map D.int := by rw [← ints_set, ← ints_set, List.map_replicate]
  simp
  refine ⟨by rw [em]; exact pls_ints, ((List.replicate n (0 : Int)).set (o[p]).toNat u).set (o[p + 1]).toNat (-v), f, by rw [em], rfl, hf, by simp, fun q hq l => ?_, fun hq => ?_⟩
  · rw [atR_set g3 (ord_get ho hq).1, if_neg (fun z => ord_ne ho c2 hq (by omega) z.1), atR_set g1 (ord_get ho hq).1, if_neg (fun z => ord_ne ho c hq (by omega) z.1)]
    exact z0 _ _
  · rw [atR_set g3 g1, if_neg (fun z => ord_ne ho c2 c (by omega) z.1), atR_set g1 g1, if_pos ⟨rfl, by rw [List.length_replicate]; exact g2⟩]
    exact hu
theorem Bars.mono {o : List Int} {top m : Nat} {a b : List (List Int)} (h : Bars o top m a) (s : ∀ r ∈ a, r ∈ b) : Bars o top m b := fun j hj l1 l2 => by
  obtain ⟨r, mr, hr⟩ := h j hj l1 l2
  exact ⟨r, s r mr, hr⟩
theorem Fit.app {n top : Nat} {o : List Int} {a b : List (List Int)} (h : Fit n o top a) (h2 : Fit n o top b) : Fit n o top (a ++ b) := fun y m => (List.mem_append.mp m).elim (h y) (h2 y)
theorem world_ok {f : D} (hf : Fd f) {n top pn : Nat} {o : List Int} (ho : IsPerm n o) (hn : n ≤ 6) (h1 : 1 ≤ n) (ht : top ≤ n) (hp : pn ≤ 200) : WpR (m_law_world [f, .lst (o.map .int), .int (top : Nat), .int (pn : Nat)]) (WorldQ n o top) := by
  have hO := ho.ord
  have ol : o.length = n := hO.2.1
  refine wpr_mk rfl ?_
  unfold b_law_world
  rw [show startE 10 [f, .lst (o.map .int), .int (top : Nat), .int (pn : Nat)] = [some f, some (.lst ((o).map D.int)), some (.int ((top : Nat))), some (.int ((pn : Nat))), none, none, none, none, none, none] from rfl]
  refine wp_to (fun w => w = [some f, some (.lst ((o).map D.int)), some (.int ((top : Nat))), some (.int ((pn : Nat))), some (.int ((n : Nat))), none, none, none, none, none]) (by simp [ol]; exact .mk rfl) ?_
  rintro w rfl
  refine wp_to (fun w => w = [some f, some (.lst ((o).map D.int)), some (.int ((top : Nat))), some (.int ((pn : Nat))), some (.int ((n : Nat))), some (.own (rowsD (([] : List (List Int))))), none, none, none, none]) (by simp; exact .mk rfl) ?_
  rintro w rfl
  refine wp_to (fun w => ∃ f, Fd f ∧ ∃ c : List (List Int), (c.length ≤ 3 ∧ Fit n o top c) ∧ w = [some f, some (.lst ((o).map D.int)), some (.int ((top : Nat))), some (.int ((pn : Nat))), some (.int ((n : Nat))), some (.own (rowsD (c))), none, none, none, none]) ?_ ?_
  · by_cases c : 0 < top
    · simp [c, hf]
      refine (draw_ok hf (by decide) (by decide)).draw fun v f h4 h5 hf => ?_
      simp [rngC_of (show 0 ≤ v by omega) (show v ≤ 1000000000 by omega)]
      refine cmp_draw (fun r : List Int => D.tup (r.map .int)) (fun _ r => r.length = n ∧ bel r (o.take top) = false) (fun f => [some f, some (.lst ((o).map D.int)), some (.int ((top : Nat))), some (.int ((pn : Nat))), some (.int ((n : Nat))), some (.own ([])), none, none, none, none]) hf rfl (by rw [rngD_len]; omega) ?_ ?_
      · intro i x f hi hf
        simp [hf]
        refine (draw_ok hf (by omega) (by omega)).draw fun p f h6 h7 hf => ?_
        obtain ⟨p, rfl⟩ : ∃ k : Nat, p = (k : Int) := ⟨p.toNat, by omega⟩
        simp [hf]
        refine (lead_ok hf hO (by omega) (show p < n by omega)).mono ?_
        rintro x os ⟨r, f, rfl, rfl, hf, hr, q0, q1⟩
        have hp : p < o.length := by omega
        simp
        exact ⟨r, rfl, ⟨hr, bel_at (by omega) hp q0 (q1 hp)⟩, hf⟩
      · intro l f w2 hl2 hp hf e el
        simp at e el
        rw [rngD_len] at hl2
        simp [e, el]
        refine .mk ⟨f, hf, l, ⟨by omega, fun r m => ?_⟩, rfl⟩
        obtain ⟨k, hk, rfl⟩ := List.mem_iff_getElem.mp m
        exact hp k hk
    · simp [c]
      exact .mk ⟨f, hf, [], ⟨by simp, fun r m => by cases m⟩, rfl⟩
  rintro w ⟨f, hf, c, ⟨hc, hfit⟩, rfl⟩
  refine wp_to (fun w => ∃ f, Fd f ∧ ∃ c : List (List Int), (c.length ≤ 9 ∧ Fit n o top c) ∧ ∃ x, w = [some f, some (.lst ((o).map D.int)), some (.int ((top : Nat))), some (.int ((pn : Nat))), some (.int ((n : Nat))), some (.own (rowsD (c))), x, none, none, none]) ?_ ?_
  · have hm : ∃ m : Nat, dMin (.int (top : Nat)) (.int ((n : Int) - 1)) = some (.int (m : Nat)) ∧ m ≤ top ∧ m + 1 ≤ n := by
      refine ⟨min top (n - 1), ?_, by omega, by omega⟩
      rw [dMin_int]
      congr 2
      split <;> omega
    obtain ⟨m, em, m1, m2⟩ := hm
    simp [em, -dMin_int, rngC_of (show (0 : Int) ≤ (m : Int) by omega) (show (m : Int) ≤ 1000000000 by omega)]
    refine lz_forM (fun i w => ∃ f, Fd f ∧ ∃ c : List (List Int), (c.length ≤ 3 + i ∧ Fit n o top c) ∧ ∃ x, w = [some f, some (.lst ((o).map D.int)), some (.int ((top : Nat))), some (.int ((pn : Nat))), some (.int ((n : Nat))), some (.own (rowsD (c))), x, none, none, none]) ⟨f, hf, c, ⟨by omega, hfit⟩, none, rfl⟩ ?_ ?_
    · rintro w ⟨f, hf, c, ⟨q1, q2⟩, x, rfl⟩
      rw [rngD_len] at q1
      exact ⟨rfl, .mk ⟨f, hf, c, ⟨by omega, q2⟩, x, rfl⟩⟩
    · rintro i d w hi ⟨f, hf, c, ⟨q1, q2⟩, x, rfl⟩
      have hi2 : i < m := by
        have := (List.getElem?_eq_some_iff.mp hi).1
        rwa [rngD_len] at this
      have ed := rngD_get hi
      rw [Int.zero_add] at ed
      subst ed
      simp [hf]
      refine (draw_ok hf (by decide) (by decide)).draw fun v f h4 h5 hf => ?_
      simp
      by_cases cv : v = 1
      · simp [cv, hf]
        refine (link_ok hf hO (by omega) (show i + 1 < n by omega)).mono ?_
        rintro x os ⟨r, f, rfl, rfl, hf, hr, p0, p1⟩
        have hi3 : i < o.length := by omega
        simp [line' (show c.length < 1000000 by omega)]
        rw [rowsD_one]
        exact .mk ⟨f, hf, c ++ [r], ⟨by simp; omega, q2.add hr (bel_at (by omega) hi3 p0 (p1 hi3))⟩, _, rfl⟩
      · simp [cv]
        exact .mk ⟨f, hf, c, ⟨by omega, q2⟩, _, rfl⟩
  rintro w ⟨f, hf, c, ⟨hc, hfit⟩, x6, rfl⟩
  refine wp_to (fun w => ∃ f, Fd f ∧ ∃ c : List (List Int), (c.length ≤ 15 ∧ Fit n o top c ∧ Bars o top o.length c) ∧ ∃ x, w = [some f, some (.lst ((o).map D.int)), some (.int ((top : Nat))), some (.int ((pn : Nat))), some (.int ((n : Nat))), some (.own (rowsD (c))), x6, x, none, none]) ?_ ?_
  · have pd : pls ((o.map D.int).drop top) = true := by rw [← List.map_drop]; exact pls_ints
    simp [cutD_from, pd]
    refine lz_forM (fun i w => ∃ f, Fd f ∧ ∃ c : List (List Int), (c.length ≤ 9 + i ∧ Fit n o top c ∧ Bars o top (top + i) c) ∧ ∃ x, w = [some f, some (.lst ((o).map D.int)), some (.int ((top : Nat))), some (.int ((pn : Nat))), some (.int ((n : Nat))), some (.own (rowsD (c))), x6, x, none, none]) ⟨f, hf, c, ⟨by omega, hfit, fun j hj a b => by omega⟩, none, rfl⟩ ?_ ?_
    · rintro w ⟨f, hf, c, ⟨q1, q2, q3⟩, x, rfl⟩
      rw [List.length_drop, List.length_map] at q1 q3
      exact ⟨rfl, .mk ⟨f, hf, c, ⟨by omega, q2, fun j hj a b => q3 j hj a (by omega)⟩, x, rfl⟩⟩
    · rintro i d w hi ⟨f, hf, c, ⟨q1, q2, q3⟩, x, rfl⟩
      rw [← List.map_drop] at hi
      obtain ⟨hi', rfl⟩ := ints_at hi
      rw [List.length_drop] at hi'
      have ei : (o.drop top)[i] = o[top + i] := List.getElem_drop ..
      have hq : top + i < o.length := by omega
      rw [ei]
      simp [hf]
      refine (bar_ok hf hO (by omega) hq (by omega)).mono ?_
      rintro x os ⟨r, f, rfl, rfl, hf, hr, p1, p2⟩
      simp [line' (show c.length < 1000000 by omega)]
      rw [rowsD_one]
      refine .mk ⟨f, hf, c ++ [r], ⟨by simp; omega, q2.add hr (bel_none p1), fun j hj a b => ?_⟩, _, rfl⟩
      by_cases z : j < top + i
      · obtain ⟨r', mr, hr'⟩ := q3 j hj a z
        exact ⟨r', List.mem_append_left _ mr, hr'⟩
      · have : j = top + i := by omega
        subst this
        exact ⟨r, List.mem_append_right _ List.mem_cons_self, p1, p2⟩
  rintro w ⟨f, hf, c, ⟨hc, hfit, hb⟩, x7, rfl⟩
  refine wp_to (fun w => w = [some f, some (.lst ((o).map D.int)), some (.int ((top : Nat))), some (.int ((pn : Nat))), some (.int ((n : Nat))), some (.own (rowsD (c))), x6, x7, some (.own (rowsD (([] : List (List Int))))), none]) (by simp; exact .mk rfl) ?_
  rintro w rfl
  refine wp_to (fun w => ∃ p : Int, (-1000 ≤ p ∧ p ≤ 200) ∧ w = [some f, some (.lst ((o).map D.int)), some (.int ((top : Nat))), some (.int (p)), some (.int ((n : Nat))), some (.own (rowsD (c))), x6, x7, some (.own (rowsD (([] : List (List Int))))), none]) ?_ ?_
  · by_cases cp : (20 : Int) < (pn : Int)
    · simp [cp]
      exact .mk ⟨(pn : Int) - (c.length : Int), by omega, rfl⟩
    · simp [cp]
      exact .mk ⟨(pn : Int), by omega, rfl⟩
  rintro w ⟨p, ⟨pl1, pl2⟩, rfl⟩
  refine wp_to (fun w => ∃ f, Fd f ∧ ∃ a : List (List Int), (a.length ≤ 200 ∧ Fit n o top a) ∧ ∃ x6 x9, w = [some f, some (.lst ((o).map D.int)), some (.int ((top : Nat))), some (.int (p)), some (.int ((n : Nat))), some (.own (rowsD (c))), x6, x7, some (.own (rowsD (a))), x9]) ?_ ?_
  · have rp : rngC p = true := by unfold rngC; rw [decide_eq_true_iff]; omega
    have rn : rngC (n : Int) = true := rngC_of (by omega) (by omega)
    simp [rp]
    refine lz_forM (fun i w => ∃ f, Fd f ∧ ∃ a : List (List Int), (a.length = i ∧ Fit n o top a) ∧ ∃ x6 x9, w = [some f, some (.lst ((o).map D.int)), some (.int ((top : Nat))), some (.int (p)), some (.int ((n : Nat))), some (.own (rowsD (c))), x6, x7, some (.own (rowsD (a))), x9]) ⟨f, hf, [], ⟨rfl, fun r m => by cases m⟩, _, _, rfl⟩ ?_ ?_
    · rintro w ⟨f, hf, a, ⟨q1, q2⟩, x6, x9, rfl⟩
      rw [rngD_len] at q1
      exact ⟨rfl, .mk ⟨f, hf, a, ⟨by omega, q2⟩, x6, x9, rfl⟩⟩
    · rintro i d w hi ⟨f, hf, a, ⟨q1, q2⟩, x6, x9, rfl⟩
      have hi2 : i < p.toNat := by
        have := (List.getElem?_eq_some_iff.mp hi).1
        rwa [rngD_len] at this
      simp [rn]
      refine cmp_draw D.int (fun _ v => 0 ≤ v) (fun f => [some f, some (.lst ((o).map D.int)), some (.int ((top : Nat))), some (.int (p)), some (.int ((n : Nat))), some (.own (rowsD (c))), none, x7, some (.own (rowsD (a))), some d]) hf rfl (by rw [rngD_len]; omega) ?_ ?_
      · intro i d f hi hf
        simp [hf]
        refine (draw_ok hf (by decide) (by decide)).draw fun v f h0 h1 hf => ?_
        simp [hf]
        refine (size_ok hf).size fun u f h2 h3 hf => ?_
        have e1 : mulC v u = true := mulC_s (by omega) (by omega) (by omega) (by omega)
        simp [e1, Int.mul_nonneg h0 (show 0 ≤ u by omega), hf]
      · intro l f w2 hl hp hf e el
        simp at e el
        rw [rngD_len] at hl
        have hn0 : ∀ k : Int, 0 ≤ atR l k := fun k => by
          unfold atR
          rw [List.getD_eq_getElem?_getD]
          cases g : l[k.toNat]? with
          | none => exact Int.le_refl 0
          | some v =>
            obtain ⟨hk, rfl⟩ := List.getElem?_eq_some_iff.mp g
            exact hp _ hk
        simp [e, el, line' (show a.length < 1000000 by omega)]
        rw [rowsD_one]
        exact .mk ⟨f, hf, a ++ [l], ⟨by simp [q1], q2.add (by omega) (bel_plain hn0 _)⟩, _, _, rfl⟩
  rintro w ⟨f, hf, a, ⟨ha, hfa⟩, x6, x9, rfl⟩
  have fin : ∀ m : List (List Int), (∀ r, r ∈ m ↔ r ∈ a ++ c) → World n o top m := fun m e => World.perm ⟨hfa.app hfit, hb.mono fun r m => List.mem_append_right _ m⟩ e
  have hac : a.length + c.length ≤ sizeLine := line (by omega)
  by_cases cl : (20 : Int) < (a.length : Int)
  · rw [wp_Seq]
    simp [cl, hf]
    refine (shuffledD_ok hf (.inr rfl) (by simp) (by rw [rowsD_len]; omega)).mono ?_
    rintro z os ⟨l, f, rfl, rfl, hp, hf⟩
    obtain ⟨m, rfl, hp2⟩ := perm_mapD row_inj hp
    have ml := hp2.length_eq
    simp [line (show a.length + m.length ≤ 1000000 by omega)]
    refine ⟨a ++ m, f, by unfold rowsD; rw [List.map_append], rfl, hf, by simp; omega, fin _ fun r => ?_⟩
    rw [List.mem_append, List.mem_append, hp2.mem_iff]
  · rw [wp_Seq]
    simp [cl, hf, hac]
    refine (shuffledD_ok hf (.inl rfl) (by simp) (by simp; omega)).mono ?_
    rintro z os ⟨l, f, rfl, rfl, hp, hf⟩
    have hp' : l.Perm ((a ++ c).map fun r => D.tup (r.map D.int)) := by rw [List.map_append]; exact hp
    obtain ⟨m, rfl, hp2⟩ := perm_mapD row_inj hp'
    have ml := hp2.length_eq
    rw [List.length_append] at ml
    simp
    exact ⟨m, f, rfl, rfl, hf, by omega, fin _ fun r => hp2.mem_iff⟩
end K17

set_option autoImplicit false
namespace K17
open PySem PySem.Spec L2 Pm 
/-! ### rankings, or none -/
theorem world_yes {n : Nat} {o : List Int} {rows : List (List Int)} (ho : IsPerm n o) (h : World n o n rows) : Rk n rows o := ⟨ho, fit_iff.mpr fun r m => by
  have := (h.1 r m).2
  rwa [List.take_of_length_le (by rw [ho.ord.2.1]; exact Nat.le_refl _)] at this⟩
theorem world_rect {n top : Nat} {o : List Int} {rows : List (List Int)} (h : World n o top rows) : Rect n rows := fun r m => (h.1 r m).1
theorem rk_pos {n : Nat} {rows : List (List Int)} {o : List Int} (h : Rk n rows o) : 1 ≤ (rkL n rows).length := List.length_pos_of_mem (rk_mem.mpr h)
theorem world_no {n top : Nat} {o : List Int} {rows : List (List Int)} (ho : IsPerm n o) (ht : top < n) (h : World n o top rows) : (rkL n rows).length = 0 := by
  rw [List.length_eq_zero_iff]
  cases e : rkL n rows with
  | nil => rfl
  | cons p l =>
    exfalso
    have hp := rk_mem.mp (show p ∈ rkL n rows by rw [e]; exact List.mem_cons_self)
    have hO := ho.ord
    have ol := hO.2.1
    have t1 : top < o.length := by omega
    have nt : o[top] ∉ o.take top := fun m => by
      obtain ⟨q, hq, l1, eq⟩ := mem_take.mp m
      exact ord_ne hO hq t1 (by omega) eq
    obtain ⟨a, i, b, ep, h1, h2⟩ := first_out (o0 := p) (o := o.take top) ⟨o[top], hp.perm.mem_iff.mpr (ho.mem_iff.mp (List.getElem_mem t1)), nt⟩
    have hi := hp.perm.ord.2.2 i (by rw [ep]; simp)
    obtain ⟨j, hj, ej⟩ := ho.at hi.1 hi.2
    have jt : top ≤ j := Nat.le_of_not_lt fun z => h2 (mem_take.mpr ⟨j, hj, z, ej⟩)
    obtain ⟨r, mr, hz, hneg⟩ := h.2 j hj jt hj
    have hr := hp.run
    rw [ep, show a ++ i :: b = (a ++ [i]) ++ b by simp] at hr
    have := (fit_snoc.mp (run_pre hr).fit).2 r mr fun q mq => by
      obtain ⟨q', hq', l1, rfl⟩ := mem_take.mp (h1 q mq)
      exact hz q' hq' l1
    rw [ej] at hneg
    omega
/-! ### families, as numbers -/
/-- the numbers of the sets -/
def FK (n : Nat) (F : List (List Int)) (K : List Nat) : Prop := ∀ S, S ∈ F ↔ Sb n S ∧ mks S ∈ K
structure Cl (n : Nat) (K : List Nat) : Prop where
  lt : ∀ m ∈ K, m < 2 ^ n
  zero : 0 ∈ K
  uni : ∀ a ∈ K, ∀ b ∈ K, a ||| b ∈ K
  acc : ∀ a ∈ K, a ≠ 0 → ∃ i, a.testBit i = true ∧ a - 2 ^ i ∈ K
theorem FK.empty {n : Nat} {F : List (List Int)} {K : List Nat} (h : FK n F K) : [] ∈ F ↔ 0 ∈ K := by
  rw [h]; exact ⟨fun q => q.2, fun q => ⟨⟨List.Pairwise.nil, nofun⟩, q⟩⟩
theorem FK.full {n : Nat} {F : List (List Int)} {K : List Nat} (h : FK n F K) : intsTo n ∈ F ↔ 2 ^ n - 1 ∈ K := by
  rw [h, mk_full]; exact ⟨fun q => q.2, fun q => ⟨intsTo_sub n, q⟩⟩
/-! numbers of sets, back -/
def setM (n m : Nat) : List Int := (intsTo n).filter fun r => m.testBit r.toNat
theorem setM_sub (n m : Nat) : Sb n (setM n m) := ⟨(intsTo_sub n).asc.sublist List.filter_sublist, fun i h => intsTo_mem.mp (List.mem_filter.mp h).1⟩
theorem setM_mk {n m : Nat} (h : m < 2 ^ n) : mks (setM n m) = m := by
  refine Nat.eq_of_testBit_eq fun i => ?_
  rw [(setM_sub n m).bit, Bool.eq_iff_iff, List.contains_iff_mem]
  unfold setM
  rw [List.mem_filter, intsTo_mem]
  constructor
  · exact fun q => q.2
  · intro q
    refine ⟨⟨by omega, ?_⟩, q⟩
    have : i < n := Nat.lt_of_not_le fun z => by
      rw [Nat.testBit_lt_two_pow (Nat.lt_of_lt_of_le h (Nat.pow_le_pow_right (by omega) z))] at q
      cases q
    omega
theorem fk_setM {n : Nat} {K : List Nat} {F : List (List Int)} (h : ∀ m ∈ K, m < 2 ^ n) (hF : F.Perm (K.map (setM n))) : FK n F K := fun S => by
  rw [hF.mem_iff, List.mem_map]
  constructor
  · rintro ⟨m, k, rfl⟩; exact ⟨setM_sub n m, by rw [setM_mk (h m k)]; exact k⟩
  · rintro ⟨h1, h2⟩
    exact ⟨_, h2, (setM_sub n _).inj h1 (setM_mk (h _ h2))⟩
theorem setM_nd {n : Nat} {K : List Nat} (h : ∀ m ∈ K, m < 2 ^ n) (nd : K.Nodup) : (K.map (setM n)).Nodup := by
  refine List.pairwise_map.mpr (List.Pairwise.imp_of_mem (fun {a b} ma mb hab e => hab ?_) nd)
  rw [← setM_mk (h a ma), ← setM_mk (h b mb), e]
/-! a ranking's beginnings -/
theorem add_or (a i : Nat) (h : a.testBit i = false) : a + 2 ^ i = a ||| 2 ^ i := by
  have e1 : a = 2 ^ (i + 1) * (a / 2 ^ (i + 1)) + a % 2 ^ (i + 1) := (Nat.div_add_mod a _).symm
  have lt1 : a % 2 ^ (i + 1) < 2 ^ i := by
    have l2 : a % 2 ^ (i + 1) < 2 ^ (i + 1) := Nat.mod_lt _ (Nat.two_pow_pos _)
    refine Nat.lt_of_not_le fun z => ?_
    have : (a % 2 ^ (i + 1)).testBit i = true := by
      rw [Nat.testBit_eq_decide_div_mod_eq]
      have : a % 2 ^ (i + 1) / 2 ^ i = 1 := by
        have l3 : 2 ^ (i + 1) = 2 ^ i * 2 := Nat.pow_succ _ _
        exact Nat.div_eq_of_lt_le (by omega) (by omega)
      rw [this]; rfl
    rw [Nat.testBit_mod_two_pow, h] at this
    simp at this
  have l3 : 2 ^ i + a % 2 ^ (i + 1) < 2 ^ (i + 1) := by rw [Nat.pow_succ] at *; omega
  have e2 : 2 ^ i + a % 2 ^ (i + 1) = 2 ^ i ||| a % 2 ^ (i + 1) := by
    have := Nat.two_pow_add_eq_or_of_lt lt1 1
    rwa [Nat.mul_one] at this
  have e3 : a = 2 ^ (i + 1) * (a / 2 ^ (i + 1)) ||| a % 2 ^ (i + 1) := by
    rw [← Nat.two_pow_add_eq_or_of_lt (Nat.mod_lt _ (Nat.two_pow_pos _)), Nat.div_add_mod]
  have e4 : a + 2 ^ i = 2 ^ (i + 1) * (a / 2 ^ (i + 1)) + (2 ^ i + a % 2 ^ (i + 1)) := by omega
  rw [e4, Nat.two_pow_add_eq_or_of_lt l3, e2]
  conv => rhs; rw [e3]
  rw [Nat.or_assoc, Nat.or_comm (2 ^ i)]

structure Ch (n k : Nat) (M : List Nat) (last : Nat) (left : List Int) : Prop where
  len : M.length = k + 1
  zero : M[0]? = some 0
  lst : M[k]? = some last
  step : ∀ j m, M[j + 1]? = some m → ∃ a i, M[j]? = some a ∧ a.testBit i = false ∧ m = a ||| 2 ^ i
  lt : ∀ m ∈ M, m < 2 ^ n
  off : ∀ r ∈ left, last.testBit r.toNat = false
  on : ∀ i : Nat, i < n → (i : Int) ∉ left → last.testBit i = true
  nd : left.Nodup
  inn : InN n left
  ll : left.length = n - k
theorem Ch.start (n : Nat) : Ch n 0 [0] 0 (intsTo n) where
  len := rfl
  zero := rfl
  lst := rfl
  step j m h := by simp at h
  lt m h := by rw [List.mem_singleton.mp h]; exact Nat.two_pow_pos n
  off r _ := Nat.zero_testBit _
  on i hi h := absurd (intsTo_mem.mpr ⟨by omega, by omega⟩) h
  nd := asc_nd (intsTo_sub n).asc
  inn := (intsTo_sub n).inn
  ll := by unfold intsTo; simp
theorem Ch.add {n k last : Nat} {M : List Nat} {left : List Int} (h : Ch n k M last left) {q : Nat} (hq : q < left.length) : last + 2 ^ left[q].toNat = last ||| 2 ^ left[q].toNat := add_or _ _ (h.off _ (List.getElem_mem hq))
theorem Ch.next {n k last : Nat} {M : List Nat} {left : List Int} (h : Ch n k M last left) {q : Nat} (hq : q < left.length) (hk : k < n) : Ch n (k + 1) (M ++ [last + 2 ^ left[q].toNat]) (last + 2 ^ left[q].toNat) (left.eraseIdx q) where
  len := by rw [List.length_append, h.len]; rfl
  zero := by rw [List.getElem?_append_left (by rw [h.len]; omega)]; exact h.zero
  lst := by rw [List.getElem?_append_right (by rw [h.len]; omega), h.len]; simp
  step j m e := by
    by_cases c : j + 1 < M.length
    · rw [List.getElem?_append_left c] at e
      obtain ⟨a, i, h1, h2⟩ := h.step j m e
      exact ⟨a, i, by rw [List.getElem?_append_left (by omega)]; exact h1, h2⟩
    · have hl := (List.getElem?_eq_some_iff.mp e).1
      rw [List.length_append, h.len] at hl
      simp only [List.length_singleton] at hl
      rw [h.len] at c
      have ej : j = k := by omega
      subst ej
      rw [List.getElem?_append_right (by rw [h.len]; omega), h.len] at e
      simp at e
      exact ⟨last, left[q].toNat, by rw [List.getElem?_append_left (by rw [h.len]; omega)]; exact h.lst, h.off _ (List.getElem_mem hq), by rw [← e]; exact h.add hq⟩
  lt m mm := by
    rcases List.mem_append.mp mm with mm | mm
    · exact h.lt m mm
    · rw [List.mem_singleton.mp mm, h.add hq]
      refine Nat.or_lt_two_pow (h.lt _ (List.mem_of_getElem? h.lst)) (Nat.pow_lt_pow_right (by omega) ?_)
      have := h.inn _ (List.getElem_mem hq)
      omega
  off r m := by
    rw [h.add hq, Nat.testBit_or, h.off r ((List.eraseIdx_sublist _ _).subset m), Nat.testBit_two_pow]
    have nd : (left[q] :: left.eraseIdx q).Nodup := (get_erase hq).nodup_iff.mpr h.nd
    have hne : left[q] ≠ r := fun e => (List.nodup_cons.mp nd).1 (e ▸ m)
    have a1 := h.inn _ (List.getElem_mem hq)
    have a2 := h.inn r ((List.eraseIdx_sublist _ _).subset m)
    simp
    omega
  on i hi m := by
    rw [h.add hq, Nat.testBit_or, Nat.testBit_two_pow]
    by_cases c : (i : Int) ∈ left
    · have p := (get_erase hq).mem_iff.mpr c
      rcases List.mem_cons.mp p with p | p
      · have : left[q].toNat = i := by omega
        simp [this]
      · exact absurd p m
    · rw [h.on i hi c]; rfl
  nd := h.nd.sublist (List.eraseIdx_sublist _ _)
  inn i m := h.inn i ((List.eraseIdx_sublist _ _).subset m)
  ll := by rw [List.length_eraseIdx_of_lt hq, h.ll]; omega
theorem Ch.full {n last : Nat} {M : List Nat} {left : List Int} (h : Ch n n M last left) : 2 ^ n - 1 ∈ M := by
  have e : left = [] := List.length_eq_zero_iff.mp (by rw [h.ll]; omega)
  subst e
  have : last = 2 ^ n - 1 := Nat.eq_of_testBit_eq fun i => by
    rw [Nat.testBit_two_pow_sub_one]
    by_cases c : i < n
    · rw [h.on i c nofun]; simp [c]
    · rw [Nat.testBit_lt_two_pow (Nat.lt_of_lt_of_le (h.lt _ (List.mem_of_getElem? h.lst)) (Nat.pow_le_pow_right (by omega) (Nat.le_of_not_lt c)))]
      simp [c]
  rw [← this]; exact List.mem_of_getElem? h.lst
theorem Ch.up {n k last : Nat} {M : List Nat} {left : List Int} (h : Ch n k M last left) : ∀ (d j a b : Nat), M[j]? = some a → M[j + d]? = some b → a ||| b = b
  | 0, j, a, b, e1, e2 => by rw [Nat.add_zero, e1] at e2; cases e2; exact Nat.or_self a
  | d + 1, j, a, b, e1, e2 => by
    obtain ⟨c, i, h1, _, rfl⟩ := h.step (j + d) b e2
    rw [← Nat.or_assoc, h.up d j a c e1 h1]
theorem Ch.or {n k last : Nat} {M : List Nat} {left : List Int} (h : Ch n k M last left) {a b : Nat} (ma : a ∈ M) (mb : b ∈ M) : a ||| b ∈ M := by
  obtain ⟨i, ei⟩ := List.mem_iff_getElem?.mp ma
  obtain ⟨j, ej⟩ := List.mem_iff_getElem?.mp mb
  by_cases c : i ≤ j
  · rw [h.up (j - i) i a b ei (by rw [show i + (j - i) = j by omega]; exact ej)]; exact mb
  · rw [Nat.or_comm, h.up (i - j) j b a ej (by rw [show j + (i - j) = i by omega]; exact ei)]; exact ma
/-- joined with a chain -/
theorem Cl.join {n k last : Nat} {M : List Nat} {left : List Int} (h : Ch n k M last left) {K K2 : List Nat} (c : Cl n K) (e : ∀ m, m ∈ K2 ↔ ∃ a ∈ K, ∃ b ∈ M, m = a ||| b) : Cl n K2 where
  lt m mm := by
    obtain ⟨a, ma, b, mb, rfl⟩ := (e m).mp mm
    exact Nat.or_lt_two_pow (c.lt a ma) (h.lt b mb)
  zero := (e 0).mpr ⟨0, c.zero, 0, List.mem_of_getElem? h.zero, rfl⟩
  uni x mx y my := by
    obtain ⟨a, ma, b, mb, rfl⟩ := (e x).mp mx
    obtain ⟨a2, ma2, b2, mb2, rfl⟩ := (e y).mp my
    refine (e _).mpr ⟨a ||| a2, c.uni a ma a2 ma2, b ||| b2, h.or mb mb2, ?_⟩
    refine Nat.eq_of_testBit_eq fun i => ?_
    simp only [Nat.testBit_or]
    cases a.testBit i <;> cases b.testBit i <;> cases a2.testBit i <;> cases b2.testBit i <;> rfl
  acc x mx := by
    obtain ⟨a, ma, b, mb, rfl⟩ := (e x).mp mx
    obtain ⟨j, ej⟩ := List.mem_iff_getElem?.mp mb
    clear mb mx
    induction j generalizing b with
    | zero =>
      rw [h.zero] at ej
      cases ej
      intro hx
      rw [Nat.or_zero] at hx ⊢
      obtain ⟨i, h1, h2⟩ := c.acc a ma hx
      exact ⟨i, h1, (e _).mpr ⟨_, h2, 0, List.mem_of_getElem? h.zero, by rw [Nat.or_zero]⟩⟩
    | succ j ih =>
      obtain ⟨b0, i, h1, h2, rfl⟩ := h.step j b ej
      intro hx
      by_cases ai : a.testBit i = true
      · have ex : a ||| (b0 ||| 2 ^ i) = a ||| b0 := by
          refine Nat.eq_of_testBit_eq fun q => ?_
          simp only [Nat.testBit_or, Nat.testBit_two_pow]
          by_cases c : i = q
          · subst c; simp [ai]
          · simp [c]
        rw [ex] at hx ⊢
        exact ih b0 h1 hx
      · have ex : (a ||| b0).testBit i = false := by rw [Nat.testBit_or, h2]; simpa using ai
        have e2 : a ||| (b0 ||| 2 ^ i) = (a ||| b0) + 2 ^ i := by rw [add_or _ _ ex, Nat.or_assoc]
        refine ⟨i, ?_, ?_⟩
        · rw [Nat.testBit_or, Nat.testBit_or, Nat.testBit_two_pow]; simp
        · rw [e2, Nat.add_sub_cancel]
          exact (e _).mpr ⟨a, ma, b0, List.mem_of_getElem? h1, rfl⟩
theorem Cl.one {n : Nat} : Cl n [0] where
  lt m mm := by rw [List.mem_singleton.mp mm]; exact Nat.two_pow_pos n
  zero := by simp
  uni a ma b mb := by rw [List.mem_singleton.mp ma, List.mem_singleton.mp mb]; simp
  acc a ma h := absurd (List.mem_singleton.mp ma) h
/-! ### a ranking's beginnings as numbers -/
theorem mks_perm {S T : List Int} (h : S.Perm T) : mks S = mks T := (h.map fun r : Int => 2 ^ r.toNat).sum_nat
theorem mks_take {S : List Int} {i : Nat} (h : i < S.length) : mks (S.take (i + 1)) = mks (S.take i) + 2 ^ S[i].toNat := by
  unfold mks
  rw [List.take_add_one, List.getElem?_eq_getElem h, List.map_append, List.sum_append]
  simp
def msk (o : List Int) (j : Nat) : Nat := mks (o.take j)
theorem sb_sort {n : Nat} {T : List Int} (nd : T.Nodup) (h : InN n T) : Sb n (sortI T) := ⟨sortI_lt nd, fun i m => h i ((sortI_perm T).mem_iff.mp m)⟩
theorem uniL_sb {n : Nat} {S T : List Int} (hS : Sb n S) (nd : T.Nodup) (h : InN n T) : Sb n (uniL S T) ∧ mks (uniL S T) = mks S ||| mks T := by
  have st := sb_sort nd h
  have sT : (T.filter fun r => !S.contains r).Nodup := nd.sublist List.filter_sublist
  have su : Sb n (uniL S T) := by
    refine ⟨sortI_lt (List.nodup_append.mpr ⟨asc_nd hS.asc, sT, fun a m b mb e => ?_⟩), fun i m => (uniL_mem.mp m).elim (hS.inn i) (h i)⟩
    subst e
    have := (List.mem_filter.mp mb).2
    simp at this
    exact this m
  have e : uniL S T = uniL S (sortI T) := asc_ext su.asc (uniL_sub hS st).asc fun i => by
    rw [uniL_mem, uniL_mem, (sortI_perm T).mem_iff]
  exact ⟨su, by rw [e, uniL_mk hS st, mks_perm (sortI_perm T)]⟩
theorem ch_of {n : Nat} {o : List Int} (h : o.Perm (intsTo n)) : ∀ k, k ≤ n → ∃ last left, Ch n k ((List.range (k + 1)).map (msk o)) last left ∧ left.Perm (o.drop k)
  | 0, _ => ⟨0, intsTo n, Ch.start n, by rw [List.drop_zero]; exact h.symm⟩
  | k + 1, hk => by
    obtain ⟨last, left, c, p⟩ := ch_of h k (by omega)
    have ol : o.length = n := by rw [h.length_eq, intsTo_len]
    have hk2 : k < o.length := by omega
    have el : last = msk o k := by
      have := c.lst
      rw [List.getElem?_map, List.getElem?_range (by omega)] at this
      simpa using this.symm
    rw [List.drop_eq_getElem_cons hk2] at p
    have m : o[k] ∈ left := p.mem_iff.mpr List.mem_cons_self
    obtain ⟨q, hq, eq⟩ := List.mem_iff_getElem.mp m
    have nx := c.next hq (by omega)
    rw [eq] at nx
    have em : last + 2 ^ o[k].toNat = msk o (k + 1) := by rw [el]; exact (mks_take hk2).symm
    rw [em] at nx
    refine ⟨msk o (k + 1), left.eraseIdx q, ?_, ?_⟩
    · rw [List.range_succ, List.map_append]
      exact nx
    · have g := get_erase hq
      rw [eq] at g
      exact List.Perm.cons_inv (g.trans p)
structure LF (n : Nat) (Z : List (List Int)) : Prop where
  nd : Z.Nodup
  sub : ∀ S ∈ Z, Sb n S
  cl : Cl n (Z.map mks)
def LP (n : Nat) (K0 : List Nat) (o : List Int) (s : Nat) (S : List Int) : Prop := Sb n S ∧ ∃ a ∈ K0, ∃ j, j ≤ s ∧ mks S = a ||| msk o j
theorem fk_of {n : Nat} {F : List (List Int)} (h : ∀ S ∈ F, Sb n S) : FK n F (F.map mks) := fun S => by
  constructor
  · exact fun m => ⟨h S m, List.mem_map.mpr ⟨S, m, rfl⟩⟩
  · rintro ⟨h1, h2⟩
    obtain ⟨T, m, e⟩ := List.mem_map.mp h2
    rw [← (h T m).inj h1 e]; exact m
theorem msk_up {n : Nat} {o : List Int} (h : o.Perm (intsTo n)) {i j : Nat} (hij : i ≤ j) (hj : j ≤ n) : msk o i ||| msk o j = msk o j := by
  obtain ⟨last, left, c, _⟩ := ch_of h n (Nat.le_refl n)
  refine c.up (j - i) i _ _ ?_ ?_
  · rw [List.getElem?_map, List.getElem?_range (by omega)]; rfl
  · rw [show i + (j - i) = j by omega, List.getElem?_map, List.getElem?_range (by omega)]; rfl
theorem o_pre {n : Nat} {o : List Int} (h : o.Perm (intsTo n)) (j : Nat) : (o.take j).Nodup ∧ InN n (o.take j) :=
  ⟨(h.nodup_iff.mpr (intsTo_nd n)).sublist (List.take_sublist _ _), fun i m => intsTo_mem.mp (h.mem_iff.mp (List.mem_of_mem_take m))⟩
theorem LP.next {n : Nat} {K0 : List Nat} {o : List Int} (h : o.Perm (intsTo n)) (c : Cl n K0) {s : Nat} (hs : s + 1 ≤ n) (S : List Int) : LP n K0 o (s + 1) S ↔ LP n K0 o s S ∨ ∃ A, LP n K0 o s A ∧ S = uniL A (o.take (s + 1)) := by
  obtain ⟨p1, p2⟩ := o_pre h (s + 1)
  constructor
  · rintro ⟨sb, a, ma, j, hj, e⟩
    by_cases cj : j ≤ s
    · exact .inl ⟨sb, a, ma, j, cj, e⟩
    · have ej : j = s + 1 := by omega
      subst ej
      refine .inr ⟨setM n a, ⟨setM_sub n a, a, ma, 0, Nat.zero_le _, ?_⟩, ?_⟩
      · rw [setM_mk (c.lt a ma)]
        show a = a ||| mks (o.take 0)
        rw [List.take_zero]; simp [mks]
      · obtain ⟨u1, u2⟩ := uniL_sb (setM_sub n a) p1 p2
        exact sb.inj u1 (by rw [u2, setM_mk (c.lt a ma)]; exact e)
  · rintro (⟨sb, a, ma, j, hj, e⟩ | ⟨A, ⟨sb, a, ma, j, hj, e⟩, rfl⟩)
    · exact ⟨sb, a, ma, j, by omega, e⟩
    · obtain ⟨u1, u2⟩ := uniL_sb sb p1 p2
      refine ⟨u1, a, ma, s + 1, Nat.le_refl _, ?_⟩
      rw [u2, e, Nat.or_assoc]
      show a ||| (msk o j ||| msk o (s + 1)) = _
      rw [msk_up h (by omega) hs]
theorem LF.lap {n : Nat} {Z Z2 : List (List Int)} {o : List Int} (h : LF n Z) (ho : o.Perm (intsTo n)) (nd : Z2.Nodup) (e : ∀ S, S ∈ Z2 ↔ LP n (Z.map mks) o n S) : LF n Z2 ∧ 2 ^ n - 1 ∈ Z2.map mks := by
  obtain ⟨last, left, c, _⟩ := ch_of ho n (Nat.le_refl n)
  have key : ∀ m, m ∈ Z2.map mks ↔ ∃ a ∈ Z.map mks, ∃ b ∈ (List.range (n + 1)).map (msk o), m = a ||| b := fun m => by
    constructor
    · intro mm
      obtain ⟨S, mS, rfl⟩ := List.mem_map.mp mm
      obtain ⟨_, a, ma, j, hj, e⟩ := (e S).mp mS
      exact ⟨a, ma, msk o j, List.mem_map.mpr ⟨j, List.mem_range.mpr (by omega), rfl⟩, e⟩
    · rintro ⟨a, ma, b, mb, rfl⟩
      obtain ⟨j, mj, rfl⟩ := List.mem_map.mp mb
      have lt : a ||| msk o j < 2 ^ n := Nat.or_lt_two_pow (h.cl.lt a ma) (c.lt _ (List.mem_map.mpr ⟨j, mj, rfl⟩))
      have hj := List.mem_range.mp mj
      exact List.mem_map.mpr ⟨setM n (a ||| msk o j), (e _).mpr ⟨setM_sub n _, a, ma, j, by omega, setM_mk lt⟩, setM_mk lt⟩
  exact ⟨⟨nd, fun S m => ((e S).mp m).1, h.cl.join c key⟩, (key _).mpr ⟨0, h.cl.zero, _, c.full, by rw [Nat.zero_or]⟩⟩
theorem LP.zero {n : Nat} {Z : List (List Int)} {o : List Int} (h : LF n Z) (S : List Int) : S ∈ Z ↔ LP n (Z.map mks) o 0 S := by
  constructor
  · intro m
    refine ⟨h.sub S m, mks S, List.mem_map.mpr ⟨S, m, rfl⟩, 0, Nat.le_refl 0, ?_⟩
    show mks S = mks S ||| mks (o.take 0)
    rw [List.take_zero]; simp [mks]
  · rintro ⟨sb, a, ma, j, hj, e⟩
    have : j = 0 := by omega
    subst this
    obtain ⟨T, mT, rfl⟩ := List.mem_map.mp ma
    have e0 : msk o 0 = 0 := by unfold msk; rw [List.take_zero]; rfl
    rw [e0, Nat.or_zero] at e
    rw [sb.inj (h.sub T mT) e]; exact mT
/-- what one size adds -/
def AdM (P : List Int → Prop) (pre : List Int) (Z : List (List Int)) (i : Nat) (M : List (List Int)) : Prop := ∀ S, S ∈ M ↔ P S ∨ ∃ A ∈ Z.take i, S = uniL A pre
theorem AdM.step {P : List Int → Prop} {pre : List Int} {Z M : List (List Int)} {i : Nat} {A : List Int} (h : AdM P pre Z i M) (eA : Z[i]? = some A) : AdM P pre Z (i + 1) (pF M (uniL A pre)) := fun S => by
  rw [pF_mem, h S, List.take_add_one, eA]
  constructor
  · rintro ((a | ⟨B, m, rfl⟩) | rfl)
    · exact .inl a
    · exact .inr ⟨B, by simp [m], rfl⟩
    · exact .inr ⟨A, by simp, rfl⟩
  · rintro (a | ⟨B, m, rfl⟩)
    · exact .inl (.inl a)
    · rcases List.mem_append.mp m with m | m
      · exact .inl (.inr ⟨B, m, rfl⟩)
      · have : B = A := by simpa using m
        subst this; exact .inr rfl
def FullIn (n : Nat) (Z : List (List Int)) : Prop := 2 ^ n - 1 ∈ Z.map mks
theorem shufI_ok {f d0 : D} {l : List Int} (hf : Fd f) (hd : d0 = .own (l.map .int) ∨ d0 = .lst (l.map .int)) (h2 : l.length ≤ 1000) : WpR (m_law_shuffled [f, d0]) (ShQ l) := by
  refine (shuffledD_ok hf hd pls_ints (by rw [List.length_map]; exact h2)).mono ?_
  rintro d os ⟨o, f', rfl, rfl, p, hf'⟩
  obtain ⟨m, rfl, pm⟩ := perm_mapD int_inj p
  exact ⟨m, f', rfl, rfl, pm, hf'⟩
end K17

set_option autoImplicit false
namespace K17
open PySem PySem.Spec L2 Pm 
/-! ### the law's family -/
structure FamC (n : Nat) (F : List (List Int)) : Prop where
  ord : F.Pairwise fun a b => ltL a b = true
  sub : ∀ S ∈ F, Sb n S
  emp : [] ∈ F
  full : intsTo n ∈ F
  re : ∀ S ∈ F, S ≠ [] → ∃ r ∈ S, witL S r ∈ F
  un : ∀ S ∈ F, ∀ T ∈ F, uniL S T ∈ F
def FamQ (n : Nat) : D → List D → Prop := fun d os => ∃ (F : List (List Int)) (f' : D), d = .own (rowsD F) ∧ os = [f'] ∧ Fd f' ∧ FamC n F
theorem famC_of {n : Nat} {F : List (List Int)} {K : List Nat} (ho : F.Pairwise fun a b => ltL a b = true) (hs : ∀ S ∈ F, Sb n S) (hC : Cl n K) (hK : FK n F K) (hf : 2 ^ n - 1 ∈ K) : FamC n F where
  ord := ho
  sub := hs
  emp := hK.empty.mpr hC.zero
  full := hK.full.mpr hf
  re S m e := by
    obtain ⟨h1, h2⟩ := (hK S).mp m
    obtain ⟨i, b, k⟩ := hC.acc _ h2 fun z => e ((mk_zero h1).mp z)
    rw [h1.bit] at b
    have mi : (i : Int) ∈ S := List.contains_iff_mem.mp b
    have := witL_mk h1 mi
    rw [show ((i : Nat) : Int).toNat = i from rfl] at this
    exact ⟨i, mi, (hK _).mpr ⟨witL_sub h1, by rw [show mks (witL S i) = mks S - 2 ^ i by omega]; exact k⟩⟩
  un S m T m2 := by
    have h1 := (hK S).mp m
    have h2 := (hK T).mp m2
    exact (hK _).mpr ⟨uniL_sub h1.1 h2.1, by rw [uniL_mk h1.1 h2.1]; exact hC.uni _ h1.2 _ h2.2⟩
theorem family_ok {n : Nat} {f : D} (hf : Fd f) (hn : n ≤ 6) (hn1 : 1 ≤ n) : WpR (m_law_family [f, .int (n : Int)]) (FamQ n) := by
  have rn : rngC (n : Int) = true := rngC_of (by omega) (by omega)
  refine wpr_mk rfl ?_
  unfold b_law_family
  rw [show startE 8 [f, .int (n : Int)] = [some f, some (.int ((n : Int))), none, none, none, none, none, none] from rfl]
  refine wp_to (fun w => w = [some f, some (.int ((n : Int))), some (.own (rowsD [[]])), none, none, none, none, none]) (by simp; exact .mk rfl) ?_
  rintro w rfl
  refine wp_to (fun w => ∃ x4 x5 x6 x7 x8 f' Z, w = [some f', some (.int ((n : Int))), some (.own (rowsD Z)), x4, x5, x6, x7, x8] ∧ Fd f' ∧ LF n Z ∧ FullIn n Z) ?_ ?_
  · simp [hf]
    refine (draw_ok hf (by decide) (by decide)).draw fun v f h4 h5 hf => ?_
    simp [rngC_of (show 0 ≤ 1 + v by omega) (show 1 + v ≤ 1000000000 by omega)]
    refine lz_forM (fun i w => ∃ x4 x5 x6 x7 x8 f' Z, w = [some f', some (.int ((n : Int))), some (.own (rowsD Z)), x4, x5, x6, x7, x8] ∧ Fd f' ∧ LF n Z ∧ (0 < i → FullIn n Z)) ⟨none, none, none, none, none, f, [[]], rfl, hf, ⟨by simp, fun S m => by rw [List.mem_singleton.mp m]; exact ⟨List.Pairwise.nil, (fun i m => by cases m)⟩, Cl.one⟩, fun z => absurd z (Nat.lt_irrefl 0)⟩ ?_ ?_
    · rintro w ⟨x4, x5, x6, x7, x8, f', Z, rfl, h1, h2, h3⟩
      rw [rngD_len] at h3
      exact ⟨rfl, .mk ⟨_, _, _, _, _, f', Z, rfl, h1, h2, h3 (by omega)⟩⟩
    · rintro i d w hi ⟨x4, x5, x6, x7, x8, f', Z, rfl, h1, h2, h3⟩
      simp [-wp_Seq]
      refine wp_to (fun w => ∃ (o : List Int) (f' : D), w = [some f', some (.int ((n : Int))), some (.own (rowsD Z)), some d, some (.own ((o).map D.int)), x6, x7, x8] ∧ Fd f' ∧ o.Perm (intsTo n)) ?_ ?_
      · simp [h1, rn]
        refine ⟨by omega, ?_⟩
        rw [rngD_ints]
        refine (shufI_ok h1 (.inl rfl) (by rw [intsTo_len]; omega)).mono ?_
        rintro d os ⟨o, f2, rfl, rfl, p, hf2⟩
        simp
        exact .mk ⟨o, f2, rfl, hf2, p⟩
      rintro w ⟨o, f2, rfl, hf2, ho⟩
      have ol : o.length = n := by rw [ho.length_eq, intsTo_len]
      simp
      refine ⟨⟨rngC_of (by omega) (by omega), rngC_of (by omega) (by omega)⟩, ?_⟩
      refine lz_forM (fun s w => ∃ x6 x7 x8 Z2, w = [some f2, some (.int ((n : Int))), some (.own (rowsD Z2)), some d, some (.own ((o).map D.int)), x6, x7, x8] ∧ Z2.Nodup ∧ ∀ S, S ∈ Z2 ↔ LP n (Z.map mks) o s S) ⟨_, _, _, Z, rfl, h2.nd, fun S => LP.zero h2 S⟩ ?_ ?_
      · rintro w ⟨x6, x7, x8, Z2, rfl, g1, g2⟩
        have en : (rngD2 1 n).length = n := rngD2_len _ _
        first | rw [en] at g2 | rw [rngD2_len] at g2 | skip
        obtain ⟨lf, full⟩ := h2.lap ho g1 g2
        simp
        exact .mk ⟨_, _, _, _, _, f2, Z2, rfl, hf2, lf, full⟩
      · rintro s e w hs ⟨x6, x7, x8, Z2, rfl, g1, g2⟩
        have hs2 : s < n := by
          have := (List.getElem?_eq_some_iff.mp hs).1
          rw [rngD2_len] at this; omega
        have ed := rngD2_get hs
        rw [show (1 : Int) + (s : Int) = ((s + 1 : Nat) : Int) by omega] at ed
        subst ed
        have hP : ∀ S ∈ Z2, LP n (Z.map mks) o s S := fun S m => (g2 S).mp m
        obtain ⟨p1, p2⟩ := o_pre ho (s + 1)
        have ec : cutD (o.map D.int) none (some ((s : Int) + 1)) = (o.take (s + 1)).map D.int := by rw [cutD_to1, List.map_take]
        have tl : (o.take (s + 1)).length ≤ 1000 := by rw [List.length_take]; omega
        have nx := LP.next ho h2.cl (s := s) (by omega)
        generalize o.take (s + 1) = pre at p1 p2 ec tl nx
        have sbM : ∀ (i : Nat) (M : List (List Int)), AdM (LP n (Z.map mks) o s) pre Z2 i M → ∀ S ∈ M, Sb n S := fun i M h S m => by
          rcases (h S).mp m with h | ⟨A, mA, rfl⟩
          · exact h.1
          · exact (uniL_sb (hP A (List.mem_of_mem_take mA)).1 p1 p2).1
        simp
        refine lz_forM (fun j w => ∃ x7 x8 M, w = [some f2, some (.int ((n : Int))), some (.own (rowsD M)), some d, some (.own ((o).map D.int)), some (.int (((s : Int) + 1))), x7, x8] ∧ M.Nodup ∧ AdM (LP n (Z.map mks) o s) pre Z2 j M) ⟨_, _, Z2, rfl, g1, fun S => by rw [g2 S]; simp⟩ ?_ ?_
        · rintro w ⟨x7, x8, M, rfl, k1, k2⟩
          rw [rowsD_len] at k2
          simp
          refine .mk ⟨_, _, _, M, rfl, k1, fun S => ?_⟩
          rw [k2 S, List.take_length, nx S]
          constructor
          · rintro (a | ⟨A, m, e⟩)
            · exact .inl a
            · exact .inr ⟨A, hP A m, e⟩
          · rintro (a | ⟨A, m, e⟩)
            · exact .inl a
            · exact .inr ⟨A, (g2 A).mpr m, e⟩
        · rintro j e w hj ⟨x7, x8, M, rfl, k1, k2⟩
          obtain ⟨hj', rfl⟩ := rowsD_at hj
          have eA : Z2[j]? = some Z2[j] := List.getElem?_eq_getElem hj'
          have sA := (hP _ (List.getElem_mem hj')).1
          have k3 := k2.step eA
          generalize Z2[j] = A at sA k3
          have sAl := sA.len
          have Ml := sb_count k1 (sbM j M k2) hn
          have k4 := pF_nd (S := uniL A pre) k1
          simp [ec]
          refine (joined_ok (T := pre) (.inr (.inr rfl)) (by omega) tl).dq ?_
          simp [dInA_rowsC (neg := true) (S := uniL A pre) (G := M) (.inr (.inl rfl)), -List.contains_eq_mem]
          unfold pF at k3 k4
          cases cc : M.contains (uniL A pre) with
          | true =>
            rw [cc, if_pos rfl] at k3 k4
            simp
            exact .mk ⟨_, _, M, rfl, k4, k3⟩
          | false =>
            rw [cc, if_neg Bool.false_ne_true] at k3 k4
            simp
            exact ⟨line' (by omega), .mk ⟨_, _, M ++ [uniL A pre], by unfold rowsD; rw [List.map_append]; rfl, k4, k3⟩⟩
  rintro w ⟨x4, x5, x6, x7, x8, f', Z, rfl, h1, h2, h3⟩
  simp [sort_rows]
  have pm : ∀ S, S ∈ sortR Z ↔ S ∈ Z := fun S => (sortR_perm Z).mem_iff
  have hFK : FK n (sortR Z) (Z.map mks) := fun S => by rw [pm S]; exact fk_of h2.sub S
  exact ⟨sortR Z, f', rfl, rfl, h1, famC_of (sortR_lt h2.nd) (fun S m => h2.sub S ((pm S).mp m)) h2.cl hFK h3⟩
/-! ### its rows -/
structure RowP (n : Nat) (S : List Int) (i : Int) (r : List Int) : Prop where
  len : r.length = n
  zero : ∀ j ∈ S, atR r j = 0
  pos : ∀ j : Int, 0 ≤ j → j < (n : Int) → j ∉ S → j ≠ i → 1 ≤ atR r j
  neg : atR r i < 0
/-- a rule that may not be put to the set -/
def Nay (n : Nat) (F : List (List Int)) (S : List Int) (i : Int) : Prop := (0 ≤ i ∧ i < (n : Int)) ∧ i ∉ S ∧ uniL S [i] ∉ F
structure FRows (n : Nat) (F R : List (List Int)) : Prop where
  some : ∀ r ∈ R, ∃ S ∈ F, ∃ i, Nay n F S i ∧ RowP n S i r
  all : ∀ S ∈ F, ∀ i, Nay n F S i → ∃ r ∈ R, RowP n S i r
theorem FRows.free {n : Nat} {F R : List (List Int)} (c : FamC n F) (h : FRows n F R) {S : List Int} (m : S ∈ F) {i : Int} : i ∈ freeL n R S ↔ (0 ≤ i ∧ i < (n : Int)) ∧ i ∉ S ∧ uniL S [i] ∈ F := by
  rw [freeL_iff]
  constructor
  · rintro ⟨hi, hn, hr⟩
    refine ⟨hi, hn, Classical.byContradiction fun z => ?_⟩
    obtain ⟨r, mr, rp⟩ := h.all S m i ⟨hi, hn, z⟩
    have := hr r mr rp.zero
    have := rp.neg
    omega
  · rintro ⟨hi, hn, hu⟩
    refine ⟨hi, hn, fun r mr hz => ?_⟩
    obtain ⟨T, mT, j, ⟨hj, hjT, hjF⟩, rp⟩ := h.some r mr
    -- the set lies within T
    have sub : ∀ k ∈ S, k ∈ T := fun k mk => Classical.byContradiction fun z => by
      have kin := (c.sub S m).inn k mk
      have := hz k mk
      by_cases e : k = j
      · have h9 := rp.neg; rw [e] at this; omega
      · have := rp.pos k kin.1 kin.2 z e; omega
    by_cases e : i = j
    · exfalso
      subst e
      refine hjF ?_
      have hU := c.un T mT _ hu
      have sS := c.sub S m
      have sT := c.sub T mT
      have si : Sb n [i] := ⟨List.pairwise_singleton _ _, fun q mq => by rw [List.mem_singleton.mp mq]; exact hi⟩
      have : uniL T (uniL S [i]) = uniL T [i] := asc_ext (uniL_sub sT (uniL_sub sS si)).asc (uniL_sub sT si).asc fun q => by
        rw [uniL_mem, uniL_mem, uniL_mem]
        exact ⟨fun z => z.elim .inl fun z => z.elim (fun z => .inl (sub q z)) .inr, fun z => z.elim .inl fun z => .inr (.inr z)⟩
      rwa [this] at hU
    · by_cases mT2 : i ∈ T
      · rw [rp.zero i mT2]; exact Int.le_refl 0
      · have := rp.pos i hi.1 hi.2 mT2 e; omega
theorem witL_back {n : Nat} {S : List Int} {r : Int} (h : Sb n S) (m : r ∈ S) : uniL (witL S r) [r] = S ∧ r ∉ witL S r := by
  have hr := h.inn r m
  have si : Sb n [r] := ⟨List.pairwise_singleton _ _, fun q mq => by rw [List.mem_singleton.mp mq]; exact hr⟩
  have nr : r ∉ witL S r := fun z => by
    have := (List.mem_filter.mp z).2
    simp at this
  refine ⟨asc_ext (uniL_sub (witL_sub h) si).asc h.asc fun q => ?_, nr⟩
  rw [uniL_mem]
  unfold witL
  rw [List.mem_filter, List.mem_singleton]
  constructor
  · rintro (⟨z, _⟩ | rfl)
    · exact z
    · exact m
  · intro z
    by_cases e : q = r
    · exact .inr e
    · exact .inl ⟨z, by simp [e]⟩
theorem FRows.fea {n : Nat} {F R : List (List Int)} (c : FamC n F) (h : FRows n F R) : IsFea n R F where
  ord := c.ord
  mem S := by
    constructor
    · intro m
      have : ∀ (k : Nat) (S : List Int), S.length = k → S ∈ F → Fea n R S := fun k => by
        induction k with
        | zero => intro S e _; rw [List.length_eq_zero_iff.mp e]; exact fea_nil
        | succ k ih =>
          intro S e m
          obtain ⟨r, mr, mw⟩ := c.re S m (fun z => by rw [z] at e; cases e)
          have sS := c.sub S m
          obtain ⟨e1, e2⟩ := witL_back sS mr
          have hl : (witL S r).length = k := by
            have := congrArg List.length e1
            rw [uni_snoc e2, len_sort, List.length_append, List.length_singleton] at this
            omega
          have fr := (h.free c mw).mpr ⟨sS.inn r mr, e2, by rw [e1]; exact m⟩
          have := (ih _ hl mw).step fr
          rwa [← uni_snoc e2, e1] at this
      exact this _ S rfl m
    · intro z
      refine fea_all (P := fun S => S ∈ F) c.emp (fun S m i mi => ?_) z
      obtain ⟨_, hn, hu⟩ := (h.free c m).mp mi
      rwa [uni_snoc hn] at hu
theorem FRows.rk {n : Nat} {F R : List (List Int)} (c : FamC n F) (h : FRows n F R) : 1 ≤ (rkL n R).length := by
  obtain ⟨o, r, e⟩ := ((h.fea c).mem _).mp c.full
  have p : IsPerm n o := by
    have := sortI_perm o
    rw [← e] at this
    exact this.symm
  exact rk_pos ⟨p, r.fit⟩
theorem intsTo_get {n j : Nat} (h : j < (intsTo n).length) : (intsTo n)[j] = (j : Int) := by
  have e : (intsTo n)[j]? = some (j : Int) := by
    have hj : j < n := by rwa [intsTo_len] at h
    unfold intsTo
    rw [List.getElem?_map, List.getElem?_range hj]; rfl
  exact (List.getElem?_eq_some_iff.mp e).2
theorem em_rng {n : Nat} : List.map (fun _ => D.int 0) (rngD n) = List.replicate n (D.int 0) := by rw [List.map_const', rngD_len]
/-! the rows made -/
structure FI (n : Nat) (G R : List (List Int)) (P : List Int → Int → Prop) : Prop where
  rect : Rect n R
  some : ∀ r ∈ R, ∃ S ∈ G, ∃ i, Nay n G S i ∧ RowP n S i r
  all : ∀ S i, P S i → Nay n G S i → ∃ r ∈ R, RowP n S i r
theorem FI.imp {n : Nat} {G R : List (List Int)} {P P' : List Int → Int → Prop} (h : FI n G R P) (e : ∀ S i, P' S i → Nay n G S i → P S i) : FI n G R P' := ⟨h.rect, h.some, fun S i p q => h.all S i (e S i p q) q⟩
theorem FI.add {n : Nat} {G R : List (List Int)} {P P' : List Int → Int → Prop} {S r : List Int} {i : Int} (h : FI n G R P) (m : S ∈ G) (q : Nay n G S i) (rp : RowP n S i r) (e : ∀ T j, P' T j → Nay n G T j → P T j ∨ (T = S ∧ j = i)) : FI n G (R ++ [r]) P' where
  rect x mx := by
    rcases List.mem_append.mp mx with mx | mx
    · exact h.rect x mx
    · rw [List.mem_singleton.mp mx]; exact rp.len
  some x mx := by
    rcases List.mem_append.mp mx with mx | mx
    · exact h.some x mx
    · rw [List.mem_singleton.mp mx]; exact ⟨S, m, i, q, rp⟩
  all T j p q := by
    rcases e T j p q with z | ⟨rfl, rfl⟩
    · obtain ⟨x, mx, hx⟩ := h.all T j z q
      exact ⟨x, List.mem_append_left _ mx, hx⟩
    · exact ⟨r, List.mem_append_right _ List.mem_cons_self, rp⟩
def RQ2 (n : Nat) (F : List (List Int)) : D → List D → Prop := fun d os => ∃ (R : List (List Int)) (f' : D), d = .tup (rowsD R) ∧ os = [f'] ∧ Fd f' ∧ R.length ≤ 384 ∧ Rect n R ∧ FRows n F R
/-- after set i, rule j -/
def PP (n : Nat) (G : List (List Int)) (i j : Nat) (S : List Int) (r : Int) : Prop := S ∈ G.take i ∨ (G[i]? = some S ∧ r < (j : Int))
theorem FI.zero {n : Nat} {F : List (List Int)} : FI n F [] (PP n F 0 0) where
  rect r m := by cases m
  some r m := by cases m
  all S i p q := by
    rcases p with p | p
    · cases p
    · have := q.1.1; have := p.2; omega
theorem family_rows_ok {n : Nat} {F : List (List Int)} {f d2 : D} (hf : Fd f) (hn : n ≤ 6) (c : FamC n F) (hd : d2 = .own (rowsD F) ∨ d2 = .lst (rowsD F)) : WpR (m_law_family_rows [f, .int (n : Int), d2]) (RQ2 n F) := by
  have rn : rngC (n : Int) = true := rngC_of (by omega) (by omega)
  have fl := sb_count (ltL_nd c.ord) c.sub hn
  refine wpr_mk rfl ?_
  unfold b_law_family_rows
  rw [show startE 8 [f, .int (n : Int), d2] = [some f, some (.int ((n : Int))), some d2, none, none, none, none, none] from rfl]
  refine wp_to (fun w => w = [some f, some (.int ((n : Int))), some d2, some (.own (rowsD (([] : List (List Int))))), none, none, none, none]) (by simp; exact .mk rfl) ?_
  rintro w rfl
  refine wp_to (fun w => ∃ f' x4 x5 x6 x7 R, w = [some f', some (.int ((n : Int))), some (.lst (rowsD (F))), some (.own (rowsD (R))), x4, x5, x6, x7] ∧ Fd f' ∧ R.length ≤ 384 ∧ FI n F R (fun S _ => S ∈ F)) ?_ ?_
  · have key : ∀ QS : Fl → Ev → Prop, (∀ f' x4 x5 x6 x7 R, Fd f' → R.length ≤ 384 → FI n F R (fun S _ => S ∈ F) → QS .nx [some f', some (.int ((n : Int))), some (.lst (rowsD (F))), some (.own (rowsD (R))), x4, x5, x6, x7]) →
        Wp (forL (.nm 4) (sFor [none] (iW qR1 (xCons (xP (qV 1)) xNil)) (.nm 5) (sIf (tAndF (tBl (x2pp (dInA true) (qV 5) (qV 4))) (tBl (x2gp (dInA true) (xCal 2 [] m_law_joined (xCons (xI 4) (xCons (xTup (xCons (xI 5) xNil)) xNil))) (qV 2)))) (sSeq (sSet 6 (xComp [none] (iW qR1 (xCons (xP (qV 1)) xNil)) (.nm 7) tYesF (xC (.int 0)) [7])) (sSeq (sFor [none] (iW qR1 (xCons (xP (qV 1)) xNil)) (.nm 7) (sIf (tBl (x2pp (dInA true) (qV 7) (qV 4))) (sSetI 6 (xCal 1 [some 0] m_law_size (xZ 0 xNil)) (xP (qV 7))) sNx)) (sSeq (sSetI 6 (x1g dNeg (xCal 1 [some 0] m_law_size (xZ 0 xNil))) (xP (qV 5))) (sExpr (xApp 3 (x1p dTuple (qV 6))))))) sNx)) (rowsD F) [some f, some (.int ((n : Int))), some (.lst (rowsD (F))), some (.own (rowsD (([] : List (List Int))))), none, none, none, none]) QS := by
      intro QS hQ
      refine lz_for (fun i w => ∃ f' x4 x5 x6 x7 R, w = [some f', some (.int ((n : Int))), some (.lst (rowsD (F))), some (.own (rowsD (R))), x4, x5, x6, x7] ∧ Fd f' ∧ R.length ≤ 6 * i ∧ FI n F R (PP n F i 0)) ⟨f, _, _, _, _, [], rfl, hf, by simp, FI.zero⟩ ?_ ?_
      · rintro w ⟨f', x4, x5, x6, x7, R, rfl, hf', hl, hI⟩
        rw [rowsD_len] at hl hI
        refine hQ f' x4 x5 x6 x7 R hf' (by omega) (hI.imp fun S i m _ => .inl ?_)
        rw [List.take_length]; exact m
      · rintro i e w hi ⟨f', x4, x5, x6, x7, R, rfl, hf', hl, hI⟩
        obtain ⟨hi', rfl⟩ := rowsD_at hi
        have eS : F[i]? = some F[i] := List.getElem?_eq_getElem hi'
        have mS := List.getElem_mem hi'
        have nx : ∀ S r, PP n F (i + 1) 0 S r → Nay n F S r → PP n F i n S r := fun S r p q => by
          rcases p with p | p
          · rw [List.take_add_one, eS] at p
            rcases List.mem_append.mp p with p | p
            · exact .inl p
            · have : S = F[i] := by simpa using p
              exact .inr ⟨by rw [this]; exact eS, q.1.2⟩
          · have := q.1.1; have := p.2; omega
        generalize F[i] = S at eS mS
        have sS := c.sub S mS
        have sl := sS.len
        simp [rn, rngD_ints]
        refine lz_forM (fun j w => ∃ f' x5 x6 x7 R, w = [some f', some (.int ((n : Int))), some (.lst (rowsD (F))), some (.own (rowsD (R))), some (.tup ((S).map D.int)), x5, x6, x7] ∧ Fd f' ∧ R.length ≤ 6 * i + j ∧ FI n F R (PP n F i j)) ⟨f', _, _, _, R, rfl, hf', by omega, hI⟩ ?_ ?_
        · rintro w ⟨f', x5, x6, x7, R, rfl, hf', hl, hI⟩
          rw [List.length_map, intsTo_len] at hl hI
          exact ⟨f', _, _, _, _, R, rfl, hf', by omega, hI.imp nx⟩
        · rintro j e w hj ⟨f', x5, x6, x7, R, rfl, hf', hl, hI⟩
          obtain ⟨hj', rfl⟩ := ints_at hj
          have hjn : j < n := by rwa [intsTo_len] at hj'
          have er : (intsTo n)[j] = (j : Int) := intsTo_get hj'
          rw [er]
          have ri : 0 ≤ (j : Int) ∧ (j : Int) < (n : Int) := by omega
          have st : ∀ T k, PP n F i (j + 1) T k → Nay n F T k → PP n F i j T k ∨ (T = S ∧ k = (j : Int)) := fun T k p q => by
            rcases p with p | ⟨p1, p2⟩
            · exact .inl (.inl p)
            · rw [eS] at p1
              cases p1
              by_cases z : k = (j : Int)
              · exact .inr ⟨rfl, z⟩
              · exact .inl (.inr ⟨eS, by omega⟩)
          generalize hk : (j : Int) = k at ri st
          have skip : ¬ Nay n F S k → FI n F R (PP n F i (j + 1)) := fun z => hI.imp fun T q p y => (st T q p y).resolve_right fun ⟨e1, e2⟩ => z (by rw [← e1, ← e2]; exact y)
          show ob _ _
          refine ⟨_, rfl, ?_⟩
          refine lz_If.mpr ?_
          refine Wp.mono (Q := fun b w1 => b = (!S.contains k && !F.contains (uniL S [k])) ∧ w1 = [some f', some (.int ((n : Int))), some (.lst (rowsD (F))), some (.own (rowsD (R))), some (.tup ((S).map D.int)), some (.int (k)), x6, x7]) ?_ ?_
          · simp [dInA_ints (neg := true) (i := k) (s := S) (.inl rfl), -List.contains_eq_mem]
            refine brQ_of (fun z => ?_) fun z => ?_
            · rw [z]
              refine (joined_ok (T := [k]) (.inl rfl) (by omega) (by simp)).dq ?_
              simp [dInA_rowsC (neg := true) (S := uniL S [k]) (G := F) (.inr (.inr rfl)), -List.contains_eq_mem]
            · simp at z
              simp [z]
          rintro b w1 ⟨rfl, rfl⟩
          refine brQ_of (fun z => ?_) fun z => ?_
          case _ =>
            have nay : Nay n F S k := by
              rw [Bool.and_eq_true, Bool.not_eq_true', Bool.not_eq_true'] at z
              exact ⟨ri, (fun m => by rw [List.contains_iff_mem.mpr m] at z; exact Bool.false_ne_true z.1.symm), fun m => by rw [List.contains_iff_mem.mpr m] at z; exact Bool.false_ne_true z.2.symm⟩
            have c1n := nay.2.1
            refine wp_to (fun w => w = [some f', some (.int ((n : Int))), some (.lst (rowsD (F))), some (.own (rowsD (R))), some (.tup ((S).map D.int)), some (.int (k)), some (.own ((List.replicate n (0 : Int)).map D.int)), none]) ?_ ?_
            · simp [rn]
              refine cmp_const (by simp) (by rw [rngD_len]; omega) fun w2 e => ?_
              simp at e
              have el : w2.length = 8 := by
                have := congrArg List.length e
                simpa using this
              simp [e, el, em_rng]
              exact .mk rfl
            rintro w rfl
            refine wp_to (fun w => ∃ f' x7 r, w = [some f', some (.int ((n : Int))), some (.lst (rowsD (F))), some (.own (rowsD (R))), some (.tup ((S).map D.int)), some (.int (k)), some (.own ((r).map D.int)), x7] ∧ Fd f' ∧ r.length = n ∧ (∀ q ∈ S, atR r q = 0) ∧ ∀ q : Int, 0 ≤ q → q < (n : Int) → q ∉ S → 1 ≤ atR r q) ?_ ?_
            · simp [rn, rngD_ints]
              refine lz_forM (fun m w => ∃ f' x7 r, w = [some f', some (.int ((n : Int))), some (.lst (rowsD (F))), some (.own (rowsD (R))), some (.tup ((S).map D.int)), some (.int (k)), some (.own ((r).map D.int)), x7] ∧ Fd f' ∧ r.length = n ∧ (∀ q ∈ S, atR r q = 0) ∧ ∀ q : Int, 0 ≤ q → q < (m : Int) → q ∉ S → 1 ≤ atR r q) ⟨f', none, List.replicate n 0, by rw [List.map_replicate], hf', by simp, fun q _ => z0 _ _, fun q a b => by omega⟩ ?_ ?_
              · rintro w ⟨f', x7, r, rfl, hf', hr, h0, h1⟩
                rw [List.length_map, intsTo_len] at h1
                exact ⟨rfl, .mk ⟨f', _, r, rfl, hf', hr, h0, h1⟩⟩
              · rintro m e w hm ⟨f', x7, r, rfl, hf', hr, h0, h1⟩
                obtain ⟨hm', rfl⟩ := ints_at hm
                have hmn : m < n := by rwa [intsTo_len] at hm'
                have em : (intsTo n)[m] = (m : Int) := intsTo_get hm'
                rw [em]
                by_cases c3 : S.contains (m : Int) = true
                · simp [dInA_ints (neg := true) (i := (m : Int)) (s := S) (.inl rfl), c3, -List.contains_eq_mem]
                  refine .mk ⟨f', _, r, rfl, hf', hr, h0, fun q a b z => h1 q a ?_ z⟩
                  have : q ≠ (m : Int) := fun e => z (by rw [e]; exact List.contains_iff_mem.mp c3)
                  omega
                · have c3' : S.contains (m : Int) = false := by simpa using c3
                  have c3n : (m : Int) ∉ S := fun z => c3 (List.contains_iff_mem.mpr z)
                  simp [dInA_ints (neg := true) (i := (m : Int)) (s := S) (.inl rfl), c3', hf', -List.contains_eq_mem]
                  refine (size_ok hf').size fun u f2 u0 u1 hf2 => ?_
                  have ix : ixN r.length (m : Int) = some m := by
                    have := ixN_at (n := r.length) (i := (m : Int)) (by omega) (by omega)
                    simpa using this
                  simp [ix]
                  refine .mk ⟨f2, _, r.set m u, by rw [← ints_set], hf2, by simp [hr], fun q mq => ?_, fun q a b z => ?_⟩
                  · have e2 := atR_set (r := r) (i := (m : Int)) (j := q) (v := u) (by omega) (sS.inn q mq).1
                    simp only [Int.toNat_natCast] at e2
                    rw [e2, if_neg fun y => c3n (by rw [y.1]; exact mq)]
                    exact h0 q mq
                  · have e2 := atR_set (r := r) (i := (m : Int)) (j := q) (v := u) (by omega) a
                    simp only [Int.toNat_natCast] at e2
                    rw [e2]
                    by_cases y : (m : Int) = q
                    · rw [if_pos ⟨y, by omega⟩]; exact u0
                    · rw [if_neg fun w => y w.1]; exact h1 q a (by omega) z
            rintro w ⟨f', x7, r, rfl, hf', hr, h0, h1⟩
            refine wp_to (fun w => ∃ f', Fd f' ∧ ∃ v, 1 ≤ v ∧ w = [some f', some (.int ((n : Int))), some (.lst (rowsD (F))), some (.own (rowsD (R))), some (.tup ((S).map D.int)), some (.int (k)), some (.own ((r.set k.toNat (-v)).map D.int)), x7]) ?_ ?_
            · simp [hf']
              refine (size_ok hf').size fun v f2 u0 u1 hf2 => ?_
              have ix : ixN r.length k = some k.toNat := ixN_at ri.1 (by rw [hr]; exact ri.2)
              simp [ix]
              exact .mk ⟨f2, hf2, v, u0, rfl⟩
            rintro w ⟨f', hf', v, hv, rfl⟩
            have rp : RowP n S k (r.set k.toNat (-v)) := ⟨by simp [hr], fun q mq => by
              rw [atR_set ri.1 (sS.inn q mq).1, if_neg fun y => c1n (by rw [y.1]; exact mq)]; exact h0 q mq, fun q a b z y => by
              rw [atR_set ri.1 a, if_neg fun w => y w.1.symm]; exact h1 q a b z, by
              rw [atR_set ri.1 ri.1, if_pos ⟨rfl, by rw [hr]; exact ri.2⟩]; omega⟩
            have pl2 : pls ((r.set k.toNat (-v)).map D.int) = true := pls_ints
            generalize r.set k.toNat (-v) = r2 at rp pl2
            simp [line' (show R.length < 1000000 by omega)]
            rw [rowsD_one]
            exact .mk ⟨f', _, _, _, R ++ [r2], rfl, hf', by simp; omega, hI.add mS nay rp st⟩
          case _ =>
            have := skip fun q => by
              have a : S.contains k = false := by
                cases y : S.contains k with
                | false => rfl
                | true => exact absurd (List.contains_iff_mem.mp y) q.2.1
              have b : F.contains (uniL S [k]) = false := by
                cases y : F.contains (uniL S [k]) with
                | false => rfl
                | true => exact absurd (List.contains_iff_mem.mp y) q.2.2
              rw [a, b] at z
              cases z
            simp
            exact .mk ⟨f', _, _, _, R, rfl, hf', by omega, this⟩
    rcases hd with rfl | rfl
    · simp
      exact key _ fun f' x4 x5 x6 x7 R a b c => ⟨rfl, .mk ⟨f', x4, x5, x6, x7, R, rfl, a, b, c⟩⟩
    · simp
      exact key _ fun f' x4 x5 x6 x7 R a b c => ⟨rfl, .mk ⟨f', x4, x5, x6, x7, R, rfl, a, b, c⟩⟩
  rintro w ⟨f', x4, x5, x6, x7, R, rfl, hf', hl, hI⟩
  simp [hf']
  refine (shuffledD_ok hf' (.inr rfl) (by simp) (by rw [rowsD_len]; omega)).mono ?_
  rintro z os ⟨l, f2, rfl, rfl, hp, hf2⟩
  obtain ⟨m, rfl, hp2⟩ := perm_mapD row_inj hp
  have ml := hp2.length_eq
  simp
  refine ⟨m, f2, rfl, rfl, hf2, by omega, fun r mr => hI.rect r (hp2.mem_iff.mp mr), ⟨fun r mr => hI.some r (hp2.mem_iff.mp mr), fun S mS i q => ?_⟩⟩
  obtain ⟨r, mr, hr⟩ := hI.all S i mS q
  exact ⟨r, hp2.mem_iff.mpr mr, hr⟩
end K17

set_option autoImplicit false
namespace K17
open PySem PySem.Spec L2 Pm 
theorem rng_L {n : Nat} (hn : n ≤ 1000) : dRng (.int (n : Int)) = some (.own ((intsTo n).map .int)) := by
  have rn : rngC (n : Int) = true := rngC_of (by omega) (by omega)
  rw [← rngD_ints]
  unfold dRng
  simp [rn]
  omega
@[simp] theorem dGeA_int {i j : Int} : dGeA (.int i) (.int j) = some (.bl (decide (j ≤ i))) := by
  show some (D.bl (decide (i ≥ j))) = _
  rfl
theorem long_ok {f : D} (hf : Fd f) : WpR (m_law_long [f]) TruQ := by
  refine wpr_mk rfl ?_
  unfold b_law_long
  rw [show startE 3 [f] = [some f, none, none] from rfl]
  refine wp_to (fun w => ∃ f', Fd f' ∧ ∃ o : List Int, IsPerm 3 o ∧ w = [some f', some (.own ((o).map D.int)), none]) ?_ ?_
  · simp [hf, mkOwn]
    refine (shufI_ok (l := [0, 1, 2]) hf (.inl rfl) (by simp)).mono ?_
    rintro d os ⟨o, f2, rfl, rfl, p, hf2⟩
    simp
    exact .mk ⟨f2, hf2, o, p, rfl⟩
  rintro w ⟨f, hf, o, ho, rfl⟩
  refine wp_to (fun w => ∃ f', Fd f' ∧ ∃ R : List (List Int), (R.length ≤ 1000 ∧ Rect 3 R) ∧ ∃ x, w = [some f', x, some (.tup (rowsD (R)))]) ?_ ?_
  · simp [hf]
    refine (draw_ok hf (by decide) (by decide)).draw fun v f h0 h1 hf => ?_
    simp [hf]
    refine (draw_ok hf (by decide) (by decide)).draw fun u f h2 h3 hf => ?_
    obtain ⟨t, et⟩ : ∃ t : Nat, (3 : Int) - v = (t : Int) := ⟨(3 - v).toNat, by omega⟩
    obtain ⟨p, ep⟩ : ∃ t : Nat, (200 : Int) - u = (t : Int) := ⟨(200 - u).toNat, by omega⟩
    simp [et, ep, hf]
    refine (world_ok hf ho (by omega) (by omega) (show t ≤ 3 by omega) (show p ≤ 200 by omega)).mono ?_
    rintro d os ⟨R, f2, rfl, rfl, hf2, hl, hW⟩
    simp
    exact .mk ⟨f2, hf2, R, ⟨hl, world_rect hW⟩, _, rfl⟩
  rintro w ⟨f, hf, R, ⟨hl, hr⟩, x, rfl⟩
  have h3 := law_asked_ok (n := 3) (c := 0) (by omega) (by omega) hl hr
  simp
  refine h3.dq ?_
  simp
  exact ⟨_, rfl, rfl, hf⟩
theorem wide_ok {f : D} (hf : Fd f) : WpR (m_law_wide [f]) TruQ := by
  refine wpr_mk rfl ?_
  unfold b_law_wide
  rw [show startE 6 [f] = [some f, none, none, none, none, none] from rfl]
  refine wp_to (fun w => ∃ f', Fd f' ∧ ∃ v : Int, (0 ≤ v ∧ v < 4) ∧ w = [some f', some (.int (v)), none, none, none, none]) ?_ ?_
  · simp [hf]
    refine (draw_ok hf (by decide) (by decide)).draw fun v f h0 h1 hf => ?_
    simp
    exact .mk ⟨f, hf, v, ⟨h0, h1⟩, rfl⟩
  rintro w ⟨f, hf, v, hv, rfl⟩
  refine wp_to (fun w => ∃ f', Fd f' ∧ ∃ o : List Int, IsPerm 6 o ∧ w = [some f', some (.int (v)), some (.own ((o).map D.int)), none, none, none]) ?_ ?_
  · have r6 := rng_L (n := 6) (by omega)
    simp only [Int.cast_ofNat_Int] at r6
    simp [hf, r6]
    refine (shufI_ok (l := intsTo 6) hf (.inl rfl) (by rw [intsTo_len]; omega)).mono ?_
    rintro d os ⟨o, f2, rfl, rfl, p, hf2⟩
    simp
    exact .mk ⟨f2, hf2, o, p, rfl⟩
  rintro w ⟨f, hf, o, ho, rfl⟩
  refine wp_to (fun w => ∃ f', Fd f' ∧ ∃ R : List (List Int), (R.length ≤ 1000 ∧ Rect 6 R) ∧ ∃ x y, w = [some f', some (.int (v)), x, none, some (.tup (rowsD (R))), y]) ?_ ?_
  · by_cases c0 : v = 0
    · subst c0
      simp [hf]
      refine (family_ok (n := 6) hf (by omega) (by omega)).mono ?_
      rintro d os ⟨F, f2, rfl, rfl, hf2, hC⟩
      simp [hf2]
      refine (family_rows_ok (n := 6) hf2 (by omega) hC (.inl rfl)).mono ?_
      rintro d os ⟨R, f3, rfl, rfl, hf3, hl, hr, _⟩
      have ec : ∃ R' : List (List Int), cutD (rowsD R) (some (-40)) none = rowsD R' ∧ R'.length ≤ R.length ∧ ∀ r ∈ R', r ∈ R := by
        unfold cutD
        rw [rowsD_drop, rowsD_take]
        refine ⟨_, rfl, ?_, fun r m => List.mem_of_mem_drop (List.mem_of_mem_take m)⟩
        rw [List.length_take, List.length_drop]; omega
      obtain ⟨R', ec, l1, l2⟩ := ec
      simp [ec]
      exact .mk ⟨f3, hf3, R', ⟨by omega, fun r m => hr r (l2 r m)⟩, _, _, rfl⟩
    · by_cases c1 : v = 1
      · subst c1
        simp [hf]
        refine (draw_ok hf (by decide) (by decide)).draw fun u f h0 h1 hf => ?_
        obtain ⟨t, rfl⟩ : ∃ t : Nat, u = (t : Int) := ⟨u.toNat, by omega⟩
        simp [hf]
        have hw := world_ok (pn := 2) hf ho (by omega) (by omega) (show t ≤ 6 by omega) (by omega)
        refine hw.mono ?_
        rintro d os ⟨R, f2, rfl, rfl, hf2, hl, hW⟩
        simp
        exact .mk ⟨f2, hf2, R, ⟨hl, world_rect hW⟩, _, _, rfl⟩
      · simp [c0, c1, hf]
        refine (draw_ok hf (by decide) (by decide)).draw fun u f h0 h1 hf => ?_
        obtain ⟨t, rfl⟩ : ∃ t : Nat, u = (t : Int) := ⟨u.toNat, by omega⟩
        simp [hf]
        refine (link_ok (n := 6) (p := t) hf ho.ord (by omega) (by omega)).mono ?_
        rintro d os ⟨r, f2, rfl, rfl, hf2, hr, _⟩
        simp
        refine cmp_draw D.int (fun _ _ => True) (fun f => [some f, some (.int (v)), some (.lst ((o).map D.int)), none, none, none]) hf2 rfl (by rw [List.length_map, ho.ord.2.1]; omega) ?_ ?_
        · intro i d f hi hf
          simp [hf]
          refine (draw_ok hf (by decide) (by decide)).draw fun v f h0 h1 hf => ?_
          simp [hf]
        · intro l f w2 hl2 _ hf e el
          simp at e el
          rw [List.length_map, ho.ord.2.1] at hl2
          have er : [D.tup (r.map .int), .tup (l.map .int)] = rowsD [r, l] := rfl
          simp [e, el]
          refine .mk ⟨f, hf, [r, l], ⟨by simp, fun x m => ?_⟩, _, _, rfl⟩
          rcases List.mem_cons.mp m with rfl | m
          · exact hr
          · rw [List.mem_singleton.mp m]; exact hl2
  rintro w ⟨f, hf, R, ⟨hl, hr⟩, x, y, rfl⟩
  refine wp_to (fun w => ∃ f', Fd f' ∧ ∃ u : Int, w = [some f', some (.int (v)), x, some (.int (u)), some (.tup (rowsD (R))), y]) ?_ ?_
  · simp [hf]
    refine (draw_ok hf (by decide) (by decide)).draw fun u f h0 h1 hf => ?_
    simp
    exact .mk ⟨f, hf, u, rfl⟩
  rintro w ⟨f, hf, u, rfl⟩
  by_cases c0 : u = 0
  · rw [wp_Seq]
    have h6 := first_alone_ok (n := 6) (by omega) (by omega) hl hr
    simp [c0]
    refine h6.bq ?_
    try simp
    exact ⟨_, rfl, rfl, hf⟩
  · rw [wp_Seq]
    have h6 := law_asked_ok (n := 6) (c := u) (by omega) (by omega) hl hr
    simp [c0]
    refine h6.dq ?_
    simp
    exact ⟨_, rfl, rfl, hf⟩
end K17

set_option autoImplicit false
namespace K17
open PySem PySem.Spec L2 Pm 
theorem ords3 : ordsL 3 3 = [[0, 1, 2], [0, 2, 1], [1, 0, 2], [1, 2, 0], [2, 0, 1], [2, 1, 0]] := by decide +kernel
theorem rk3 {a b : Int} (ha : 1 ≤ a) (hb : 1 ≤ b) : rkL 3 [[a, -b, 0]] = [[0, 1, 2], [0, 2, 1], [2, 0, 1]] := by
  unfold rkL
  rw [ords3]
  have e0 : atR [a, -b, 0] 0 = a := rfl
  have e1 : atR [a, -b, 0] 1 = -b := rfl
  have e2 : atR [a, -b, 0] 2 = 0 := rfl
  have h0 : ¬ a = 0 := by omega
  have h1 : ¬ -b = 0 := by omega
  have h2 : ¬ a < 0 := by omega
  have h3 : -b < 0 := by omega
  have h4 : ¬ b = 0 := by omega
  have h5 : 0 < b := by omega
  simp [List.filter, fit, bel, e0, e1, e2, h0, h1, h2, h3, h4, h5]
theorem rk_none {n : Nat} (h1 : 1 ≤ n) : 1 ≤ (rkL n []).length := rk_pos (o := intsTo n) ⟨List.Perm.refl _, fit_iff.mpr fun r m => by cases m⟩
def IsB (d : D) : Prop := ∃ b, d = .bl b
theorem law_ok {ns : List Int} {d0 : D} (hd : d0 = .lst (ns.map .int) ∨ d0 = .own (ns.map .int)) : WpR (m_law [d0]) (BlQ true) := by
  refine wpr_mk rfl ?_
  unfold b_law
  rw [show startE 8 [d0] = [some d0, none, none, none, none, none, none, none] from rfl]
  refine wp_to (fun w => ∃ f, Fd f ∧ w = [some (.lst ((ns).map D.int)), some f, none, none, none, none, none, none]) ?_ ?_
  · rcases hd with rfl | rfl
    · simp
      refine (feed_ok (ns := ns)).mono ?_
      rintro d os ⟨hf, rfl⟩
      exact .mk ⟨d, hf, rfl⟩
    · simp
      refine (feed_ok (ns := ns)).mono ?_
      rintro d os ⟨hf, rfl⟩
      exact .mk ⟨d, hf, rfl⟩
  rintro w ⟨f, hf, rfl⟩
  refine wp_to (fun w => ∃ f, Fd f ∧ ∃ n : Nat, (1 ≤ n ∧ n ≤ 5) ∧ w = [some (.lst ((ns).map D.int)), some f, some (.int ((n : Nat))), none, none, none, none, none]) ?_ ?_
  · simp [hf]
    refine (draw_ok hf (by decide) (by decide)).draw fun v f h0 h1 hf => ?_
    obtain ⟨n, en⟩ : ∃ t : Nat, (1 : Int) + v = (t : Int) := ⟨(1 + v).toNat, by omega⟩
    simp [en]
    exact .mk ⟨f, hf, n, by omega, rfl⟩
  rintro w ⟨f, hf, n, hn, rfl⟩
  refine wp_to (fun w => ∃ f, Fd f ∧ ∃ n : Nat, (1 ≤ n ∧ n ≤ 5) ∧ w = [some (.lst ((ns).map D.int)), some f, some (.int ((n : Nat))), none, none, none, none, none]) ?_ ?_
  · simp [hf]
    refine (draw_ok hf (by decide) (by decide)).draw fun v f h0 h1 hf => ?_
    by_cases c : v = 2
    · simp [c]
      exact .mk ⟨f, hf, 5, by omega, rfl⟩
    · simp [c]
      exact .mk ⟨f, hf, n, hn, rfl⟩
  clear hn
  rintro w ⟨f, hf, n, ⟨n1, n5⟩, rfl⟩
  have n6 : n ≤ 6 := by omega
  refine wp_to (fun w => ∃ f, Fd f ∧ ∃ d, IsB d ∧ w = [some (.lst ((ns).map D.int)), some f, some (.int ((n : Nat))), some d, none, none, none, none]) ?_ ?_
  · simp [hf]
    refine (draw_ok hf (by decide) (by decide)).draw fun v f h0 h1 hf => ?_
    simp
    exact .mk ⟨f, hf, _, ⟨_, rfl⟩, rfl⟩
  rintro w ⟨f, hf, _, ⟨wd, rfl⟩, rfl⟩
  refine wp_to (fun w => ∃ f, Fd f ∧ ∃ d, IsB d ∧ w = [some (.lst ((ns).map D.int)), some f, some (.int ((n : Nat))), some (.bl (wd)), some d, none, none, none]) ?_ ?_
  · simp [hf]
    refine (draw_ok hf (by decide) (by decide)).draw fun v f h0 h1 hf => ?_
    simp
    exact .mk ⟨f, hf, _, ⟨_, rfl⟩, rfl⟩
  rintro w ⟨f, hf, _, ⟨lg, rfl⟩, rfl⟩
  refine wp_to (fun w => ∃ f, Fd f ∧ ∃ o : List Int, IsPerm n o ∧ w = [some (.lst ((ns).map D.int)), some f, some (.int ((n : Nat))), some (.bl (wd)), some (.bl (lg)), some (.own ((o).map D.int)), none, none]) ?_ ?_
  · simp [hf, rng_L (n := n) (by omega)]
    refine (shufI_ok (l := intsTo n) hf (.inl rfl) (by rw [intsTo_len]; omega)).mono ?_
    rintro d os ⟨o, f2, rfl, rfl, p, hf2⟩
    simp
    exact .mk ⟨f2, hf2, o, p, rfl⟩
  rintro w ⟨f, hf, o, ho, rfl⟩
  -- rows that the ranking fits
  refine wp_to (fun w => ∃ f, Fd f ∧ w = [some (.lst ((ns).map D.int)), some f, some (.int ((n : Nat))), some (.bl (wd)), some (.bl (lg)), some (.lst ((o).map D.int)), none, none]) ?_ ?_
  · simp [hf]
    refine (draw_ok hf (by decide) (by decide)).draw fun v f h0 h1 hf => ?_
    obtain ⟨t, rfl⟩ : ∃ t : Nat, v = (t : Int) := ⟨v.toNat, by omega⟩
    simp [hf]
    refine (world_ok hf ho n6 n1 (Nat.le_refl n) (show t ≤ 200 by omega)).mono ?_
    rintro d os ⟨R, f2, rfl, rfl, hf2, hl, hW⟩
    simp
    refine (law_asked_ok (c := 0) n1 n6 hl (world_rect hW)).dq ?_
    have := rk_pos (world_yes ho hW)
    have c : ¬ ((rkL n R).length : Int) < 1 := by omega
    have c2 : ¬ (rkL n R).length = 0 := by omega
    simp [c, c2]
    exact .mk ⟨f2, hf2, rfl⟩
  rintro w ⟨f, hf, rfl⟩
  -- rows that none fits
  refine wp_to (fun w => ∃ f, Fd f ∧ w = [some (.lst ((ns).map D.int)), some f, some (.int ((n : Nat))), some (.bl (wd)), some (.bl (lg)), some (.lst ((o).map D.int)), none, none]) ?_ ?_
  · simp [hf]
    refine (draw_ok hf (by omega) (by omega)).draw fun u f h0 h1 hf => ?_
    obtain ⟨q, rfl⟩ : ∃ t : Nat, u = (t : Int) := ⟨u.toNat, by omega⟩
    simp [hf]
    refine (draw_ok hf (by decide) (by decide)).draw fun v f h2 h3 hf => ?_
    obtain ⟨t, rfl⟩ : ∃ t : Nat, v = (t : Int) := ⟨v.toNat, by omega⟩
    simp [hf]
    refine (world_ok hf ho n6 n1 (show q ≤ n by omega) (show t ≤ 200 by omega)).mono ?_
    rintro d os ⟨R, f2, rfl, rfl, hf2, hl, hW⟩
    simp
    refine (law_asked_ok (c := 0) n1 n6 hl (world_rect hW)).dq ?_
    have c := world_no ho (show q < n by omega) hW
    simp [c]
    exact .mk ⟨f2, hf2, rfl⟩
  rintro w ⟨f, hf, rfl⟩
  -- a family
  refine wp_to (fun w => ∃ f, Fd f ∧ ∃ F, FamC n F ∧ w = [some (.lst ((ns).map D.int)), some f, some (.int ((n : Nat))), some (.bl (wd)), some (.bl (lg)), some (.lst ((o).map D.int)), some (.own (rowsD (F))), none]) ?_ ?_
  · simp [hf]
    refine (family_ok hf n6 n1).mono ?_
    rintro d os ⟨F, f2, rfl, rfl, hf2, hC⟩
    simp
    exact .mk ⟨f2, hf2, F, hC, rfl⟩
  rintro w ⟨f, hf, F, hC, rfl⟩
  refine wp_to (fun w => ∃ f, Fd f ∧ ∃ R, (R.length ≤ 384 ∧ Rect n R ∧ FRows n F R) ∧ w = [some (.lst ((ns).map D.int)), some f, some (.int ((n : Nat))), some (.bl (wd)), some (.bl (lg)), some (.lst ((o).map D.int)), some (.lst (rowsD (F))), some (.tup (rowsD (R)))]) ?_ ?_
  · simp [hf]
    refine (family_rows_ok hf n6 hC (.inr rfl)).mono ?_
    rintro d os ⟨R, f3, rfl, rfl, hf3, hl, hr, hR⟩
    simp
    exact .mk ⟨f3, hf3, R, ⟨hl, hr, hR⟩, rfl⟩
  rintro w ⟨f, hf, R, ⟨hl, hr, hR⟩, rfl⟩
  have hl2 : R.length ≤ 1000 := by omega
  refine wp_to (fun w => w = [some (.lst ((ns).map D.int)), some f, some (.int ((n : Nat))), some (.bl (wd)), some (.bl (lg)), some (.lst ((o).map D.int)), some (.lst (rowsD (F))), some (.tup (rowsD (R)))]) ?_ ?_
  · simp
    refine (feasible_of_ok n6 hl2 hr).mono ?_
    rintro d os ⟨rfl, G, rfl, hG⟩
    rw [hG.uniq (hR.fea hC)]
    try simp
    obtain ⟨g1, g2⟩ := (hR.fea hC).len n6
    refine (same_all_ok (.inr rfl) (by omega) g2).bq ?_
    simp
    refine (law_asked_ok (c := 0) n1 n6 hl2 hr).dq ?_
    have := hR.rk hC
    have c : ¬ ((rkL n R).length : Int) < 1 := by omega
    have c2 : ¬ (rkL n R).length = 0 := by omega
    simp [c, c2]
    exact .mk rfl
  rintro w rfl
  -- no rows
  refine wp_to (fun w => w = [some (.lst ((ns).map D.int)), some f, some (.int ((n : Nat))), some (.bl (wd)), some (.bl (lg)), some (.lst ((o).map D.int)), some (.lst (rowsD (F))), some (.tup (rowsD (R)))]) ?_ ?_
  · have e := law_asked_ok (n := n) (rows := []) (c := 0) n1 n6 (by simp) (fun r m => by cases m)
    have := rk_none n1
    have c : ¬ ((rkL n []).length : Int) < 1 := by omega
    have c2 : ¬ (rkL n []).length = 0 := by omega
    have er : rowsD [] = [] := rfl
    rw [er] at e
    simp
    refine e.dq ?_
    simp [c, c2]
    exact .mk rfl
  rintro w rfl
  -- one row
  refine wp_to (fun w => ∃ f, Fd f ∧ ∃ a b : Int, (1 ≤ a ∧ 1 ≤ b) ∧ w = [some (.lst ((ns).map D.int)), some f, some (.int ((n : Nat))), some (.bl (wd)), some (.bl (lg)), some (.lst ((o).map D.int)), some (.lst (rowsD (F))), some (.tup (rowsD ([[a, -b, 0]])))]) ?_ ?_
  · simp [hf]
    refine (size_ok hf).size fun a f h0 h1 hf => ?_
    simp [hf]
    refine (size_ok hf).size fun b f h2 h3 hf => ?_
    simp
    exact .mk ⟨f, hf, a, b, ⟨h0, h2⟩, rfl⟩
  rintro w ⟨f, hf, a, b, ⟨ha, hb⟩, rfl⟩
  have r3 : Rect 3 [[a, -b, 0]] := fun r m => by rw [List.mem_singleton.mp m]; rfl
  have k3 := rk3 ha hb
  refine wp_to (fun w => w = [some (.lst ((ns).map D.int)), some f, some (.int ((n : Nat))), some (.bl (wd)), some (.bl (lg)), some (.lst ((o).map D.int)), some (.lst (rowsD (F))), some (.tup (rowsD ([[a, -b, 0]])))]) ?_ ?_
  · have e1 := first_ranking_ok (n := 3) (rows := [[a, -b, 0]]) (by omega) (by simp) r3
    have e2 := law_asked_ok (n := 3) (rows := [[a, -b, 0]]) (c := 0) (by omega) (by omega) (by simp) r3
    have e3 := same_row (r := [0, 1, 2]) (by simp)
    rw [k3] at e1 e2
    simp
    refine e1.dq ?_
    simp [fstR]
    refine e3.bq ?_
    simp
    refine e2.dq ?_
    simp
    exact .mk rfl
  rintro w rfl
  refine wp_to (fun w => ∃ f, Fd f ∧ w = [some (.lst ((ns).map D.int)), some f, some (.int ((n : Nat))), some (.bl (wd)), some (.bl (lg)), some (.lst ((o).map D.int)), some (.lst (rowsD (F))), some (.tup (rowsD ([[a, -b, 0]])))]) ?_ ?_
  · cases lg with
    | false =>
      simp
      exact .mk ⟨f, hf, rfl⟩
    | true =>
      simp [hf]
      refine (long_ok hf).mono ?_
      rintro d os ⟨f2, rfl, rfl, hf2⟩
      simp
      exact .mk ⟨f2, hf2, rfl⟩
  rintro w ⟨f, hf, rfl⟩
  cases wd with
  | false => simp [BlQ]
  | true =>
    simp [hf]
    refine (wide_ok hf).mono ?_
    rintro d os ⟨f2, rfl, rfl, hf2⟩
    simp [BlQ]
theorem law_hl {ns : List Int} : ∃ d os, m_law [.lst (ns.map .int)] = .ok d os ∧ d = .bl true ∧ os = [] := law_ok (.inl rfl)
theorem law_ho {ns : List Int} : ∃ d os, m_law [.own (ns.map .int)] = .ok d os ∧ d = .bl true ∧ os = [] := law_ok (.inr rfl)
end K17

set_option autoImplicit false
namespace K17
open PySem PySem.Spec L2 Pm PyProof.Rows
theorem all_mk {l : PySem.W.OpenLaw} {w : PySem.World} {K : PySem.W.Frag} {h : Heap} {mg : Str → Option Value} {fa f0 f1 f2 f3 f4 f5 f6 f7 f8 f9 f10 f11 f12 f13 f14 f15 f16 f17 f18 f19 f20 f21 f22 f23 f24 f25 f26 f27 f28 f29 f30 f31 f32 f33 f34 : Addr} (X : K.In h) (G : h.Ns mainGlobals mg) (hfa : mg "law" = some (.ref fa))
    {od0 an0 od1 an1 od2 an2 od3 an3 od4 an4 od5 an5 od6 an6 od7 an7 od8 an8 od9 an9 od10 an10 od11 an11 od12 an12 od13 an13 od14 an14 od15 an15 od16 an16 od17 an17 od18 an18 od19 an19 od20 an20 od21 an21 od22 an22 od23 an23 od24 an24 od25 an25 od26 an26 od27 an27 od28 an28 od29 an29 od30 an30 od31 an31 od32 an32 od33 an33 od34 an34 : Option Addr} {sl0 sl1 sl2 sl3 sl4 sl5 sl6 sl7 sl8 sl9 sl10 sl11 sl12 sl13 sl14 sl15 sl16 sl17 sl18 sl19 sl20 sl21 sl22 sl23 sl24 sl25 sl26 sl27 sl28 sl29 sl30 sl31 sl32 sl33 sl34 : Array (Option Value)} {oc0 kV0 dc0 pm0 cd0 ct0 oc1 kV1 dc1 pm1 cd1 ct1 oc2 kV2 dc2 pm2 cd2 ct2 oc3 kV3 dc3 pm3 cd3 ct3 oc4 kV4 dc4 pm4 cd4 ct4 oc5 kV5 dc5 pm5 cd5 ct5 oc6 kV6 dc6 pm6 cd6 ct6 oc7 kV7 dc7 pm7 cd7 ct7 oc8 kV8 dc8 pm8 cd8 ct8 oc9 kV9 dc9 pm9 cd9 ct9 oc10 kV10 dc10 pm10 cd10 ct10 oc11 kV11 dc11 pm11 cd11 ct11 oc12 kV12 dc12 pm12 cd12 ct12 oc13 kV13 dc13 pm13 cd13 ct13 oc14 kV14 dc14 pm14 cd14 ct14 oc15 kV15 dc15 pm15 cd15 ct15 oc16 kV16 dc16 pm16 cd16 ct16 oc17 kV17 dc17 pm17 cd17 ct17 oc18 kV18 dc18 pm18 cd18 ct18 oc19 kV19 dc19 pm19 cd19 ct19 oc20 kV20 dc20 pm20 cd20 ct20 oc21 kV21 dc21 pm21 cd21 ct21 oc22 kV22 dc22 pm22 cd22 ct22 oc23 kV23 dc23 pm23 cd23 ct23 oc24 kV24 dc24 pm24 cd24 ct24 oc25 kV25 dc25 pm25 ct25 oc26 kV26 dc26 pm26 cd26 ct26 oc27 kV27 dc27 pm27 cd27 ct27 oc28 kV28 dc28 pm28 cd28 ct28 oc29 kV29 dc29 pm29 cd29 ct29 oc30 kV30 dc30 pm30 cd30 ct30 oc31 kV31 dc31 pm31 cd31 ct31 oc32 kV32 dc32 pm32 cd32 ct32 oc33 kV33 dc33 pm33 cd33 ct33 oc34 kV34 dc34 pm34 cd34 ct34 : Value}
    {cc25 : Addr} (tb25 : Addr)
    (a0 : PySem.W.nsIn K mainGlobals "is_nought" = some (some (.ref f0))) (l0 : K.lookup f0 = some ⟨oc0, od0, .func (PySem.W.fnOf "is_nought" "is_nought" (defArgs s_is_nought) (defBody s_is_nought) (defScope s_is_nought) .none kV0 dc0 pm0 an0 cd0 ct0), sl0⟩) (c0 : PySem.W.codeIn K cd0 "is_nought" = true) (k0 : PySem.W.keepIn K (.ref f0) = true)
    (a1 : PySem.W.nsIn K mainGlobals "grown_sets" = some (some (.ref f1))) (l1 : K.lookup f1 = some ⟨oc1, od1, .func (PySem.W.fnOf "grown_sets" "grown_sets" (defArgs s_grown_sets) (defBody s_grown_sets) (defScope s_grown_sets) .none kV1 dc1 pm1 an1 cd1 ct1), sl1⟩) (c1 : PySem.W.codeIn K cd1 "grown_sets" = true) (k1 : PySem.W.keepIn K (.ref f1) = true)
    (a2 : PySem.W.nsIn K mainGlobals "rankings_by" = some (some (.ref f2))) (l2 : K.lookup f2 = some ⟨oc2, od2, .func (PySem.W.fnOf "rankings_by" "rankings_by" (defArgs s_rankings_by) (defBody s_rankings_by) (defScope s_rankings_by) .none kV2 dc2 pm2 an2 cd2 ct2), sl2⟩) (c2 : PySem.W.codeIn K cd2 "rankings_by" = true) (k2 : PySem.W.keepIn K (.ref f2) = true)
    (a3 : PySem.W.nsIn K mainGlobals "number_by" = some (some (.ref f3))) (l3 : K.lookup f3 = some ⟨oc3, od3, .func (PySem.W.fnOf "number_by" "number_by" (defArgs s_number_by) (defBody s_number_by) (defScope s_number_by) .none kV3 dc3 pm3 an3 cd3 ct3), sl3⟩) (c3 : PySem.W.codeIn K cd3 "number_by" = true) (k3 : PySem.W.keepIn K (.ref f3) = true)
    (a4 : PySem.W.nsIn K mainGlobals "first_by" = some (some (.ref f4))) (l4 : K.lookup f4 = some ⟨oc4, od4, .func (PySem.W.fnOf "first_by" "first_by" (defArgs s_first_by) (defBody s_first_by) (defScope s_first_by) .none kV4 dc4 pm4 an4 cd4 ct4), sl4⟩) (c4 : PySem.W.codeIn K cd4 "first_by" = true) (k4 : PySem.W.keepIn K (.ref f4) = true)
    (a5 : PySem.W.nsIn K mainGlobals "_law_feed" = some (some (.ref f5))) (l5 : K.lookup f5 = some ⟨oc5, od5, .func (PySem.W.fnOf "_law_feed" "_law_feed" (defArgs s_law_feed) (defBody s_law_feed) (defScope s_law_feed) .none kV5 dc5 pm5 an5 cd5 ct5), sl5⟩) (c5 : PySem.W.codeIn K cd5 "_law_feed" = true) (k5 : PySem.W.keepIn K (.ref f5) = true)
    (a6 : PySem.W.nsIn K mainGlobals "_law_draw" = some (some (.ref f6))) (l6 : K.lookup f6 = some ⟨oc6, od6, .func (PySem.W.fnOf "_law_draw" "_law_draw" (defArgs s_law_draw) (defBody s_law_draw) (defScope s_law_draw) .none kV6 dc6 pm6 an6 cd6 ct6), sl6⟩) (c6 : PySem.W.codeIn K cd6 "_law_draw" = true) (k6 : PySem.W.keepIn K (.ref f6) = true)
    (a7 : PySem.W.nsIn K mainGlobals "_law_joined" = some (some (.ref f7))) (l7 : K.lookup f7 = some ⟨oc7, od7, .func (PySem.W.fnOf "_law_joined" "_law_joined" (defArgs s_law_joined) (defBody s_law_joined) (defScope s_law_joined) .none kV7 dc7 pm7 an7 cd7 ct7), sl7⟩) (c7 : PySem.W.codeIn K cd7 "_law_joined" = true) (k7 : PySem.W.keepIn K (.ref f7) = true)
    (a8 : PySem.W.nsIn K mainGlobals "_law_is_below" = some (some (.ref f8))) (l8 : K.lookup f8 = some ⟨oc8, od8, .func (PySem.W.fnOf "_law_is_below" "_law_is_below" (defArgs s_law_is_below) (defBody s_law_is_below) (defScope s_law_is_below) .none kV8 dc8 pm8 an8 cd8 ct8), sl8⟩) (c8 : PySem.W.codeIn K cd8 "_law_is_below" = true) (k8 : PySem.W.keepIn K (.ref f8) = true)
    (a9 : PySem.W.nsIn K mainGlobals "_law_orders" = some (some (.ref f9))) (l9 : K.lookup f9 = some ⟨oc9, od9, .func (PySem.W.fnOf "_law_orders" "_law_orders" (defArgs s_law_orders) (defBody s_law_orders) (defScope s_law_orders) .none kV9 dc9 pm9 an9 cd9 ct9), sl9⟩) (c9 : PySem.W.codeIn K cd9 "_law_orders" = true) (k9 : PySem.W.keepIn K (.ref f9) = true)
    (a10 : PySem.W.nsIn K mainGlobals "_law_bars" = some (some (.ref f10))) (l10 : K.lookup f10 = some ⟨oc10, od10, .func (PySem.W.fnOf "_law_bars" "_law_bars" (defArgs s_law_bars) (defBody s_law_bars) (defScope s_law_bars) .none kV10 dc10 pm10 an10 cd10 ct10), sl10⟩) (c10 : PySem.W.codeIn K cd10 "_law_bars" = true) (k10 : PySem.W.keepIn K (.ref f10) = true)
    (a11 : PySem.W.nsIn K mainGlobals "_law_same" = some (some (.ref f11))) (l11 : K.lookup f11 = some ⟨oc11, od11, .func (PySem.W.fnOf "_law_same" "_law_same" (defArgs s_law_same) (defBody s_law_same) (defScope s_law_same) .none kV11 dc11 pm11 an11 cd11 ct11), sl11⟩) (c11 : PySem.W.codeIn K cd11 "_law_same" = true) (k11 : PySem.W.keepIn K (.ref f11) = true)
    (a12 : PySem.W.nsIn K mainGlobals "free_rules" = some (some (.ref f12))) (l12 : K.lookup f12 = some ⟨oc12, od12, .func (PySem.W.fnOf "free_rules" "free_rules" (defArgs s_free_rules) (defBody s_free_rules) (defScope s_free_rules) .none kV12 dc12 pm12 an12 cd12 ct12), sl12⟩) (c12 : PySem.W.codeIn K cd12 "free_rules" = true) (k12 : PySem.W.keepIn K (.ref f12) = true)
    (a13 : PySem.W.nsIn K mainGlobals "_law_shuffled" = some (some (.ref f13))) (l13 : K.lookup f13 = some ⟨oc13, od13, .func (PySem.W.fnOf "_law_shuffled" "_law_shuffled" (defArgs s_law_shuffled) (defBody s_law_shuffled) (defScope s_law_shuffled) .none kV13 dc13 pm13 an13 cd13 ct13), sl13⟩) (c13 : PySem.W.codeIn K cd13 "_law_shuffled" = true) (k13 : PySem.W.keepIn K (.ref f13) = true)
    (a14 : PySem.W.nsIn K mainGlobals "_law_size" = some (some (.ref f14))) (l14 : K.lookup f14 = some ⟨oc14, od14, .func (PySem.W.fnOf "_law_size" "_law_size" (defArgs s_law_size) (defBody s_law_size) (defScope s_law_size) .none kV14 dc14 pm14 an14 cd14 ct14), sl14⟩) (c14 : PySem.W.codeIn K cd14 "_law_size" = true) (k14 : PySem.W.keepIn K (.ref f14) = true)
    (a15 : PySem.W.nsIn K mainGlobals "_law_fits" = some (some (.ref f15))) (l15 : K.lookup f15 = some ⟨oc15, od15, .func (PySem.W.fnOf "_law_fits" "_law_fits" (defArgs s_law_fits) (defBody s_law_fits) (defScope s_law_fits) .none kV15 dc15 pm15 an15 cd15 ct15), sl15⟩) (c15 : PySem.W.codeIn K cd15 "_law_fits" = true) (k15 : PySem.W.keepIn K (.ref f15) = true)
    (a16 : PySem.W.nsIn K mainGlobals "_law_feasible" = some (some (.ref f16))) (l16 : K.lookup f16 = some ⟨oc16, od16, .func (PySem.W.fnOf "_law_feasible" "_law_feasible" (defArgs s_law_feasible) (defBody s_law_feasible) (defScope s_law_feasible) .none kV16 dc16 pm16 an16 cd16 ct16), sl16⟩) (c16 : PySem.W.codeIn K cd16 "_law_feasible" = true) (k16 : PySem.W.keepIn K (.ref f16) = true)
    (a17 : PySem.W.nsIn K mainGlobals "_law_same_all" = some (some (.ref f17))) (l17 : K.lookup f17 = some ⟨oc17, od17, .func (PySem.W.fnOf "_law_same_all" "_law_same_all" (defArgs s_law_same_all) (defBody s_law_same_all) (defScope s_law_same_all) .none kV17 dc17 pm17 an17 cd17 ct17), sl17⟩) (c17 : PySem.W.codeIn K cd17 "_law_same_all" = true) (k17 : PySem.W.keepIn K (.ref f17) = true)
    (a18 : PySem.W.nsIn K mainGlobals "_law_lead" = some (some (.ref f18))) (l18 : K.lookup f18 = some ⟨oc18, od18, .func (PySem.W.fnOf "_law_lead" "_law_lead" (defArgs s_law_lead) (defBody s_law_lead) (defScope s_law_lead) .none kV18 dc18 pm18 an18 cd18 ct18), sl18⟩) (c18 : PySem.W.codeIn K cd18 "_law_lead" = true) (k18 : PySem.W.keepIn K (.ref f18) = true)
    (a19 : PySem.W.nsIn K mainGlobals "_law_link" = some (some (.ref f19))) (l19 : K.lookup f19 = some ⟨oc19, od19, .func (PySem.W.fnOf "_law_link" "_law_link" (defArgs s_law_link) (defBody s_law_link) (defScope s_law_link) .none kV19 dc19 pm19 an19 cd19 ct19), sl19⟩) (c19 : PySem.W.codeIn K cd19 "_law_link" = true) (k19 : PySem.W.keepIn K (.ref f19) = true)
    (a20 : PySem.W.nsIn K mainGlobals "_law_bar_row" = some (some (.ref f20))) (l20 : K.lookup f20 = some ⟨oc20, od20, .func (PySem.W.fnOf "_law_bar_row" "_law_bar_row" (defArgs s_law_bar_row) (defBody s_law_bar_row) (defScope s_law_bar_row) .none kV20 dc20 pm20 an20 cd20 ct20), sl20⟩) (c20 : PySem.W.codeIn K cd20 "_law_bar_row" = true) (k20 : PySem.W.keepIn K (.ref f20) = true)
    (a21 : PySem.W.nsIn K mainGlobals "_law_family" = some (some (.ref f21))) (l21 : K.lookup f21 = some ⟨oc21, od21, .func (PySem.W.fnOf "_law_family" "_law_family" (defArgs s_law_family) (defBody s_law_family) (defScope s_law_family) .none kV21 dc21 pm21 an21 cd21 ct21), sl21⟩) (c21 : PySem.W.codeIn K cd21 "_law_family" = true) (k21 : PySem.W.keepIn K (.ref f21) = true)
    (a22 : PySem.W.nsIn K mainGlobals "_law_family_rows" = some (some (.ref f22))) (l22 : K.lookup f22 = some ⟨oc22, od22, .func (PySem.W.fnOf "_law_family_rows" "_law_family_rows" (defArgs s_law_family_rows) (defBody s_law_family_rows) (defScope s_law_family_rows) .none kV22 dc22 pm22 an22 cd22 ct22), sl22⟩) (c22 : PySem.W.codeIn K cd22 "_law_family_rows" = true) (k22 : PySem.W.keepIn K (.ref f22) = true)
    (a23 : PySem.W.nsIn K mainGlobals "_law_rankings" = some (some (.ref f23))) (l23 : K.lookup f23 = some ⟨oc23, od23, .func (PySem.W.fnOf "_law_rankings" "_law_rankings" (defArgs s_law_rankings) (defBody s_law_rankings) (defScope s_law_rankings) .none kV23 dc23 pm23 an23 cd23 ct23), sl23⟩) (c23 : PySem.W.codeIn K cd23 "_law_rankings" = true) (k23 : PySem.W.keepIn K (.ref f23) = true)
    (a24 : PySem.W.nsIn K mainGlobals "_law_world" = some (some (.ref f24))) (l24 : K.lookup f24 = some ⟨oc24, od24, .func (PySem.W.fnOf "_law_world" "_law_world" (defArgs s_law_world) (defBody s_law_world) (defScope s_law_world) .none kV24 dc24 pm24 an24 cd24 ct24), sl24⟩) (c24 : PySem.W.codeIn K cd24 "_law_world" = true) (k24 : PySem.W.keepIn K (.ref f24) = true)
    (a25 : PySem.W.nsIn K mainGlobals "row_sets" = some (some (.ref f25))) (l25 : K.lookup f25 = some ⟨oc25, od25, .func (PySem.W.fnOf "row_sets" "row_sets" (defArgs s_row_sets) (defBody s_row_sets) (defScope s_row_sets) .none kV25 dc25 pm25 an25 (.ref cc25) ct25), sl25⟩) (c25 : PySem.W.codeIn K (.ref cc25) "row_sets" = true) (k25 : PySem.W.keepIn K (.ref f25) = true)
    (a26 : PySem.W.nsIn K mainGlobals "feasible_of" = some (some (.ref f26))) (l26 : K.lookup f26 = some ⟨oc26, od26, .func (PySem.W.fnOf "feasible_of" "feasible_of" (defArgs s_feasible_of) (defBody s_feasible_of) (defScope s_feasible_of) .none kV26 dc26 pm26 an26 cd26 ct26), sl26⟩) (c26 : PySem.W.codeIn K cd26 "feasible_of" = true) (k26 : PySem.W.keepIn K (.ref f26) = true)
    (a27 : PySem.W.nsIn K mainGlobals "all_rankings" = some (some (.ref f27))) (l27 : K.lookup f27 = some ⟨oc27, od27, .func (PySem.W.fnOf "all_rankings" "all_rankings" (defArgs s_all_rankings) (defBody s_all_rankings) (defScope s_all_rankings) .none kV27 dc27 pm27 an27 cd27 ct27), sl27⟩) (c27 : PySem.W.codeIn K cd27 "all_rankings" = true) (k27 : PySem.W.keepIn K (.ref f27) = true)
    (a28 : PySem.W.nsIn K mainGlobals "ranking_number" = some (some (.ref f28))) (l28 : K.lookup f28 = some ⟨oc28, od28, .func (PySem.W.fnOf "ranking_number" "ranking_number" (defArgs s_ranking_number) (defBody s_ranking_number) (defScope s_ranking_number) .none kV28 dc28 pm28 an28 cd28 ct28), sl28⟩) (c28 : PySem.W.codeIn K cd28 "ranking_number" = true) (k28 : PySem.W.keepIn K (.ref f28) = true)
    (a29 : PySem.W.nsIn K mainGlobals "first_ranking" = some (some (.ref f29))) (l29 : K.lookup f29 = some ⟨oc29, od29, .func (PySem.W.fnOf "first_ranking" "first_ranking" (defArgs s_first_ranking) (defBody s_first_ranking) (defScope s_first_ranking) .none kV29 dc29 pm29 an29 cd29 ct29), sl29⟩) (c29 : PySem.W.codeIn K cd29 "first_ranking" = true) (k29 : PySem.W.keepIn K (.ref f29) = true)
    (a30 : PySem.W.nsIn K mainGlobals "_law_asked" = some (some (.ref f30))) (l30 : K.lookup f30 = some ⟨oc30, od30, .func (PySem.W.fnOf "_law_asked" "_law_asked" (defArgs s_law_asked) (defBody s_law_asked) (defScope s_law_asked) .none kV30 dc30 pm30 an30 cd30 ct30), sl30⟩) (c30 : PySem.W.codeIn K cd30 "_law_asked" = true) (k30 : PySem.W.keepIn K (.ref f30) = true)
    (a31 : PySem.W.nsIn K mainGlobals "_law_first_alone" = some (some (.ref f31))) (l31 : K.lookup f31 = some ⟨oc31, od31, .func (PySem.W.fnOf "_law_first_alone" "_law_first_alone" (defArgs s_law_first_alone) (defBody s_law_first_alone) (defScope s_law_first_alone) .none kV31 dc31 pm31 an31 cd31 ct31), sl31⟩) (c31 : PySem.W.codeIn K cd31 "_law_first_alone" = true) (k31 : PySem.W.keepIn K (.ref f31) = true)
    (a32 : PySem.W.nsIn K mainGlobals "_law_long" = some (some (.ref f32))) (l32 : K.lookup f32 = some ⟨oc32, od32, .func (PySem.W.fnOf "_law_long" "_law_long" (defArgs s_law_long) (defBody s_law_long) (defScope s_law_long) .none kV32 dc32 pm32 an32 cd32 ct32), sl32⟩) (c32 : PySem.W.codeIn K cd32 "_law_long" = true) (k32 : PySem.W.keepIn K (.ref f32) = true)
    (a33 : PySem.W.nsIn K mainGlobals "_law_wide" = some (some (.ref f33))) (l33 : K.lookup f33 = some ⟨oc33, od33, .func (PySem.W.fnOf "_law_wide" "_law_wide" (defArgs s_law_wide) (defBody s_law_wide) (defScope s_law_wide) .none kV33 dc33 pm33 an33 cd33 ct33), sl33⟩) (c33 : PySem.W.codeIn K cd33 "_law_wide" = true) (k33 : PySem.W.keepIn K (.ref f33) = true)
    (a34 : PySem.W.nsIn K mainGlobals "law" = some (some (.ref f34))) (l34 : K.lookup f34 = some ⟨oc34, od34, .func (PySem.W.fnOf "law" "law" (defArgs s_law) (defBody s_law) (defScope s_law) .none kV34 dc34 pm34 an34 cd34 ct34), sl34⟩) (c34 : PySem.W.codeIn K cd34 "law" = true) (k34 : PySem.W.keepIn K (.ref f34) = true)
    (z_bool : PySem.W.nsIn K mainGlobals "bool" = some none)
    (z_int : PySem.W.nsIn K mainGlobals "int" = some none)
    (z_isinstance : PySem.W.nsIn K mainGlobals "isinstance" = some none)
    (z_len : PySem.W.nsIn K mainGlobals "len" = some none)
    (z_list : PySem.W.nsIn K mainGlobals "list" = some none)
    (z_min : PySem.W.nsIn K mainGlobals "min" = some none)
    (z_range : PySem.W.nsIn K mainGlobals "range" = some none)
    (z_sorted : PySem.W.nsIn K mainGlobals "sorted" = some none)
    (z_tuple : PySem.W.nsIn K mainGlobals "tuple" = some none)
    (q25 : PySem.W.codeHdIn K cc25 tb25 = true) (n25 : K.lookup tb25 = none) (e25 : h.get? tb25 = some { cls := .none, data := .fields #[] })
    : LamX.LawAtS l w K CX0 9 63 "script" mg fa h := by
  have e := hfa.symm.trans (PySem.W.mg_of X G a34)
  cases e
  have F0 := fun_mk (st := s_is_nought) l0 c0 k0
  have b0 := F0.binds (ps := ["row", "some"]) fun _ _ _ _ _ _ us hl => match us, hl with | [_, _], _ => rfl
  have F1 := fun_mk (st := s_grown_sets) l1 c1 k1
  have b1 := F1.binds (ps := ["free_at"]) fun _ _ _ _ _ _ us hl => match us, hl with | [_], _ => rfl
  have F2 := fun_mk (st := s_rankings_by) l2 c2 k2
  have b2 := F2.binds (ps := ["many", "sets"]) fun _ _ _ _ _ _ us hl => match us, hl with | [_, _], _ => rfl
  have F3 := fun_mk (st := s_number_by) l3 c3 k3
  have b3 := F3.binds (ps := ["many", "sets"]) fun _ _ _ _ _ _ us hl => match us, hl with | [_, _], _ => rfl
  have F4 := fun_mk (st := s_first_by) l4 c4 k4
  have b4 := F4.binds (ps := ["many", "sets"]) fun _ _ _ _ _ _ us hl => match us, hl with | [_, _], _ => rfl
  have F5 := fun_mk (st := s_law_feed) l5 c5 k5
  have b5 := F5.binds (ps := ["script"]) fun _ _ _ _ _ _ us hl => match us, hl with | [_], _ => rfl
  have F6 := fun_mk (st := s_law_draw) l6 c6 k6
  have b6 := F6.binds (ps := ["feed", "many"]) fun _ _ _ _ _ _ us hl => match us, hl with | [_, _], _ => rfl
  have F7 := fun_mk (st := s_law_joined) l7 c7 k7
  have b7 := F7.binds (ps := ["one", "other"]) fun _ _ _ _ _ _ us hl => match us, hl with | [_, _], _ => rfl
  have F8 := fun_mk (st := s_law_is_below) l8 c8 k8
  have b8 := F8.binds (ps := ["row", "order"]) fun _ _ _ _ _ _ us hl => match us, hl with | [_, _], _ => rfl
  have F9 := fun_mk (st := s_law_orders) l9 c9 k9
  have b9 := F9.binds (ps := ["many"]) fun _ _ _ _ _ _ us hl => match us, hl with | [_], _ => rfl
  have F10 := fun_mk (st := s_law_bars) l10 c10 k10
  have b10 := F10.binds (ps := ["rows", "some", "rule"]) fun _ _ _ _ _ _ us hl => match us, hl with | [_, _, _], _ => rfl
  have F11 := fun_mk (st := s_law_same) l11 c11 k11
  have b11 := F11.binds (ps := ["told", "due"]) fun _ _ _ _ _ _ us hl => match us, hl with | [_, _], _ => rfl
  have F12 := fun_mk (st := s_free_rules) l12 c12 k12
  have b12 := F12.binds (ps := ["many", "rows", "some"]) fun _ _ _ _ _ _ us hl => match us, hl with | [_, _, _], _ => rfl
  have F13 := fun_mk (st := s_law_shuffled) l13 c13 k13
  have b13 := F13.binds (ps := ["feed", "things"]) fun _ _ _ _ _ _ us hl => match us, hl with | [_, _], _ => rfl
  have F14 := fun_mk (st := s_law_size) l14 c14 k14
  have b14 := F14.binds (ps := ["feed"]) fun _ _ _ _ _ _ us hl => match us, hl with | [_], _ => rfl
  have F15 := fun_mk (st := s_law_fits) l15 c15 k15
  have b15 := F15.binds (ps := ["rows", "order"]) fun _ _ _ _ _ _ us hl => match us, hl with | [_, _], _ => rfl
  have F16 := fun_mk (st := s_law_feasible) l16 c16 k16
  have b16 := F16.binds (ps := ["many", "rows"]) fun _ _ _ _ _ _ us hl => match us, hl with | [_, _], _ => rfl
  have F17 := fun_mk (st := s_law_same_all) l17 c17 k17
  have b17 := F17.binds (ps := ["told", "due"]) fun _ _ _ _ _ _ us hl => match us, hl with | [_, _], _ => rfl
  have F18 := fun_mk (st := s_law_lead) l18 c18 k18
  have b18 := F18.binds (ps := ["feed", "order", "place"]) fun _ _ _ _ _ _ us hl => match us, hl with | [_, _, _], _ => rfl
  have F19 := fun_mk (st := s_law_link) l19 c19 k19
  have b19 := F19.binds (ps := ["feed", "order", "place"]) fun _ _ _ _ _ _ us hl => match us, hl with | [_, _, _], _ => rfl
  have F20 := fun_mk (st := s_law_bar_row) l20 c20 k20
  have b20 := F20.binds (ps := ["feed", "order", "top", "rule"]) fun _ _ _ _ _ _ us hl => match us, hl with | [_, _, _, _], _ => rfl
  have F21 := fun_mk (st := s_law_family) l21 c21 k21
  have b21 := F21.binds (ps := ["feed", "many"]) fun _ _ _ _ _ _ us hl => match us, hl with | [_, _], _ => rfl
  have F22 := fun_mk (st := s_law_family_rows) l22 c22 k22
  have b22 := F22.binds (ps := ["feed", "many", "sets"]) fun _ _ _ _ _ _ us hl => match us, hl with | [_, _, _], _ => rfl
  have F23 := fun_mk (st := s_law_rankings) l23 c23 k23
  have b23 := F23.binds (ps := ["many", "rows"]) fun _ _ _ _ _ _ us hl => match us, hl with | [_, _], _ => rfl
  have F24 := fun_mk (st := s_law_world) l24 c24 k24
  have b24 := F24.binds (ps := ["feed", "order", "top", "plain"]) fun _ _ _ _ _ _ us hl => match us, hl with | [_, _, _, _], _ => rfl
  have F25 := fun_mk (st := s_row_sets) l25 c25 k25
  have b25 := F25.binds (ps := ["many", "rows"]) fun _ _ _ _ _ _ us hl => match us, hl with | [_, _], _ => rfl
  have F26 := fun_mk (st := s_feasible_of) l26 c26 k26
  have b26 := F26.binds (ps := ["many", "rows"]) fun _ _ _ _ _ _ us hl => match us, hl with | [_, _], _ => rfl
  have F27 := fun_mk (st := s_all_rankings) l27 c27 k27
  have b27 := F27.binds (ps := ["many", "rows"]) fun _ _ _ _ _ _ us hl => match us, hl with | [_, _], _ => rfl
  have F28 := fun_mk (st := s_ranking_number) l28 c28 k28
  have b28 := F28.binds (ps := ["many", "rows"]) fun _ _ _ _ _ _ us hl => match us, hl with | [_, _], _ => rfl
  have F29 := fun_mk (st := s_first_ranking) l29 c29 k29
  have b29 := F29.binds (ps := ["many", "rows"]) fun _ _ _ _ _ _ us hl => match us, hl with | [_, _], _ => rfl
  have F30 := fun_mk (st := s_law_asked) l30 c30 k30
  have b30 := F30.binds (ps := ["many", "rows", "only"]) fun _ _ _ _ _ _ us hl => match us, hl with | [_, _, _], _ => rfl
  have F31 := fun_mk (st := s_law_first_alone) l31 c31 k31
  have b31 := F31.binds (ps := ["many", "rows"]) fun _ _ _ _ _ _ us hl => match us, hl with | [_, _], _ => rfl
  have F32 := fun_mk (st := s_law_long) l32 c32 k32
  have b32 := F32.binds (ps := ["feed"]) fun _ _ _ _ _ _ us hl => match us, hl with | [_], _ => rfl
  have F33 := fun_mk (st := s_law_wide) l33 c33 k33
  have b33 := F33.binds (ps := ["feed"]) fun _ _ _ _ _ _ us hl => match us, hl with | [_], _ => rfl
  have F34 := fun_mk (st := s_law) l34 c34 k34
  have b34 := F34.binds (ps := ["script"]) fun _ _ _ _ _ _ us hl => match us, hl with | [_], _ => rfl
  refine' ⟨_, [(cc25, tb25)], @spP () (JT [(tb25, lamQ "row_sets" s_row_sets)]) K 1 [] m_law, ?ct, ?cn, ?cq, ?cb, ?cs, ?cF⟩
  case cF =>
    intro base _ _ hTB
    letI : Tab0 () := JT [(tb25, lamQ "row_sets" s_row_sets)]
    refine ok_law (⟨⟨_, _, F0, b0, PySem.W.mg_of X G a0⟩,
    ⟨_, _, F1, b1, PySem.W.mg_of X G a1⟩,
    ⟨_, _, F2, b2, PySem.W.mg_of X G a2⟩,
    ⟨_, _, F3, b3, PySem.W.mg_of X G a3⟩,
    ⟨_, _, F4, b4, PySem.W.mg_of X G a4⟩,
    ⟨_, _, F5, b5, PySem.W.mg_of X G a5⟩,
    ⟨_, _, F6, b6, PySem.W.mg_of X G a6⟩,
    ⟨_, _, F7, b7, PySem.W.mg_of X G a7⟩,
    ⟨_, _, F8, b8, PySem.W.mg_of X G a8⟩,
    ⟨_, _, F9, b9, PySem.W.mg_of X G a9⟩,
    ⟨_, _, F10, b10, PySem.W.mg_of X G a10⟩,
    ⟨_, _, F11, b11, PySem.W.mg_of X G a11⟩,
    ⟨_, _, F12, b12, PySem.W.mg_of X G a12⟩,
    ⟨_, _, F13, b13, PySem.W.mg_of X G a13⟩,
    ⟨_, _, F14, b14, PySem.W.mg_of X G a14⟩,
    ⟨_, _, F15, b15, PySem.W.mg_of X G a15⟩,
    ⟨_, _, F16, b16, PySem.W.mg_of X G a16⟩,
    ⟨_, _, F17, b17, PySem.W.mg_of X G a17⟩,
    ⟨_, _, F18, b18, PySem.W.mg_of X G a18⟩,
    ⟨_, _, F19, b19, PySem.W.mg_of X G a19⟩,
    ⟨_, _, F20, b20, PySem.W.mg_of X G a20⟩,
    ⟨_, _, F21, b21, PySem.W.mg_of X G a21⟩,
    ⟨_, _, F22, b22, PySem.W.mg_of X G a22⟩,
    ⟨_, _, F23, b23, PySem.W.mg_of X G a23⟩,
    ⟨_, _, F24, b24, PySem.W.mg_of X G a24⟩,
    ⟨_, _, F25, b25, PySem.W.mg_of X G a25⟩,
    ⟨_, _, F26, b26, PySem.W.mg_of X G a26⟩,
    ⟨_, _, F27, b27, PySem.W.mg_of X G a27⟩,
    ⟨_, _, F28, b28, PySem.W.mg_of X G a28⟩,
    ⟨_, _, F29, b29, PySem.W.mg_of X G a29⟩,
    ⟨_, _, F30, b30, PySem.W.mg_of X G a30⟩,
    ⟨_, _, F31, b31, PySem.W.mg_of X G a31⟩,
    ⟨_, _, F32, b32, PySem.W.mg_of X G a32⟩,
    ⟨_, _, F33, b33, PySem.W.mg_of X G a33⟩,
    ⟨_, _, F34, b34, PySem.W.mg_of X G a34⟩,
    cc25,
    tb25,
    rfl,
    PySem.W.mg_none_of X G z_bool,
    PySem.W.mg_none_of X G z_int,
    PySem.W.mg_none_of X G z_isinstance,
    PySem.W.mg_none_of X G z_len,
    PySem.W.mg_none_of X G z_list,
    PySem.W.mg_none_of X G z_min,
    PySem.W.mg_none_of X G z_range,
    PySem.W.mg_none_of X G z_sorted,
    PySem.W.mg_none_of X G z_tuple⟩ : Top K mg) ⟨hTB (cc25, tb25) (by simp),
      (show (tb25, lamQ "row_sets" s_row_sets) ∈ [(tb25, lamQ "row_sets" s_row_sets)] by simp),
      (fun p hp q => by rcases List.mem_cons.mp hp with e | hp; (cases e; exact rfl); cases hp)⟩ 0
  case ct =>
    intro p hp
    rcases List.mem_cons.mp hp with e | hp
    · cases e; exact e25
    cases hp
  case cn =>
    intro p hp
    rcases List.mem_cons.mp hp with e | hp
    · cases e; exact n25
    cases hp
  case cq =>
    intro p hp
    rcases List.mem_cons.mp hp with e | hp
    · cases e; exact PySem.W.codeHd_of_K X q25
    cases hp
  case cb => exact fun s v => .of_eq rfl
  case cs =>
    intro H a ns _ _ hT hS
    refine @law_spT () (JT [(tb25, lamQ "row_sets" s_row_sets)]) K H a ns m_law (tabs_of fun p hp => ?_) hS law_hl law_ho
    rcases List.mem_cons.mp hp with e | hp
    · cases e; exact hT (cc25, tb25) (by simp)
    cases hp

end K17
open PySem PySem.W PyProof.Rows
set_option maxHeartbeats 0 in
theorem PySem.Challenge.cw_nowhereworse_k17_rankings_of_rows_holds : PySem.Challenge.rw_nowhereworse_k17_rankings_of_rows.Holds := by
  w_on; o_law; k_head; (case hw => w_witness2)
  k_fill
  refine LamX.walk_ofTs (l := PySem.Challenge.rw_nowhereworse_k17_rankings_of_rows) (n := 63) (k := 9) (x := "script") (CX := fun _ => L2.CX0) rfl (by decide) rfl ⟨rfl, by decide, by decide⟩ (fun w h Y => PySem.W.km_in_of Y) ?F (fun _ _ _ _ _ h => h)
  case F =>
    intro w mg fa h Y KX G hmg
    refine' K17.all_mk KX G hmg 35 ?a0 ?l0 ?c0 ?k0 ?a1 ?l1 ?c1 ?k1 ?a2 ?l2 ?c2 ?k2 ?a3 ?l3 ?c3 ?k3 ?a4 ?l4 ?c4 ?k4 ?a5 ?l5 ?c5 ?k5 ?a6 ?l6 ?c6 ?k6 ?a7 ?l7 ?c7 ?k7 ?a8 ?l8 ?c8 ?k8 ?a9 ?l9 ?c9 ?k9 ?a10 ?l10 ?c10 ?k10 ?a11 ?l11 ?c11 ?k11 ?a12 ?l12 ?c12 ?k12 ?a13 ?l13 ?c13 ?k13 ?a14 ?l14 ?c14 ?k14 ?a15 ?l15 ?c15 ?k15 ?a16 ?l16 ?c16 ?k16 ?a17 ?l17 ?c17 ?k17 ?a18 ?l18 ?c18 ?k18 ?a19 ?l19 ?c19 ?k19 ?a20 ?l20 ?c20 ?k20 ?a21 ?l21 ?c21 ?k21 ?a22 ?l22 ?c22 ?k22 ?a23 ?l23 ?c23 ?k23 ?a24 ?l24 ?c24 ?k24 ?a25 ?l25 ?c25 ?k25 ?a26 ?l26 ?c26 ?k26 ?a27 ?l27 ?c27 ?k27 ?a28 ?l28 ?c28 ?k28 ?a29 ?l29 ?c29 ?k29 ?a30 ?l30 ?c30 ?k30 ?a31 ?l31 ?c31 ?k31 ?a32 ?l32 ?c32 ?k32 ?a33 ?l33 ?c33 ?k33 ?a34 ?l34 ?c34 ?k34 ?z_bool ?z_int ?z_isinstance ?z_len ?z_list ?z_min ?z_range ?z_sorted ?z_tuple ?q25 ?n25 ?e25
    (case a0 => k_is); (case l0 => k_is); (case c0 => k_is); (case k0 => k_is); (case a1 => k_is); (case l1 => k_is); (case c1 => k_is); (case k1 => k_is); (case a2 => k_is); (case l2 => k_is); (case c2 => k_is); (case k2 => k_is); (case a3 => k_is); (case l3 => k_is); (case c3 => k_is); (case k3 => k_is); (case a4 => k_is); (case l4 => k_is); (case c4 => k_is); (case k4 => k_is); (case a5 => k_is); (case l5 => k_is); (case c5 => k_is); (case k5 => k_is); (case a6 => k_is); (case l6 => k_is); (case c6 => k_is); (case k6 => k_is); (case a7 => k_is); (case l7 => k_is); (case c7 => k_is); (case k7 => k_is); (case a8 => k_is); (case l8 => k_is); (case c8 => k_is); (case k8 => k_is); (case a9 => k_is); (case l9 => k_is); (case c9 => k_is); (case k9 => k_is); (case a10 => k_is); (case l10 => k_is); (case c10 => k_is); (case k10 => k_is); (case a11 => k_is); (case l11 => k_is); (case c11 => k_is); (case k11 => k_is); (case a12 => k_is); (case l12 => k_is); (case c12 => k_is); (case k12 => k_is); (case a13 => k_is); (case l13 => k_is); (case c13 => k_is); (case k13 => k_is); (case a14 => k_is); (case l14 => k_is); (case c14 => k_is); (case k14 => k_is); (case a15 => k_is); (case l15 => k_is); (case c15 => k_is); (case k15 => k_is); (case a16 => k_is); (case l16 => k_is); (case c16 => k_is); (case k16 => k_is); (case a17 => k_is); (case l17 => k_is); (case c17 => k_is); (case k17 => k_is); (case a18 => k_is); (case l18 => k_is); (case c18 => k_is); (case k18 => k_is); (case a19 => k_is); (case l19 => k_is); (case c19 => k_is); (case k19 => k_is); (case a20 => k_is); (case l20 => k_is); (case c20 => k_is); (case k20 => k_is); (case a21 => k_is); (case l21 => k_is); (case c21 => k_is); (case k21 => k_is); (case a22 => k_is); (case l22 => k_is); (case c22 => k_is); (case k22 => k_is); (case a23 => k_is); (case l23 => k_is); (case c23 => k_is); (case k23 => k_is); (case a24 => k_is); (case l24 => k_is); (case c24 => k_is); (case k24 => k_is); (case a25 => k_is); (case l25 => k_is); (case c25 => k_is); (case k25 => k_is); (case a26 => k_is); (case l26 => k_is); (case c26 => k_is); (case k26 => k_is); (case a27 => k_is); (case l27 => k_is); (case c27 => k_is); (case k27 => k_is); (case a28 => k_is); (case l28 => k_is); (case c28 => k_is); (case k28 => k_is); (case a29 => k_is); (case l29 => k_is); (case c29 => k_is); (case k29 => k_is); (case a30 => k_is); (case l30 => k_is); (case c30 => k_is); (case k30 => k_is); (case a31 => k_is); (case l31 => k_is); (case c31 => k_is); (case k31 => k_is); (case a32 => k_is); (case l32 => k_is); (case c32 => k_is); (case k32 => k_is); (case a33 => k_is); (case l33 => k_is); (case c33 => k_is); (case k33 => k_is); (case a34 => k_is); (case l34 => k_is); (case c34 => k_is); (case k34 => k_is); (case z_bool => k_is); (case z_int => k_is); (case z_isinstance => k_is); (case z_len => k_is); (case z_list => k_is); (case z_min => k_is); (case z_range => k_is); (case z_sorted => k_is); (case z_tuple => k_is)
    case q25 => kernel_rfl
    case n25 => kernel_rfl
    case e25 => exact PySem.W.km_tabs_of Y 35 (by decide)
