import PyProof.Rows.All
import Wide.All
import OpenK.AllK
import Wide.FinOn
import HandS.ForMost
import HandS.Exc
import HandS.TryOnly
import HandS.ExcOwn
import HandS.CallSlots
import HandS.Walk
import HandS.Lambda
import HandS.Wide
import HandS.Flow
import HandS.TupAny
import HandS.IsInst
import HandS.Deep
import KE.DataEq
import HandS.FStr
import HandS.SortInts
import HandS.ExcCtx
import HandS.Conv
import KE.KRevSl
import HandS.WordsExc
import HandS.ReplaceLit
import HandS.Hot
import HandS.HotCalls
import HandS.Zip
import HandS.Iter
import PyProof.ZipIter
import HandS.Comp
import HandS.ExcIs
import HandS.Defaults
import PyProof.ExcBaseAll.ValueError
import HandS.HeadHook1
import HandS.HeadHook2
import HandS.HeadHook4
import HandS.HeadWalk
import KE.KNestM
import HandS.HeadEnd
import HandS.Head2
import HandS.Codes
import PySem.Challenge.RW_anyline_k11_texts_of_plans
set_option Elab.async false
set_option linter.all false
set_option maxRecDepth 100000
/-! AL1: values as data, the owned store, the relation between data and the abstract heap. -/
namespace AL
open PySem PySem.Spec PyProof.Rows L2

/-- a value as data -/
inductive D where
  | non
  | bl (b : Bool)
  | int (i : Int)
  | str (x : Str)
  | tup (xs : List D)
  | lst (xs : List D)
  | scr (ns : List Int)
  | fn (x : Str)
  | dct (ks vs : List D)
  | obj (c : Str) (ns : List Str) (vs : List D)
  deriving Inhabited

def kD : Key → D
  | .inl i => .int i
  | .inr x => .str x

/-- what of the heap data leans on: a dict may be locked meanwhile -/
def goodO : HO → Bool
  | .lst _ => true
  | .tup _ => true
  | .dK _ => true
  | .dT _ => true
  | .frz _ (.lst _) => true
  | _ => false
def RdA (H : Hp) (a : Addr) : HO → Prop
  | .dK k => Rd H a (.dK k)
  | .dT k => Rd H a (.dT k)
  | o => H a = some o
def Ext (H H' : Hp) : Prop := ∀ a o, goodO o = true → RdA H a o → RdA H' a o
theorem Ext.refl (H : Hp) : Ext H H := fun _ _ _ h => h
theorem Ext.trans {H H1 H2 : Hp} (a : Ext H H1) (b : Ext H1 H2) : Ext H H2 := fun c u r h => b c u r (a c u r h)
theorem Rd.ext {H H' : Hp} (e : ∀ a o, H a = some o → H' a = some o) {a : Addr} {u : HO} (h : Rd H a u) : Rd H' a u :=
  h.elim (fun q => .inl (e _ _ q)) fun ⟨o, q⟩ => .inr ⟨o, e _ _ q⟩
theorem Ext.of {H H' : Hp} (e : ∀ a o, H a = some o → H' a = some o) : Ext H H' := fun a u g h => by
  cases u with
  | dK k => exact Rd.ext e h
  | dT k => exact Rd.ext e h
  | lst k => exact e _ _ h
  | tup k => exact e _ _ h
  | frz o u => exact e _ _ h
  | _ => cases g

mutual
inductive Dv (K : PySem.W.Frag) (mg : Str → Option Value) (H : Hp) : V → D → Prop
  | non : Dv K mg H .non .non
  | bl (b : Bool) : Dv K mg H (.bl b) (.bl b)
  | int (i : Int) : Dv K mg H (.int i) (.int i)
  | str (x : Str) : Dv K mg H (.str x) (.str x)
  | tup {a : Addr} {xs : List V} {ds : List D} : H a = some (.tup xs) → DvL K mg H xs ds → Dv K mg H (.ref a) (.tup ds)
  | lst {a : Addr} {xs : List V} {ds : List D} : H a = some (.lst xs) → DvL K mg H xs ds → Dv K mg H (.ref a) (.lst ds)
  | scr {a : Addr} {ns : List Int} : SqL K H a (ns.map V.int) → Dv K mg H (.ref a) (.scr ns)
  | fn {a : Addr} {x : Str} : mg x = some (.ref a) → Dv K mg H (.ref a) (.fn x)
  | dk {a : Addr} {kvs : List (Key × V)} {vs : List D} : Rd H a (.dK kvs) → DvL K mg H (kvs.map Prod.snd) vs → Dv K mg H (.ref a) (.dct (kvs.map fun p => kD p.1) vs)
  | dt {a : Addr} {kvs : List (List Key × V)} {vs : List D} : Rd H a (.dT kvs) → DvL K mg H (kvs.map Prod.snd) vs → Dv K mg H (.ref a) (.dct (kvs.map fun p => .tup (p.1.map kD)) vs)
inductive DvL (K : PySem.W.Frag) (mg : Str → Option Value) (H : Hp) : List V → List D → Prop
  | nil : DvL K mg H [] []
  | cons {v : V} {vs : List V} {d : D} {ds : List D} : Dv K mg H v d → DvL K mg H vs ds → DvL K mg H (v :: vs) (d :: ds)
end
section
variable {K : PySem.W.Frag} {mg : Str → Option Value} {H H' : Hp}
theorem SqL.ext (e : Ext H H') {a : Addr} {xs : List V} (h : SqL K H a xs) : SqL K H' a xs := by
  rcases h with (h | ⟨o, h⟩) | h
  · exact .inl (.inl (e a (.lst xs) rfl h))
  · exact .inl (.inr ⟨o, e a (.frz o (.lst xs)) rfl h⟩)
  · exact .inr h
mutual
theorem Dv.ext (e : Ext H H') : ∀ {v : V} {d : D}, Dv K mg H v d → Dv K mg H' v d
  | _, _, .non => .non
  | _, _, .bl b => .bl b
  | _, _, .int b => .int b
  | _, _, .str b => .str b
  | _, _, .tup h hs => .tup (e _ (.tup _) rfl h) (DvL.ext e hs)
  | _, _, .lst h hs => .lst (e _ (.lst _) rfl h) (DvL.ext e hs)
  | _, _, .scr h => .scr (SqL.ext e h)
  | _, _, .fn h => .fn h
  | _, _, .dk h hs => .dk (e _ (.dK _) rfl h) (DvL.ext e hs)
  | _, _, .dt h hs => .dt (e _ (.dT _) rfl h) (DvL.ext e hs)
theorem DvL.ext (e : Ext H H') : ∀ {vs : List V} {ds : List D}, DvL K mg H vs ds → DvL K mg H' vs ds
  | _, _, .nil => .nil
  | _, _, .cons h hs => .cons (Dv.ext e h) (DvL.ext e hs)
end
theorem DvL.length : ∀ {vs : List V} {ds : List D}, DvL K mg H vs ds → vs.length = ds.length
  | _, _, .nil => rfl
  | _, _, .cons _ hs => by simp [DvL.length hs]
theorem DvL.get : ∀ {vs : List V} {ds : List D} {i : Nat} {d : D}, DvL K mg H vs ds → ds[i]? = some d → ∃ v, vs[i]? = some v ∧ Dv K mg H v d
  | _, _, _, _, .nil, e => by simp at e
  | _, _, 0, _, .cons h _, e => by simp at e; subst e; exact ⟨_, rfl, h⟩
  | _, _, i + 1, d, .cons _ hs, e => by
    obtain ⟨v, h1, h2⟩ := DvL.get (i := i) (d := d) hs (by simpa using e)
    exact ⟨v, by simpa using h1, h2⟩
theorem DvL.getV : ∀ {vs : List V} {ds : List D} {i : Nat} {v : V}, DvL K mg H vs ds → vs[i]? = some v → ∃ d, ds[i]? = some d ∧ Dv K mg H v d
  | _, _, _, _, .nil, e => by simp at e
  | _, _, 0, _, .cons h _, e => by simp at e; subst e; exact ⟨_, rfl, h⟩
  | _, _, i + 1, d, .cons _ hs, e => by
    obtain ⟨v, h1, h2⟩ := DvL.getV (i := i) (v := d) hs (by simpa using e)
    exact ⟨v, by simpa using h1, h2⟩
theorem DvL.append : ∀ {vs ws : List V} {ds es : List D}, DvL K mg H vs ds → DvL K mg H ws es → DvL K mg H (vs ++ ws) (ds ++ es)
  | _, _, _, _, .nil, s => s
  | _, _, _, _, .cons h hs, s => .cons h (DvL.append hs s)
theorem DvL.one {v : V} {d : D} (h : Dv K mg H v d) : DvL K mg H [v] [d] := .cons h .nil
theorem DvL.take : ∀ {vs : List V} {ds : List D} (n : Nat), DvL K mg H vs ds → DvL K mg H (vs.take n) (ds.take n)
  | _, _, 0, _ => .nil
  | _, _, _ + 1, .nil => .nil
  | _, _, n + 1, .cons h hs => .cons h (DvL.take n hs)
theorem DvL.drop : ∀ {vs : List V} {ds : List D} (n : Nat), DvL K mg H vs ds → DvL K mg H (vs.drop n) (ds.drop n)
  | _, _, 0, h => h
  | _, _, _ + 1, .nil => .nil
  | _, _, n + 1, .cons _ hs => DvL.drop n hs
theorem DvL.reverse : ∀ {vs : List V} {ds : List D}, DvL K mg H vs ds → DvL K mg H vs.reverse ds.reverse
  | _, _, .nil => .nil
  | _, _, .cons h hs => by rw [List.reverse_cons, List.reverse_cons]; exact (DvL.reverse hs).append (.one h)
theorem DvL.eraseIdx : ∀ {vs : List V} {ds : List D} (n : Nat), DvL K mg H vs ds → DvL K mg H (vs.eraseIdx n) (ds.eraseIdx n)
  | _, _, _, .nil => .nil
  | _, _, 0, .cons _ hs => hs
  | _, _, n + 1, .cons h hs => .cons h (DvL.eraseIdx n hs)
theorem DvL.dropLast : ∀ {vs : List V} {ds : List D}, DvL K mg H vs ds → DvL K mg H vs.dropLast ds.dropLast
  | _, _, .nil => .nil
  | _, _, .cons _ .nil => .nil
  | _, _, .cons h (.cons h2 hs) => .cons h (DvL.dropLast (.cons h2 hs))
theorem DvL.strs : ∀ {vs : List V} {ys : List Str}, DvL K mg H vs (ys.map D.str) → vs = ys.map V.str
  | _, [], .nil => rfl
  | _, y :: ys, h => by
    cases h with
    | cons h hs => cases h; rw [DvL.strs hs]; rfl
theorem DvL.ints : ∀ {vs : List V} {ys : List Int}, DvL K mg H vs (ys.map D.int) → vs = ys.map V.int
  | _, [], .nil => rfl
  | _, y :: ys, h => by
    cases h with
    | cons h hs => cases h; rw [DvL.ints hs]; rfl
theorem DvL.bls : ∀ {vs : List V} {ys : List Bool}, DvL K mg H vs (ys.map D.bl) → vs = ys.map V.bl
  | _, [], .nil => rfl
  | _, y :: ys, h => by
    cases h with
    | cons h hs => cases h; rw [DvL.bls hs]; rfl
theorem DvL.ofStrs : ∀ {ys : List Str}, DvL K mg H (ys.map V.str) (ys.map D.str)
  | [] => .nil
  | y :: ys => .cons (.str y) DvL.ofStrs
theorem DvL.ofInts : ∀ {ys : List Int}, DvL K mg H (ys.map V.int) (ys.map D.int)
  | [] => .nil
  | y :: ys => .cons (.int y) DvL.ofInts
end

/-! ### what names hold -/
/-- data that is shared; an object of one's own; one of the caller's that was lent -/
inductive SV where
  | sh (d : D)
  | ow (d : D)
  | io (d : D)
abbrev S := List (Option SV)
/-- what an expression gives: shared data, a new object, the object of a name -/
inductive R where
  | sh (d : D)
  | fr (d : D)
  | ob (i : Nat)
/-- what stays through a whole def: the written part, the names, the heap at the entry, the lent objects with their names' places, the lambdas' tables, what callers own -/
structure Bas where
  K : PySem.W.Frag
  mg : Str → Option Value
  H0 : Hp
  io : List (Nat × Addr)
  T : List (Addr × Str)
  Z : Addr → Bool
def ownAt (a : Addr) : Option V → Option SV → Bool
  | some (.ref b), some (.ow _) => b == a
  | some (.ref b), some (.io _) => b == a
  | _, _ => false
def ownB : List (Option V) → S → Addr → Bool
  | v :: σ, x :: s, a => ownAt a v x || ownB σ s a
  | _, _, _ => false
def hid (B : Bas) (σ : List (Option V)) (s : S) (x : Option Addr) (H : Hp) : Hp := fun a => if (B.Z a || ownB σ s a || decide (x = some a)) = true then none else H a
/-- a slot's object, its content -/
def Slot1 (s : S) (i : Nat) (d : D) : Prop := s[i]? = some (some (SV.ow d)) ∨ s[i]? = some (some (SV.io d))
theorem ownB_iff : ∀ {σ : List (Option V)} {s : S} {a : Addr}, ownB σ s a = true ↔ ∃ (i : Nat) (d : D), σ[i]? = some (some (V.ref a)) ∧ Slot1 s i d
  | [], s, a => ⟨fun h => (by cases s <;> cases h), fun ⟨i, d, h, _⟩ => (by simp at h)⟩
  | v :: σ, [], a => ⟨fun h => (by cases h), fun ⟨i, d, _, h⟩ => (by rcases h with h | h <;> simp at h)⟩
  | v :: σ, x :: s, a => by
    show (ownAt a v x || ownB σ s a) = true ↔ _
    rw [Bool.or_eq_true, ownB_iff]
    constructor
    · rintro (h | ⟨i, d, h1, h2⟩)
      · unfold ownAt at h
        split at h
        · rename_i b d; rw [beq_iff_eq] at h; subst h; exact ⟨0, d, rfl, .inl rfl⟩
        · rename_i b d; rw [beq_iff_eq] at h; subst h; exact ⟨0, d, rfl, .inr rfl⟩
        · cases h
      · exact ⟨i + 1, d, by simpa using h1, h2.elim (fun h => .inl (by simpa using h)) (fun h => .inr (by simpa using h))⟩
    · rintro ⟨i, d, h1, h2⟩
      cases i with
      | zero =>
        left
        have e : v = some (V.ref a) := by simpa using h1
        subst e
        rcases h2 with h2 | h2
        · have e : x = some (SV.ow d) := by simpa using h2
          subst e; exact beq_iff_eq.mpr rfl
        · have e : x = some (SV.io d) := by simpa using h2
          subst e; exact beq_iff_eq.mpr rfl
      | succ i => exact .inr ⟨i, d, by simpa using h1, h2.elim (fun h => .inl (by simpa using h)) (fun h => .inr (by simpa using h))⟩
theorem hid_some {B : Bas} {σ : List (Option V)} {s : S} {x : Option Addr} {H : Hp} {a : Addr} {o : HO} (h : hid B σ s x H a = some o) : H a = some o ∧ B.Z a = false ∧ ownB σ s a = false ∧ x ≠ some a := by
  unfold hid at h
  cases e : (B.Z a || ownB σ s a || decide (x = some a)) with
  | true => rw [e] at h; simp at h
  | false =>
    rw [e] at h
    rw [Bool.or_eq_false_iff, Bool.or_eq_false_iff] at e
    exact ⟨by simpa using h, e.1.1, e.1.2, of_decide_eq_false e.2⟩
theorem hid_of {B : Bas} {σ : List (Option V)} {s : S} {x : Option Addr} {H : Hp} {a : Addr} {o : HO} (h : H a = some o) (e : B.Z a = false) (e' : ownB σ s a = false) (e2 : x ≠ some a) : hid B σ s x H a = some o := by
  unfold hid; rw [e, e', decide_eq_false e2]; simpa using h
theorem hid_sub {B : Bas} {σ : List (Option V)} {s : S} {x : Option Addr} {H : Hp} : ∀ a o, hid B σ s x H a = some o → H a = some o := fun _ _ h => (hid_some h).1
theorem hid_ext {B : Bas} {σ : List (Option V)} {s : S} {x : Option Addr} {H : Hp} : Ext (hid B σ s x H) H := Ext.of hid_sub
theorem hid_x {B : Bas} {σ : List (Option V)} {s : S} {x : Option Addr} {H : Hp} : Ext (hid B σ s x H) (hid B σ s none H) := Ext.of fun a o h => by
  obtain ⟨h1, h2, h3, _⟩ := hid_some h
  exact hid_of h1 h2 h3 (by simp)

def Wr : HO → Prop
  | .lst _ => True
  | .dK _ => True
  | .dT _ => True
  | .ins _ _ _ => True
  | _ => False
/-- what stands at an owned address -/
def OwnC (K : PySem.W.Frag) (mg : Str → Option Value) (H Hv : Hp) (a : Addr) : D → Prop
  | .lst ds => ∃ xs, H a = some (.lst xs) ∧ DvL K mg Hv xs ds
  | .dct ks vs => (∃ kvs : List (Key × V), H a = some (.dK kvs) ∧ ks = kvs.map (fun p => kD p.1) ∧ DvL K mg Hv (kvs.map Prod.snd) vs) ∨
      (∃ kvs : List (List Key × V), H a = some (.dT kvs) ∧ ks = kvs.map (fun p => .tup (p.1.map kD)) ∧ DvL K mg Hv (kvs.map Prod.snd) vs)
  | .obj c ns vs => ∃ C dx fs, H a = some (.ins C dx fs) ∧ mg c = some (.ref C) ∧ ns = fs.map Prod.fst ∧ DvL K mg Hv (fs.map Prod.snd) vs
  | _ => False
theorem OwnC.there {K : PySem.W.Frag} {mg : Str → Option Value} {H Hv : Hp} {a : Addr} {d : D} (h : OwnC K mg H Hv a d) : ∃ o, H a = some o ∧ Wr o := by
  cases d with
  | lst ds => obtain ⟨xs, e, _⟩ := h; exact ⟨_, e, trivial⟩
  | dct ks vs =>
    rcases h with ⟨kvs, e, _⟩ | ⟨kvs, e, _⟩
    · exact ⟨_, e, trivial⟩
    · exact ⟨_, e, trivial⟩
  | obj c ns vs => obtain ⟨C, dx, fs, e, _⟩ := h; exact ⟨_, e, trivial⟩
  | _ => exact h.elim
theorem OwnC.mono {K : PySem.W.Frag} {mg : Str → Option Value} {H H' Hv Hv' : Hp} {a : Addr} {d : D} (h : OwnC K mg H Hv a d) (ha : H' a = H a) (e : Ext Hv Hv') : OwnC K mg H' Hv' a d := by
  cases d with
  | lst ds => obtain ⟨xs, q, hs⟩ := h; exact ⟨xs, ha.trans q, hs.ext e⟩
  | dct ks vs =>
    rcases h with ⟨kvs, q, e1, hs⟩ | ⟨kvs, q, e1, hs⟩
    · exact .inl ⟨kvs, ha.trans q, e1, hs.ext e⟩
    · exact .inr ⟨kvs, ha.trans q, e1, hs.ext e⟩
  | obj c ns vs => obtain ⟨C, dx, fs, q, e1, e2, hs⟩ := h; exact ⟨C, dx, fs, ha.trans q, e1, e2, hs.ext e⟩
  | _ => exact h.elim
/-- a frozen object is data -/
theorem OwnC.dv {K : PySem.W.Frag} {mg : Str → Option Value} {H Hv : Hp} {a : Addr} {d : D} (h : OwnC K mg H Hv a d) (hd : ∀ c ns vs, d ≠ .obj c ns vs) {H' : Hp} (ha : H' a = H a) (e : Ext Hv H') : Dv K mg H' (.ref a) d := by
  cases d with
  | lst ds => obtain ⟨xs, q, hs⟩ := h; exact .lst (ha.trans q) (hs.ext e)
  | dct ks vs =>
    rcases h with ⟨kvs, q, e1, hs⟩ | ⟨kvs, q, e1, hs⟩
    · subst e1; exact .dk (.inl (ha.trans q)) (hs.ext e)
    · subst e1; exact .dt (.inl (ha.trans q)) (hs.ext e)
  | obj c ns vs => exact absurd rfl (hd c ns vs)
  | _ => exact h.elim

/-- as it was; a lambdas' table may have grown -/
def FrO (H : Hp) (a : Addr) (o : HO) : Prop := H a = some o ∨ ∃ ps ps', o = .tbl ps ∧ H a = some (.tbl ps')
structure Rel (B : Bas) (σ : List (Option V)) (s : S) (x : Option Addr) (H : Hp) : Prop where
  len : s.length = σ.length
  sh : ∀ (i : Nat) (d : D), s[i]? = some (some (SV.sh d)) → ∃ v : V, σ[i]? = some (some v) ∧ Dv B.K B.mg (hid B σ s x H) v d
  own : ∀ (i : Nat) (d : D), Slot1 s i d → ∃ a, σ[i]? = some (some (V.ref a)) ∧ OwnC B.K B.mg H (hid B σ s x H) a d ∧ B.Z a = false ∧ x ≠ some a
  inj : ∀ (i j : Nat) (d e : D) (a : Addr), Slot1 s i d → Slot1 s j e → σ[i]? = some (some (V.ref a)) → σ[j]? = some (some (V.ref a)) → i = j
  new : ∀ (i : Nat) (d : D) (a : Addr), s[i]? = some (some (SV.ow d)) → σ[i]? = some (some (V.ref a)) → B.H0 a = none
  lent : ∀ p ∈ B.io, ∃ d, s[p.1]? = some (some (SV.io d)) ∧ σ[p.1]? = some (some (V.ref p.2))
  lent2 : ∀ (i : Nat) (d : D), s[i]? = some (some (SV.io d)) → ∃ a, (i, a) ∈ B.io
  xs : ∀ a, x = some a → B.H0 a = none ∧ B.Z a = false ∧ ∃ o, H a = some o
  frame : ∀ a o, B.H0 a = some o → (∀ p ∈ B.io, p.2 ≠ a) → FrO H a o
  tabs : LamX.Tabs B.T H
  zs : ∀ a, B.Z a = true → ∃ o, B.H0 a = some o
  zio : ∀ p ∈ B.io, B.Z p.2 = false
/-- the later world: what was shared is -/
def Le (B : Bas) (σ : List (Option V)) (s : S) (H : Hp) (s' : S) (H' : Hp) : Prop := Ext (hid B σ s none H) (hid B σ s' none H')
theorem Le.refl {B : Bas} {σ : List (Option V)} {s : S} {H : Hp} : Le B σ s H s H := Ext.refl _
theorem Le.trans {B : Bas} {σ : List (Option V)} {s s1 s2 : S} {H H1 H2 : Hp} (a : Le B σ s H s1 H1) (b : Le B σ s1 H1 s2 H2) : Le B σ s H s2 H2 := Ext.trans a b
theorem FrO.ext {H H' : Hp} {a : Addr} {o : HO} (h : FrO H a o) (e : ∀ u, H a = some u → H' a = some u) : FrO H' a o :=
  h.elim (fun q => .inl (e _ q)) fun ⟨ps, ps', e1, q⟩ => .inr ⟨ps, ps', e1, e _ q⟩
theorem FrO.there {H : Hp} {a : Addr} {o : HO} (h : FrO H a o) : ∃ u, H a = some u := h.elim (fun q => ⟨_, q⟩) fun ⟨_, ps', _, q⟩ => ⟨_, q⟩
theorem upd_grow {H : Hp} {p : Addr} {o : HO} (h : H p = none) : ∀ a u, H a = some u → upd H p o a = some u := fun a u e => by rw [upd_ne (ne_of_none e h)]; exact e
theorem setS {s : S} {k j : Nat} {c : Option SV} {c' : Option SV} : (s.set k c)[j]? = some c' → (j = k ∧ c' = c ∧ k < s.length) ∨ (j ≠ k ∧ s[j]? = some c') := fun h => by
  by_cases e : k = j
  · subst e
    by_cases hk : k < s.length
    · rw [List.getElem?_set_self hk] at h; cases h; exact .inl ⟨rfl, rfl, hk⟩
    · rw [List.getElem?_eq_none (by simpa using hk)] at h; cases h
  · rw [List.getElem?_set_ne e] at h
    exact .inr ⟨fun q => e q.symm, h⟩
theorem slotS {s : S} {k j : Nat} {c : Option SV} {d : D} (h : Slot1 (s.set k c) j d) : (j = k ∧ (c = some (.ow d) ∨ c = some (.io d)) ∧ k < s.length) ∨ (j ≠ k ∧ Slot1 s j d) := by
  rcases h with h | h
  · rcases setS h with ⟨e, q, l⟩ | ⟨e, q⟩
    · exact .inl ⟨e, .inl q.symm, l⟩
    · exact .inr ⟨e, .inl q⟩
  · rcases setS h with ⟨e, q, l⟩ | ⟨e, q⟩
    · exact .inl ⟨e, .inr q.symm, l⟩
    · exact .inr ⟨e, .inr q⟩
section
variable {B : Bas} {σ : List (Option V)} {s : S} {x : Option Addr} {H : Hp}
theorem Rel.ownH (I : Rel B σ s x H) {i : Nat} {d : D} {a : Addr} (h1 : Slot1 s i d) (h2 : σ[i]? = some (some (V.ref a))) : OwnC B.K B.mg H (hid B σ s x H) a d ∧ B.Z a = false ∧ x ≠ some a := by
  obtain ⟨b, e, q⟩ := I.own i d h1
  rw [h2] at e; cases e; exact q
theorem Rel.owned (I : Rel B σ s x H) {a : Addr} (h : ownB σ s a = true) : ∃ o, H a = some o ∧ Wr o := by
  obtain ⟨i, d, h1, h2⟩ := ownB_iff.mp h
  exact (I.ownH h2 h1).1.there
theorem Rel.unowned (I : Rel B σ s x H) {a : Addr} (h : H a = none) : ownB σ s a = false := by
  cases e : ownB σ s a with
  | false => rfl
  | true => obtain ⟨o, q, _⟩ := I.owned e; rw [h] at q; cases q
theorem Rel.notio (I : Rel B σ s x H) {a : Addr} (h : H a = none) : ∀ p ∈ B.io, p.2 ≠ a := fun p hp e => by
  subst e
  obtain ⟨d, h1, h2⟩ := I.lent p hp
  obtain ⟨o, q, _⟩ := (I.ownH (.inr h1) h2).1.there
  rw [h] at q; cases q
theorem Rel.new0 (I : Rel B σ s x H) {a : Addr} (h : H a = none) : B.H0 a = none := by
  cases q : B.H0 a with
  | none => rfl
  | some o =>
    obtain ⟨u, e⟩ := (I.frame a o q (I.notio h)).there
    rw [h] at e; cases e
theorem Rel.noZ (I : Rel B σ s x H) {a : Addr} (h : H a = none) : B.Z a = false := by
  cases q : B.Z a with
  | false => rfl
  | true =>
    obtain ⟨o, e⟩ := I.zs a q
    rw [I.new0 h] at e; cases e
theorem Rel.nox (I : Rel B σ s x H) {a : Addr} (h : H a = none) : x ≠ some a := fun e => by
  obtain ⟨_, _, o, q⟩ := I.xs a e
  rw [h] at q; cases q
/-- the heap grows by what was not tracked -/
theorem Rel.grow {H' : Hp} (I : Rel B σ s x H) (e : ∀ a o, H a = some o → H' a = some o) : Rel B σ s x H' ∧ Ext (hid B σ s x H) (hid B σ s x H') ∧ Le B σ s H s H' := by
  have ex : ∀ y, Ext (hid B σ s y H) (hid B σ s y H') := fun y => Ext.of fun a o h => by
    obtain ⟨h1, h2, h3, h4⟩ := hid_some h
    exact hid_of (e a o h1) h2 h3 h4
  refine ⟨⟨I.len, fun i d h => ?_, fun i d h => ?_, I.inj, I.new, I.lent, I.lent2, fun a h => ?_, fun a o h1 h2 => (I.frame a o h1 h2).ext (e a), I.tabs.ext e, I.zs, I.zio⟩, ex x, ex none⟩
  · obtain ⟨v, q, r⟩ := I.sh i d h
    exact ⟨v, q, Dv.ext (ex x) r⟩
  · obtain ⟨a, q, r, z⟩ := I.own i d h
    obtain ⟨o, q2, _⟩ := r.there
    exact ⟨a, q, r.mono ((e a o q2).trans q2.symm) (ex x), z⟩
  · obtain ⟨h1, h2, o, q⟩ := I.xs a h
    exact ⟨h1, h2, o, e a o q⟩
theorem Rel.fresh1 {a : Addr} {o : HO} (I : Rel B σ s x H) (h : H a = none) : Rel B σ s x (upd H a o) ∧ Ext (hid B σ s x H) (hid B σ s x (upd H a o)) ∧ Le B σ s H s (upd H a o) := I.grow (upd_grow h)
/-- a new object of one's own -/
theorem Rel.newX {a : Addr} {o : HO} (I : Rel B σ s none H) (h : H a = none) : Rel B σ s (some a) (upd H a o) ∧ Ext (hid B σ s none H) (hid B σ s (some a) (upd H a o)) ∧ Le B σ s H s (upd H a o) := by
  obtain ⟨J, e1, e2⟩ := I.fresh1 (o := o) h
  have ex : Ext (hid B σ s none H) (hid B σ s (some a) (upd H a o)) := Ext.of fun b u q => by
    obtain ⟨h1, h2, h3, _⟩ := hid_some q
    have ne : b ≠ a := ne_of_none h1 h
    exact hid_of (upd_grow h b u h1) h2 h3 fun z => ne (Option.some.inj z).symm
  refine ⟨⟨J.len, fun i d q => ?_, fun i d q => ?_, J.inj, J.new, J.lent, J.lent2, fun b q => ?_, J.frame, J.tabs, J.zs, J.zio⟩, ex, e2⟩
  · obtain ⟨v, q1, r⟩ := I.sh i d q
    exact ⟨v, q1, Dv.ext ex r⟩
  · obtain ⟨b, q1, r, z, _⟩ := I.own i d q
    obtain ⟨u, q2, _⟩ := r.there
    have ne : b ≠ a := ne_of_none q2 h
    exact ⟨b, q1, r.mono (upd_ne ne) ex, z, fun w => ne (Option.some.inj w).symm⟩
  · cases q
    exact ⟨I.new0 h, I.noZ h, _, upd_same⟩
/-- a new object becomes shared data -/
theorem Rel.freeX {a : Addr} {d : D} (I : Rel B σ s (some a) H) (c : OwnC B.K B.mg H (hid B σ s (some a) H) a d) (hd : ∀ c ns vs, d ≠ .obj c ns vs) : Rel B σ s none H ∧ Dv B.K B.mg (hid B σ s none H) (.ref a) d := by
  have ex : Ext (hid B σ s (some a) H) (hid B σ s none H) := hid_x
  obtain ⟨x0, xz, o, xo⟩ := I.xs a rfl
  have un : ownB σ s a = false := by
    cases q : ownB σ s a with
    | false => rfl
    | true =>
      obtain ⟨i, e, h1, h2⟩ := ownB_iff.mp q
      exact absurd rfl (I.ownH h2 h1).2.2
  have hv : hid B σ s none H a = H a := by unfold hid; rw [un, xz]; simp
  refine ⟨⟨I.len, fun i d q => ?_, fun i d q => ?_, I.inj, I.new, I.lent, I.lent2, fun b q => (by cases q), I.frame, I.tabs, I.zs, I.zio⟩, c.dv hd hv ex⟩
  · obtain ⟨v, q1, r⟩ := I.sh i d q
    exact ⟨v, q1, Dv.ext ex r⟩
  · obtain ⟨b, q1, r, z, _⟩ := I.own i d q
    exact ⟨b, q1, r.mono rfl ex, z, by simp⟩
/-- forgetting that an object is one's own -/
theorem Rel.dropX {a : Addr} (I : Rel B σ s (some a) H) : Rel B σ s none H := by
  have ex : Ext (hid B σ s (some a) H) (hid B σ s none H) := hid_x
  refine ⟨I.len, fun i d q => ?_, fun i d q => ?_, I.inj, I.new, I.lent, I.lent2, fun b q => (by cases q), I.frame, I.tabs, I.zs, I.zio⟩
  · obtain ⟨v, q1, r⟩ := I.sh i d q
    exact ⟨v, q1, Dv.ext ex r⟩
  · obtain ⟨b, q1, r, z, _⟩ := I.own i d q
    exact ⟨b, q1, r.mono rfl ex, z, by simp⟩
theorem own_mu {k : Nat} {d d' : D} {c : SV} (h : Slot1 s k d) (hc : c = .ow d' ∨ c = .io d') (a : Addr) : ownB σ (s.set k (some c)) a = ownB σ s a := by
  have hk : k < s.length := by rcases h with h | h <;> exact (List.getElem?_eq_some_iff.mp h).1
  rw [Bool.eq_iff_iff, ownB_iff, ownB_iff]
  constructor
  · rintro ⟨j, e, h1, h2⟩
    rcases slotS h2 with ⟨rfl, _, _⟩ | ⟨_, h3⟩
    · exact ⟨j, d, h1, h⟩
    · exact ⟨j, e, h1, h3⟩
  · rintro ⟨j, e, h1, h2⟩
    by_cases q : k = j
    · subst q
      rcases hc with rfl | rfl
      · exact ⟨k, d', h1, .inl (List.getElem?_set_self hk)⟩
      · exact ⟨k, d', h1, .inr (List.getElem?_set_self hk)⟩
    · exact ⟨j, e, h1, h2.elim (fun h => .inl (by rw [List.getElem?_set_ne q]; exact h)) (fun h => .inr (by rw [List.getElem?_set_ne q]; exact h))⟩
/-- a slot's object, changed -/
def reSV (s : S) (k : Nat) (d : D) : S := match s[k]? with
  | some (some (.ow _)) => s.set k (some (.ow d))
  | some (some (.io _)) => s.set k (some (.io d))
  | _ => s
theorem tabs_wr {T : List (Addr × Str)} {H : Hp} {a : Addr} {o u : HO} (h : LamX.Tabs T H) (ha : H a = some u) (mu : Wr u) : LamX.Tabs T (upd H a o) := fun p hp => by
  obtain ⟨ps, h1, h2, h3⟩ := h p hp
  have n1 : p.1 ≠ a := fun z => by subst z; rw [ha] at h1; cases h1; exact mu
  refine ⟨ps, by rw [upd_ne n1]; exact h1, h2, fun pos cv hc => ?_⟩
  obtain ⟨c, e1, e2⟩ := h3 pos cv hc
  refine ⟨c, e1, ?_⟩
  by_cases z : c = a
  · subst z
    rw [ha] at e2; cases e2; exact mu.elim
  · rw [upd_ne z]; exact e2
theorem Rel.wr {k : Nat} {a : Addr} {o : HO} {d d' : D} (I : Rel B σ s none H) (hk : Slot1 s k d) (ha : σ[k]? = some (some (V.ref a))) (hm : OwnC B.K B.mg (upd H a o) (hid B σ s none H) a d') :
    Rel B σ (reSV s k d') none (upd H a o) ∧ hid B σ (reSV s k d') none (upd H a o) = hid B σ s none H := by
  obtain ⟨hc, hz, _⟩ := I.ownH hk ha
  obtain ⟨u0, q0, mu0⟩ := hc.there
  have ownA : ownB σ s a = true := ownB_iff.mpr ⟨k, d, ha, hk⟩
  obtain ⟨c, es, hcc, hkl, back⟩ : ∃ c, reSV s k d' = s.set k (some c) ∧ (c = .ow d' ∨ c = .io d') ∧ k < s.length ∧ ((c = .ow d' ∧ s[k]? = some (some (SV.ow d))) ∨ (c = .io d' ∧ s[k]? = some (some (SV.io d)))) := by
    rcases hk with h | h
    · exact ⟨.ow d', by unfold reSV; rw [h], .inl rfl, (List.getElem?_eq_some_iff.mp h).1, .inl ⟨rfl, h⟩⟩
    · exact ⟨.io d', by unfold reSV; rw [h], .inr rfl, (List.getElem?_eq_some_iff.mp h).1, .inr ⟨rfl, h⟩⟩
  have view : hid B σ (s.set k (some c)) none (upd H a o) = hid B σ s none H := by
    funext b
    unfold hid
    rw [own_mu hk hcc]
    by_cases e : b = a
    · subst e; rw [ownA]; simp
    · rw [upd_ne e]
  rw [es]
  have sl : ∀ {j : Nat} {e : D}, Slot1 (s.set k (some c)) j e → ∃ e', Slot1 s j e' := fun {j e} h => by
    rcases slotS h with ⟨rfl, _⟩ | ⟨_, h⟩
    · exact ⟨d, hk⟩
    · exact ⟨e, h⟩
  refine ⟨⟨by rw [List.length_set]; exact I.len, fun i e h => ?_, fun i e h => ?_, fun i j e e' b h1 h2 h3 h4 => ?_, fun i e b h1 h2 => ?_, fun p hp => ?_, fun i e h => ?_, fun b q => (by cases q), fun b u h1 h2 => ?_, tabs_wr I.tabs q0 mu0, I.zs, I.zio⟩, view⟩
  · rw [view]
    rcases setS h with ⟨_, q, _⟩ | ⟨_, h3⟩
    · rcases hcc with rfl | rfl <;> cases q
    · exact I.sh i e h3
  · rw [view]
    rcases slotS h with ⟨rfl, q, _⟩ | ⟨ne, h3⟩
    · have e1 : e = d' := by
        rcases hcc with rfl | rfl
        · rcases q with q | q <;> cases q; rfl
        · rcases q with q | q <;> cases q; rfl
      subst e1
      exact ⟨a, ha, hm, hz, by simp⟩
    · obtain ⟨b, h4, h5, h6, _⟩ := I.own i e h3
      have nb : b ≠ a := fun z => by subst z; exact ne (I.inj i k e d b h3 hk h4 ha)
      exact ⟨b, h4, h5.mono (upd_ne nb) (Ext.refl _), h6, by simp⟩
  · obtain ⟨f1, g1⟩ := sl h1
    obtain ⟨f2, g2⟩ := sl h2
    exact I.inj i j f1 f2 b g1 g2 h3 h4
  · rcases setS h1 with ⟨rfl, q, _⟩ | ⟨_, h3⟩
    · rcases back with ⟨rfl, hb⟩ | ⟨rfl, hb⟩
      · exact I.new i d b hb h2
      · cases q
    · exact I.new i e b h3 h2
  · obtain ⟨e, h1, h2⟩ := I.lent p hp
    by_cases q : k = p.1
    · subst q
      rcases back with ⟨rfl, hb⟩ | ⟨rfl, hb⟩
      · rw [hb] at h1; cases h1
      · exact ⟨d', List.getElem?_set_self hkl, h2⟩
    · exact ⟨e, by rw [List.getElem?_set_ne q]; exact h1, h2⟩
  · rcases setS h with ⟨rfl, q, _⟩ | ⟨_, h3⟩
    · rcases back with ⟨rfl, hb⟩ | ⟨rfl, hb⟩
      · cases q
      · exact I.lent2 i d hb
    · exact I.lent2 i e h3
  · have nb : b ≠ a := fun z => by
      subst z
      rcases back with ⟨_, hb⟩ | ⟨_, hb⟩
      · have := I.new k d b hb ha
        rw [h1] at this; cases this
      · obtain ⟨a', hm'⟩ := I.lent2 k d hb
        obtain ⟨_, _, h4⟩ := I.lent _ hm'
        rw [ha] at h4; cases h4
        exact h2 _ hm' rfl
    exact (I.frame b u h1 h2).ext fun u' e' => by rw [upd_ne nb]; exact e'
/-- a name's object becomes shared data -/
theorem Rel.freeze {k : Nat} {a : Addr} {d : D} (I : Rel B σ s none H) (hk : s[k]? = some (some (SV.ow d))) (ha : σ[k]? = some (some (V.ref a))) (hd : ∀ c ns vs, d ≠ .obj c ns vs) :
    Rel B σ (s.set k (some (.sh d))) none H ∧ Le B σ s H (s.set k (some (.sh d))) H ∧ Dv B.K B.mg (hid B σ (s.set k (some (.sh d))) none H) (.ref a) d := by
  have hkl : k < s.length := (List.getElem?_eq_some_iff.mp hk).1
  obtain ⟨hc, hz, _⟩ := I.ownH (.inl hk) ha
  have own' : ∀ b, ownB σ (s.set k (some (.sh d))) b = true → ownB σ s b = true ∧ b ≠ a := fun b h => by
    obtain ⟨j, e, h1, h2⟩ := ownB_iff.mp h
    rcases slotS h2 with ⟨_, q, _⟩ | ⟨ne, h3⟩
    · rcases q with q | q <;> cases q
    · exact ⟨ownB_iff.mpr ⟨j, e, h1, h3⟩, fun z => by subst z; exact ne (I.inj j k e d b h3 (.inl hk) h1 ha)⟩
  have ex : Ext (hid B σ s none H) (hid B σ (s.set k (some (.sh d))) none H) := Ext.of fun b u h => by
    obtain ⟨h1, h2, h3, _⟩ := hid_some h
    refine hid_of h1 h2 ?_ (by simp)
    cases q : ownB σ (s.set k (some (.sh d))) b with
    | false => rfl
    | true => rw [(own' b q).1] at h3; cases h3
  have un : ownB σ (s.set k (some (.sh d))) a = false := by
    cases q : ownB σ (s.set k (some (.sh d))) a with
    | false => rfl
    | true => exact absurd rfl (own' a q).2
  have hv : hid B σ (s.set k (some (.sh d))) none H a = H a := by unfold hid; rw [un, hz]; simp
  have dv : Dv B.K B.mg (hid B σ (s.set k (some (.sh d))) none H) (.ref a) d := hc.dv hd hv ex
  have sl : ∀ {j : Nat} {e : D}, Slot1 (s.set k (some (.sh d))) j e → Slot1 s j e := fun {j e} h => by
    rcases slotS h with ⟨_, q, _⟩ | ⟨_, h⟩
    · rcases q with q | q <;> cases q
    · exact h
  refine ⟨⟨by rw [List.length_set]; exact I.len, fun i e h => ?_, fun i e h => ?_, fun i j e e' b h1 h2 => I.inj i j e e' b (sl h1) (sl h2), fun i e b h1 => ?_, fun p hp => ?_, fun i e h => ?_, fun b q => (by cases q), I.frame, I.tabs, I.zs, I.zio⟩, ex, dv⟩
  · rcases setS h with ⟨rfl, q, _⟩ | ⟨_, h3⟩
    · cases q
      exact ⟨.ref a, ha, dv⟩
    · obtain ⟨v, q, r⟩ := I.sh i e h3
      exact ⟨v, q, Dv.ext ex r⟩
  · obtain ⟨b, h4, h5, h6, h7⟩ := I.own i e (sl h)
    exact ⟨b, h4, h5.mono rfl ex, h6, h7⟩
  · rcases setS h1 with ⟨_, q, _⟩ | ⟨_, h3⟩
    · cases q
    · exact I.new i e b h3
  · obtain ⟨e, h1, h2⟩ := I.lent p hp
    refine ⟨e, ?_, h2⟩
    rw [List.getElem?_set_ne (fun z => by subst z; rw [hk] at h1; cases h1)]
    exact h1
  · rcases setS h with ⟨_, q, _⟩ | ⟨_, h3⟩
    · cases q
    · exact I.lent2 i e h3
end
end AL


set_option Elab.async false
set_option linter.all false
set_option maxRecDepth 100000
/-! AL2: what an expression gives as data; readings by data. -/
namespace AL
open PySem PySem.Spec PyProof.Rows L2

inductive Res (τ : Type) where
  | ok (a : τ) (s : S)
  | exc (c : Str) (s : S)
  | bad
def Res.bind {τ υ : Type} (m : Res τ) (k : τ → S → Res υ) : Res υ :=
  match m with
  | .ok a s => k a s
  | .exc c s => .exc c s
  | .bad => .bad
@[simp] theorem bind_ok {τ υ : Type} (a : τ) (s : S) (k : τ → S → Res υ) : (Res.ok a s).bind k = k a s := Eq.trans rfl rfl
@[simp] theorem bind_exc {τ υ : Type} (c : Str) (s : S) (k : τ → S → Res υ) : (Res.exc c s : Res τ).bind k = .exc c s := Eq.trans rfl rfl
@[simp] theorem bind_bad {τ υ : Type} (k : τ → S → Res υ) : (Res.bad : Res τ).bind k = .bad := Eq.trans rfl rfl
theorem bind_self {τ : Type} (m : Res τ) : (m.bind fun a s => .ok a s) = m := by cases m <;> rfl
theorem bind_assoc {τ υ ω : Type} (m : Res τ) (k : τ → S → Res υ) (l : υ → S → Res ω) : (m.bind k).bind l = m.bind fun a s => (k a s).bind l := by cases m <;> rfl

structure P0 where
  H0 : Hp
  io : List (Nat × Addr)
  T : List (Addr × Str)
  Z : Addr → Bool
abbrev bs (X : Cx) (p : P0) : Bas := ⟨X.K, X.mg, p.H0, p.io, p.T, p.Z⟩
/-- how a result lies in a world; what of it is one's own alone -/
structure RT (τ β : Type) where
  r : List (Option V) → S → Hp → τ → β → Prop
  x : τ → β → Option Addr
instance {τ β : Type} : CoeFun (RT τ β) (fun _ => List (Option V) → S → Hp → τ → β → Prop) := ⟨RT.r⟩
/-- a value that is held while more is done -/
def RH (B : Bas) (σ : List (Option V)) (s : S) (H : Hp) : R → V → Prop
  | .sh d, v => Dv B.K B.mg (hid B σ s none H) v d
  | .ob i, v => σ[i]? = some (some v)
  | .fr _, _ => False
theorem RH.mono {B : Bas} {σ : List (Option V)} {s s' : S} {H H' : Hp} {r : R} {v : V} (h : RH B σ s H r v) (l : Le B σ s H s' H') : RH B σ s' H' r v := by
  cases r with
  | sh d => exact Dv.ext l h
  | ob i => exact h
  | fr d => exact h
def xR (r : R) (v : V) : Option Addr := match r with
  | .fr _ => (match v with
    | .ref a => some a
    | _ => none)
  | _ => none
def relR (B : Bas) : RT R V := ⟨fun σ s H r v => match r with
  | .sh d => Rel B σ s none H ∧ Dv B.K B.mg (hid B σ s none H) v d
  | .ob i => Rel B σ s none H ∧ σ[i]? = some (some v)
  | .fr d => ∃ a, v = .ref a ∧ Rel B σ s (some a) H ∧ OwnC B.K B.mg H (hid B σ s (some a) H) a d, xR⟩
def relH (B : Bas) : RT R V := ⟨fun σ s H r v => Rel B σ s none H ∧ RH B σ s H r v, fun _ _ => none⟩
def relL (B : Bas) : RT (List R) (List V) := ⟨fun σ s H rs vs => Rel B σ s none H ∧ Paired (RH B σ s H) rs vs, fun _ _ => none⟩
/-- a thing that the machine gives as it is -/
def relE {τ : Type} (B : Bas) : RT τ τ := ⟨fun σ s H a b => Rel B σ s none H ∧ b = a, fun _ _ => none⟩
theorem relR.of {B : Bas} {σ : List (Option V)} {s : S} {H : Hp} {r : R} {v : V} (h : relH B σ s H r v) : relR B σ s H r v := by
  cases r with
  | sh d => exact h
  | ob i => exact h
  | fr d => exact h.2.elim
theorem xR.of {B : Bas} {σ : List (Option V)} {s : S} {H : Hp} {r : R} {v : V} (h : relH B σ s H r v) : xR r v = none := by
  cases r with
  | sh d => rfl
  | ob i => rfl
  | fr d => exact h.2.elim

/-- what must follow of a result, seen from the world (s, H) -/
def tR {τ β : Type} (B : Bas) (W : WX) (rel : RT τ β) (σ : List (Option V)) (s : S) (H : Hp) (m : Res τ) (Q : β → Hp → Prop) : Prop :=
  match m with
  | .ok a s' => ∀ (v : β) (H' : Hp), rel σ s' H' a v → Ext (hid B σ s none H) (hid B σ s' (rel.x a v) H') → Q v H'
  | .exc c s' => ∀ (H' : Hp), Rel B σ s' none H' → Le B σ s H s' H' → ∀ C, B.mg c = some (.ref C) → W (.ref C) none σ H'
  | .bad => False
def tG {τ β : Type} (B : Bas) (W : WX) (rel : RT τ β) (f : S → Res τ) : List (Option V) → Hp → (β → Hp → Prop) → Prop := fun σ H Q => ∃ s, Rel B σ s none H ∧ tR B W rel σ s H (f s) Q
section
variable {τ β υ γ : Type} {B : Bas} {W : WX} {rel : RT τ β} {rel2 : RT υ γ} {σ : List (Option V)} {H H1 : Hp} {s s1 : S}
theorem tR_le {m : Res τ} {Q : β → Hp → Prop} (le : Le B σ s H s1 H1) (h : tR B W rel σ s H m Q) : tR B W rel σ s1 H1 m Q := by
  cases m with
  | ok a s' => exact fun v H' r l => h v H' r (Ext.trans le l)
  | exc c s' => exact fun H' I l C e => h H' I (le.trans l) C e
  | bad => exact h
theorem tR_mono {m : Res τ} {Q Q' : β → Hp → Prop} (h : tR B W rel σ s H m Q) (hQ : ∀ v H, Q v H → Q' v H) : tR B W rel σ s H m Q' := by
  cases m with
  | ok a s' => exact fun v H' r l => hQ _ _ (h v H' r l)
  | exc c s' => exact h
  | bad => exact h
theorem tG_mono {f : S → Res τ} {Q Q' : β → Hp → Prop} (h : tG B W rel f σ H Q) (hQ : ∀ v H, Q v H → Q' v H) : tG B W rel f σ H Q' := by
  obtain ⟨s, I, h⟩ := h
  exact ⟨s, I, tR_mono h hQ⟩
/-- what is known behind the first of two parts -/
def Aft (B : Bas) (W : WX) (rel : RT τ β) (rel2 : RT υ γ) (σ : List (Option V)) (s : S) (H : Hp) (k : τ → S → Res υ) (Q : γ → Hp → Prop) (x : β) (H1 : Hp) : Prop :=
  ∃ a s1, rel σ s1 H1 a x ∧ Ext (hid B σ s none H) (hid B σ s1 (rel.x a x) H1) ∧ tR B W rel2 σ s1 H1 (k a s1) Q
theorem tR_bind {m : Res τ} {k : τ → S → Res υ} {Q : γ → Hp → Prop} (h : tR B W rel2 σ s H (m.bind k) Q) : tR B W rel σ s H m (Aft B W rel rel2 σ s H k Q) := by
  cases m with
  | ok a s' => exact fun v H' r l => ⟨a, s', r, l, tR_le (Ext.trans l hid_x) h⟩
  | exc c s' => exact h
  | bad => exact h
/-- a result that is there -/
theorem tR_ok {a : τ} {s' : S} {Q : β → Hp → Prop} {v : β} {H' : Hp} (h : tR B W rel σ s H (.ok a s') Q) (r : rel σ s' H' a v) (l : Ext (hid B σ s none H) (hid B σ s' (rel.x a v) H')) : Q v H' := h v H' r l
end

section
variable {X : Cx} {p : P0} {W : WX} {e a b : Expr} {pos : Pos}
abbrev DE (X : Cx) (p : P0) (W : WX) (e : Expr) (f : S → Res R) : Prop := PE X e (tG (bs X p) W (relR (bs X p)) f)
abbrev DH (X : Cx) (p : P0) (W : WX) (e : Expr) (f : S → Res R) : Prop := PE X e (tG (bs X p) W (relH (bs X p)) f)
abbrev DT (X : Cx) (p : P0) (W : WX) (e : Expr) (f : S → Res Bool) : Prop := PT X e (tG (bs X p) W (relE (bs X p)) f)
abbrev DWt (X : Cx) (p : P0) (W : WX) (e : Expr) (f : S → Res Bool) : Prop := PW X e (tG (bs X p) W (relE (bs X p)) f)
abbrev DA (X : Cx) (p : P0) (W : WX) (es : List Expr) (f : S → Res (List R)) : Prop := PA X es (tG (bs X p) W (relL (bs X p)) f)
theorem PE.imp {t t' : TE} (h : PE X e t) (hi : ∀ σ H Q, t' σ H Q → t σ H Q) : PE X e t' := ⟨fun pins s σ H Q I q => h.run pins s σ H Q I (hi _ _ _ q)⟩
theorem PT.imp {t t' : TT} (h : PT X e t) (hi : ∀ σ H Q, t' σ H Q → t σ H Q) : PT X e t' := ⟨fun pins s σ H Q I q => h.run pins s σ H Q I (hi _ _ _ q)⟩
theorem PW.imp {t t' : TT} (h : PW X e t) (hi : ∀ σ H Q, t' σ H Q → t σ H Q) : PW X e t' := ⟨fun wh pins s σ H Q I q => h.run wh pins s σ H Q I (hi _ _ _ q)⟩
theorem PA.imp {es : List Expr} {t t' : TA} (h : PA X es t) (hi : ∀ σ H Q, t' σ H Q → t σ H Q) : PA X es t' := ⟨fun pos pins s σ H Q I q => h.run pos pins s σ H Q I (hi _ _ _ q)⟩
theorem PS.imp {st : Stmt} {t t' : TS} (h : PS X st t) (hi : ∀ D σ H, t' D σ H → t D σ H) : PS X st t' := ⟨fun pins s σ H D I q => h.run pins s σ H D I (hi _ _ _ q)⟩
theorem PSs.imp {st : List Stmt} {t t' : TS} (h : PSs X st t) (hi : ∀ D σ H, t' D σ H → t D σ H) : PSs X st t' := ⟨fun pins s σ H D I q => h.run pins s σ H D I (hi _ _ _ q)⟩
theorem OpR.imp {f : Value → Value → Sem Value} {r r' : R2} (h : OpR X f r) (hi : ∀ x y H Q, r' x y H Q → r x y H Q) : OpR X f r' := fun pins s σ H x y v u Q I rx ry q => h pins s σ H x y v u Q I rx ry (hi _ _ _ _ q)

/-! ### hold, escape, peek -/
def isObjD : D → Bool
  | .obj _ _ _ => true
  | _ => false
/-- a new object is held as shared data -/
def hold (r : R) (s : S) : Res R := match r with
  | .fr d => if isObjD d = true then .bad else .ok (.sh d) s
  | r => .ok r s
def esc (r : R) (s : S) : Res D := match r with
  | .sh d => .ok d s
  | .ob i => (match s[i]? with
    | some (some (.sh d)) => .ok d s
    | some (some (.ow d)) => if isObjD d = true then .bad else .ok d (s.set i (some (.sh d)))
    | _ => .bad)
  | .fr _ => .bad
def escs : List R → S → Res (List D)
  | [], s => .ok [] s
  | r :: rs, s => (esc r s).bind fun d s1 => (escs rs s1).bind fun ds s2 => .ok (d :: ds) s2
def SV.d : SV → D
  | .sh d => d
  | .ow d => d
  | .io d => d
def slotD (s : S) (i : Nat) : Option D := match s[i]? with
  | some (some x) => some x.d
  | _ => none
def peek (r : R) (s : S) : Option D := match r with
  | .sh d => some d
  | .ob i => slotD s i
  | .fr _ => none
theorem dh_of {f : S → Res R} (h : DE X p W e f) : DH X p W e (fun s => (f s).bind hold) := by
  refine PE.imp h fun σ H Q ⟨s, I, q⟩ => ⟨s, I, tR_mono (tR_bind (rel := relR (bs X p)) q) fun v H1 ⟨r, s1, hr, l, q1⟩ => ?_⟩
  cases r with
  | sh d => exact tR_ok q1 hr Le.refl
  | ob i => exact tR_ok q1 hr Le.refl
  | fr d =>
    obtain ⟨a, rfl, I1, c⟩ := hr
    unfold hold at q1
    dsimp only at q1
    split at q1
    · exact q1.elim
    · rename_i ho
      obtain ⟨I2, dv⟩ := I1.freeX c fun c ns vs z => ho (by rw [z]; rfl)
      exact tR_ok q1 ⟨I2, dv⟩ Le.refl
theorem de_ofh {f : S → Res R} (h : DH X p W e f) : DE X p W e f := by
  refine PE.imp h fun σ H Q ⟨s, I, q⟩ => ⟨s, I, ?_⟩
  cases e : f s with
  | ok r s' => rw [e] at q; exact fun v H' hr l => q v H' (relR.of hr) (by show Ext _ (hid _ _ _ (xR r v) _); rw [xR.of hr]; exact l)
  | exc c s' => rw [e] at q; exact q
  | bad => rw [e] at q; exact q
theorem esc_ok {B : Bas} {σ : List (Option V)} {H : Hp} {s s1 : S} {r : R} {v : V} {d : D} (I : Rel B σ s none H) (hr : RH B σ s H r v) (e : esc r s = .ok d s1) :
    Rel B σ s1 none H ∧ Le B σ s H s1 H ∧ Dv B.K B.mg (hid B σ s1 none H) v d := by
  unfold esc at e
  cases r with
  | sh d' => simp only [Res.ok.injEq] at e; obtain ⟨rfl, rfl⟩ := e; exact ⟨I, Le.refl, hr⟩
  | fr d' => exact hr.elim
  | ob i =>
    have hr : σ[i]? = some (some v) := hr
    simp only at e
    split at e
    · rename_i d' q
      simp only [Res.ok.injEq] at e; obtain ⟨rfl, rfl⟩ := e
      obtain ⟨w, h1, h2⟩ := I.sh i _ q
      rw [hr] at h1; cases h1
      exact ⟨I, Le.refl, h2⟩
    · rename_i d' q
      split at e
      · cases e
      · rename_i ho
        simp only [Res.ok.injEq] at e; obtain ⟨rfl, rfl⟩ := e
        obtain ⟨a, h1, _⟩ := I.own i _ (.inl q)
        rw [hr] at h1; cases h1
        exact I.freeze q hr fun c ns vs z => ho (by rw [z]; rfl)
    · cases e
theorem esc_nexc {r : R} {s s1 : S} {c : Str} : esc r s ≠ .exc c s1 := fun e => by
  unfold esc at e
  cases r with
  | sh d => cases e
  | fr d => cases e
  | ob i =>
    simp only at e
    split at e
    · cases e
    · split at e <;> cases e
    · cases e
/-- a value becomes data: no step of the machine -/
theorem tR_esc {τ β : Type} {B : Bas} {W : WX} {rel : RT τ β} {σ : List (Option V)} {H : Hp} {s : S} {r : R} {v : V} {k : D → S → Res τ} {Q : β → Hp → Prop} (I : Rel B σ s none H) (hr : RH B σ s H r v)
    (h : tR B W rel σ s H ((esc r s).bind k) Q) : ∃ d s1, Rel B σ s1 none H ∧ Le B σ s H s1 H ∧ Dv B.K B.mg (hid B σ s1 none H) v d ∧ tR B W rel σ s1 H (k d s1) Q := by
  cases e : esc r s with
  | bad => rw [e] at h; exact h.elim
  | exc c s1 => exact absurd e esc_nexc
  | ok d s1 =>
    rw [e] at h
    obtain ⟨I1, l, dv⟩ := esc_ok I hr e
    exact ⟨d, s1, I1, l, dv, tR_le l h⟩

/-- what is read without giving it away -/
theorem peek_cases {B : Bas} {σ : List (Option V)} {H : Hp} {s : S} {r : R} {v : V} {d : D} (I : Rel B σ s none H) (hr : RH B σ s H r v) (e : peek r s = some d) :
    Dv B.K B.mg (hid B σ s none H) v d ∨ ∃ a, v = .ref a ∧ OwnC B.K B.mg H (hid B σ s none H) a d := by
  cases r with
  | sh d' => cases e; exact .inl hr
  | fr d' => cases e
  | ob i =>
    have hr : σ[i]? = some (some v) := hr
    unfold peek slotD at e
    simp only at e
    split at e
    · rename_i x q
      cases e
      cases x with
      | sh d' =>
        obtain ⟨w, h1, h2⟩ := I.sh i _ q
        rw [hr] at h1; cases h1
        exact .inl h2
      | ow d' =>
        obtain ⟨a, h1, h2, _⟩ := I.own i _ (.inl q)
        rw [hr] at h1; cases h1
        exact .inr ⟨a, rfl, h2⟩
      | io d' =>
        obtain ⟨a, h1, h2, _⟩ := I.own i _ (.inr q)
        rw [hr] at h1; cases h1
        exact .inr ⟨a, rfl, h2⟩
    · cases e
theorem peek_lst {B : Bas} {σ : List (Option V)} {H : Hp} {s : S} {r : R} {v : V} {ds : List D} (I : Rel B σ s none H) (hr : RH B σ s H r v) (e : peek r s = some (.lst ds)) :
    ∃ a xs, v = .ref a ∧ H a = some (.lst xs) ∧ DvL B.K B.mg (hid B σ s none H) xs ds := by
  rcases peek_cases I hr e with h | ⟨a, rfl, xs, h1, h2⟩
  · cases h with
    | lst h hs => exact ⟨_, _, rfl, hid_sub _ _ h, hs⟩
  · exact ⟨a, xs, rfl, h1, h2⟩
/-- data that is no list, dict or instance is shared -/
theorem peek_sh {B : Bas} {σ : List (Option V)} {H : Hp} {s : S} {r : R} {v : V} {d : D} (I : Rel B σ s none H) (hr : RH B σ s H r v) (e : peek r s = some d)
    (hd : (match d with | .lst _ => false | .dct _ _ => false | .obj _ _ _ => false | _ => true) = true) : Dv B.K B.mg (hid B σ s none H) v d := by
  rcases peek_cases I hr e with h | ⟨a, rfl, h⟩
  · exact h
  · cases d <;> first | exact h.elim | cases hd
/-- data as it stands in the whole heap -/
theorem peek_H {B : Bas} {σ : List (Option V)} {H : Hp} {s : S} {r : R} {v : V} {d : D} (I : Rel B σ s none H) (hr : RH B σ s H r v) (e : peek r s = some d) (ho : isObjD d = false) : Dv B.K B.mg H v d := by
  rcases peek_cases I hr e with h | ⟨a, rfl, h⟩
  · exact Dv.ext hid_ext h
  · exact h.dv (fun c ns vs z => by rw [z] at ho; cases ho) rfl hid_ext
end
end AL


set_option Elab.async false
set_option linter.all false
set_option maxRecDepth 100000
set_option maxHeartbeats 1000000
/-! AL3: operators on data. -/
namespace AL
open PySem PySem.Spec PyProof.Rows L2

/-! ### equality -/
mutual
def D.py : D → PyData
  | .non => .none
  | .bl b => .bool b
  | .int i => .int i
  | .str x => .str x
  | .tup xs => .tuple (D.pys xs)
  | .lst xs => .list (D.pys xs)
  | _ => .none
def D.pys : List D → List PyData
  | [] => []
  | x :: xs => D.py x :: D.pys xs
end
mutual
def D.plain : D → Bool
  | .non => true
  | .bl _ => true
  | .int _ => true
  | .str _ => true
  | .tup xs => D.plains xs
  | .lst xs => D.plains xs
  | _ => false
def D.plains : List D → Bool
  | [] => true
  | x :: xs => D.plain x && D.plains xs
end
mutual
theorem Dv.dp {K : PySem.W.Frag} {mg : Str → Option Value} {H : Hp} : ∀ {v : V} {d : D}, Dv K mg H v d → d.plain = true → Dp K H v d.py
  | _, _, .non, _ => .non
  | _, _, .bl b, _ => .bl b
  | _, _, .int i, _ => .int i
  | _, _, .str x, _ => .str x
  | _, _, .tup h hs, p => .tup (SqT.of h) (DvL.dp hs p)
  | _, _, .lst h hs, p => .lst (SqL.of h) (DvL.dp hs p)
  | _, _, .scr _, p => by cases p
  | _, _, .fn _, p => by cases p
  | _, _, .dk _ _, p => by cases p
  | _, _, .dt _ _, p => by cases p
theorem DvL.dp {K : PySem.W.Frag} {mg : Str → Option Value} {H : Hp} : ∀ {vs : List V} {ds : List D}, DvL K mg H vs ds → D.plains ds = true → DpAll K H vs (D.pys ds)
  | _, _, .nil, _ => .nil
  | _, _, .cons h hs, p => by
    have p : (D.plain _ && D.plains _) = true := p
    rw [Bool.and_eq_true] at p
    exact .cons (Dv.dp h p.1) (DvL.dp hs p.2)
end
/-- data that == may be asked of -/
def D.okE (d : D) : Bool := d.plain && decide (d.py.depth ≤ 64)
def D.eqv (a b : D) : Bool := PyData.eqv a.py b.py

section
variable {X : Cx} {p : P0} {W : WX}
/-- an operator's reading by data -/
def r2 (X : Cx) (p : P0) (W : WX) (g : R → R → S → Res R) : R2 := fun x y H Q => ∃ σ s a b, Rel (bs X p) σ s none H ∧ RH (bs X p) σ s H a x ∧ RH (bs X p) σ s H b y ∧ tR (bs X p) W (relR (bs X p)) σ s H (g a b s) Q
def r1 (X : Cx) (p : P0) (W : WX) (g : R → S → Res R) : V → Hp → VK → Prop := fun x H Q => ∃ σ s a, Rel (bs X p) σ s none H ∧ RH (bs X p) σ s H a x ∧ tR (bs X p) W (relR (bs X p)) σ s H (g a s) Q

def mulOk (i j : Int) : Bool := decide (i.natAbs.log2 + j.natAbs.log2 < 1000000)
def lineOk (n : Nat) : Bool := decide (n ≤ sizeLine)
/-- a new list of one's own -/
def newLst (ds : List D) (s : S) : Res R := .ok (.fr (.lst ds)) s
def binD (op : Operator) (a b : R) (s : S) : Res R :=
  match op, peek a s, peek b s with
  | .Add, some (.int i), some (.int j) => .ok (.sh (.int (i + j))) s
  | .Sub, some (.int i), some (.int j) => .ok (.sh (.int (i - j))) s
  | .Mult, some (.int i), some (.int j) => if mulOk i j = true then .ok (.sh (.int (i * j))) s else .bad
  | .Mod, some (.int i), some (.int j) => if 0 < j then .ok (.sh (.int (i % j))) s else .bad
  | .FloorDiv, some (.int i), some (.int j) => if 0 < j ∧ j.natAbs.log2 < 9000 then .ok (.sh (.int (i / j))) s else .bad
  | .Pow, some (.int i), some (.int j) => if 0 ≤ j ∧ j ≤ 1000000 ∧ i.natAbs < 2 ^ 64 then .ok (.sh (.int (i ^ j.toNat))) s else .bad
  | .Add, some (.str x), some (.str y) => if lineOk (x.length + y.length) = true then .ok (.sh (.str (x ++ y))) s else .bad
  | .Add, some (.lst x), some (.lst y) => if lineOk (x.length + y.length) = true then newLst (x ++ y) s else .bad
  | .Add, some (.tup x), some (.tup y) => if lineOk (x.length + y.length) = true then .ok (.sh (.tup (x ++ y))) s else .bad
  | _, _, _ => .bad

theorem newLst_ok {σ : List (Option V)} {H : Hp} {s : S} {ds : List D} {xs : List V} {Q : VK} (I : Rel (bs X p) σ s none H) (hs : DvL X.K X.mg (hid (bs X p) σ s none H) xs ds)
    (h : tR (bs X p) W (relR (bs X p)) σ s H (newLst ds s) Q) : ∀ q, H q = none → Q (.ref q) (upd H q (.lst xs)) := fun q hq => by
  obtain ⟨I1, e1, l⟩ := I.newX (o := .lst xs) hq
  exact h _ _ ⟨q, rfl, I1, xs, upd_same, hs.ext e1⟩ e1
theorem tup_ok {σ : List (Option V)} {H : Hp} {s : S} {ds : List D} {xs : List V} {Q : VK} (I : Rel (bs X p) σ s none H) (hs : DvL X.K X.mg (hid (bs X p) σ s none H) xs ds)
    (h : tR (bs X p) W (relR (bs X p)) σ s H (.ok (.sh (.tup ds)) s) Q) : ∀ q, H q = none → Q (.ref q) (upd H q (.tup xs)) := fun q hq => by
  obtain ⟨I1, e1, l⟩ := I.fresh1 (o := .tup xs) hq
  exact h _ _ ⟨I1, Dv.tup (hid_of upd_same (I.noZ hq) (I.unowned hq) (by simp)) (hs.ext e1)⟩ l
theorem int_of {B : Bas} {Hv : Hp} {v : V} {i : Int} (h : Dv B.K B.mg Hv v (.int i)) : v = .int i := by cases h; rfl
theorem str_of {B : Bas} {Hv : Hp} {v : V} {i : Str} (h : Dv B.K B.mg Hv v (.str i)) : v = .str i := by cases h; rfl
theorem bl_of {B : Bas} {Hv : Hp} {v : V} {i : Bool} (h : Dv B.K B.mg Hv v (.bl i)) : v = .bl i := by cases h; rfl
theorem non_of {B : Bas} {Hv : Hp} {v : V} (h : Dv B.K B.mg Hv v .non) : v = .non := by cases h; rfl
theorem tup_of {B : Bas} {σ : List (Option V)} {s : S} {H : Hp} {v : V} {ds : List D} (h : Dv B.K B.mg (hid B σ s none H) v (.tup ds)) : ∃ a xs, v = .ref a ∧ H a = some (.tup xs) ∧ DvL B.K B.mg (hid B σ s none H) xs ds := by
  cases h with
  | tup h hs => exact ⟨_, _, rfl, hid_sub _ _ h, hs⟩
theorem op_binD {op : Operator} : OpR X (binaryOp op) (r2 X p W (binD op)) := by
  intro pins s' σ' H x y v u Q I rx ry h
  obtain ⟨σ, s, a, b, J, ha, hb, h⟩ := h
  unfold binD at h
  split at h
  · rename_i i j e1 e2
    obtain rfl := int_of (peek_sh J ha e1 rfl)
    obtain rfl := int_of (peek_sh J hb e2 rfl)
    exact op_add pins s' σ' H _ _ v u Q I rx ry ⟨i, j, rfl, rfl, tR_ok h ⟨J, (Dv.int _)⟩ Le.refl⟩
  · rename_i i j e1 e2
    obtain rfl := int_of (peek_sh J ha e1 rfl)
    obtain rfl := int_of (peek_sh J hb e2 rfl)
    exact op_sub pins s' σ' H _ _ v u Q I rx ry ⟨i, j, rfl, rfl, tR_ok h ⟨J, (Dv.int _)⟩ Le.refl⟩
  · rename_i i j e1 e2
    obtain rfl := int_of (peek_sh J ha e1 rfl)
    obtain rfl := int_of (peek_sh J hb e2 rfl)
    split at h
    · rename_i c
      exact op_mulW pins s' σ' H _ _ v u Q I rx ry ⟨i, j, rfl, rfl, (of_decide_eq_true (p := i.natAbs.log2 + j.natAbs.log2 < 1000000) c), tR_ok h ⟨J, (Dv.int _)⟩ Le.refl⟩
    · exact h.elim
  · rename_i i j e1 e2
    obtain rfl := int_of (peek_sh J ha e1 rfl)
    obtain rfl := int_of (peek_sh J hb e2 rfl)
    split at h
    · rename_i c
      exact op_mod pins s' σ' H _ _ v u Q I rx ry ⟨i, j, rfl, rfl, c, tR_ok h ⟨J, (Dv.int _)⟩ Le.refl⟩
    · exact h.elim
  · rename_i i j e1 e2
    obtain rfl := int_of (peek_sh J ha e1 rfl)
    obtain rfl := int_of (peek_sh J hb e2 rfl)
    split at h
    · rename_i c
      exact op_fdivW pins s' σ' H _ _ v u Q I rx ry ⟨i, j, rfl, rfl, c, tR_ok h ⟨J, (Dv.int _)⟩ Le.refl⟩
    · exact h.elim
  · rename_i i j e1 e2
    obtain rfl := int_of (peek_sh J ha e1 rfl)
    obtain rfl := int_of (peek_sh J hb e2 rfl)
    split at h
    · rename_i c
      exact op_pow pins s' σ' H _ _ v u Q I rx ry ⟨i, j, rfl, rfl, c, tR_ok h ⟨J, (Dv.int _)⟩ Le.refl⟩
    · exact h.elim
  · rename_i i j e1 e2
    obtain rfl := str_of (peek_sh J ha e1 rfl)
    obtain rfl := str_of (peek_sh J hb e2 rfl)
    split at h
    · rename_i c
      exact op_add_str pins s' σ' H _ _ v u Q I rx ry ⟨i, j, rfl, rfl, of_decide_eq_true c, tR_ok h ⟨J, (Dv.str _)⟩ Le.refl⟩
    · exact h.elim
  · rename_i i j e1 e2
    obtain ⟨l1, xs, rfl, h1, d1⟩ := peek_lst J ha e1
    obtain ⟨l2, ys, rfl, h2, d2⟩ := peek_lst J hb e2
    split at h
    · rename_i c
      refine op_cat pins s' σ' H _ _ v u Q I rx ry ⟨l1, l2, xs, ys, rfl, rfl, h1, h2, ?_, newLst_ok J (d1.append d2) h⟩
      rw [d1.length, d2.length]
      exact of_decide_eq_true c
    · exact h.elim
  · rename_i i j e1 e2
    obtain ⟨l1, xs, rfl, h1, d1⟩ := tup_of (peek_sh J ha e1 rfl)
    obtain ⟨l2, ys, rfl, h2, d2⟩ := tup_of (peek_sh J hb e2 rfl)
    split at h
    · rename_i c
      refine op_catA pins s' σ' H _ _ v u Q I rx ry ⟨l1, l2, xs, ys, rfl, rfl, SqT.of h1, SqT.of h2, ?_, fun e => ?_, fun e e' => ?_, fun _ _ => tup_ok J (d1.append d2) h⟩
      · rw [d1.length, d2.length]
        exact of_decide_eq_true c
      · subst e
        have z := d1.length
        obtain rfl : i = [] := List.eq_nil_of_length_eq_zero z.symm
        exact tR_ok h ⟨J, (peek_sh J hb e2 rfl)⟩ Le.refl
      · subst e'
        have z := d2.length
        obtain rfl : j = [] := List.eq_nil_of_length_eq_zero z.symm
        rw [List.append_nil] at h
        exact tR_ok h ⟨J, (peek_sh J ha e1 rfl)⟩ Le.refl
    · exact h.elim
  · exact h.elim
/-- two parts, then an operation -/
theorem two {f g : S → Res R} {k : R → R → S → Res R} {σ : List (Option V)} {H : Hp} {Q : VK} (h : tG (bs X p) W (relR (bs X p)) (fun s => (f s).bind fun x s1 => (g s1).bind fun y s2 => k x y s2) σ H Q) :
    tG (bs X p) W (relH (bs X p)) f σ H fun x H1 => tG (bs X p) W (relH (bs X p)) g σ H1 fun y H2 => r2 X p W k x y H2 Q := by
  obtain ⟨s, I, q⟩ := h
  refine ⟨s, I, tR_mono (tR_bind (rel := relH (bs X p)) q) fun x H1 ⟨a, s1, ⟨I1, ra⟩, l1, q1⟩ => ⟨s1, I1, tR_mono (tR_bind (rel := relH (bs X p)) q1) fun y H2 ⟨b, s2, ⟨I2, rb⟩, l2, q2⟩ => ?_⟩⟩
  exact ⟨σ, s2, a, b, I2, ra.mono l2, rb, q2⟩
theorem one {f : S → Res R} {k : R → S → Res R} {σ : List (Option V)} {H : Hp} {Q : VK} (h : tG (bs X p) W (relR (bs X p)) (fun s => (f s).bind fun x s1 => k x s1) σ H Q) :
    tG (bs X p) W (relH (bs X p)) f σ H fun x H1 => r1 X p W k x H1 Q := by
  obtain ⟨s, I, q⟩ := h
  exact ⟨s, I, tR_mono (tR_bind (rel := relH (bs X p)) q) fun x H1 ⟨a, s1, ⟨I1, ra⟩, l1, q1⟩ => ⟨σ, s1, a, I1, ra, q1⟩⟩
theorem de_bin {a b : Expr} {op : Operator} {pos : Pos} {f g : S → Res R} (ha : DH X p W a f) (hb : DH X p W b g) : DE X p W (.BinOp a op b pos) (fun s => (f s).bind fun x s1 => (g s1).bind fun y s2 => binD op x y s2) :=
  PE.imp (pe_op op_binD ha hb) fun _ _ _ h => two h

/-! ### comparisons -/
def inL (d : D) (ds : List D) : Bool := ds.any fun z => z.eqv d
def isNonD : D → Bool
  | .non => true
  | _ => false
def flatD : D → Bool
  | .non => true
  | .bl _ => true
  | .int _ => true
  | .str _ => true
  | _ => false
def cmpD (op : CmpOp) (a b : R) (s : S) : Res R :=
  match op, peek a s, peek b s with
  | .Lt, some (.int i), some (.int j) => .ok (.sh (.bl (decide (i < j)))) s
  | .LtE, some (.int i), some (.int j) => .ok (.sh (.bl (decide (i ≤ j)))) s
  | .Gt, some (.int i), some (.int j) => .ok (.sh (.bl (decide (j < i)))) s
  | .GtE, some (.int i), some (.int j) => .ok (.sh (.bl (decide (j ≤ i)))) s
  | .Eq, some d, some e => if d.okE && e.okE then .ok (.sh (.bl (d.eqv e))) s else .bad
  | .NotEq, some d, some e => if d.okE && e.okE then .ok (.sh (.bl (!d.eqv e))) s else .bad
  | .In, some d, some (.lst ds) => if d.okE && (D.lst ds).okE then .ok (.sh (.bl (inL d ds))) s else .bad
  | .NotIn, some d, some (.lst ds) => if d.okE && (D.lst ds).okE then .ok (.sh (.bl (!inL d ds))) s else .bad
  | .In, some d, some (.tup ds) => if d.okE && (D.tup ds).okE then .ok (.sh (.bl (inL d ds))) s else .bad
  | .NotIn, some d, some (.tup ds) => if d.okE && (D.tup ds).okE then .ok (.sh (.bl (!inL d ds))) s else .bad
  | .Is, some d, some .non => .ok (.sh (.bl (isNonD d))) s
  | .IsNot, some d, some .non => .ok (.sh (.bl (!isNonD d))) s
  | _, _, _ => .bad
theorem plain_obj {d : D} (h : d.plain = true) : isObjD d = false := by
  cases d <;> first | rfl | cases h
theorem okE_ok {d : D} (h : d.okE = true) : d.plain = true ∧ d.py.depth ≤ 64 := by
  unfold D.okE at h
  rw [Bool.and_eq_true, decide_eq_true_iff] at h
  exact h
mutual
theorem py_plain : ∀ (d : D), d.py.plain = true
  | .non => rfl
  | .bl _ => rfl
  | .int _ => rfl
  | .str _ => rfl
  | .tup xs => pys_plain xs
  | .lst xs => pys_plain xs
  | .scr _ => rfl
  | .fn _ => rfl
  | .dct _ _ => rfl
  | .obj _ _ _ => rfl
theorem pys_plain : ∀ (ds : List D), PyData.plainAll (D.pys ds) = true
  | [] => rfl
  | d :: ds => by show (d.py.plain && PyData.plainAll (D.pys ds)) = true; rw [py_plain d, pys_plain ds]; rfl
end
/-- == of data, whatever signs its texts have -/
theorem op_eqP (hu : X.A.units + 64 < cLine) : OpR X (compareOp .Eq) (fun x y H Q => ∃ d e, Dp X.K H x d ∧ Dp X.K H y e ∧ d.plain = true ∧ e.plain = true ∧ d.depth ≤ 64 ∧ Q (.bl (PyData.eqv d e)) H) := by
  intro pins s σ H x y v u Q I rx ry h
  obtain ⟨d, e, hd, he, sd, se, hl, q⟩ := h
  obtain ⟨as, r1⟩ := Dp.reads I d x v hd rx
  obtain ⟨bs, r2⟩ := Dp.reads I e y u he ry
  exact SeqAt.eq_plain r1 r2 sd se (Nat.lt_of_le_of_lt (Nat.add_le_add_left (Nat.le_trans (Nat.min_le_left _ _) hl) _) hu) ⟨.bl _, H, I, rfl, q⟩
theorem op_neP (hu : X.A.units + 64 < cLine) : OpR X (compareOp .NotEq) (fun x y H Q => ∃ d e, Dp X.K H x d ∧ Dp X.K H y e ∧ d.plain = true ∧ e.plain = true ∧ d.depth ≤ 64 ∧ Q (.bl (!PyData.eqv d e)) H) := by
  intro pins s σ H x y v u Q I rx ry h
  obtain ⟨d, e, hd, he, sd, se, hl, q⟩ := h
  obtain ⟨as, r1⟩ := Dp.reads I d x v hd rx
  obtain ⟨bs, r2⟩ := Dp.reads I e y u he ry
  exact SeqAt.ne_plain r1 r2 sd se (Nat.lt_of_le_of_lt (Nat.add_le_add_left (Nat.le_trans (Nat.min_le_left _ _) hl) _) hu) ⟨.bl _, H, I, rfl, q⟩
theorem room_p {u a b : Nat} (hb : b ≤ 64) (hu : u + 65 < cLine) : u + 1 + min a b < cLine := by have := Nat.min_le_right a b; omega
theorem op_inP (hu : X.A.units + 65 < cLine) : OpR X (compareOp .In) (fun x y H Q => ∃ d ds, Dp X.K H x d ∧ (Dp X.K H y (.list ds) ∨ Dp X.K H y (.tuple ds)) ∧ d.plain = true ∧ PyData.plainAll ds = true ∧ d.depth ≤ 64 ∧ Q (.bl (ds.any fun z => PyData.eqv z d)) H) := by
  intro pins s σ H x y v u Q I rx ry h
  obtain ⟨d, ds, hd, he, sd, se, hl, q⟩ := h
  obtain ⟨as, r1⟩ := Dp.reads I d x v hd rx
  rcases he with he | he
  · obtain ⟨bs, r2⟩ := Dp.reads I (.list ds) y u he ry
    exact SeqAt.in_list_data r2 r1 se sd (room_p hl hu) ⟨.bl _, H, I, rfl, q⟩
  · obtain ⟨bs, r2⟩ := Dp.reads I (.tuple ds) y u he ry
    exact SeqAt.in_tuple_data r2 r1 se sd (room_p hl hu) ⟨.bl _, H, I, rfl, q⟩
theorem op_niP (hu : X.A.units + 65 < cLine) : OpR X (compareOp .NotIn) (fun x y H Q => ∃ d ds, Dp X.K H x d ∧ (Dp X.K H y (.list ds) ∨ Dp X.K H y (.tuple ds)) ∧ d.plain = true ∧ PyData.plainAll ds = true ∧ d.depth ≤ 64 ∧ Q (.bl (!ds.any fun z => PyData.eqv z d)) H) := by
  intro pins s σ H x y v u Q I rx ry h
  obtain ⟨d, ds, hd, he, sd, se, hl, q⟩ := h
  obtain ⟨as, r1⟩ := Dp.reads I d x v hd rx
  rcases he with he | he
  · obtain ⟨bs, r2⟩ := Dp.reads I (.list ds) y u he ry
    exact SeqAt.notIn_list_data r2 r1 se sd (room_p hl hu) ⟨.bl _, H, I, rfl, q⟩
  · obtain ⟨bs, r2⟩ := Dp.reads I (.tuple ds) y u he ry
    exact SeqAt.notIn_tuple_data r2 r1 se sd (room_p hl hu) ⟨.bl _, H, I, rfl, q⟩
theorem pys_any {d : D} : ∀ {ds : List D}, (D.pys ds).any (fun z => PyData.eqv z d.py) = inL d ds
  | [] => rfl
  | x :: xs => by
    show (PyData.eqv x.py d.py || (D.pys xs).any _) = _
    rw [pys_any]
    rfl
theorem flat_of {B : Bas} {Hv : Hp} {v : V} {d : D} (h : Dv B.K B.mg Hv v d) (f : flatD d = true) : flatV v = true := by
  cases h <;> first | rfl | cases f
theorem flats_of {B : Bas} {Hv : Hp} : ∀ {vs : List V} {ds : List D}, DvL B.K B.mg Hv vs ds → ds.all flatD = true → vs.all flatV = true
  | _, _, .nil, _ => rfl
  | _, _, .cons h hs, f => by
    rw [List.all_cons, Bool.and_eq_true] at f ⊢
    exact ⟨flat_of h f.1, flats_of hs f.2⟩
theorem eqV_of {B : Bas} {Hv : Hp} {v w : V} {d e : D} (h : Dv B.K B.mg Hv v d) (k : Dv B.K B.mg Hv w e) (f : flatD d = true) (f' : flatD e = true) : eqV v w = d.eqv e := by
  cases h with
  | non => cases k <;> first | rfl | exact absurd (show false = true from f') Bool.false_ne_true
  | bl b => cases k <;> first | rfl | exact absurd (show false = true from f') Bool.false_ne_true
  | int b => cases k <;> first | rfl | exact absurd (show false = true from f') Bool.false_ne_true
  | str b => cases k <;> first | rfl | exact absurd (show false = true from f') Bool.false_ne_true
  | _ => exact absurd (show false = true from f) Bool.false_ne_true
theorem inV_of {B : Bas} {Hv : Hp} {w : V} {e : D} (k : Dv B.K B.mg Hv w e) (f' : flatD e = true) : ∀ {vs : List V} {ds : List D}, DvL B.K B.mg Hv vs ds → ds.all flatD = true → inV w vs = inL e ds
  | _, _, .nil, _ => rfl
  | _, _, .cons h hs, f => by
    rw [List.all_cons, Bool.and_eq_true] at f
    show (eqV _ _ || _) = (D.eqv _ _ || _)
    rw [eqV_of h k f.1 f']
    have z := inV_of k f' hs f.2
    unfold inV inL at z
    rw [z]
theorem non_iff {B : Bas} {σ : List (Option V)} {H : Hp} {s : S} {r : R} {v : V} {d : D} (I : Rel B σ s none H) (hr : RH B σ s H r v) (e : peek r s = some d) : decide (v = .non) = (isNonD d) := by
  rcases peek_cases I hr e with h | ⟨a, rfl, h⟩
  · cases h <;> simp [isNonD]
  · cases d <;> first | exact h.elim | simp [isNonD]
theorem op_cmpD {op : CmpOp} (hu : X.A.units + 65 < cLine) : OpR X (compareOp op) (r2 X p W (cmpD op)) := by
  have hu' : X.A.units + 64 < cLine := by omega
  intro pins s' σ' H x y v u Q I rx ry h
  obtain ⟨σ, s, a, b, J, ha, hb, h⟩ := h
  unfold cmpD at h
  split at h
  · rename_i i j e1 e2
    obtain rfl := int_of (peek_sh J ha e1 rfl)
    obtain rfl := int_of (peek_sh J hb e2 rfl)
    exact op_lt pins s' σ' H _ _ v u Q I rx ry ⟨i, j, rfl, rfl, tR_ok h ⟨J, (Dv.bl _)⟩ Le.refl⟩
  · rename_i i j e1 e2
    obtain rfl := int_of (peek_sh J ha e1 rfl)
    obtain rfl := int_of (peek_sh J hb e2 rfl)
    exact op_le pins s' σ' H _ _ v u Q I rx ry ⟨i, j, rfl, rfl, tR_ok h ⟨J, (Dv.bl _)⟩ Le.refl⟩
  · rename_i i j e1 e2
    obtain rfl := int_of (peek_sh J ha e1 rfl)
    obtain rfl := int_of (peek_sh J hb e2 rfl)
    exact op_gt pins s' σ' H _ _ v u Q I rx ry ⟨i, j, rfl, rfl, tR_ok h ⟨J, (Dv.bl _)⟩ Le.refl⟩
  · rename_i i j e1 e2
    obtain rfl := int_of (peek_sh J ha e1 rfl)
    obtain rfl := int_of (peek_sh J hb e2 rfl)
    exact op_ge pins s' σ' H _ _ v u Q I rx ry ⟨i, j, rfl, rfl, tR_ok h ⟨J, (Dv.bl _)⟩ Le.refl⟩
  · rename_i d e e1 e2
    split at h
    · rename_i c
      rw [Bool.and_eq_true] at c
      obtain ⟨p1, s1⟩ := okE_ok c.1
      obtain ⟨p2, s2⟩ := okE_ok c.2
      exact op_eqP hu' pins s' σ' H _ _ v u Q I rx ry ⟨_, _, (peek_H J ha e1 (plain_obj p1)).dp p1, (peek_H J hb e2 (plain_obj p2)).dp p2, py_plain _, py_plain _, s1, tR_ok h ⟨J, (Dv.bl _)⟩ Le.refl⟩
    · exact h.elim
  · rename_i d e e1 e2
    split at h
    · rename_i c
      rw [Bool.and_eq_true] at c
      obtain ⟨p1, s1⟩ := okE_ok c.1
      obtain ⟨p2, s2⟩ := okE_ok c.2
      exact op_neP hu' pins s' σ' H _ _ v u Q I rx ry ⟨_, _, (peek_H J ha e1 (plain_obj p1)).dp p1, (peek_H J hb e2 (plain_obj p2)).dp p2, py_plain _, py_plain _, s1, tR_ok h ⟨J, (Dv.bl _)⟩ Le.refl⟩
    · exact h.elim
  · rename_i d ds e1 e2
    split at h
    · rename_i c
      rw [Bool.and_eq_true] at c
      obtain ⟨p1, s1⟩ := okE_ok c.1
      obtain ⟨p2, s2⟩ := okE_ok c.2
      refine op_inP hu pins s' σ' H _ _ v u Q I rx ry ⟨_, D.pys ds, (peek_H J ha e1 (plain_obj p1)).dp p1, .inl ((peek_H J hb e2 (plain_obj p2)).dp p2), py_plain _, pys_plain _, s1, ?_⟩
      rw [pys_any]
      exact tR_ok h ⟨J, (Dv.bl _)⟩ Le.refl
    · exact h.elim
  · rename_i d ds e1 e2
    split at h
    · rename_i c
      rw [Bool.and_eq_true] at c
      obtain ⟨p1, s1⟩ := okE_ok c.1
      obtain ⟨p2, s2⟩ := okE_ok c.2
      refine op_niP hu pins s' σ' H _ _ v u Q I rx ry ⟨_, D.pys ds, (peek_H J ha e1 (plain_obj p1)).dp p1, .inl ((peek_H J hb e2 (plain_obj p2)).dp p2), py_plain _, pys_plain _, s1, ?_⟩
      rw [pys_any]
      exact tR_ok h ⟨J, (Dv.bl _)⟩ Le.refl
    · exact h.elim
  · rename_i d ds e1 e2
    split at h
    · rename_i c
      rw [Bool.and_eq_true] at c
      obtain ⟨p1, s1⟩ := okE_ok c.1
      obtain ⟨p2, s2⟩ := okE_ok c.2
      refine op_inP hu pins s' σ' H _ _ v u Q I rx ry ⟨_, D.pys ds, (peek_H J ha e1 (plain_obj p1)).dp p1, .inr ((peek_H J hb e2 (plain_obj p2)).dp p2), py_plain _, pys_plain _, s1, ?_⟩
      rw [pys_any]
      exact tR_ok h ⟨J, (Dv.bl _)⟩ Le.refl
    · exact h.elim
  · rename_i d ds e1 e2
    split at h
    · rename_i c
      rw [Bool.and_eq_true] at c
      obtain ⟨p1, s1⟩ := okE_ok c.1
      obtain ⟨p2, s2⟩ := okE_ok c.2
      refine op_niP hu pins s' σ' H _ _ v u Q I rx ry ⟨_, D.pys ds, (peek_H J ha e1 (plain_obj p1)).dp p1, .inr ((peek_H J hb e2 (plain_obj p2)).dp p2), py_plain _, pys_plain _, s1, ?_⟩
      rw [pys_any]
      exact tR_ok h ⟨J, (Dv.bl _)⟩ Le.refl
    · exact h.elim
  · rename_i d e1 e2
    obtain rfl := non_of (peek_sh J hb e2 rfl)
    refine op_isN pins s' σ' H _ _ v u Q I rx ry ⟨rfl, ?_⟩
    rw [non_iff J ha e1]
    exact tR_ok h ⟨J, (Dv.bl _)⟩ Le.refl
  · rename_i d e1 e2
    obtain rfl := non_of (peek_sh J hb e2 rfl)
    refine op_notN pins s' σ' H _ _ v u Q I rx ry ⟨rfl, ?_⟩
    rw [non_iff J ha e1]
    exact tR_ok h ⟨J, (Dv.bl _)⟩ Le.refl
  · exact h.elim
theorem mark_set {op : CmpOp} {b : Expr} (h : ∀ es k ps, b ≠ .Set es k ps) : behindInMarks op b = false := by
  cases b <;> first | rfl | exact absurd rfl (h _ _ _)
theorem de_cmp {a b : Expr} {op : CmpOp} {pos : Pos} {f g : S → Res R} (hu : X.A.units + 65 < cLine) (hb' : ∀ es k ps, b ≠ .Set es k ps) (ha : DH X p W a f) (hb : DH X p W b g) : DE X p W (.Compare a [op] [b] pos) (fun s => (f s).bind fun x s1 => (g s1).bind fun y s2 => cmpD op x y s2) :=
  PE.imp (pe_cmpR (op_cmpD hu) ha hb (mark_set hb')) fun _ _ _ h => two h

/-! ### truth -/
def truD : D → Option Bool
  | .non => some false
  | .bl b => some b
  | .int i => some (i != 0)
  | .str y => if lineOk y.length = true then some ((y.length : Int) != 0) else none
  | .lst xs => some (!xs.isEmpty)
  | .tup xs => some (!xs.isEmpty)
  | _ => none
def truR (r : R) (s : S) : Res Bool := match (peek r s).bind truD with
  | some b => .ok b s
  | none => .bad
theorem isE_of {K : PySem.W.Frag} {mg : Str → Option Value} {H : Hp} {vs : List V} {ds : List D} (h : DvL K mg H vs ds) : vs.isEmpty = ds.isEmpty := by cases h <;> rfl
end
end AL


set_option Elab.async false
set_option linter.all false
set_option maxRecDepth 100000
set_option maxHeartbeats 1000000
/-! AL4: expressions by data. -/
namespace AL
open PySem PySem.Spec PyProof.Rows L2
section
variable {X : Cx} {p : P0} {W : WX} {e a b c : Expr} {es : List Expr} {pos : Pos} {f g h' : S → Res R}

/-! ### truth, tests -/
theorem tru_of {B : Bas} {σ : List (Option V)} {H : Hp} {s : S} {r : R} {v : V} {d : D} {k : Bool} (I : Rel B σ s none H) (hr : RH B σ s H r v) (e : peek r s = some d) (t : truD d = some k) : TruV B.K v H k := by
  cases d with
  | non => cases peek_H I hr e rfl; cases t; rfl
  | bl b => cases peek_H I hr e rfl; cases t; rfl
  | int i => cases peek_H I hr e rfl; cases t; rfl
  | str y =>
    cases peek_H I hr e rfl
    unfold truD at t
    simp only at t
    split at t
    · rename_i z
      cases t
      exact ⟨of_decide_eq_true z, rfl⟩
    · cases t
  | lst xs =>
    cases peek_H I hr e rfl with
    | lst h hs => cases t; exact .inl ⟨_, SqL.of h, by rw [isE_of hs]⟩
  | tup xs =>
    cases peek_H I hr e rfl with
    | tup h hs => cases t; exact .inr (.inl ⟨_, SqT.of h, by rw [isE_of hs]⟩)
  | _ => cases t
theorem truR_ok {σ : List (Option V)} {H : Hp} {s : S} {r : R} {v : V} {τ β : Type} {rel : RT τ β} {k : Bool → S → Res τ} {Q : β → Hp → Prop} (I : Rel (bs X p) σ s none H) (hr : RH (bs X p) σ s H r v)
    (h : tR (bs X p) W rel σ s H ((truR r s).bind k) Q) : ∃ c, TruV X.K v H c ∧ tR (bs X p) W rel σ s H (k c s) Q := by
  unfold truR at h
  cases q : (peek r s).bind truD with
  | none => rw [q] at h; exact h.elim
  | some c =>
    rw [q] at h
    obtain ⟨d, e1, e2⟩ := Option.bind_eq_some_iff.mp q
    exact ⟨c, tru_of I hr e1 e2, h⟩
/-- an expression as a test, by its truth -/
def PlainT (e : Expr) (env : Env) : Prop := ∀ whole, isTrue e env whole = (do let v ← whole; standAt e.pos; holding [v] (truthy v))
theorem dt_of (he : PlainT e X.env) (h : DH X p W e f) : DT X p W e (fun s => (f s).bind fun r s1 => truR r s1) := by
  refine PT.imp (pt_truth h he) fun σ H Q ⟨s, I, q⟩ => ⟨s, I, tR_mono (tR_bind (rel := relH (bs X p)) q) fun v H1 ⟨r, s1, ⟨I1, hr⟩, l, q1⟩ => ?_⟩
  have q2 : tR (bs X p) W (relE (bs X p)) σ s1 H1 ((truR r s1).bind fun c s2 => .ok c s2) Q := by
    have q1 : tR (bs X p) W (relE (bs X p)) σ s1 H1 (truR r s1) Q := q1
    cases e : truR r s1 <;> (rw [e] at q1; exact q1)
  obtain ⟨c, tc, q3⟩ := truR_ok I1 hr q2
  exact ⟨c, tc, tR_ok q3 ⟨I1, rfl⟩ Le.refl⟩
theorem dt_not {f : S → Res Bool} (h : DT X p W a f) : DT X p W (.UnaryOp .Not a pos) (fun s => (f s).bind fun c s1 => .ok (!c) s1) := by
  refine PT.imp (pt_not h) fun σ H Q ⟨s, I, q⟩ => ⟨s, I, tR_mono (tR_bind (rel := relE (bs X p)) q) fun c H1 ⟨c', s1, ⟨I1, hr⟩, l, q1⟩ => ?_⟩
  subst hr
  exact tR_ok q1 ⟨I1, rfl⟩ Le.refl
theorem dw_and1 {f : S → Res Bool} (h : DT X p W a f) : DWt X p W (.BoolOp .And [a] pos) f := pw_and1 h
theorem dw_or1 {f : S → Res Bool} (h : DT X p W a f) : DWt X p W (.BoolOp .Or [a] pos) f := pw_or1 h
theorem dw_and {f g : S → Res Bool} (h : DT X p W a f) (h2 : DWt X p W (.BoolOp .And (b :: es) pos) g) : DWt X p W (.BoolOp .And (a :: b :: es) pos) (fun s => (f s).bind fun c s1 => if c = true then g s1 else .ok false s1) := by
  refine PW.imp (pw_and h h2) fun σ H Q ⟨s, I, q⟩ => ⟨s, I, tR_mono (tR_bind (rel := relE (bs X p)) q) fun c H1 ⟨c', s1, ⟨I1, hr⟩, l, q1⟩ => ?_⟩
  subst hr
  cases c with
  | true => exact iteT ⟨s1, I1, q1⟩
  | false => exact iteF (tR_ok q1 ⟨I1, rfl⟩ Le.refl)
theorem dw_or {f g : S → Res Bool} (h : DT X p W a f) (h2 : DWt X p W (.BoolOp .Or (b :: es) pos) g) : DWt X p W (.BoolOp .Or (a :: b :: es) pos) (fun s => (f s).bind fun c s1 => if c = true then .ok true s1 else g s1) := by
  refine PW.imp (pw_or h h2) fun σ H Q ⟨s, I, q⟩ => ⟨s, I, tR_mono (tR_bind (rel := relE (bs X p)) q) fun c H1 ⟨c', s1, ⟨I1, hr⟩, l, q1⟩ => ?_⟩
  subst hr
  cases c with
  | true => exact iteT (tR_ok q1 ⟨I1, rfl⟩ Le.refl)
  | false => exact iteF ⟨s1, I1, q1⟩
/-- a comparison's answer -/
def asB (r : R) (s : S) : Res Bool := match r with
  | .sh (.bl b) => .ok b s
  | _ => .bad
theorem asB_ok {σ : List (Option V)} {H : Hp} {s : S} {r : R} {v : V} {τ β : Type} {rel : RT τ β} {k : Bool → S → Res τ} {Q : β → Hp → Prop} (hr : relR (bs X p) σ s H r v)
    (h : tR (bs X p) W rel σ s H ((asB r s).bind k) Q) : ∃ c, v = .bl c ∧ r = .sh (.bl c) ∧ Rel (bs X p) σ s none H ∧ tR (bs X p) W rel σ s H (k c s) Q := by
  unfold asB at h
  cases r with
  | ob k => exact h.elim
  | fr k => exact h.elim
  | sh d =>
    cases d with
    | bl c => exact ⟨c, bl_of hr.2, rfl, hr.1, h⟩
    | _ => exact h.elim
/-- what a two-place reading asks, with a more -/
theorem r2_more {k : R → R → S → Res R} {σ : List (Option V)} {H : Hp} {s : S} {x y : V} {ra rb : R} {Q : Bool → Hp → Prop} (I : Rel (bs X p) σ s none H) (ha : RH (bs X p) σ s H ra x) (hb : RH (bs X p) σ s H rb y)
    (h : tR (bs X p) W (relE (bs X p)) σ s H ((k ra rb s).bind fun z s1 => asB z s1) Q) : r2 X p W k x y H fun z H1 => ∃ c, z = .bl c ∧ Q c H1 := by
  refine ⟨σ, s, ra, rb, I, ha, hb, tR_mono (tR_bind (rel := relR (bs X p)) h) fun z H1 ⟨r, s1, hr, l, q1⟩ => ?_⟩
  have q2 : tR (bs X p) W (relE (bs X p)) σ s1 H1 ((asB r s1).bind fun c s2 => .ok c s2) Q := by rw [bind_self]; exact q1
  obtain ⟨c, e1, e2, I1, q3⟩ := asB_ok hr q2
  exact ⟨c, e1, tR_ok q3 ⟨I1, rfl⟩ Le.refl⟩
theorem dt_cmp {op : CmpOp} (hu : X.A.units + 65 < cLine) (hb' : ∀ es k ps, b ≠ .Set es k ps) (ha : DH X p W a f) (hb : DH X p W b g) : DT X p W (.Compare a [op] [b] pos) (fun s => (f s).bind fun x s1 => (g s1).bind fun y s2 => (cmpD op x y s2).bind fun z s3 => asB z s3) := by
  refine PT.imp (pt_cmpR (op_cmpD (p := p) (W := W) hu) ha hb (mark_set hb')) fun σ H Q ⟨s, I, q⟩ => ⟨s, I, tR_mono (tR_bind (rel := relH (bs X p)) q) fun x H1 ⟨ra, s1, ⟨I1, hra⟩, l1, q1⟩ => ⟨s1, I1, tR_mono (tR_bind (rel := relH (bs X p)) q1) fun y H2 ⟨rb, s2, ⟨I2, hrb⟩, l2, q2⟩ => ?_⟩⟩
  exact r2_more I2 (hra.mono l2) hrb q2
/-- a op b op' c -/
def chD (op op' : CmpOp) (x y : R) (h' : S → Res R) (s : S) : Res R := (cmpD op x y s).bind fun z s1 => (asB z s1).bind fun k s2 => if k = true then (h' s2).bind fun w s3 => cmpD op' y w s3 else .ok (.sh (.bl false)) s2
theorem de_chain {op op' : CmpOp} (hu : X.A.units + 65 < cLine) (ha : DH X p W a f) (hb : DH X p W b g) (hc : DH X p W c h') (hm : lastMarks [op, op'] [b, c] = false) :
    DE X p W (.Compare a [op, op'] [b, c] pos) (fun s => (f s).bind fun x s1 => (g s1).bind fun y s2 => chD op op' x y h' s2) := by
  refine PE.imp (pe_chain (op_cmpD (p := p) (W := W) hu) (op_cmpD (p := p) (W := W) hu) ha hb hc hm) fun σ H Q ⟨s, I, q⟩ => ⟨s, I, tR_mono (tR_bind (rel := relH (bs X p)) q) fun x H1 ⟨ra, s1, ⟨I1, hra⟩, l1, q1⟩ => ⟨s1, I1, tR_mono (tR_bind (rel := relH (bs X p)) q1) fun y H2 ⟨rb, s2, ⟨I2, hrb⟩, l2, q2⟩ => ?_⟩⟩
  refine ⟨σ, s2, ra, rb, I2, hra.mono l2, hrb, tR_mono (tR_bind (rel := relR (bs X p)) q2) fun z H3 ⟨rz, s3, hrz, l3, q3⟩ => ?_⟩
  obtain ⟨k, e1, e2, I3, q4⟩ := asB_ok hrz q3
  refine ⟨k, e1, ?_⟩
  cases k with
  | false => exact iteF (tR_ok q4 ⟨I3, Dv.bl _⟩ Le.refl)
  | true => exact iteT ⟨s3, I3, tR_mono (tR_bind (rel := relH (bs X p)) q4) fun w H4 ⟨rw', s4, ⟨I4, hrw⟩, l4, q5⟩ => ⟨σ, s4, rb, rw', I4, hrb.mono ((Ext.trans l3 hid_x).trans l4), hrw, q5⟩⟩
theorem dt_chain {op op' : CmpOp} (hu : X.A.units + 65 < cLine) (ha : DH X p W a f) (hb : DH X p W b g) (hc : DH X p W c h') (hm : lastMarks [op, op'] [b, c] = false) :
    DT X p W (.Compare a [op, op'] [b, c] pos) (fun s => (f s).bind fun x s1 => (g s1).bind fun y s2 => (chD op op' x y h' s2).bind fun z s3 => asB z s3) := by
  refine PT.imp (pt_chain (op_cmpD (p := p) (W := W) hu) (op_cmpD (p := p) (W := W) hu) ha hb hc hm) fun σ H Q ⟨s, I, q⟩ => ⟨s, I, tR_mono (tR_bind (rel := relH (bs X p)) q) fun x H1 ⟨ra, s1, ⟨I1, hra⟩, l1, q1⟩ => ⟨s1, I1, tR_mono (tR_bind (rel := relH (bs X p)) q1) fun y H2 ⟨rb, s2, ⟨I2, hrb⟩, l2, q2⟩ => ?_⟩⟩
  have q2 : tR (bs X p) W (relE (bs X p)) σ s2 H2 ((chD op op' ra rb h' s2).bind fun z s3 => asB z s3) Q := q2
  unfold chD at q2
  rw [bind_assoc] at q2
  refine ⟨σ, s2, ra, rb, I2, hra.mono l2, hrb, tR_mono (tR_bind (rel := relR (bs X p)) q2) fun z H3 ⟨rz, s3, hrz, l3, q3⟩ => ?_⟩
  dsimp only at q3
  rw [bind_assoc] at q3
  obtain ⟨k, e1, e2, I3, q4⟩ := asB_ok hrz q3
  refine ⟨k, e1, ?_⟩
  cases k with
  | false => exact iteF ⟨false, rfl, tR_ok q4 ⟨I3, rfl⟩ Le.refl⟩
  | true =>
    have q4 : tR (bs X p) W (relE (bs X p)) σ s3 H3 (((h' s3).bind fun w s3 => cmpD op' rb w s3).bind fun z s3 => asB z s3) Q := q4
    rw [bind_assoc] at q4
    exact iteT ⟨s3, I3, tR_mono (tR_bind (rel := relH (bs X p)) q4) fun w H4 ⟨rw', s4, ⟨I4, hrw⟩, l4, q5⟩ => r2_more I4 (hrb.mono ((Ext.trans l3 hid_x).trans l4)) hrw q5⟩

/-! ### and, or as values; a if t else b; not -/
theorem de_one {op : BoolOp} (h : DE X p W a f) : DE X p W (.BoolOp op [a] pos) f := pe_one h
theorem de_and (h : DH X p W a f) (h2 : DE X p W (.BoolOp .And (b :: es) pos) g) : DE X p W (.BoolOp .And (a :: b :: es) pos) (fun s => (f s).bind fun r s1 => (truR r s1).bind fun c s2 => if c = true then g s2 else .ok r s2) := by
  refine PE.imp (pe_andT h h2) fun σ H Q ⟨s, I, q⟩ => ⟨s, I, tR_mono (tR_bind (rel := relH (bs X p)) q) fun v H1 ⟨r, s1, ⟨I1, hr⟩, l, q1⟩ => ?_⟩
  obtain ⟨c, tc, q3⟩ := truR_ok I1 hr q1
  refine ⟨c, tc, ?_⟩
  cases c with
  | true => exact iteT ⟨s1, I1, q3⟩
  | false => exact iteF (tR_ok q3 (relR.of ⟨I1, hr⟩) (by show Ext _ (hid _ _ _ (xR r v) _); rw [xR.of (B := bs X p) ⟨I1, hr⟩]; exact Ext.refl _))
theorem de_or (h : DH X p W a f) (h2 : DE X p W (.BoolOp .Or (b :: es) pos) g) : DE X p W (.BoolOp .Or (a :: b :: es) pos) (fun s => (f s).bind fun r s1 => (truR r s1).bind fun c s2 => if c = true then .ok r s2 else g s2) := by
  refine PE.imp (pe_orT h h2) fun σ H Q ⟨s, I, q⟩ => ⟨s, I, tR_mono (tR_bind (rel := relH (bs X p)) q) fun v H1 ⟨r, s1, ⟨I1, hr⟩, l, q1⟩ => ?_⟩
  obtain ⟨c, tc, q3⟩ := truR_ok I1 hr q1
  refine ⟨c, tc, ?_⟩
  cases c with
  | true => exact iteT (tR_ok q3 (relR.of ⟨I1, hr⟩) (by show Ext _ (hid _ _ _ (xR r v) _); rw [xR.of (B := bs X p) ⟨I1, hr⟩]; exact Ext.refl _))
  | false => exact iteF ⟨s1, I1, q3⟩
theorem de_not (h : DH X p W a f) : DE X p W (.UnaryOp .Not a pos) (fun s => (f s).bind fun r s1 => (truR r s1).bind fun c s2 => .ok (.sh (.bl (!c))) s2) := by
  refine PE.imp (pe_notT h) fun σ H Q ⟨s, I, q⟩ => ⟨s, I, tR_mono (tR_bind (rel := relH (bs X p)) q) fun v H1 ⟨r, s1, ⟨I1, hr⟩, l, q1⟩ => ?_⟩
  obtain ⟨c, tc, q3⟩ := truR_ok I1 hr q1
  exact ⟨c, tc, tR_ok q3 ⟨I1, (Dv.bl _)⟩ Le.refl⟩
theorem de_if {t : S → Res Bool} (hc : DT X p W c t) (ha : DE X p W a f) (hb : DE X p W b g) : DE X p W (.IfExp c a b pos) (fun s => (t s).bind fun k s1 => if k = true then f s1 else g s1) := by
  refine PE.imp (pe_ifExp hc ha hb) fun σ H Q ⟨s, I, q⟩ => ⟨s, I, tR_mono (tR_bind (rel := relE (bs X p)) q) fun k H1 ⟨k', s1, ⟨I1, hr⟩, l, q1⟩ => ?_⟩
  subst hr
  cases k with
  | true => exact iteT ⟨s1, I1, q1⟩
  | false => exact iteF ⟨s1, I1, q1⟩
def negR (r : R) (s : S) : Res R := match peek r s with
  | some (.int i) => .ok (.sh (.int (-i))) s
  | _ => .bad
theorem de_neg (h : DH X p W a f) : DE X p W (.UnaryOp .USub a pos) (fun s => (f s).bind fun r s1 => negR r s1) := by
  refine PE.imp (pe_un un_neg h) fun σ H Q ⟨s, I, q⟩ => ⟨s, I, tR_mono (tR_bind (rel := relH (bs X p)) q) fun v H1 ⟨r, s1, ⟨I1, hr⟩, l, q1⟩ => ?_⟩
  unfold negR at q1
  dsimp only at q1
  split at q1
  · rename_i i e1
    obtain rfl := int_of (peek_sh I1 hr e1 rfl)
    exact ⟨i, rfl, tR_ok q1 ⟨I1, (Dv.int _)⟩ Le.refl⟩
  · exact q1.elim

/-! ### names, constants -/
def evVar (i : Nat) (s : S) : Res R := match s[i]? with
  | some (some (.sh d)) => .ok (.sh d) s
  | some (some _) => .ok (.ob i) s
  | _ => .bad
theorem de_var {i : Nat} {x : Str} (hN : X.N[i]? = some x) (hv : Vis X.env.scope x) (hd : (x == ("__debug__" : Str)) = false) (hcd : (x == ("__classdict__" : Str)) = false) : DH X p W (.Name x pos) (evVar i) := by
  refine PE.imp (pe_var hN hv hd hcd) fun σ H Q ⟨s, I, q⟩ => ?_
  unfold evVar at q
  split at q
  · rename_i d e
    obtain ⟨v, h1, h2⟩ := I.sh i d e
    exact ⟨v, h1, tR_ok q ⟨I, h2⟩ Le.refl⟩
  · rename_i c ne e
    cases c with
    | sh d => exact (ne d rfl).elim
    | ow d =>
      obtain ⟨a, h1, h2⟩ := I.own i d (.inl e)
      exact ⟨_, h1, tR_ok q ⟨I, h1⟩ Le.refl⟩
    | io d =>
      obtain ⟨a, h1, h2⟩ := I.own i d (.inr e)
      exact ⟨_, h1, tR_ok q ⟨I, h1⟩ Le.refl⟩
  · exact q.elim
theorem de_c {d : D} {v : V} (h : PE X e (tC v)) (hd : ∀ Hv, Dv X.K X.mg Hv v d) : DH X p W e (fun s => .ok (.sh d) s) :=
  PE.imp h fun σ H Q ⟨s, I, q⟩ => tR_ok q ⟨I, (hd _)⟩ Le.refl

/-! ### arguments, displays -/
theorem da_nil : DA X p W [] (fun s => .ok [] s) := PA.imp pa_nil fun σ H Q ⟨s, I, q⟩ => tR_ok q ⟨I, .nil⟩ Le.refl
theorem da_cons {f : S → Res R} {g : S → Res (List R)} (ha : DH X p W e f) (hr : DA X p W es g) (hs : starEach (e :: es) X.env = (false, eval e X.env) :: starEach es X.env) : DA X p W (e :: es) (fun s => (f s).bind fun d s1 => (g s1).bind fun ds s2 => .ok (d :: ds) s2) := by
  refine PA.imp (pa_cons ha hr hs) fun σ H Q ⟨s, I, q⟩ => ⟨s, I, tR_mono (tR_bind (rel := relH (bs X p)) q) fun x H1 ⟨d, s1, ⟨I1, hd⟩, l1, q1⟩ => ⟨s1, I1, tR_mono (tR_bind (rel := relL (bs X p)) q1) fun xs H2 ⟨ds, s2, ⟨I2, hds⟩, l2, q2⟩ => ?_⟩⟩
  exact tR_ok q2 ⟨I2, (.cons (hd.mono l2) hds)⟩ Le.refl
theorem tR_escs {τ β : Type} {B : Bas} {rel : RT τ β} {σ : List (Option V)} {H : Hp} {Q : β → Hp → Prop} : ∀ {rs : List R} {vs : List V} {s : S} {k : List D → S → Res τ}, Rel B σ s none H → Paired (RH B σ s H) rs vs →
    tR B W rel σ s H ((escs rs s).bind k) Q → ∃ ds s1, Rel B σ s1 none H ∧ Le B σ s H s1 H ∧ DvL B.K B.mg (hid B σ s1 none H) vs ds ∧ tR B W rel σ s1 H (k ds s1) Q
  | [], _, s, k, I, .nil, h => ⟨[], s, I, Le.refl, .nil, h⟩
  | r :: rs, _, s, k, I, .cons hr hs, h => by
    have h : tR B W rel σ s H (((esc r s).bind fun d s1 => (escs rs s1).bind fun ds s2 => .ok (d :: ds) s2).bind k) Q := h
    rw [bind_assoc] at h
    obtain ⟨d, s1, I1, l1, dv, h1⟩ := tR_esc I hr h
    rw [bind_assoc] at h1
    obtain ⟨ds, s2, I2, l2, dvs, h2⟩ := tR_escs I1 (Paired.mapP hs fun a b z => z.mono l1) h1
    exact ⟨d :: ds, s2, I2, l1.trans l2, .cons (Dv.ext l2 dv) dvs, h2⟩
theorem de_tup {k : Nat} {f : S → Res (List R)} (h : DA X p W es f) : DE X p W (.Tuple es k pos) (fun s => (f s).bind fun rs s0 => (escs rs s0).bind fun ds s1 => if lineOk ds.length = true then .ok (.sh (.tup ds)) s1 else .bad) := by
  refine PE.imp (pe_tup h) fun σ H Q ⟨s, I, q⟩ => ⟨s, I, tR_mono (tR_bind (rel := relL (bs X p)) q) fun xs H1 ⟨rs, s1, ⟨I1, hd⟩, l1, q1⟩ => ?_⟩
  obtain ⟨ds, s2, I2, l2, dvs, q2⟩ := tR_escs (B := bs X p) I1 hd q1
  split at q2
  · rename_i c
    exact ⟨by rw [dvs.length]; exact of_decide_eq_true c, tup_ok I2 dvs q2⟩
  · exact q2.elim
theorem de_lst {f : S → Res (List R)} (h : DA X p W es f) : DE X p W (.List es pos) (fun s => (f s).bind fun rs s0 => (escs rs s0).bind fun ds s1 => if lineOk ds.length = true then newLst ds s1 else .bad) := by
  refine PE.imp (pe_lst h) fun σ H Q ⟨s, I, q⟩ => ⟨s, I, tR_mono (tR_bind (rel := relL (bs X p)) q) fun xs H1 ⟨rs, s1, ⟨I1, hd⟩, l1, q1⟩ => ?_⟩
  obtain ⟨ds, s2, I2, l2, dvs, q2⟩ := tR_escs (B := bs X p) I1 hd q1
  split at q2
  · rename_i c
    exact ⟨by rw [dvs.length]; exact of_decide_eq_true c, newLst_ok I2 dvs q2⟩
  · exact q2.elim

/-! ### subscripts -/
def ixD (a b : R) (s : S) : Res R := match peek a s, peek b s with
  | some (.lst ds), some (.int i) => (match atI ds i with | some d => .ok (.sh d) s | none => .bad)
  | some (.tup ds), some (.int i) => (match atI ds i with | some d => .ok (.sh d) s | none => .bad)
  | some (.scr ns), some (.int i) => (match atI ns i with | some n => .ok (.sh (.int n)) s | none => .bad)
  | some (.str z), some (.int i) => if lineOk z.length = true then (match atI z.cps.toList i with | some c => .ok (.sh (.str ⟨#[c]⟩)) s | none => .bad) else .bad
  | _, _ => .bad
theorem atI_of {K : PySem.W.Frag} {mg : Str → Option Value} {H : Hp} {vs : List V} {ds : List D} {i : Int} {d : D} (h : DvL K mg H vs ds) (e : atI ds i = some d) : ∃ v, atI vs i = some v ∧ Dv K mg H v d := by
  unfold atI at e ⊢
  rw [h.length]
  obtain ⟨j, h1, h2⟩ := Option.bind_eq_some_iff.mp e
  obtain ⟨v, h3, h4⟩ := h.get h2
  exact ⟨v, by rw [h1]; exact h3, h4⟩
theorem ix_D : IxR X (r2 X p W ixD) := by
  intro value slice pins s' σ' H x y v u Q I rx ry h hs
  obtain ⟨σ, s, a, b, J, ha, hb, h⟩ := h
  unfold ixD at h
  split at h
  · rename_i ds i e1 e2
    obtain ⟨l, xs, rfl, h1, d1⟩ := peek_lst J ha e1
    obtain rfl := int_of (peek_sh J hb e2 rfl)
    split at h
    · rename_i d e3
      obtain ⟨w, h2, h3⟩ := atI_of d1 e3
      exact ix_list value slice pins s' σ' H _ _ v u Q I rx ry ⟨l, xs, i, w, rfl, rfl, SqL.of h1, h2, tR_ok h ⟨J, h3⟩ Le.refl⟩ hs
    · exact h.elim
  · rename_i ds i e1 e2
    obtain ⟨l, xs, rfl, h1, d1⟩ := tup_of (peek_sh J ha e1 rfl)
    obtain rfl := int_of (peek_sh J hb e2 rfl)
    split at h
    · rename_i d e3
      obtain ⟨w, h2, h3⟩ := atI_of d1 e3
      exact ix_tup value slice pins s' σ' H _ _ v u Q I rx ry ⟨l, xs, i, w, rfl, rfl, SqT.of h1, h2, tR_ok h ⟨J, h3⟩ Le.refl⟩ hs
    · exact h.elim
  · rename_i ns i e1 e2
    have z := peek_sh J ha e1 rfl
    obtain rfl := int_of (peek_sh J hb e2 rfl)
    cases z with
    | scr hq =>
      split at h
      · rename_i n e3
        refine ix_list value slice pins s' σ' H _ _ v u Q I rx ry ⟨_, _, i, .int n, rfl, rfl, SqL.ext hid_ext hq, ?_, tR_ok h ⟨J, (Dv.int _)⟩ Le.refl⟩ hs
        unfold atI at e3 ⊢
        obtain ⟨j, h1, h2⟩ := Option.bind_eq_some_iff.mp e3
        rw [List.length_map, h1]
        show (ns.map V.int)[j]? = _
        rw [List.getElem?_map, h2]; rfl
      · exact h.elim
  · rename_i z i e1 e2
    obtain rfl := str_of (peek_sh J ha e1 rfl)
    obtain rfl := int_of (peek_sh J hb e2 rfl)
    split at h
    · rename_i c0
      split at h
      · rename_i c e3
        exact ix_str value slice pins s' σ' H _ _ v u Q I rx ry ⟨z, i, c, rfl, rfl, of_decide_eq_true c0, e3, tR_ok h ⟨J, (Dv.str _)⟩ Le.refl⟩ hs
      · exact h.elim
    · exact h.elim
  · exact h.elim
theorem de_ix (ha : DH X p W a f) (hb : DH X p W b g) (hs : PlainIx b) : DE X p W (.Subscript a b pos) (fun s => (f s).bind fun x s1 => (g s1).bind fun y s2 => ixD x y s2) :=
  PE.imp (pe_ix ix_D ha hb hs) fun _ _ _ h => two h
/-- a slice's bound -/
abbrev DO (X : Cx) (p : P0) (W : WX) (e : Option Expr) (f : S → Res (Option Int)) : Prop := PO X e (tG (bs X p) W (relE (bs X p)) f)
theorem do_none : DO X p W none (fun s => .ok none s) := ⟨fun pins s' σ H Q I ⟨s, J, q⟩ => po_none.run pins s' σ H Q I (tR_ok q ⟨J, rfl⟩ Le.refl)⟩
def intR (r : R) (s : S) : Res (Option Int) := match peek r s with
  | some (.int i) => .ok (some i) s
  | _ => .bad
theorem do_some (h : DH X p W e f) : DO X p W (some e) (fun s => (f s).bind fun r s1 => intR r s1) := by
  refine ⟨fun pins s' σ H Q I ⟨s, J, q⟩ => (po_some h).run pins s' σ H Q I ⟨s, J, tR_mono (tR_bind (rel := relH (bs X p)) q) fun v H1 ⟨r, s1, ⟨I1, hr⟩, l, q1⟩ => ?_⟩⟩
  unfold intR at q1
  dsimp only at q1
  split at q1
  · rename_i i e1
    obtain rfl := int_of (peek_sh I1 hr e1 rfl)
    exact ⟨i, rfl, tR_ok q1 ⟨I1, rfl⟩ Le.refl⟩
  · exact q1.elim
def cutL {τ : Type} (xs : List τ) (lo hi : Option Int) : List τ := (xs.drop (HT.sIx xs.length 0 lo)).take (HT.sIx xs.length xs.length hi - HT.sIx xs.length 0 lo)
def slD (a : R) (lo hi : Option Int) (s : S) : Res R := match peek a s with
  | some (.lst ds) => newLst (cutL ds lo hi) s
  | some (.tup ds) => .ok (.sh (.tup (cutL ds lo hi))) s
  | some (.str z) => if lineOk z.length = true then .ok (.sh (.str (cutS z lo hi))) s else .bad
  | _ => .bad
theorem DvL.cut {K : PySem.W.Frag} {mg : Str → Option Value} {H : Hp} {vs : List V} {ds : List D} {lo hi : Option Int} (h : DvL K mg H vs ds) : DvL K mg H (cutV vs lo hi) (cutL ds lo hi) := by
  unfold cutV cutL
  rw [h.length]
  exact (h.drop _).take _
theorem cut_whole {τ : Type} {xs : List τ} {lo hi : Option Int} (h : HT.sIx xs.length 0 lo = 0 ∧ HT.sIx xs.length xs.length hi = xs.length) : cutL xs lo hi = xs := by
  unfold cutL
  rw [h.1, h.2]
  simp
def rSl (X : Cx) (p : P0) (W : WX) : V → Option Int → Option Int → Hp → VK → Prop := fun x lo hi H Q => ∃ σ s a, Rel (bs X p) σ s none H ∧ RH (bs X p) σ s H a x ∧ tR (bs X p) W (relR (bs X p)) σ s H (slD a lo hi s) Q
theorem sl_D : SlR X (rSl X p W) := by
  intro pins s' σ' H x v vl vu lo hi sl Q I rx hs pl pu h
  obtain ⟨σ, s, a, J, ha, h⟩ := h
  unfold slD at h
  split at h
  · rename_i ds e1
    obtain ⟨l, xs, rfl, h1, d1⟩ := peek_lst J ha e1
    exact sl_list pins s' σ' H _ v vl vu lo hi sl Q I rx hs pl pu ⟨l, xs, rfl, SqL.of h1, newLst_ok J d1.cut h⟩
  · rename_i ds e1
    obtain ⟨l, xs, rfl, h1, d1⟩ := tup_of (peek_sh J ha e1 rfl)
    refine sl_tupA pins s' σ' H _ v vl vu lo hi sl Q I rx hs pl pu ⟨l, xs, rfl, SqT.of h1, fun z => ?_, fun _ => tup_ok J d1.cut h⟩
    rw [d1.length] at z
    rw [cut_whole z] at h
    exact tR_ok h ⟨J, (peek_sh J ha e1 rfl)⟩ Le.refl
  · rename_i z e1
    obtain rfl := str_of (peek_sh J ha e1 rfl)
    split at h
    · rename_i c0
      exact sl_str pins s' σ' H _ v vl vu lo hi sl Q I rx hs pl pu ⟨z, rfl, of_decide_eq_true c0, tR_ok h ⟨J, (Dv.str _)⟩ Le.refl⟩
    · exact h.elim
  · exact h.elim
theorem de_slice {lo hi : Option Expr} {p2 : Pos} {fl fh : S → Res (Option Int)} (ha : DH X p W a f) (hl : DO X p W lo fl) (hh : DO X p W hi fh) :
    DE X p W (.Subscript a (.Slice lo hi none p2) pos) (fun s => (f s).bind fun x s1 => (fl s1).bind fun l s2 => (fh s2).bind fun h s3 => slD x l h s3) := by
  refine PE.imp (pe_slice (sl_D (p := p) (W := W)) ha hl hh) fun σ H Q ⟨s, I, q⟩ => ⟨s, I, tR_mono (tR_bind (rel := relH (bs X p)) q) fun x H1 ⟨r, s1, ⟨I1, hr⟩, l1, q1⟩ => ⟨s1, I1, tR_mono (tR_bind (rel := relE (bs X p)) q1) fun l H2 ⟨l', s2, ⟨I2, e2⟩, l2, q2⟩ => ⟨s2, I2, tR_mono (tR_bind (rel := relE (bs X p)) q2) fun h H3 ⟨h', s3, ⟨I3, e3⟩, l3, q3⟩ => ?_⟩⟩⟩
  subst e2 e3
  exact ⟨σ, s3, r, I3, hr.mono (l2.trans l3), q3⟩
end
end AL


set_option Elab.async false
set_option linter.all false
set_option maxRecDepth 100000
set_option maxHeartbeats 1000000
/-! AL5: calls of the module's own defs. -/
namespace AL
open PySem PySem.Spec PyProof.Rows L2
/-- around a block nothing is let out -/
theorem takesN0 {X : Cx} : L2N.Takes X (fun _ _ _ _ => False) := fun _ _ x => by
  obtain ⟨_, _, _, _, _, _, _, _, _, _, _, _, _, _, _, _, z⟩ := x
  exact z.elim
inductive Rt where
  | sh (d : D)
  | fr (d : D)
  | io (k : Nat)
inductive Out where
  | ret (r : Rt) (ns : List D)
  | exc (c : Str) (ns : List D)
  | bad
/-- a def by data: which parameters are the caller's own objects, what it does -/
structure Fs where
  io : List Bool
  run : List D → Out
def escArgs : List Bool → List R → S → Res (List (Option D))
  | [], [], s => .ok [] s
  | true :: m, r :: rs, s => (escArgs m rs s).bind fun ds s1 => .ok (none :: ds) s1
  | false :: m, r :: rs, s => (esc r s).bind fun d s1 => (escArgs m rs s1).bind fun ds s2 => .ok (some d :: ds) s2
  | _, _, _ => .bad
def ioArgs : List Bool → List R → Option (List Nat)
  | [], _ => some []
  | true :: m, .ob k :: rs => (ioArgs m rs).map (k :: ·)
  | true :: _, _ => none
  | false :: m, _ :: rs => ioArgs m rs
  | false :: _, [] => none
/-- the contents of objects of one's own -/
def conts (s : S) : List Nat → Option (List D)
  | [] => some []
  | k :: ks => match s[k]?, conts s ks with
    | some (some (.ow d)), some ds => some (d :: ds)
    | some (some (.io d)), some ds => some (d :: ds)
    | _, _ => none
def fill : List (Option D) → List D → List D
  | [], _ => []
  | some d :: r, cs => d :: fill r cs
  | none :: r, c :: cs => c :: fill r cs
  | none :: r, [] => []
def setCells : List Nat → List D → S → S
  | k :: ks, n :: ns, s => setCells ks ns (reSV s k n)
  | _, _, s => s
def retR (r : Rt) (ks : List Nat) (s : S) : Res R := match r with
  | .sh d => .ok (.sh d) s
  | .fr d => .ok (.fr d) s
  | .io j => match ks[j]? with
    | some k => .ok (.ob k) s
    | none => .bad
def callD (F : Fs) (rs : List R) (s : S) : Res R :=
  (escArgs F.io rs s).bind fun ods s1 => match ioArgs F.io rs with
    | none => .bad
    | some ks => match conts s1 ks with
      | none => .bad
      | some cs => if ks.Nodup then (match F.run (fill ods cs) with
          | .ret r ns => if ns.length = ks.length then retR r ks (setCells ks ns s1) else .bad
          | .exc c ns => if ns.length = ks.length then .exc c (setCells ks ns s1) else .bad
          | .bad => .bad) else .bad
/-- a def's promise: from a world of the caller's -/
def spF (K : PySem.W.Frag) (mg : Str → Option Value) (T : List (Addr × Str)) (F : Fs) : Sp := fun vs H Q E => ∃ (H0 : Hp) (io : List (Nat × Addr)) (Z : Addr → Bool) (σ : List (Option V)) (s : S) (rs : List R) (W : WX),
  Rel ⟨K, mg, H0, io, T, Z⟩ σ s none H ∧ Paired (RH ⟨K, mg, H0, io, T, Z⟩ σ s H) rs vs ∧ vs.length = F.io.length ∧ (∀ C H', W C none σ H' → E C none H') ∧
    tR ⟨K, mg, H0, io, T, Z⟩ W (relR ⟨K, mg, H0, io, T, Z⟩) σ s H (callD F rs s) Q
/-- a def that keeps its promise -/
structure Has (P : Program) (w : World) (K : PySem.W.Frag) (mg : Str → Option Value) (base : Heap) (T : List (Addr × Str)) (k : Nat) (x : Str) (F : Fs) : Prop where
  ex : ∃ (f : Addr) (fd : FuncData) (ps : List Str), FnOk P w K mg base (L2N.CX P w) k f fd ps (spF K mg T F) ∧ mg x = some (.ref f) ∧ PySem.W.keepIn K (.ref f) = true ∧ Binds K fd ps []
theorem Has.mono {P : Program} {w : World} {K : PySem.W.Frag} {mg : Str → Option Value} {base : Heap} {T : List (Addr × Str)} {j k : Nat} {x : Str} {F : Fs} (h : Has P w K mg base T j x F) (l : j ≤ k) : Has P w K mg base T k x F := by
  obtain ⟨f, fd, ps, h1, h2, h3, h4⟩ := h.ex
  exact ⟨f, fd, ps, h1.mono l, h2, h3, h4⟩
section
variable {X : Cx} {p : P0} {W : WX} {e : Expr} {es : List Expr} {pos pos' : Pos} {f : S → Res (List R)} {k : Nat} {x : Str} {F : Fs}
theorem escArgs_len : ∀ {m : List Bool} {rs : List R} {s s1 : S} {ods : List (Option D)}, escArgs m rs s = .ok ods s1 → rs.length = m.length
  | [], [], _, _, _, _ => rfl
  | [], _ :: _, _, _, _, h => by cases h
  | b :: m, [], _, _, _, h => by cases b <;> cases h
  | true :: m, r :: rs, s, s1, ods, h => by
    have h : ((escArgs m rs s).bind fun ds s1 => .ok (none :: ds) s1) = .ok ods s1 := h
    cases q : escArgs m rs s with
    | ok a s2 => simp [escArgs_len q]
    | exc c s2 => rw [q] at h; cases h
    | bad => rw [q] at h; cases h
  | false :: m, r :: rs, s, s1, ods, h => by
    have h : ((esc r s).bind fun d s1 => (escArgs m rs s1).bind fun ds s2 => .ok (some d :: ds) s2) = .ok ods s1 := h
    cases q : esc r s with
    | ok d s2 =>
      rw [q] at h
      have h : ((escArgs m rs s2).bind fun ds s2 => .ok (some d :: ds) s2) = .ok ods s1 := h
      cases q2 : escArgs m rs s2 with
      | ok a s3 => simp [escArgs_len q2]
      | exc c s3 => rw [q2] at h; cases h
      | bad => rw [q2] at h; cases h
    | exc c s2 => rw [q] at h; cases h
    | bad => rw [q] at h; cases h
theorem callD_len {rs : List R} {s : S} {τ β : Type} {B : Bas} {W : WX} {σ : List (Option V)} {H : Hp} {Q : VK} (h : tR B W (relR B) σ s H (callD F rs s) Q) (hne : ∀ c s1, escArgs F.io rs s ≠ .exc c s1) : rs.length = F.io.length := by
  unfold callD at h
  cases q : escArgs F.io rs s with
  | ok a s2 => exact escArgs_len q
  | exc c s2 => exact absurd q (hne c s2)
  | bad => rw [q] at h; exact h.elim
theorem escArgs_nexc : ∀ {m : List Bool} {rs : List R} {s s1 : S} {c : Str}, escArgs m rs s ≠ .exc c s1
  | [], [], _, _, _ => fun h => by cases h
  | [], _ :: _, _, _, _ => fun h => by cases h
  | b :: m, [], _, _, _ => fun h => by cases b <;> cases h
  | true :: m, r :: rs, s, s1, c => fun h => by
    have h : ((escArgs m rs s).bind fun ds s1 => .ok (none :: ds) s1) = .exc c s1 := h
    cases q : escArgs m rs s with
    | ok a s2 => rw [q] at h; cases h
    | exc c s2 => exact escArgs_nexc q
    | bad => rw [q] at h; cases h
  | false :: m, r :: rs, s, s1, c => fun h => by
    have h : ((esc r s).bind fun d s1 => (escArgs m rs s1).bind fun ds s2 => .ok (some d :: ds) s2) = .exc c s1 := h
    cases q : esc r s with
    | ok d s2 =>
      rw [q] at h
      have h : ((escArgs m rs s2).bind fun ds s2 => .ok (some d :: ds) s2) = .exc c s1 := h
      cases q2 : escArgs m rs s2 with
      | ok a s3 => rw [q2] at h; cases h
      | exc c s3 => exact escArgs_nexc q2
      | bad => rw [q2] at h; cases h
    | exc c s2 => exact absurd q esc_nexc
    | bad => rw [q] at h; cases h
theorem spF_of {σ : List (Option V)} {H : Hp} {s : S} {rs : List R} {vs : List V} {Q : VK} (I : Rel (bs X p) σ s none H) (hr : Paired (RH (bs X p) σ s H) rs vs) (h : tR (bs X p) W (relR (bs X p)) σ s H (callD F rs s) Q) :
    spF X.K X.mg p.T F vs H Q (WE W σ) := by
  refine ⟨p.H0, p.io, p.Z, σ, s, rs, W, I, hr, ?_, fun C H' z => z, h⟩
  rw [← Paired.length hr]
  exact callD_len (τ := R) (β := V) h fun c s1 => escArgs_nexc
theorem starEach_nostar : ∀ {es : List Expr} {env : Env}, (es.all fun e => match e with | .Starred _ _ => false | _ => true) = true → (starEach es env).any (·.1) = false
  | [], _, _ => by simp [starEach]
  | e :: es, env, h => by
    rw [List.all_cons, Bool.and_eq_true] at h
    have z := starEach_nostar (env := env) h.2
    cases e <;> first | (simp [starEach, z]; done) | (have := h.1; cases this)
theorem backTo_any {pos : Pos} {l : List (Bool × Sem Value)} : (backTo pos l).any (·.1) = l.any (·.1) := by
  unfold backTo
  rw [List.any_map]
  rfl
/-- f(e, ..) -/
theorem de_call (G : Has X.prog X.w X.K X.mg X.base p.T k x F) (hr : Room k X.A) (tk : L2N.Takes X W) (hg : Gl X x) (ha : DA X p W (e :: es) f) (hdb : (x == ("__debug__" : Str)) = false)
    (he : starEach (e :: es) X.env = (false, eval e X.env) :: starEach es X.env) (hpl : (starEach es X.env).any (·.1) = false) : DE X p W (.Call (.Name x pos') (e :: es) [] pos) (fun s => (f s).bind fun rs s1 => callD F rs s1) := by
  obtain ⟨fa, fd, ps, h1, h2, h3, h4⟩ := G.ex
  refine PE.imp (pe_callSD (E := fun σ => WE W σ) h1 hr hg h2 h3 h4 .nil (fun σ => L2N.passAt tk σ) ha hdb he (by rw [backTo_any]; exact hpl)) fun σ H Q ⟨s, I, q⟩ => ⟨s, I, tR_mono (tR_bind (rel := relL (bs X p)) q) fun vs H1 ⟨rs, s1, ⟨I1, hd⟩, l1, q1⟩ => ?_⟩
  show spF _ _ _ _ (vs ++ []) H1 Q (WE W σ)
  rw [List.append_nil]
  exact spF_of I1 hd q1
theorem de_call0 (G : Has X.prog X.w X.K X.mg X.base p.T k x F) (hr : Room k X.A) (tk : L2N.Takes X W) (hg : Gl X x) (hdb : (x == ("__debug__" : Str)) = false) : DE X p W (.Call (.Name x pos') [] [] pos) (fun s => callD F [] s) := by
  obtain ⟨fa, fd, ps, h1, h2, h3, h4⟩ := G.ex
  refine ⟨fun pins s' σ H Q I ⟨s, J, q⟩ => ?_⟩
  refine wpAny_Call_Name_kw (ld_glob I hg h2 ?_ hdb)
  exact PySem.W.callWith_K0 I.kIn h3 (run_fnSD (E := fun σ => WE W σ) (us := []) (vs := []) (dvs := []) h1 hr h4 .nil (L2N.passAt tk σ) I .nil (spF_of (W := W) J .nil q))
end
end AL


set_option Elab.async false
set_option linter.all false
set_option maxRecDepth 100000
set_option maxHeartbeats 1000000
/-! AL6: built-ins and methods by data. -/
namespace AL
open PySem PySem.Spec PyProof.Rows L2

def asInts : List D → Option (List Int)
  | [] => some []
  | .int i :: ds => (asInts ds).map (i :: ·)
  | _ => none
def asStrs : List D → Option (List Str)
  | [] => some []
  | .str i :: ds => (asStrs ds).map (i :: ·)
  | _ => none
def asBls : List D → Option (List Bool)
  | [] => some []
  | .bl i :: ds => (asBls ds).map (i :: ·)
  | _ => none
theorem asInts_eq : ∀ {ds : List D} {ns : List Int}, asInts ds = some ns → ds = ns.map D.int
  | [], ns, h => by cases h; rfl
  | .int i :: ds, ns, h => by
    have h : (asInts ds).map (i :: ·) = some ns := h
    cases q : asInts ds with
    | none => rw [q] at h; cases h
    | some ms => rw [q] at h; cases h; rw [asInts_eq q]; rfl
  | .non :: _, _, h => by cases h
  | .bl _ :: _, _, h => by cases h
  | .str _ :: _, _, h => by cases h
  | .tup _ :: _, _, h => by cases h
  | .lst _ :: _, _, h => by cases h
  | .scr _ :: _, _, h => by cases h
  | .fn _ :: _, _, h => by cases h
  | .dct _ _ :: _, _, h => by cases h
  | .obj _ _ _ :: _, _, h => by cases h
theorem asStrs_eq : ∀ {ds : List D} {ns : List Str}, asStrs ds = some ns → ds = ns.map D.str
  | [], ns, h => by cases h; rfl
  | .str i :: ds, ns, h => by
    have h : (asStrs ds).map (i :: ·) = some ns := h
    cases q : asStrs ds with
    | none => rw [q] at h; cases h
    | some ms => rw [q] at h; cases h; rw [asStrs_eq q]; rfl
  | .non :: _, _, h => by cases h
  | .bl _ :: _, _, h => by cases h
  | .int _ :: _, _, h => by cases h
  | .tup _ :: _, _, h => by cases h
  | .lst _ :: _, _, h => by cases h
  | .scr _ :: _, _, h => by cases h
  | .fn _ :: _, _, h => by cases h
  | .dct _ _ :: _, _, h => by cases h
  | .obj _ _ _ :: _, _, h => by cases h
theorem asBls_eq : ∀ {ds : List D} {ns : List Bool}, asBls ds = some ns → ds = ns.map D.bl
  | [], ns, h => by cases h; rfl
  | .bl i :: ds, ns, h => by
    have h : (asBls ds).map (i :: ·) = some ns := h
    cases q : asBls ds with
    | none => rw [q] at h; cases h
    | some ms => rw [q] at h; cases h; rw [asBls_eq q]; rfl
  | .non :: _, _, h => by cases h
  | .str _ :: _, _, h => by cases h
  | .int _ :: _, _, h => by cases h
  | .tup _ :: _, _, h => by cases h
  | .lst _ :: _, _, h => by cases h
  | .scr _ :: _, _, h => by cases h
  | .fn _ :: _, _, h => by cases h
  | .dct _ _ :: _, _, h => by cases h
  | .obj _ _ _ :: _, _, h => by cases h
@[simp] theorem asInts_map (ns : List Int) : asInts (ns.map D.int) = some ns := by
  induction ns with
  | nil => rfl
  | cons n ns ih => show (asInts (ns.map D.int)).map (n :: ·) = _; rw [ih]; rfl
@[simp] theorem asStrs_map (ns : List Str) : asStrs (ns.map D.str) = some ns := by
  induction ns with
  | nil => rfl
  | cons n ns ih => show (asStrs (ns.map D.str)).map (n :: ·) = _; rw [ih]; rfl
@[simp] theorem asBls_map (ns : List Bool) : asBls (ns.map D.bl) = some ns := by
  induction ns with
  | nil => rfl
  | cons n ns ih => show (asBls (ns.map D.bl)).map (n :: ·) = _; rw [ih]; rfl

section
variable {X : Cx} {p : P0} {W : WX} {e a b : Expr} {es : List Expr} {pos pos' apos : Pos}
abbrev Bf := List R → S → Res R
def rC (X : Cx) (p : P0) (W : WX) (g : Bf) : List V → Hp → VK → Prop := fun xs H Q => ∃ σ s rs, Rel (bs X p) σ s none H ∧ Paired (RH (bs X p) σ s H) rs xs ∧ tR (bs X p) W (relR (bs X p)) σ s H (g rs s) Q
theorem de_callB {f : S → Res (List R)} {g : Bf} {x : Str} {id : String} (hc : CallR X (.builtin id) (rC X p W g)) (hg : Gl X x) (hm : X.mg x = none) (hv : bootBuiltins x = some (.builtin id)) (ha : DA X p W (e :: es) f) (hn : x ≠ "__name__") (hdb : (x == ("__debug__" : Str)) = false)
    (he : starEach (e :: es) X.env = (false, eval e X.env) :: starEach es X.env) (hpl : (starEach es X.env).any (·.1) = false) : DE X p W (.Call (.Name x pos') (e :: es) [] pos) (fun s => (f s).bind fun rs s1 => g rs s1) :=
  PE.imp (pe_callB hc hg hm hv ha hn hdb he (by rw [backTo_any]; exact hpl)) fun σ H Q ⟨s, I, q⟩ => ⟨s, I, tR_mono (tR_bind (rel := relL (bs X p)) q) fun vs H1 ⟨rs, s1, ⟨I1, hd⟩, l1, q1⟩ => ⟨σ, s1, rs, I1, hd, q1⟩⟩
theorem de_callTy {f : S → Res (List R)} {g : Bf} {x : Str} {T : String} (hc : CallR X (.type T) (rC X p W g)) (hg : Gl X x) (hm : X.mg x = none) (hv : bootBuiltins x = some (.type T)) (ha : DA X p W (e :: es) f) (hn : x ≠ "__name__") (hdb : (x == ("__debug__" : Str)) = false)
    (he : starEach (e :: es) X.env = (false, eval e X.env) :: starEach es X.env) (hpl : (starEach es X.env).any (·.1) = false) : DE X p W (.Call (.Name x pos') (e :: es) [] pos) (fun s => (f s).bind fun rs s1 => g rs s1) :=
  PE.imp (pe_callTy hc hg hm hv ha hn hdb he (by rw [backTo_any]; exact hpl)) fun σ H Q ⟨s, I, q⟩ => ⟨s, I, tR_mono (tR_bind (rel := relL (bs X p)) q) fun vs H1 ⟨rs, s1, ⟨I1, hd⟩, l1, q1⟩ => ⟨σ, s1, rs, I1, hd, q1⟩⟩

def bLen : Bf := fun rs s => match rs with
  | [r] => (match peek r s with
    | some (.str y) => if lineOk y.length = true then .ok (.sh (.int y.length)) s else .bad
    | some (.lst ds) => .ok (.sh (.int ds.length)) s
    | some (.tup ds) => .ok (.sh (.int ds.length)) s
    | some (.scr ns) => .ok (.sh (.int ns.length)) s
    | _ => .bad)
  | _ => .bad
theorem cr_len : CallR X (.builtin "len") (rC X p W bLen) := by
  intro pins s' σ' H xs us Q I rx h
  obtain ⟨σ, s, rs, J, hr, h⟩ := h
  unfold bLen at h
  split at h
  · rename_i r
    cases hr with
    | cons ra rn =>
      cases rn
      split at h
      · rename_i y e1
        obtain rfl := str_of (peek_sh J ra e1 rfl)
        split at h
        · rename_i c
          exact call_len_str pins s' σ' H _ us Q I rx ⟨y, rfl, of_decide_eq_true c, tR_ok h ⟨J, (Dv.int _)⟩ Le.refl⟩
        · exact h.elim
      · rename_i ds e1
        obtain ⟨l, xs, rfl, h1, d1⟩ := peek_lst J ra e1
        refine call_len_seq pins s' σ' H _ us Q I rx ⟨l, xs, rfl, .inl (SqL.of h1), ?_⟩
        rw [d1.length]
        exact tR_ok h ⟨J, (Dv.int _)⟩ Le.refl
      · rename_i ds e1
        obtain ⟨l, xs, rfl, h1, d1⟩ := tup_of (peek_sh J ra e1 rfl)
        refine call_len_seq pins s' σ' H _ us Q I rx ⟨l, xs, rfl, .inr (SqT.of h1), ?_⟩
        rw [d1.length]
        exact tR_ok h ⟨J, (Dv.int _)⟩ Le.refl
      · rename_i ns e1
        cases peek_sh J ra e1 rfl with
        | scr hq =>
          refine call_len_seq pins s' σ' H _ us Q I rx ⟨_, _, rfl, .inl (SqL.ext hid_ext hq), ?_⟩
          rw [List.length_map]
          exact tR_ok h ⟨J, (Dv.int _)⟩ Le.refl
      · exact h.elim
  · exact h.elim
def bInt : Bf := fun rs s => match rs with
  | [r] => (match peek r s with
    | some (.int i) => .ok (.sh (.int i)) s
    | some (.bl b) => .ok (.sh (.int (if b then 1 else 0))) s
    | some (.str y) => if y.length ≤ 640 then (match PySem.intText? y with | some n => .ok (.sh (.int n)) s | none => .bad) else .bad
    | _ => .bad)
  | _ => .bad
theorem cr_int : CallR X (.type "int") (rC X p W bInt) := by
  intro pins s' σ' H xs us Q I rx h
  obtain ⟨σ, s, rs, J, hr, h⟩ := h
  unfold bInt at h
  split at h
  · rename_i r
    cases hr with
    | cons ra rn =>
      cases rn
      split at h
      · rename_i i e1
        obtain rfl := int_of (peek_sh J ra e1 rfl)
        exact call_int1 pins s' σ' H _ us Q I rx (.inl ⟨i, rfl, tR_ok h ⟨J, (Dv.int _)⟩ Le.refl⟩)
      · rename_i i e1
        obtain rfl := bl_of (peek_sh J ra e1 rfl)
        exact call_int1 pins s' σ' H _ us Q I rx (.inr ⟨i, rfl, tR_ok h ⟨J, (Dv.int _)⟩ Le.refl⟩)
      · rename_i y e1
        obtain rfl := str_of (peek_sh J ra e1 rfl)
        split at h
        · rename_i c
          split at h
          · rename_i n e2
            exact call_int_str pins s' σ' H _ us Q I rx ⟨y, n, rfl, e2, c, tR_ok h ⟨J, (Dv.int _)⟩ Le.refl⟩
          · exact h.elim
        · exact h.elim
      · exact h.elim
  · exact h.elim
def bBool : Bf := fun rs s => match rs with
  | [r] => (match peek r s with
    | some (.int i) => .ok (.sh (.bl (i != 0))) s
    | some (.bl b) => .ok (.sh (.bl b)) s
    | _ => .bad)
  | _ => .bad
theorem cr_bool : CallR X (.type "bool") (rC X p W bBool) := by
  intro pins s' σ' H xs us Q I rx h
  obtain ⟨σ, s, rs, J, hr, h⟩ := h
  unfold bBool at h
  split at h
  · rename_i r
    cases hr with
    | cons ra rn =>
      cases rn
      split at h
      · rename_i i e1
        obtain rfl := int_of (peek_sh J ra e1 rfl)
        exact call_bool1 pins s' σ' H _ us Q I rx (.inl ⟨i, rfl, tR_ok h ⟨J, (Dv.bl _)⟩ Le.refl⟩)
      · rename_i i e1
        obtain rfl := bl_of (peek_sh J ra e1 rfl)
        exact call_bool1 pins s' σ' H _ us Q I rx (.inr ⟨i, rfl, tR_ok h ⟨J, (Dv.bl _)⟩ Le.refl⟩)
      · exact h.elim
  · exact h.elim
def bStr : Bf := fun rs s => match rs with
  | [r] => (match peek r s with
    | some (.int i) => if i.natAbs.log2 < 1920 then .ok (.sh (.str (toString i))) s else .bad
    | _ => .bad)
  | _ => .bad
theorem cr_str : CallR X (.type "str") (rC X p W bStr) := by
  intro pins s' σ' H xs us Q I rx h
  obtain ⟨σ, s, rs, J, hr, h⟩ := h
  unfold bStr at h
  split at h
  · rename_i r
    cases hr with
    | cons ra rn =>
      cases rn
      split at h
      · rename_i i e1
        obtain rfl := int_of (peek_sh J ra e1 rfl)
        split at h
        · rename_i c
          exact call_str_int pins s' σ' H _ us Q I rx ⟨i, rfl, c, tR_ok h ⟨J, (Dv.str _)⟩ Le.refl⟩
        · exact h.elim
      · exact h.elim
  · exact h.elim
def bTuple : Bf := fun rs s => match rs with
  | [r] => (match peek r s with
    | some (.lst ds) => .ok (.sh (.tup ds)) s
    | some (.tup ds) => .ok (.sh (.tup ds)) s
    | _ => .bad)
  | _ => .bad
theorem cr_tuple : CallR X (.type "tuple") (rC X p W bTuple) := by
  intro pins s' σ' H xs us Q I rx h
  obtain ⟨σ, s, rs, J, hr, h⟩ := h
  unfold bTuple at h
  split at h
  · rename_i r
    cases hr with
    | cons ra rn =>
      cases rn
      split at h
      · rename_i ds e1
        obtain ⟨l, xs, rfl, h1, d1⟩ := peek_lst J ra e1
        exact call_tuple_of pins s' σ' H _ us Q I rx ⟨l, xs, rfl, .inl ⟨SqL.of h1, tup_ok J d1 h⟩⟩
      · rename_i ds e1
        have z := peek_sh J ra e1 rfl
        obtain ⟨l, xs, rfl, h1, d1⟩ := tup_of z
        exact call_tuple_of pins s' σ' H _ us Q I rx ⟨l, xs, rfl, .inr ⟨SqT.of h1, tR_ok h ⟨J, z⟩ Le.refl⟩⟩
      · exact h.elim
  · exact h.elim
def bList : Bf := fun rs s => match rs with
  | [r] => (match peek r s with
    | some (.lst ds) => newLst ds s
    | some (.tup ds) => newLst ds s
    | _ => .bad)
  | _ => .bad
theorem cr_list : CallR X (.type "list") (rC X p W bList) := by
  intro pins s' σ' H xs us Q I rx h
  obtain ⟨σ, s, rs, J, hr, h⟩ := h
  unfold bList at h
  split at h
  · rename_i r
    cases hr with
    | cons ra rn =>
      cases rn
      split at h
      · rename_i ds e1
        obtain ⟨l, xs, rfl, h1, d1⟩ := peek_lst J ra e1
        exact call_list_of pins s' σ' H _ us Q I rx ⟨l, xs, rfl, .inl (SqL.of h1), newLst_ok J d1 h⟩
      · rename_i ds e1
        obtain ⟨l, xs, rfl, h1, d1⟩ := tup_of (peek_sh J ra e1 rfl)
        exact call_list_of pins s' σ' H _ us Q I rx ⟨l, xs, rfl, .inr (SqT.of h1), newLst_ok J d1 h⟩
      · exact h.elim
  · exact h.elim
/-- of a list of ints, of truth values -/
def lstOf (r : R) (s : S) : Option (List D) := match peek r s with
  | some (.lst ds) => some ds
  | _ => none
def bSum : Bf := fun rs s => match rs with
  | [r] => (match (lstOf r s).bind asInts with
    | some ns => .ok (.sh (.int ns.sum)) s
    | _ => .bad)
  | _ => .bad
theorem lst_ints {B : Bas} {σ : List (Option V)} {H : Hp} {s : S} {r : R} {v : V} {ns : List Int} (I : Rel B σ s none H) (hr : RH B σ s H r v) (e : (lstOf r s).bind asInts = some ns) : ∃ a, v = .ref a ∧ H a = some (.lst (ns.map V.int)) := by
  obtain ⟨ds, e1, e2⟩ := Option.bind_eq_some_iff.mp e
  unfold lstOf at e1
  split at e1
  · rename_i ds' e3
    cases e1
    obtain ⟨a, xs, rfl, h1, d1⟩ := peek_lst I hr e3
    rw [asInts_eq e2] at d1
    rw [d1.ints] at h1
    exact ⟨a, rfl, h1⟩
  · cases e1
theorem lst_bls {B : Bas} {σ : List (Option V)} {H : Hp} {s : S} {r : R} {v : V} {ns : List Bool} (I : Rel B σ s none H) (hr : RH B σ s H r v) (e : (lstOf r s).bind asBls = some ns) : ∃ a, v = .ref a ∧ H a = some (.lst (ns.map V.bl)) := by
  obtain ⟨ds, e1, e2⟩ := Option.bind_eq_some_iff.mp e
  unfold lstOf at e1
  split at e1
  · rename_i ds' e3
    cases e1
    obtain ⟨a, xs, rfl, h1, d1⟩ := peek_lst I hr e3
    rw [asBls_eq e2] at d1
    rw [d1.bls] at h1
    exact ⟨a, rfl, h1⟩
  · cases e1
theorem cr_sumD (hc : X.calm = true) : CallR X (.builtin "sum") (rC X p W bSum) := by
  intro pins s' σ' H xs us Q I rx h
  obtain ⟨σ, s, rs, J, hr, h⟩ := h
  unfold bSum at h
  split at h
  · rename_i r
    cases hr with
    | cons ra rn =>
      cases rn
      split at h
      · rename_i ns e1
        obtain ⟨a, rfl, h1⟩ := lst_ints J ra e1
        exact cr_sum hc pins s' σ' H _ us Q I rx ⟨a, ns, rfl, SqL.of h1, tR_ok h ⟨J, (Dv.int _)⟩ Le.refl⟩
      · exact h.elim
  · exact h.elim
def maxI : List Int → Int
  | [] => 0
  | x :: xs => xs.foldl max x
def minI : List Int → Int
  | [] => 0
  | x :: xs => xs.foldl min x
theorem foldl_max : ∀ (xs : List Int) (x : Int), (∀ y ∈ x :: xs, y ≤ xs.foldl max x) ∧ xs.foldl max x ∈ x :: xs
  | [], x => ⟨fun y hy => by simp at hy; subst hy; exact Int.le_refl _, by simp⟩
  | z :: xs, x => by
    obtain ⟨h1, h2⟩ := foldl_max xs (max x z)
    refine ⟨fun y hy => ?_, ?_⟩
    · rcases List.mem_cons.mp hy with e | hy
      · subst e; exact Int.le_trans (Int.le_max_left _ _) (h1 _ List.mem_cons_self)
      · rcases List.mem_cons.mp hy with e | hy
        · subst e; exact Int.le_trans (Int.le_max_right _ _) (h1 _ List.mem_cons_self)
        · exact h1 y (List.mem_cons_of_mem _ hy)
    · rcases List.mem_cons.mp h2 with e | h2
      · show xs.foldl max (max x z) ∈ _
        rw [e]
        by_cases c : x ≤ z
        · rw [Int.max_eq_right c]; simp
        · rw [Int.max_eq_left (by omega)]; simp
      · exact List.mem_cons_of_mem _ (List.mem_cons_of_mem _ h2)
theorem foldl_min : ∀ (xs : List Int) (x : Int), (∀ y ∈ x :: xs, xs.foldl min x ≤ y) ∧ xs.foldl min x ∈ x :: xs
  | [], x => ⟨fun y hy => by simp at hy; subst hy; exact Int.le_refl _, by simp⟩
  | z :: xs, x => by
    obtain ⟨h1, h2⟩ := foldl_min xs (min x z)
    refine ⟨fun y hy => ?_, ?_⟩
    · rcases List.mem_cons.mp hy with e | hy
      · subst e; exact Int.le_trans (h1 _ List.mem_cons_self) (Int.min_le_left _ _)
      · rcases List.mem_cons.mp hy with e | hy
        · subst e; exact Int.le_trans (h1 _ List.mem_cons_self) (Int.min_le_right _ _)
        · exact h1 y (List.mem_cons_of_mem _ hy)
    · rcases List.mem_cons.mp h2 with e | h2
      · show xs.foldl min (min x z) ∈ _
        rw [e]
        by_cases c : x ≤ z
        · rw [Int.min_eq_left c]; simp
        · rw [Int.min_eq_right (by omega)]; simp
      · exact List.mem_cons_of_mem _ (List.mem_cons_of_mem _ h2)
def bMax : Bf := fun rs s => match rs with
  | [r] => (match (lstOf r s).bind asInts with
    | some ns => if ns = [] then .bad else .ok (.sh (.int (maxI ns))) s
    | _ => .bad)
  | [r, q] => (match peek r s, peek q s with
    | some (.int i), some (.int j) => .ok (.sh (.int (if j > i then j else i))) s
    | _, _ => .bad)
  | _ => .bad
theorem cr_maxD (hc : X.calm = true) : CallR X (.builtin "max") (rC X p W bMax) := by
  intro pins s' σ' H xs us Q I rx h
  obtain ⟨σ, s, rs, J, hr, h⟩ := h
  unfold bMax at h
  split at h
  · rename_i r
    cases hr with
    | cons ra rn =>
      cases rn
      split at h
      · rename_i ns e1
        obtain ⟨a, rfl, h1⟩ := lst_ints J ra e1
        split at h
        · exact h.elim
        · rename_i ne
          refine cr_max hc pins s' σ' H _ us Q I rx ⟨a, ns, rfl, SqL.of h1, List.length_pos_iff.mpr ne, fun m hm hle => ?_⟩
          have e : m = maxI ns := by
            cases ns with
            | nil => exact absurd rfl ne
            | cons x xs =>
              obtain ⟨h1, h2⟩ := foldl_max xs x
              exact Int.le_antisymm (h1 m hm) (hle _ h2)
          rw [e]
          exact tR_ok h ⟨J, (Dv.int _)⟩ Le.refl
      · exact h.elim
  · rename_i r q
    cases hr with
    | cons ra rn =>
      cases rn with
      | cons rb rn =>
        cases rn
        split at h
        · rename_i i j e1 e2
          obtain rfl := int_of (peek_sh J ra e1 rfl)
          obtain rfl := int_of (peek_sh J rb e2 rfl)
          exact call_max2 hc pins s' σ' H _ us Q I rx ⟨i, j, rfl, tR_ok h ⟨J, (Dv.int _)⟩ Le.refl⟩
        · exact h.elim
  · exact h.elim
def bMin : Bf := fun rs s => match rs with
  | [r] => (match (lstOf r s).bind asInts with
    | some ns => if ns = [] then .bad else .ok (.sh (.int (minI ns))) s
    | _ => .bad)
  | _ => .bad
theorem cr_minD (hc : X.calm = true) : CallR X (.builtin "min") (rC X p W bMin) := by
  intro pins s' σ' H xs us Q I rx h
  obtain ⟨σ, s, rs, J, hr, h⟩ := h
  unfold bMin at h
  split at h
  · rename_i r
    cases hr with
    | cons ra rn =>
      cases rn
      split at h
      · rename_i ns e1
        obtain ⟨a, rfl, h1⟩ := lst_ints J ra e1
        split at h
        · exact h.elim
        · rename_i ne
          refine cr_min hc pins s' σ' H _ us Q I rx ⟨a, ns, rfl, SqL.of h1, List.length_pos_iff.mpr ne, fun m hm hle => ?_⟩
          have e : m = minI ns := by
            cases ns with
            | nil => exact absurd rfl ne
            | cons x xs =>
              obtain ⟨h1, h2⟩ := foldl_min xs x
              exact Int.le_antisymm (hle _ h2) (h1 m hm)
          rw [e]
          exact tR_ok h ⟨J, (Dv.int _)⟩ Le.refl
      · exact h.elim
  · exact h.elim
def bAll : Bf := fun rs s => match rs with
  | [r] => (match (lstOf r s).bind asBls with
    | some ns => .ok (.sh (.bl (ns.all id))) s
    | _ => .bad)
  | _ => .bad
theorem cr_allD (hc : X.calm = true) : CallR X (.builtin "all") (rC X p W bAll) := by
  intro pins s' σ' H xs us Q I rx h
  obtain ⟨σ, s, rs, J, hr, h⟩ := h
  unfold bAll at h
  split at h
  · rename_i r
    cases hr with
    | cons ra rn =>
      cases rn
      split at h
      · rename_i ns e1
        obtain ⟨a, rfl, h1⟩ := lst_bls J ra e1
        exact cr_all hc pins s' σ' H _ us Q I rx ⟨a, ns, rfl, SqL.of h1, tR_ok h ⟨J, (Dv.bl _)⟩ Le.refl⟩
      · exact h.elim
  · exact h.elim
def bAny : Bf := fun rs s => match rs with
  | [r] => (match (lstOf r s).bind asBls with
    | some ns => .ok (.sh (.bl (ns.any id))) s
    | _ => .bad)
  | _ => .bad
theorem cr_anyD (hc : X.calm = true) : CallR X (.builtin "any") (rC X p W bAny) := by
  intro pins s' σ' H xs us Q I rx h
  obtain ⟨σ, s, rs, J, hr, h⟩ := h
  unfold bAny at h
  split at h
  · rename_i r
    cases hr with
    | cons ra rn =>
      cases rn
      split at h
      · rename_i ns e1
        obtain ⟨a, rfl, h1⟩ := lst_bls J ra e1
        exact cr_any hc pins s' σ' H _ us Q I rx ⟨a, ns, rfl, SqL.of h1, tR_ok h ⟨J, (Dv.bl _)⟩ Le.refl⟩
      · exact h.elim
  · exact h.elim

/-! ### isinstance(x, T) of a built-in class -/
def tyD : D → Option String
  | .non => some "NoneType"
  | .bl _ => some "bool"
  | .int _ => some "int"
  | .str _ => some "str"
  | .tup _ => some "tuple"
  | .lst _ => some "list"
  | _ => none
def isiT (T t : String) : Bool := T == t || (T == "int" && t == "bool")
def tysC : List String := ["NoneType", "bool", "int", "str", "tuple", "list"]
def clsC : List String := ["int", "bool", "str", "tuple", "list"]
theorem isi_tab : (tysC.all fun t => clsC.all fun T => kitB t T == some (isiT T t)) = true := by decide +kernel
theorem isi_ok {t T : String} (ht : t ∈ tysC) (hT : T ∈ clsC) : kitB t T = some (isiT T t) := by
  have h := isi_tab
  rw [List.all_eq_true] at h
  have h2 := h t ht
  rw [List.all_eq_true] at h2
  exact beq_iff_eq.mp (h2 T hT)
theorem tyD_mem {d : D} {t : String} (h : tyD d = some t) : t ∈ tysC := by
  cases d <;> first | (cases h; decide) | cases h
theorem tyD_of {K : PySem.W.Frag} {mg : Str → Option Value} {H : Hp} {v : V} {d : D} {t : String} (h : Dv K mg H v d) (e : tyD d = some t) : TyOf K H v (.type t) := by
  cases h <;> first | (cases e; done) | skip
  · cases e; exact .non
  · cases e; exact .bl _
  · cases e; exact .int _
  · cases e; exact .str _
  · cases e; exact .tup (by assumption)
  · cases e; exact .lst (by assumption)
def isiD (T : String) (r : R) (s : S) : Res R := match (peek r s).bind tyD with
  | some t => .ok (.sh (.bl (isiT T t))) s
  | none => .bad
theorem de_isi {f : S → Res R} {x : Str} {T : String} {p2 : Pos} (hT : T ∈ clsC) (hg : Gl X "isinstance") (hm : X.mg "isinstance" = none) (hgT : Gl X x) (hmT : X.mg x = none) (hvT : bootBuiltins x = some (.type T)) (hn : x ≠ "__name__") (hdb : (x == ("__debug__" : Str)) = false)
    (ha : DH X p W a f) (he : starEach [a, .Name x p2] X.env = (false, eval a X.env) :: starEach [.Name x p2] X.env) (hpl : (starEach [Expr.Name x p2] X.env).any (·.1) = false) : DE X p W (.Call (.Name "isinstance" pos') [a, .Name x p2] [] pos) (fun s => (f s).bind fun r s1 => isiD T r s1) := by
  have hb : PE X (.Name x p2) (tC (.ty T)) := pe_bltn hgT hmT hvT rfl hn hdb
  refine PE.imp (pe_callB (r := rIsi X.K) (call_isi) hg hm (by decide +kernel) (pa_cons ha (pa_cons hb pa_nil) he) (by decide) (by decide) he (by rw [backTo_any]; exact hpl)) fun σ H Q ⟨s, I, q⟩ => ⟨s, I, tR_mono (tR_bind (rel := relH (bs X p)) q) fun v H1 ⟨r, s1, ⟨I1, hr⟩, l, q1⟩ => ?_⟩
  unfold isiD at q1
  dsimp only at q1
  split at q1
  · rename_i t e1
    obtain ⟨d, e2, e3⟩ := Option.bind_eq_some_iff.mp e1
    have dv := peek_H I1 hr e2 (by cases d <;> first | rfl | cases e3)
    exact ⟨v, .ty T, .type t, .type T, isiT T t, rfl, .ty T, .base (tyD_of dv e3), kit_ty (isi_ok (tyD_mem e3) hT), tR_ok q1 ⟨I1, (Dv.bl _)⟩ Le.refl⟩
  · exact q1.elim
end
end AL


set_option Elab.async false
set_option linter.all false
set_option maxRecDepth 100000
set_option maxHeartbeats 1000000
/-! AL7: methods, formatted texts, targets, walks, comprehensions by data. -/
namespace AL
open PySem PySem.Spec PyProof.Rows L2
section
variable {X : Cx} {p : P0} {W : WX} {e a b o : Expr} {es : List Expr} {pos pos' apos : Pos}

def baseOk : Expr → Bool
  | .Name _ _ => true
  | .Constant _ _ _ => true
  | .Subscript _ _ _ => true
  | _ => false
theorem base_ok {o : Expr} {attr : Str} {env : Env} {whole : Sem Value} (h : baseOk o = true) : attributeBase o attr env whole = whole := by
  cases o <;> first | rfl | cases h
/-! ### methods of lists -/
/-- the list of a name's own object -/
def ownL (s : S) (i : Nat) : Option (List D) := match s[i]? with
  | some (some (.ow (.lst ds))) => some ds
  | some (some (.io (.lst ds))) => some ds
  | _ => none
theorem ownL_slot {s : S} {i : Nat} {ds : List D} (h : ownL s i = some ds) : Slot1 s i (.lst ds) := by
  unfold ownL at h
  split at h
  · cases h; left; assumption
  · cases h; right; assumption
  · cases h
def mAppend (r a : R) (s : S) : Res R := match r with
  | .ob i => (esc a s).bind fun d s1 => match ownL s1 i with
    | some ds => if ds.length < sizeLine then .ok (.sh .non) (reSV s1 i (.lst (ds ++ [d]))) else .bad
    | none => .bad
  | _ => .bad
def isLst (r : R) (s : S) : Bool := match peek r s with
  | some (.lst _) => true
  | _ => false
theorem tyV_lst {σ : List (Option V)} {H : Hp} {s : S} {r : R} {v : V} (I : Rel (bs X p) σ s none H) (hr : RH (bs X p) σ s H r v) (h : isLst r s = true) : tyV X.K "list" v H := by
  unfold isLst at h
  split at h
  · rename_i ds e1
    obtain ⟨a, xs, rfl, h1, d1⟩ := peek_lst I hr e1
    exact .inl ⟨rfl, xs, SqL.of h1⟩
  · cases h
theorem fewOk {cpos : Pos} {e : Expr} {env : Env} (hs : starEach [e] env = [(false, eval e env)]) : ((backTo cpos (starEach [e] env)).all (fun x => !x.1) && (backToKw cpos (keywordEach [] env)).all (fun x => x.1.isSome)
      && decide ((e :: []).length + ([] : List Keyword).length + (if ([] : List Keyword).isEmpty then 0 else 1) < 30)) = true := by
  rw [hs]
  simp [backTo, backToKw, keywordEach]
theorem de_append {f g : S → Res R} (ho : DH X p W o f) (ha : DH X p W e g) (hb : baseOk o = true) (hline : (apos.endLine == pos.line) = true) (hs : starEach [e] X.env = [(false, eval e X.env)]) :
    DE X p W (.Call (.Attribute o "append" apos) [e] [] pos) (fun s => (f s).bind fun r s1 => if isLst r s1 = true then (g s1).bind fun a s2 => mAppend r a s2 else .bad) := by
  have he : starEach [e] X.env = (false, eval e X.env) :: starEach [] X.env := by rw [hs] <;> rfl
  refine PE.imp (pe_bm PySem.F.plainAttrs_list PySem.F.slot_list_append PySem.F.type_list_append mt_append ho (pa_cons ha pa_nil he) (base_ok hb) (fewOk hs) hline he (by rfl)) fun σ H Q ⟨s, I, q⟩ => ⟨s, I, tR_mono (tR_bind (rel := relH (bs X p)) q) fun v H1 ⟨r, s1, ⟨I1, hr⟩, l, q1⟩ => ?_⟩
  dsimp only at q1
  split at q1
  · rename_i c
    refine ⟨tyV_lst I1 hr c, s1, I1, tR_mono (tR_bind (rel := relH (bs X p)) q1) fun w H2 ⟨a, s2, ⟨I2, ha⟩, l2, q2⟩ => ?_⟩
    unfold mAppend at q2
    dsimp only at q2
    cases r with
    | ob k =>
      obtain ⟨d, s3, I3, l3, dv, q3⟩ := tR_esc (B := bs X p) I2 ha q2
      split at q3
      · rename_i ds e1
        split at q3
        · rename_i c2
          have hr : σ[k]? = some (some v) := hr
          obtain ⟨ad, hk, hc, _⟩ := I3.own k _ (ownL_slot e1)
          rw [hr] at hk; cases hk
          obtain ⟨xs, h1, d1⟩ := hc
          obtain ⟨I4, l4⟩ := I3.wr (o := .lst (xs ++ [w])) (d' := .lst (ds ++ [d])) (ownL_slot e1) hr ⟨_, upd_same, d1.append (.one dv)⟩
          exact ⟨ad, xs, w, rfl, rfl, h1, by rw [d1.length]; exact c2, tR_ok q3 ⟨I4, Dv.non⟩ (by show Ext _ (hid _ _ _ none _); rw [l4]; exact Ext.refl _)⟩
        · exact q3.elim
      · exact q3.elim
    | _ => exact q2.elim
  · exact q1.elim
/-- pop(i) of one's own list -/
def mPopAt (r a : R) (s : S) : Res R := match r with
  | .ob k => (match peek a s with
    | some (.int i) => (match ownL s k with
      | some ds => if -(2 ^ 63) ≤ i ∧ i < 2 ^ 63 then (match seqIndex? i ds.length with
          | some j => (match ds[j]? with
            | some d => .ok (.sh d) (reSV s k (.lst (ds.eraseIdx j)))
            | none => .bad)
          | none => .bad) else .bad
      | none => .bad)
    | _ => .bad)
  | _ => .bad
theorem de_popAt {f g : S → Res R} (ho : DH X p W o f) (ha : DH X p W e g) (hb : baseOk o = true) (hline : (apos.endLine == pos.line) = true) (hs : starEach [e] X.env = [(false, eval e X.env)]) :
    DE X p W (.Call (.Attribute o "pop" apos) [e] [] pos) (fun s => (f s).bind fun r s1 => if isLst r s1 = true then (g s1).bind fun a s2 => mPopAt r a s2 else .bad) := by
  have he : starEach [e] X.env = (false, eval e X.env) :: starEach [] X.env := by rw [hs] <;> rfl
  refine PE.imp (pe_bm PySem.F.plainAttrs_list PySem.F.slot_list_pop PySem.F.type_list_pop mt_popAt ho (pa_cons ha pa_nil he) (base_ok hb) (fewOk hs) hline he (by rfl)) fun σ H Q ⟨s, I, q⟩ => ⟨s, I, tR_mono (tR_bind (rel := relH (bs X p)) q) fun v H1 ⟨r, s1, ⟨I1, hr⟩, l, q1⟩ => ?_⟩
  dsimp only at q1
  split at q1
  · rename_i c
    refine ⟨tyV_lst I1 hr c, s1, I1, tR_mono (tR_bind (rel := relH (bs X p)) q1) fun w H2 ⟨a, s2, ⟨I2, ha⟩, l2, q2⟩ => ?_⟩
    unfold mPopAt at q2
    dsimp only at q2
    cases r with
    | ob k =>
      dsimp only at q2
      split at q2
      · rename_i i e0
        obtain rfl := int_of (peek_sh I2 ha e0 rfl)
        split at q2
        · rename_i ds e1
          split at q2
          · rename_i c2
            split at q2
            · rename_i j e2
              split at q2
              · rename_i d e3
                have hr : σ[k]? = some (some v) := hr
                obtain ⟨ad, hk, hc, _⟩ := I2.own k _ (ownL_slot e1)
                rw [hr] at hk; cases hk
                obtain ⟨xs, h1, d1⟩ := hc
                obtain ⟨y, h2, dy⟩ := d1.get e3
                obtain ⟨I4, l4⟩ := I2.wr (o := .lst (xs.eraseIdx j)) (d' := .lst (ds.eraseIdx j)) (ownL_slot e1) hr ⟨_, upd_same, d1.eraseIdx j⟩
                exact ⟨ad, xs, i, j, y, rfl, rfl, h1, c2.1, c2.2, by rw [d1.length]; exact e2, h2, tR_ok q2 ⟨I4, by rw [l4]; exact dy⟩ (by show Ext _ (hid _ _ _ none _); rw [l4]; exact Ext.refl _)⟩
              · exact q2.elim
            · exact q2.elim
          · exact q2.elim
        · exact q2.elim
      · exact q2.elim
    | _ => exact q2.elim
  · exact q1.elim
/-- pop() of one's own list -/
def mPop (r : R) (s : S) : Res R := match r with
  | .ob k => (match ownL s k with
    | some ds => (match ds[ds.length - 1]? with
        | some d => .ok (.sh d) (reSV s k (.lst ds.dropLast))
        | none => .bad)
    | none => .bad)
  | _ => .bad
theorem de_pop {f : S → Res R} (ho : DH X p W o f) (hb : baseOk o = true) (hline : (apos.endLine == pos.line) = true) :
    DE X p W (.Call (.Attribute o "pop" apos) [] [] pos) (fun s => (f s).bind fun r s1 => mPop r s1) := by
  refine PE.imp (pe_bm0 PySem.F.plainAttrs_list PySem.F.slot_list_pop PySem.F.type_list_pop mt_pop ho (base_ok hb) hline) fun σ H Q ⟨s, I, q⟩ => ⟨s, I, tR_mono (tR_bind (rel := relH (bs X p)) q) fun v H1 ⟨r, s1, ⟨I1, hr⟩, l, q1⟩ => ?_⟩
  unfold mPop at q1
  dsimp only at q1
  cases r with
  | ob k =>
    dsimp only at q1
    split at q1
    · rename_i ds e1
      split at q1
      · rename_i d e3
        have hr : σ[k]? = some (some v) := hr
        obtain ⟨ad, hk, hc, _⟩ := I1.own k _ (ownL_slot e1)
        rw [hr] at hk; cases hk
        obtain ⟨xs, h1, d1⟩ := hc
        obtain ⟨y, h2, dy⟩ := d1.get e3
        obtain ⟨I4, l4⟩ := I1.wr (o := .lst xs.dropLast) (d' := .lst ds.dropLast) (ownL_slot e1) hr ⟨_, upd_same, d1.dropLast⟩
        exact ⟨.inl ⟨rfl, xs, SqL.of h1⟩, ad, xs, y, rfl, rfl, h1, by rw [d1.length]; exact h2, tR_ok q1 ⟨I4, by rw [l4]; exact dy⟩ (by show Ext _ (hid _ _ _ none _); rw [l4]; exact Ext.refl _)⟩
      · exact q1.elim
    · exact q1.elim
  | _ => exact q1.elim
/-! ### methods of texts -/
def isStr (r : R) : Bool := match r with
  | .sh (.str _) => true
  | _ => false
def mSplit (r a : R) (s : S) : Res R := match r with
  | .sh (.str x) => (match peek a s with
    | some (.str y) => if (y.length == 0) = false ∧ x.length + 2 ≤ sizeLine then newLst ((Txt.split x y).map D.str) s else .bad
    | _ => .bad)
  | _ => .bad
def mJoin (r a : R) (s : S) : Res R := match r with
  | .sh (.str x) => (match (lstOf a s).bind asStrs with
    | some ys => if (ys.map (·.length)).sum + ys.length * x.length ≤ 16777216 then .ok (.sh (.str (Txt.join x ys))) s else .bad
    | none => .bad)
  | _ => .bad
theorem lst_strs {B : Bas} {σ : List (Option V)} {H : Hp} {s : S} {r : R} {v : V} {ns : List Str} (I : Rel B σ s none H) (hr : RH B σ s H r v) (e : (lstOf r s).bind asStrs = some ns) : ∃ a, v = .ref a ∧ H a = some (.lst (ns.map V.str)) := by
  obtain ⟨ds, e1, e2⟩ := Option.bind_eq_some_iff.mp e
  unfold lstOf at e1
  split at e1
  · rename_i ds' e3
    cases e1
    obtain ⟨a, xs, rfl, h1, d1⟩ := peek_lst I hr e3
    rw [asStrs_eq e2] at d1
    rw [d1.strs] at h1
    exact ⟨a, rfl, h1⟩
  · cases e1
theorem str_there {σ : List (Option V)} {s : S} {H : Hp} {r : R} {v : V} (hr : RH (bs X p) σ s H r v) (h : isStr r = true) : ∃ z, r = .sh (.str z) ∧ v = .str z := by
  unfold isStr at h
  split at h
  · rename_i z
    exact ⟨z, rfl, str_of hr⟩
  · cases h
theorem de_split {f g : S → Res R} (ho : DH X p W o f) (ha : DH X p W e g) (hb : baseOk o = true) (hline : (apos.endLine == pos.line) = true) (hs : starEach [e] X.env = [(false, eval e X.env)]) :
    DE X p W (.Call (.Attribute o "split" apos) [e] [] pos) (fun s => (f s).bind fun r s1 => if isStr r = true then (g s1).bind fun a s2 => mSplit r a s2 else .bad) := by
  refine PE.imp (pe_split ho ha hs (base_ok hb) hline) fun σ H Q ⟨s, I, q⟩ => ⟨s, I, tR_mono (tR_bind (rel := relH (bs X p)) q) fun v H1 ⟨r, s1, ⟨I1, hr⟩, l, q1⟩ => ?_⟩
  dsimp only at q1
  split at q1
  · rename_i c
    obtain ⟨z, rfl, rfl⟩ := str_there hr c
    refine ⟨⟨z, rfl⟩, s1, I1, tR_mono (tR_bind (rel := relH (bs X p)) q1) fun w H2 ⟨a, s2, ⟨I2, ha⟩, l2, q2⟩ => ?_⟩
    unfold mSplit at q2
    dsimp only at q2
    split at q2
    · rename_i y e0
      obtain rfl := str_of (peek_sh I2 ha e0 rfl)
      split at q2
      · rename_i c2
        exact ⟨_, _, rfl, rfl, c2.1, c2.2, newLst_ok I2 DvL.ofStrs q2⟩
      · exact q2.elim
    · exact q2.elim
  · exact q1.elim
theorem de_join {f g : S → Res R} (ho : DH X p W o f) (ha : DH X p W e g) (hb : baseOk o = true) (hline : (apos.endLine == pos.line) = true) (hs : starEach [e] X.env = [(false, eval e X.env)]) :
    DE X p W (.Call (.Attribute o "join" apos) [e] [] pos) (fun s => (f s).bind fun r s1 => if isStr r = true then (g s1).bind fun a s2 => mJoin r a s2 else .bad) := by
  refine PE.imp (pe_join ho ha hs (base_ok hb) hline) fun σ H Q ⟨s, I, q⟩ => ⟨s, I, tR_mono (tR_bind (rel := relH (bs X p)) q) fun v H1 ⟨r, s1, ⟨I1, hr⟩, l, q1⟩ => ?_⟩
  dsimp only at q1
  split at q1
  · rename_i c
    obtain ⟨z, rfl, rfl⟩ := str_there hr c
    refine ⟨⟨z, rfl⟩, s1, I1, tR_mono (tR_bind (rel := relH (bs X p)) q1) fun w H2 ⟨a, s2, ⟨I2, ha⟩, l2, q2⟩ => ?_⟩
    unfold mJoin at q2
    dsimp only at q2
    split at q2
    · rename_i ys e0
      obtain ⟨ad, rfl, h1⟩ := lst_strs I2 ha e0
      split at q2
      · rename_i c2
        exact ⟨z, ad, ys, rfl, rfl, .inl (SqL.of h1), c2, tR_ok q2 ⟨I2, (Dv.str _)⟩ Le.refl⟩
      · exact q2.elim
    · exact q2.elim
  · exact q1.elim

/-! ### formatted texts -/
def fmtR (r : R) (s : S) : Res R := match peek r s with
  | some (.str y) => if lineOk y.length = true then .ok (.sh (.str y)) s else .bad
  | some (.int i) => if i.natAbs.log2 < 1920 then .ok (.sh (.str (toString i))) s else .bad
  | _ => .bad
theorem de_fmt {f : S → Res R} (h : DH X p W e f) : DE X p W (.FormattedValue e (-1) none pos) (fun s => (f s).bind fun r s1 => fmtR r s1) := by
  refine PE.imp (pe_fmt h) fun σ H Q ⟨s, I, q⟩ => ⟨s, I, tR_mono (tR_bind (rel := relH (bs X p)) q) fun v H1 ⟨r, s1, ⟨I1, hr⟩, l, q1⟩ => ?_⟩
  unfold fmtR at q1
  dsimp only at q1
  split at q1
  · rename_i y e1
    obtain rfl := str_of (peek_sh I1 hr e1 rfl)
    split at q1
    · rename_i c
      exact .inl ⟨y, rfl, of_decide_eq_true c, tR_ok q1 ⟨I1, (Dv.str _)⟩ Le.refl⟩
    · exact q1.elim
  · rename_i i e1
    obtain rfl := int_of (peek_sh I1 hr e1 rfl)
    split at q1
    · rename_i c
      exact .inr ⟨i, rfl, c, tR_ok q1 ⟨I1, (Dv.str _)⟩ Le.refl⟩
    · exact q1.elim
  · exact q1.elim
/-- the texts one behind the other -/
def jsD : List (S → Res R) → Str → S → Res Str
  | [], acc, s => .ok acc s
  | f :: fs, acc, s => (f s).bind fun r s1 => match r with
    | .sh (.str y) => if lineOk (acc ++ y).length = true then jsD fs (acc ++ y) s1 else .bad
    | _ => .bad
inductive DJ (X : Cx) (p : P0) (W : WX) : List Expr → List (S → Res R) → Prop where
  | nil : DJ X p W [] []
  | cons {e : Expr} {f : S → Res R} {es : List Expr} {fs : List (S → Res R)} (h : DH X p W e f) (r : DJ X p W es fs) : DJ X p W (e :: es) (f :: fs)
theorem DJ.pj {es : List Expr} {fs : List (S → Res R)} (h : DJ X p W es fs) : PJ X es (fs.map fun f => tG (bs X p) W (relH (bs X p)) f) := by
  induction h with
  | nil => exact .nil
  | cons h r ih => exact .cons h ih
theorem js_of {σ : List (Option V)} : ∀ (fs : List (S → Res R)) (acc : Str) (H : Hp) (s : S) (Q : Str → Hp → Prop), Rel (bs X p) σ s none H → tR (bs X p) W (relE (bs X p)) σ s H (jsD fs acc s) Q → tJs (fs.map fun f => tG (bs X p) W (relH (bs X p)) f) acc σ H Q
  | [], acc, H, s, Q, I, h => tR_ok h ⟨I, rfl⟩ Le.refl
  | f :: fs, acc, H, s, Q, I, h => by
    refine ⟨s, I, tR_mono (tR_bind (rel := relH (bs X p)) h) fun v H1 ⟨r, s1, ⟨I1, hr⟩, l, q1⟩ => ?_⟩
    dsimp only at q1
    split at q1
    · rename_i y
      obtain rfl := str_of hr
      split at q1
      · rename_i c
        exact ⟨y, rfl, of_decide_eq_true c, js_of fs _ H1 s1 Q I1 q1⟩
      · exact q1.elim
    · exact q1.elim
theorem de_joined {v1 v2 : Expr} {rest : List Expr} {fs : List (S → Res R)} (h : DJ X p W (v1 :: v2 :: rest) fs) : DE X p W (.JoinedStr (v1 :: v2 :: rest) pos) (fun s => (jsD fs Str.empty s).bind fun z s1 => .ok (.sh (.str z)) s1) := by
  refine PE.imp (pe_joined h.pj) fun σ H Q ⟨s, I, q⟩ => js_of fs _ H s _ I (tR_mono (tR_bind (rel := relE (bs X p)) q) fun out H1 ⟨z, s1, ⟨I1, e⟩, l, q1⟩ => ?_)
  subst e
  exact tR_ok q1 ⟨I1, Dv.str _⟩ Le.refl
end
end AL


set_option Elab.async false
set_option linter.all false
set_option maxRecDepth 100000
set_option maxHeartbeats 2000000
/-! RV: a list turned round. -/
namespace AL
open PySem PySem.Spec PyProof.Rows L2
section
variable {X : Cx} {p : P0} {W : WX} {e : Expr} {te : TE} {pos p2 c u : Pos} {j : Nat}
theorem pe_rev (he : PE X e te) : PE X (.Subscript e (.Slice none none (some (.UnaryOp .USub (.Constant (.int 1) j c) u)) p2) pos) (fun σ H Q => te σ H fun x H1 => ∃ a xs, x = .ref a ∧ SqL X.K H1 a xs ∧ ∀ p, H1 p = none → Q (.ref p) (upd H1 p (.lst xs.reverse))) := by
  refine ⟨fun pins s σ H Q I h => ?_⟩
  refine Subscript_ (thn (he.run pins s σ H _ I h) fun v s1 ⟨x, H1, I1, r1, a, xs, ex, hq, q⟩ => ?_)
  subst ex
  cases r1
  have hst : PO X (some (.UnaryOp .USub (.Constant (.int 1) j c) u)) _ := po_some (pe_un un_neg pe_int)
  refine wpAny_Slice ?_
  rw [evalPart_none]
  refine wpAny_pure (wpAny_pure (thn (hst.run pins s1 σ H1 (fun l H2 => l = some (-1) ∧ H2 = H1) I1 ⟨1, rfl, -1, rfl, rfl, rfl⟩) fun vs s3 ⟨l, H3, I3, pl, q3, e3⟩ => ?_))
  subst q3 e3
  have I4 : Inv X pins σ H3 { s3 with heap := s3.heap.push { cls := .type "slice", data := .fields #[.none, .none, vs] } } := I3.kept (t' := s3.toks) fun b ob q => Heap.get?_push_of_some _ q
  obtain ⟨its, r, ht, hz⟩ := I4.list hq
  refine tail_any (ops := [.ref a, .ref s3.heap.objs.size]) ht.isList.typeIs slot_list_getitem.lookup ?_ (by with_unfolding_all rfl)
  refine wpAny_getItem_list_slice ht.isList (Heap.IsSliceOf.new ..) .none .none pl (by simp) ?_ (by rw [List.size_toArray] <;> (have := r.length; omega))
  rw [PySem.W.krv_pick]
  refine ⟨.ref (s3.heap.push { cls := .type "slice", data := .fields #[.none, .none, vs] }).objs.size, _, I4.laid (t' := s3.toks) (o := .lst xs.reverse) (fun b ob q => Heap.get?_push_of_some _ q) (Nat.le_refl _) ?_, rfl, q _ (I4.hok.fresh (Nat.le_refl _))⟩
  exact ⟨by rw [List.length_reverse]; exact hz, _, 0, r.reverse, Heap.get?_push_size _ rfl⟩
def revR (r : R) (s : S) : Res R := match peek r s with
  | some (.lst ds) => newLst ds.reverse s
  | _ => .bad
theorem de_rev {f : S → Res R} (h : DH X p W e f) : DE X p W (.Subscript e (.Slice none none (some (.UnaryOp .USub (.Constant (.int 1) j c) u)) p2) pos) (fun s => (f s).bind fun r s1 => revR r s1) := by
  refine PE.imp (pe_rev h) fun σ H Q ⟨s, I, q⟩ => ⟨s, I, tR_mono (tR_bind (rel := relH (bs X p)) q) fun v H1 ⟨r, s1, ⟨I1, hr⟩, l, q1⟩ => ?_⟩
  unfold revR at q1
  dsimp only at q1
  split at q1
  · rename_i ds e1
    obtain ⟨a, xs, rfl, h1, d1⟩ := peek_lst I1 hr e1
    exact ⟨a, xs, rfl, SqL.of h1, newLst_ok I1 d1.reverse q1⟩
  · exact q1.elim
end
end AL


set_option Elab.async false
set_option linter.all false
set_option maxRecDepth 100000
set_option maxHeartbeats 1000000
/-! AL8: targets, walks, comprehensions by data. -/
namespace AL
open PySem PySem.Spec PyProof.Rows L2

/-! ### targets -/
theorem wipe_set {σ : List (Option V)} {i : Nat} {v : Option V} : ∀ {vs : List Nat}, i ∈ vs → wipe (σ.set i v) vs = wipe σ vs
  | [], h => by cases h
  | j :: vs, h => by
    show (wipe (σ.set i v) vs).set j none = (wipe σ vs).set j none
    by_cases e : i ∈ vs
    · rw [wipe_set e]
    · have e2 : i = j := by
        rcases List.mem_cons.mp h with h | h
        · exact h
        · exact absurd h e
      subst e2
      have z : ∀ {us : List Nat}, wipe (σ.set i v) us = (wipe σ us).set i ((wipe (σ.set i v) us).getD i none) ∨ i ∈ us := fun {us} => by
        induction us with
        | nil =>
          left
          show σ.set i v = σ.set i ((σ.set i v).getD i none)
          by_cases hi : i < σ.length
          · congr 1
            rw [List.getD_eq_getElem?_getD, List.getElem?_set_self hi]; rfl
          · rw [List.set_eq_of_length_le (by omega), List.set_eq_of_length_le (by omega)]
        | cons k us ih =>
          by_cases ek : i = k
          · right; simp [ek]
          · rcases ih with ih | ih
            · left
              show (wipe (σ.set i v) us).set k none = ((wipe σ us).set k none).set i (((wipe (σ.set i v) us).set k none).getD i none)
              have e3 : ((wipe (σ.set i v) us).set k none).getD i none = (wipe (σ.set i v) us).getD i none := by
                rw [List.getD_eq_getElem?_getD, List.getD_eq_getElem?_getD, List.getElem?_set_ne (fun z => ek z.symm)]
              rw [e3, List.set_comm _ _ (fun z => ek z.symm), ← ih]
            · right; exact List.mem_cons_of_mem _ ih
      rcases z (us := vs) with z | z
      · rw [z, List.set_set]
      · exact absurd z e
/-- what a target does: shared data stored; the names' places -/
def setV (i : Nat) (d : D) (s : S) : Option S := match s[i]? with
  | some (some (.io _)) => none
  | some _ => some (s.set i (some (.sh d)))
  | none => none
theorem Rel.setSh {B : Bas} {σ : List (Option V)} {s : S} {H : Hp} {i : Nat} {d : D} {v : V} (I : Rel B σ s none H) (dv : Dv B.K B.mg (hid B σ s none H) v d) (hio : ∀ e, s[i]? ≠ some (some (SV.io e))) (hi : i < s.length) :
    Rel B (σ.set i (some v)) (s.set i (some (.sh d))) none H ∧ Ext (hid B σ s none H) (hid B (σ.set i (some v)) (s.set i (some (.sh d))) none H) := by
  have hiσ : i < σ.length := by rw [← I.len]; exact hi
  have sl : ∀ {j : Nat} {e : D}, Slot1 (s.set i (some (.sh d))) j e → j ≠ i ∧ Slot1 s j e := fun {j e} h => by
    rcases slotS h with ⟨_, q, _⟩ | ⟨ne, h⟩
    · rcases q with q | q <;> cases q
    · exact ⟨ne, h⟩
  have σne : ∀ {j : Nat}, j ≠ i → (σ.set i (some v))[j]? = σ[j]? := fun {j} h => List.getElem?_set_ne (fun z => h z.symm)
  have own' : ∀ b, ownB (σ.set i (some v)) (s.set i (some (.sh d))) b = true → ownB σ s b = true := fun b h => by
    obtain ⟨j, e, h1, h2⟩ := ownB_iff.mp h
    obtain ⟨ne, h3⟩ := sl h2
    rw [σne ne] at h1
    exact ownB_iff.mpr ⟨j, e, h1, h3⟩
  have ex : Ext (hid B σ s none H) (hid B (σ.set i (some v)) (s.set i (some (.sh d))) none H) := Ext.of fun b u h => by
    obtain ⟨h1, h2, h3, _⟩ := hid_some h
    refine hid_of h1 h2 ?_ (by simp)
    cases q : ownB (σ.set i (some v)) (s.set i (some (.sh d))) b with
    | false => rfl
    | true => rw [own' b q] at h3; cases h3
  refine ⟨⟨by simp [I.len], fun j e h => ?_, fun j e h => ?_, fun j k e f b h1 h2 h3 h4 => ?_, fun j e b h1 h2 => ?_, fun q hq => ?_, fun j e h => ?_, fun b q => (by cases q), I.frame, I.tabs, I.zs, I.zio⟩, ex⟩
  · rcases setS h with ⟨rfl, q, _⟩ | ⟨ne, h3⟩
    · cases q
      exact ⟨v, List.getElem?_set_self hiσ, Dv.ext ex dv⟩
    · obtain ⟨w, h4, h5⟩ := I.sh j e h3
      exact ⟨w, by rw [σne ne]; exact h4, Dv.ext ex h5⟩
  · obtain ⟨ne, h3⟩ := sl h
    obtain ⟨a, h4, h5, h6, h7⟩ := I.own j e h3
    exact ⟨a, by rw [σne ne]; exact h4, h5.mono rfl ex, h6, h7⟩
  · obtain ⟨n1, g1⟩ := sl h1
    obtain ⟨n2, g2⟩ := sl h2
    rw [σne n1] at h3
    rw [σne n2] at h4
    exact I.inj j k e f b g1 g2 h3 h4
  · rcases setS h1 with ⟨_, q, _⟩ | ⟨ne, h3⟩
    · cases q
    · rw [σne ne] at h2
      exact I.new j e b h3 h2
  · obtain ⟨e, h1, h2⟩ := I.lent q hq
    have ne : q.1 ≠ i := fun z => hio e (by rw [← z]; exact h1)
    exact ⟨e, by rw [List.getElem?_set_ne (fun z => ne z.symm)]; exact h1, by rw [σne ne]; exact h2⟩
  · rcases setS h with ⟨_, q, _⟩ | ⟨_, h3⟩
    · cases q
    · exact I.lent2 j e h3
section
variable {X : Cx} {p : P0} {W : WX} {e tg : Expr} {es : List Expr} {pos pos' : Pos}
/-- a target's reading by data; sl: the places that it sets -/
def tgT (X : Cx) (f : D → S → Option S) (sl : List Nat) : TG := fun v σ H Q => ∃ (q : P0) (d : D) (s s' : S), Rel (bs X q) σ s none H ∧ Dv X.K X.mg (hid (bs X q) σ s none H) v d ∧ f d s = some s' ∧
    ∀ σ', Rel (bs X q) σ' s' none H → Ext (hid (bs X q) σ s none H) (hid (bs X q) σ' s' none H) → (∀ vs, (∀ i ∈ sl, i ∈ vs) → wipe σ' vs = wipe σ vs) → Q σ' H
def tgTs (X : Cx) (f : List D → S → Option S) (sl : List Nat) : TGs := fun vs σ H Q => ∃ (q : P0) (ds : List D) (s s' : S), Rel (bs X q) σ s none H ∧ DvL X.K X.mg (hid (bs X q) σ s none H) vs ds ∧ f ds s = some s' ∧
    ∀ σ', Rel (bs X q) σ' s' none H → Ext (hid (bs X q) σ s none H) (hid (bs X q) σ' s' none H) → (∀ vs, (∀ i ∈ sl, i ∈ vs) → wipe σ' vs = wipe σ vs) → Q σ' H
abbrev DG (X : Cx) (tg : Expr) (f : D → S → Option S) (sl : List Nat) : Prop := PG X tg (tgT X f sl)
abbrev DGs (X : Cx) (ts : List Expr) (f : List D → S → Option S) (sl : List Nat) : Prop := PGs X ts (tgTs X f sl)
theorem PG.imp {t t' : TG} (h : PG X tg t) (hi : ∀ v σ H Q, t' v σ H Q → t v σ H Q) : PG X tg t' := ⟨fun pins s σ H v u Q I r q => h.run pins s σ H v u Q I r (hi _ _ _ _ q)⟩
theorem PGs.imp {t t' : TGs} (h : PGs X es t) (hi : ∀ v σ H Q, t' v σ H Q → t v σ H Q) : PGs X es t' := ⟨fun pins s σ H v u Q I r q => h.run pins s σ H v u Q I r (hi _ _ _ _ q)⟩
theorem dg_name {i : Nat} {x : Str} (hN : X.N.Nodup) (hi : X.N[i]? = some x) (hx : Loc X.env.scope x) (hf : X.fn x = true ∨ X.env.scope.names.lookup x = some .local) : DG X (.Name x pos) (setV i) [i] := by
  refine PG.imp (pg_name hN hi hx hf) fun v σ H Q ⟨q, d, s, s', I, dv, h, k⟩ => ?_
  unfold setV at h
  split at h
  · cases h
  · rename_i c ne hc
    cases h
    have hl : i < s.length := (List.getElem?_eq_some_iff.mp hc).1
    obtain ⟨I1, e1⟩ := I.setSh (i := i) dv (fun e z => by rw [hc] at z; exact ne e (Option.some.inj z)) hl
    exact k _ I1 e1 fun vs hvs => wipe_set (hvs i (by simp))
  · cases h
def tgNil (ds : List D) (s : S) : Option S := if ds.isEmpty then some s else none
def tgCons (f : D → S → Option S) (g : List D → S → Option S) (ds : List D) (s : S) : Option S := match ds with
  | [] => none
  | d :: ds => (f d s).bind (g ds)
def tgTup (n : Nat) (f : List D → S → Option S) (d : D) (s : S) : Option S := match d with
  | .tup ds => if ds.length = n then f ds s else none
  | _ => none
theorem dgs_nil : DGs X [] tgNil [] := PGs.imp pgs_nil fun vs σ H Q ⟨q, ds, s, s', I, dv, h, k⟩ => by
  unfold tgNil at h
  split at h
  · rename_i c
    cases h
    obtain rfl : ds = [] := List.isEmpty_iff.mp c
    cases dv
    exact ⟨rfl, k σ I (Ext.refl _) fun _ _ => rfl⟩
  · cases h
theorem dgs_cons {f : D → S → Option S} {g : List D → S → Option S} {sl sl' : List Nat} (h1 : DG X e f sl) (h2 : DGs X es g sl') (hs : (assignEach (e :: es) X.env).map (·.2) = assign e X.env :: (assignEach es X.env).map (·.2)) : DGs X (e :: es) (tgCons f g) (sl ++ sl') := by
  refine PGs.imp (pgs_cons h1 h2 hs) fun vs σ H Q ⟨q, ds, s, s', I, dv, h, k⟩ => ?_
  cases dv with
  | nil => cases h
  | @cons v vs d ds dv dvs =>
    have h : (f d s).bind (g ds) = some s' := h
    obtain ⟨s1, e1, e2⟩ := Option.bind_eq_some_iff.mp h
    refine ⟨v, vs, rfl, q, d, s, s1, I, dv, e1, fun σ1 I1 x1 w1 => ?_⟩
    refine ⟨q, ds, s1, s', I1, dvs.ext x1, e2, fun σ2 I2 x2 w2 => ?_⟩
    exact k σ2 I2 (x1.trans x2) fun us hus => (w2 us fun i hi => hus i (List.mem_append_right _ hi)).trans (w1 us fun i hi => hus i (List.mem_append_left _ hi))
theorem dg_tup {f : List D → S → Option S} {sl : List Nat} {k n : Nat} (hc : X.calm = true) (h : DGs X es f sl) (hn : (assignEach es X.env).length = n) (hst : (assignEach es X.env).findIdx? (·.1) = none) : DG X (.Tuple es k pos) (tgTup n f) sl := by
  refine PG.imp (pg_tup hc h hn hst) fun v σ H Q ⟨q, d, s, s', I, dv, h, k⟩ => ?_
  unfold tgTup at h
  split at h
  · rename_i ds
    split at h
    · rename_i c
      obtain ⟨ad, xs, rfl, h1, d1⟩ := tup_of (B := bs X q) dv
      exact ⟨ad, xs, rfl, SqT.of h1, by rw [d1.length]; exact c, q, ds, s, s', I, d1, h, k⟩
    · cases h
  · cases h

/-! ### walks -/
/-- an iterator gives these items, whatever is done meanwhile -/
def ItD (K : PySem.W.Frag) (mg : Str → Option Value) (Vw : Hp) (ds : List D) (J : It) : Prop := ∀ H' V', Ext Vw V' → (∀ a o, V' a = some o → H' a = some o) →
  (∀ i, i < ds.length → J.go i H') ∧ J.stop ds.length H' ∧ ∀ i x H2, i < ds.length → J.yld i H' x H2 → ∃ d, ds[i]? = some d ∧
    ((H2 = H' ∧ Dv K mg V' x d) ∨ ∃ T xs es, H' T = none ∧ x = .ref T ∧ H2 = upd H' T (.tup xs) ∧ d = .tup es ∧ DvL K mg V' xs es)
def relI (B : Bas) : RT (List D) It := ⟨fun σ s H ds J => Rel B σ s none H ∧ ItD B.K B.mg (hid B σ s none H) ds J, fun _ _ => none⟩
abbrev DI (X : Cx) (p : P0) (W : WX) (tg e : Expr) (f : S → Res (List D)) : Prop := PI X tg e (tG (bs X p) W (relI (bs X p)) f)
theorem PI.imp {t t' : TI} (h : PI X tg e t) (hi : ∀ σ H R, t' σ H R → t σ H R) : PI X tg e t' := ⟨fun pins s σ H Q I q => h.run pins s σ H Q I (hi _ _ _ q)⟩
theorem it_list {K : PySem.W.Frag} {mg : Str → Option Value} {Vw : Hp} {a : Addr} {xs : List V} {ds : List D} (h : Vw a = some (.lst xs)) (dv : DvL K mg Vw xs ds) : ItD K mg Vw ds (Itl K a) := fun H' V' ex sub => by
  have ha : H' a = some (.lst xs) := sub _ _ (ex a (.lst xs) rfl h)
  have hS : SqL K H' a xs := SqL.of ha
  have hl := dv.length
  refine ⟨fun i hi => ?_, ?_, fun i x H2 hi y => ?_⟩
  · exact walk_list.goes i H' (by rw [hl]; exact hi) hS
  · rw [← hl]; exact walk_list.stops H' hS
  · obtain ⟨e1, e2⟩ := walk_list.yields i H' x H2 (by rw [hl]; exact hi) hS y
    obtain ⟨d, e3, e4⟩ := dv.getV e2
    exact ⟨d, e3, .inl ⟨e1, Dv.ext ex e4⟩⟩
theorem it_tup {K : PySem.W.Frag} {mg : Str → Option Value} {Vw : Hp} {a : Addr} {xs : List V} {ds : List D} (h : Vw a = some (.tup xs)) (dv : DvL K mg Vw xs ds) : ItD K mg Vw ds (Itt K a) := fun H' V' ex sub => by
  have ha : H' a = some (.tup xs) := sub _ _ (ex a (.tup xs) rfl h)
  have hS : SqT K H' a xs := SqT.of ha
  have hl := dv.length
  refine ⟨fun i hi => ?_, ?_, fun i x H2 hi y => ?_⟩
  · exact walk_tup.goes i H' (by rw [hl]; exact hi) hS
  · rw [← hl]; exact walk_tup.stops H' hS
  · obtain ⟨e1, e2⟩ := walk_tup.yields i H' x H2 (by rw [hl]; exact hi) hS y
    obtain ⟨d, e3, e4⟩ := dv.getV e2
    exact ⟨d, e3, .inl ⟨e1, Dv.ext ex e4⟩⟩
theorem it_range {K : PySem.W.Frag} {mg : Str → Option Value} {Vw : Hp} {lo : Int} {n : Nat} : ItD K mg Vw ((List.range n).map fun i => D.int (lo + (i : Nat))) (Itr lo n) := fun H' V' ex sub => by
  have hl : ((List.range n).map fun i => D.int (lo + (i : Nat))).length = n := by simp
  rw [hl]
  refine ⟨fun i hi => hi, Nat.le_refl _, fun i x H2 hi y => ?_⟩
  obtain ⟨e1, e2⟩ := walk_range.yields i H' x H2 hi True.intro y
  subst e2
  exact ⟨.int (lo + (i : Nat)), by simp [hi], .inl ⟨e1, Dv.int _⟩⟩
theorem it_str {K : PySem.W.Frag} {mg : Str → Option Value} {Vw : Hp} {z : Str} : ItD K mg Vw (z.cps.toList.map fun c => D.str ⟨#[c]⟩) (Its z) := fun H' V' ex sub => by
  have hl : (z.cps.toList.map fun c => D.str ⟨#[c]⟩).length = z.cps.size := by simp
  rw [hl]
  refine ⟨fun i hi => walk_str.goes i H' hi True.intro, walk_str.stops H' True.intro, fun i x H2 hi y => ?_⟩
  obtain ⟨e1, c, e2, e3⟩ := walk_str.yields i H' x H2 hi True.intro y
  subst e3
  exact ⟨.str ⟨#[c]⟩, by simp [e2], .inl ⟨e1, Dv.str _⟩⟩
/-- a list, a tuple, a text -/
def itSeq (r : R) (s : S) : Res (List D) := (esc r s).bind fun d s1 => match d with
  | .lst ds => .ok ds s1
  | .tup ds => .ok ds s1
  | .str z => .ok (z.cps.toList.map fun c => D.str ⟨#[c]⟩) s1
  | _ => .bad
theorem pi_seq {l : Expr} {tl : TE} (hl : PE X l tl) : PI X tg l (fun σ H R => tl σ H fun x H1 => (∃ a, x = .ref a ∧ (∃ xs, SqL X.K H1 a xs) ∧ R (Itl X.K a) H1) ∨ (∃ a, x = .ref a ∧ (∃ xs, SqT X.K H1 a xs) ∧ R (Itt X.K a) H1) ∨ (∃ z, x = .str z ∧ R (Its z) H1)) := by
  refine ⟨fun pins s σ H R I h => ?_⟩
  refine thn (hl.run pins s σ H _ I h) fun v s1 ⟨x, H1, I1, r1, q1⟩ => ?_
  rcases q1 with ⟨a, e, ⟨xs, hq⟩, q⟩ | ⟨a, e, ⟨xs, hq⟩, q⟩ | ⟨z, e, q⟩
  · subst e
    cases r1
    obtain ⟨its, rv, p, hz⟩ := I1.list hq
    refine wpAny_pyIter_list p.isList ?_
    refine ⟨s1.heap.objs.size, [s1.heap.objs.size], _, _, H1, rfl, I1.kept (t' := s1.toks) fun b o e => Heap.get?_push_of_some _ e, turn_list a _, ⟨_, Heap.get?_push_size _ rfl, rfl, rfl⟩, fun b hb => ?_, q⟩
    have e : b = s1.heap.objs.size := by simpa using hb
    subst e
    exact I1.fpOk (Nat.le_refl _) (I1.hok.fresh (Nat.le_refl _))
  · subst e
    cases r1
    obtain ⟨its, rv, p, hz⟩ := I1.tuple hq
    refine wpAny_pyIter_tuple (show s1.heap.IsTuple a its.toArray from p) ?_
    refine ⟨s1.heap.objs.size, [s1.heap.objs.size], _, _, H1, rfl, I1.kept (t' := s1.toks) fun b o e => Heap.get?_push_of_some _ e, turn_tuple a _, ⟨_, Heap.get?_push_size _ rfl, rfl, rfl⟩, fun b hb => ?_, q⟩
    have e : b = s1.heap.objs.size := by simpa using hb
    subst e
    exact I1.fpOk (Nat.le_refl _) (I1.hok.fresh (Nat.le_refl _))
  · subst e
    obtain ⟨t, rfl⟩ := r1
    cases ha : z.cps.all (· < 128)
    · exact wpAny_pyIter_wide ha (pi_one (tk := s1.toks) I1 _ (turn_str _ z t "str_iterator" (.inr rfl)) ⟨_, Heap.get?_push_size _ rfl, rfl, rfl⟩ q)
    · exact wpAny_pyIter_ascii ha (pi_one (tk := s1.toks) I1 _ (turn_str _ z t "str_ascii_iterator" (.inl rfl)) ⟨_, Heap.get?_push_size _ rfl, rfl, rfl⟩ q)
theorem di_seq {f : S → Res R} (h : DH X p W e f) : DI X p W tg e (fun s => (f s).bind fun r s1 => itSeq r s1) := by
  refine PI.imp (pi_seq h) fun σ H Q ⟨s, I, q⟩ => ⟨s, I, tR_mono (tR_bind (rel := relH (bs X p)) q) fun v H1 ⟨r, s1, ⟨I1, hr⟩, l, q1⟩ => ?_⟩
  obtain ⟨d, s2, I2, l2, dv, q2⟩ := tR_esc (B := bs X p) I1 hr q1
  split at q2
  · rename_i ds
    cases dv with
    | lst h1 hs => exact .inl ⟨_, rfl, ⟨_, SqL.of (hid_sub _ _ h1)⟩, tR_ok q2 ⟨I2, it_list h1 hs⟩ Le.refl⟩
  · rename_i ds
    cases dv with
    | tup h1 hs => exact .inr (.inl ⟨_, rfl, ⟨_, SqT.of (hid_sub _ _ h1)⟩, tR_ok q2 ⟨I2, it_tup h1 hs⟩ Le.refl⟩)
  · rename_i z
    cases dv
    exact .inr (.inr ⟨z, rfl, tR_ok q2 ⟨I2, it_str⟩ Le.refl⟩)
  · exact q2.elim
def rngOk (i : Int) : Bool := decide (-(2 ^ 62) ≤ i ∧ i < 2 ^ 62)
def itRng (rs : List R) (s : S) : Res (List D) := match rs with
  | [r] => (match peek r s with
    | some (.int j) => if rngOk j = true then .ok ((List.range j.toNat).map fun i => D.int (0 + (i : Nat))) s else .bad
    | _ => .bad)
  | [r, q] => (match peek r s, peek q s with
    | some (.int i), some (.int j) => if rngOk i = true ∧ rngOk j = true then .ok ((List.range (j - i).toNat).map fun k => D.int (i + (k : Nat))) s else .bad
    | _, _ => .bad)
  | _ => .bad
theorem di_range1 {a : Expr} {f : S → Res (List R)} (hg : Gl X "range") (hm : X.mg "range" = none) (ha : DA X p W [a] f) (hs : starEach [a] X.env = [(false, eval a X.env)]) : DI X p W tg (.Call (.Name "range" pos') [a] [] pos) (fun s => (f s).bind fun rs s1 => match rs with | [_] => itRng rs s1 | _ => .bad) := by
  refine PI.imp (pi_range1 hg hm ha hs) fun σ H Q ⟨s, I, q⟩ => ⟨s, I, tR_mono (tR_bind (rel := relL (bs X p)) q) fun vs H1 ⟨rs, s1, ⟨I1, hr⟩, l, q1⟩ => ?_⟩
  dsimp only at q1
  split at q1
  · rename_i r
    cases hr with
    | cons hr hn =>
      cases hn
      unfold itRng at q1
      dsimp only at q1
      split at q1
      · rename_i j e1
        obtain rfl := int_of (peek_sh I1 hr e1 rfl)
        split at q1
        · rename_i c
          have c := of_decide_eq_true c
          exact ⟨j, rfl, c.1, c.2, tR_ok q1 ⟨I1, it_range⟩ Le.refl⟩
        · exact q1.elim
      · exact q1.elim
  · exact q1.elim
theorem di_range2 {a b : Expr} {f : S → Res (List R)} (hg : Gl X "range") (hm : X.mg "range" = none) (ha : DA X p W [a, b] f) (hs : starEach [a, b] X.env = [(false, eval a X.env), (false, eval b X.env)]) (hs2 : starEach [b] X.env = [(false, eval b X.env)]) :
    DI X p W tg (.Call (.Name "range" pos') [a, b] [] pos) (fun s => (f s).bind fun rs s1 => match rs with | [_, _] => itRng rs s1 | _ => .bad) := by
  refine PI.imp (pi_range2 hg hm ha hs hs2) fun σ H Q ⟨s, I, q⟩ => ⟨s, I, tR_mono (tR_bind (rel := relL (bs X p)) q) fun vs H1 ⟨rs, s1, ⟨I1, hr⟩, l, q1⟩ => ?_⟩
  dsimp only at q1
  split at q1
  · rename_i r1 r2
    cases hr with
    | cons hr hn =>
      cases hn with
      | cons hr2 hn =>
        cases hn
        unfold itRng at q1
        dsimp only at q1
        split at q1
        · rename_i i j e1 e2
          obtain rfl := int_of (peek_sh I1 hr e1 rfl)
          obtain rfl := int_of (peek_sh I1 hr2 e2 rfl)
          split at q1
          · rename_i c
            have c1 := of_decide_eq_true c.1
            have c2 := of_decide_eq_true c.2
            exact ⟨i, j, rfl, ⟨c1.1, c1.2, c2.1, c2.2⟩, tR_ok q1 ⟨I1, it_range⟩ Le.refl⟩
          · exact q1.elim
        · exact q1.elim
  · exact q1.elim

/-! ### comprehensions -/
def isOwn : Option SV → Bool
  | some (.ow _) => true
  | some (.io _) => true
  | _ => false
/-- no name of these places holds an object of one's own -/
def okW (s : S) (vs : List Nat) : Bool := vs.all fun i => !isOwn (s[i]?.join)
def wipeS (s : S) : List Nat → S
  | [] => s
  | v :: vs => (wipeS s vs).set v none
def restS (s0 s1 : S) : List Nat → S
  | [] => s1
  | v :: vs => (restS s0 s1 vs).set v (s0[v]?.join)
def compLoop (tgt : D → S → Option S) (tst : S → Res Bool) (elt : S → Res R) (vs : List Nat) : List D → List D → S → Res (List D)
  | [], acc, s => .ok acc s
  | d :: ds, acc, s => match tgt d s with
    | none => .bad
    | some s1 => (tst s1).bind fun b s2 => if b = true then (elt s2).bind fun r s3 => (esc r s3).bind fun y s4 =>
          if okW s4 vs = true ∧ acc.length < sizeLine then compLoop tgt tst elt vs ds (acc ++ [y]) (wipeS s4 vs) else .bad
        else if okW s2 vs = true then compLoop tgt tst elt vs ds acc (wipeS s2 vs) else .bad
def compD (it : S → Res (List D)) (tgt : D → S → Option S) (tst : S → Res Bool) (elt : S → Res R) (vs : List Nat) (s : S) : Res R :=
  (it s).bind fun ds s1 => if okW s1 vs = true then (match compLoop tgt tst elt vs ds [] (wipeS s1 vs) with
      | .ok ys s2 => .ok (.fr (.lst ys)) (restS s1 s2 vs)
      | _ => .bad) else .bad
theorem wipeS_length (s : S) : ∀ vs : List Nat, (wipeS s vs).length = s.length
  | [] => rfl
  | v :: vs => by unfold wipeS; rw [List.length_set, wipeS_length s vs]
theorem wipeS_some {s : S} {i : Nat} {x : SV} : ∀ {vs : List Nat}, (wipeS s vs)[i]? = some (some x) → s[i]? = some (some x) ∧ i ∉ vs
  | [], h => ⟨h, by simp⟩
  | v :: vs, h => by
    unfold wipeS at h
    rcases setS h with ⟨_, q, _⟩ | ⟨ne, h⟩
    · cases q
    · obtain ⟨h1, h2⟩ := wipeS_some h
      exact ⟨h1, by simp only [List.mem_cons, not_or]; exact ⟨ne, h2⟩⟩
theorem wipeS_out {s : S} {i : Nat} : ∀ {vs : List Nat}, i ∉ vs → (wipeS s vs)[i]? = s[i]?
  | [], _ => rfl
  | v :: vs, h => by
    simp only [List.mem_cons, not_or] at h
    unfold wipeS
    rw [List.getElem?_set_ne (fun z => h.1 z.symm), wipeS_out h.2]
theorem restS_length (s0 s1 : S) : ∀ vs : List Nat, (restS s0 s1 vs).length = s1.length
  | [] => rfl
  | v :: vs => by unfold restS; rw [List.length_set, restS_length s0 s1 vs]
theorem restS_out {s0 s1 : S} {i : Nat} : ∀ {vs : List Nat}, i ∉ vs → (restS s0 s1 vs)[i]? = s1[i]?
  | [], _ => rfl
  | v :: vs, h => by
    simp only [List.mem_cons, not_or] at h
    unfold restS
    rw [List.getElem?_set_ne (fun z => h.1 z.symm), restS_out h.2]
theorem restS_in {s0 s1 : S} {i : Nat} (hi : i < s1.length) : ∀ {vs : List Nat}, i ∈ vs → (restS s0 s1 vs)[i]? = some (s0[i]?.join)
  | [], h => by cases h
  | v :: vs, h => by
    unfold restS
    by_cases e : v = i
    · subst e
      rw [List.getElem?_set_self (by rw [restS_length]; exact hi)]
    · rw [List.getElem?_set_ne e]
      exact restS_in hi ((List.mem_cons.mp h).resolve_left (fun z => e z.symm))
theorem okW_slot {s : S} {vs : List Nat} (h : okW s vs = true) {i : Nat} {d : D} (hs : Slot1 s i d) : i ∉ vs := fun hm => by
  unfold okW at h
  rw [List.all_eq_true] at h
  have z := h i hm
  rcases hs with e | e <;> (rw [e] at z; cases z)
theorem slot_wipe {s : S} {vs : List Nat} {i : Nat} {d : D} (h : Slot1 (wipeS s vs) i d) : Slot1 s i d ∧ i ∉ vs := by
  rcases h with h | h
  · exact ⟨.inl (wipeS_some h).1, (wipeS_some h).2⟩
  · exact ⟨.inr (wipeS_some h).1, (wipeS_some h).2⟩
theorem own_wipe {σ : List (Option V)} {s : S} {vs : List Nat} (h : okW s vs = true) (a : Addr) : ownB (wipe σ vs) (wipeS s vs) a = ownB σ s a := by
  rw [Bool.eq_iff_iff, ownB_iff, ownB_iff]
  constructor
  · rintro ⟨i, d, h1, h2⟩
    obtain ⟨h3, h4⟩ := slot_wipe h2
    exact ⟨i, d, (wipe_some h1).1, h3⟩
  · rintro ⟨i, d, h1, h2⟩
    have hi := okW_slot h h2
    refine ⟨i, d, by rw [wipe_out hi]; exact h1, ?_⟩
    rcases h2 with h2 | h2
    · exact .inl (by rw [wipeS_out hi]; exact h2)
    · exact .inr (by rw [wipeS_out hi]; exact h2)
theorem view_wipe {B : Bas} {σ : List (Option V)} {s : S} {vs : List Nat} {x : Option Addr} {H : Hp} (h : okW s vs = true) : hid B (wipe σ vs) (wipeS s vs) x H = hid B σ s x H := by
  funext a
  unfold hid
  rw [own_wipe h]
theorem Rel.wipe {B : Bas} {σ : List (Option V)} {s : S} {vs : List Nat} {H : Hp} (I : Rel B σ s none H) (h : okW s vs = true) : Rel B (L2.wipe σ vs) (wipeS s vs) none H := by
  refine ⟨by rw [wipeS_length, wipe_length]; exact I.len, fun i d e => ?_, fun i d e => ?_, fun i j d e a h1 h2 h3 h4 => ?_, fun i d a h1 h2 => ?_, fun p hp => ?_, fun i d e => ?_, fun b q => (by cases q), I.frame, I.tabs, I.zs, I.zio⟩
  · obtain ⟨h1, h2⟩ := wipeS_some e
    obtain ⟨v, h3, h4⟩ := I.sh i d h1
    exact ⟨v, by rw [wipe_out h2]; exact h3, by rw [view_wipe h]; exact h4⟩
  · obtain ⟨h1, h2⟩ := slot_wipe e
    obtain ⟨a, h3, h4⟩ := I.own i d h1
    exact ⟨a, by rw [wipe_out h2]; exact h3, by rw [view_wipe h]; exact h4⟩
  · exact I.inj i j d e a (slot_wipe h1).1 (slot_wipe h2).1 (wipe_some h3).1 (wipe_some h4).1
  · exact I.new i d a (wipeS_some h1).1 (wipe_some h2).1
  · obtain ⟨d, h1, h2⟩ := I.lent p hp
    have hi := okW_slot h (.inr h1)
    exact ⟨d, by rw [wipeS_out hi]; exact h1, by rw [wipe_out hi]; exact h2⟩
  · exact I.lent2 i d (wipeS_some e).1
/-- the base while a comprehension's list stands at D -/
def pD (p : P0) (D : Addr) (xs : List V) : P0 := { p with H0 := upd p.H0 D (.lst xs), Z := fun a => p.Z a || decide (a = D) }
section
variable {σ : List (Option V)} {s : S} {H : Hp} {D : Addr} {xs ys : List V}
theorem view_D (hD : H D = none) : hid (bs X (pD p D xs)) σ s none (upd H D (.lst xs)) = hid (bs X p) σ s none H := by
  funext a
  show (if ((p.Z a || decide (a = D)) || ownB σ s a || decide ((none : Option Addr) = some a)) = true then none else upd H D (.lst xs) a) = (if (p.Z a || ownB σ s a || decide ((none : Option Addr) = some a)) = true then none else H a)
  by_cases e : a = D
  · subst e
    simp [hD]
  · rw [upd_ne e, decide_eq_false e, Bool.or_false]
/-- the list is laid -/
theorem Rel.layD (I : Rel (bs X p) σ s none H) (hD : H D = none) : Rel (bs X (pD p D [])) σ s none (upd H D (.lst [])) := by
  have g := upd_grow (o := .lst []) hD
  refine ⟨I.len, fun i d e => ?_, fun i d e => ?_, I.inj, fun i d a h1 h2 => ?_, I.lent, I.lent2, fun b q => (by cases q), fun a o h1 h2 => ?_, I.tabs.ext g, fun a h => ?_, fun q hq => ?_⟩
  · obtain ⟨v, h3, h4⟩ := I.sh i d e
    exact ⟨v, h3, by rw [view_D hD]; exact h4⟩
  · obtain ⟨a, h3, h4, h5, h6⟩ := I.own i d e
    obtain ⟨u, h7, _⟩ := h4.there
    have ne : a ≠ D := ne_of_none h7 hD
    refine ⟨a, h3, by rw [view_D hD]; exact h4.mono (upd_ne ne) (Ext.refl _), ?_, h6⟩
    show (p.Z a || decide (a = D)) = false
    rw [decide_eq_false ne, Bool.or_false]; exact h5
  · obtain ⟨a', h3, h4, _⟩ := I.own i d (.inl h1)
    rw [h2] at h3; cases h3
    obtain ⟨u, h7, _⟩ := h4.there
    show upd p.H0 D _ a = none
    rw [upd_ne (ne_of_none h7 hD)]
    exact I.new i d a h1 h2
  · have h1 : upd p.H0 D (.lst []) a = some o := h1
    by_cases e : a = D
    · subst e; rw [upd_same] at h1; cases h1; exact .inl upd_same
    · rw [upd_ne e] at h1
      exact (I.frame a o h1 h2).ext (g a)
  · have h : (p.Z a || decide (a = D)) = true := h
    by_cases e : a = D
    · exact ⟨.lst [], by show upd p.H0 D _ a = _; rw [e, upd_same]⟩
    · rw [decide_eq_false e, Bool.or_false] at h
      obtain ⟨o, z⟩ := I.zs a h
      exact ⟨o, by show upd p.H0 D _ a = _; rw [upd_ne e]; exact z⟩
  · have ne : q.2 ≠ D := I.notio hD q hq
    show (p.Z q.2 || decide (q.2 = D)) = false
    rw [decide_eq_false ne, Bool.or_false]; exact I.zio q hq
theorem Rel.atD (I : Rel (bs X (pD p D xs)) σ s none H) (hio : ∀ q ∈ p.io, q.2 ≠ D) : H D = some (.lst xs) := by
  rcases I.frame D (.lst xs) (show upd p.H0 D _ D = _ from upd_same) (fun q hq => hio q hq) with h | ⟨ps, ps', h, _⟩
  · exact h
  · cases h
theorem view_wrD (hD : H D = some (.lst xs)) : hid (bs X (pD p D ys)) σ s none (upd H D (.lst ys)) = hid (bs X (pD p D xs)) σ s none H := by
  funext a
  show (if ((p.Z a || decide (a = D)) || ownB σ s a || decide ((none : Option Addr) = some a)) = true then none else upd H D (.lst ys) a) = (if ((p.Z a || decide (a = D)) || ownB σ s a || decide ((none : Option Addr) = some a)) = true then none else H a)
  by_cases e : a = D
  · subst e; simp
  · rw [upd_ne e]
/-- the list has grown -/
theorem Rel.wrD (I : Rel (bs X (pD p D xs)) σ s none H) (hD : H D = some (.lst xs)) : Rel (bs X (pD p D ys)) σ s none (upd H D (.lst ys)) := by
  have hZ : (p.Z D || decide (D = D)) = true := by simp
  refine ⟨I.len, fun i d e => ?_, fun i d e => ?_, I.inj, fun i d a h1 h2 => ?_, I.lent, I.lent2, fun b q => (by cases q), fun a o h1 h2 => ?_, tabs_wr I.tabs hD trivial, fun a h => ?_, I.zio⟩
  · obtain ⟨v, h3, h4⟩ := I.sh i d e
    exact ⟨v, h3, by rw [view_wrD hD]; exact h4⟩
  · obtain ⟨a, h3, h4, h5, h6⟩ := I.own i d e
    have ne : a ≠ D := fun z => by
      have h5 : (p.Z a || decide (a = D)) = false := h5
      rw [z, hZ] at h5; cases h5
    exact ⟨a, h3, by rw [view_wrD hD]; exact h4.mono (upd_ne ne) (Ext.refl _), h5, h6⟩
  · have z : upd p.H0 D (.lst xs) a = none := I.new i d a h1 h2
    have ne : a ≠ D := fun e => by rw [e, upd_same] at z; cases z
    show upd p.H0 D (.lst ys) a = none
    rw [upd_ne ne] at z ⊢
    exact z
  · have h1 : upd p.H0 D (.lst ys) a = some o := h1
    by_cases e : a = D
    · subst e; rw [upd_same] at h1; cases h1; exact .inl upd_same
    · rw [upd_ne e] at h1
      exact (I.frame a o (show upd p.H0 D _ a = _ by rw [upd_ne e]; exact h1) h2).ext fun u q => by rw [upd_ne e]; exact q
  · obtain ⟨o, z⟩ := I.zs a h
    have z : upd p.H0 D (.lst xs) a = some o := z
    by_cases e : a = D
    · exact ⟨.lst ys, by show upd p.H0 D _ a = _; rw [e, upd_same]⟩
    · exact ⟨o, by show upd p.H0 D _ a = _; rw [upd_ne e] at z ⊢; exact z⟩
end
end
end AL


set_option Elab.async false
set_option linter.all false
set_option maxRecDepth 100000
set_option maxHeartbeats 1000000
/-! AL9: comprehensions by data. -/
namespace AL
open PySem PySem.Spec PyProof.Rows L2
section
variable {X : Cx} {p : P0} {W : WX} {e tg elt iter : Expr} {ifs : List Expr} {es : List Expr} {pos pos' : Pos}
/-- worlds with the same tables -/
abbrev QT (p : P0) := {q : P0 // q.T = p.T}
abbrev W0 : WX := fun _ _ _ _ => False
theorem pe_ex {ι : Type} {t : ι → TE} (h : ∀ q, PE X e (t q)) : PE X e (fun σ H Q => ∃ q, t q σ H Q) := ⟨fun pins s σ H Q I ⟨q, z⟩ => (h q).run pins s σ H Q I z⟩
theorem pts_ex {ι : Type} {t : ι → TT} (h : ∀ q, PTs X ifs (t q)) : PTs X ifs (fun σ H Q => ∃ q, t q σ H Q) := ⟨fun pins s σ H Q I ⟨q, z⟩ => (h q).run pins s σ H Q I z⟩
theorem PTs.imp {t t' : TT} (h : PTs X ifs t) (hi : ∀ σ H Q, t' σ H Q → t σ H Q) : PTs X ifs t' := ⟨fun pins s σ H Q I q => h.run pins s σ H Q I (hi _ _ _ q)⟩
abbrev DTs (X : Cx) (p : P0) (W : WX) (ifs : List Expr) (f : S → Res Bool) : Prop := PTs X ifs (tG (bs X p) W (relE (bs X p)) f)
theorem dts_nil : DTs X p W [] (fun s => .ok true s) := PTs.imp pts_nil fun σ H Q ⟨s, I, q⟩ => tR_ok q ⟨I, rfl⟩ Le.refl
theorem dts_one {c : Expr} {f : S → Res Bool} (h : DT X p W c f) : DTs X p W [c] f := pts_one h

def RC (X : Cx) (p : P0) (σw : List (Option V)) (Vw : Hp) (D : Addr) (Q : Hp → Prop) (m : Res (List AL.D)) : Prop := match m with
  | .ok ys s2 => ∀ (H' : Hp) (xs : List V), Rel (bs X (pD p D xs)) σw s2 none H' → Ext Vw (hid (bs X (pD p D xs)) σw s2 none H') → H' D = some (.lst xs) → DvL X.K X.mg (hid (bs X (pD p D xs)) σw s2 none H') xs ys → Q H'
  | _ => False
theorem Rel.endD {σ : List (Option V)} {s1 s2 : S} {H1 H' : Hp} {D : Addr} {xs : List V} {vs : List Nat} (I1 : Rel (bs X p) σ s1 none H1) (hD : H1 D = none) (ok : okW s1 vs = true) (I : Rel (bs X (pD p D xs)) (L2.wipe σ vs) s2 none H')
    (ex : Ext (hid (bs X p) σ s1 none H1) (hid (bs X (pD p D xs)) (L2.wipe σ vs) s2 none H')) (atD : H' D = some (.lst xs)) (hw : ∀ i ∈ vs, ∀ x, s2[i]? ≠ some (some x)) :
    Rel (bs X p) σ (restS s1 s2 vs) (some D) H' ∧ hid (bs X p) σ (restS s1 s2 vs) (some D) H' = hid (bs X (pD p D xs)) (L2.wipe σ vs) s2 none H' ∧ Le (bs X p) σ s1 H1 (restS s1 s2 vs) H' := by
  have len2 : s2.length = s1.length := by rw [I.len, wipe_length, I1.len]
  have d0 : p.H0 D = none := I1.new0 hD
  have dZ : p.Z D = false := I1.noZ hD
  have out : ∀ {i : Nat}, i ∉ vs → (restS s1 s2 vs)[i]? = s2[i]? := fun h => restS_out h
  have inn : ∀ {i : Nat} {x : SV}, i ∈ vs → (restS s1 s2 vs)[i]? = some (some x) → s1[i]? = some (some x) := fun {i x} h e => by
    by_cases hi : i < s2.length
    · rw [restS_in hi h] at e
      have e := Option.some.inj e
      cases q : s1[i]? with
      | none => rw [q] at e; cases e
      | some c => rw [q] at e; rw [show c = some x from e]
    · rw [List.getElem?_eq_none (by rw [restS_length]; omega)] at e; cases e
  have sl : ∀ {i : Nat} {d : AL.D}, Slot1 (restS s1 s2 vs) i d → i ∉ vs ∧ Slot1 s2 i d := fun {i d} h => by
    by_cases hi : i ∈ vs
    · have z : Slot1 s1 i d := h.elim (fun h => .inl (inn hi h)) (fun h => .inr (inn hi h))
      exact absurd hi (okW_slot ok z)
    · exact ⟨hi, h.elim (fun h => .inl (by rw [← out hi]; exact h)) (fun h => .inr (by rw [← out hi]; exact h))⟩
  have sl' : ∀ {i : Nat} {d : AL.D}, Slot1 s2 i d → i ∉ vs ∧ Slot1 (restS s1 s2 vs) i d := fun {i d} h => by
    have hi : i ∉ vs := fun z => h.elim (fun q => hw i z _ q) (fun q => hw i z _ q)
    exact ⟨hi, h.elim (fun h => .inl (by rw [out hi]; exact h)) (fun h => .inr (by rw [out hi]; exact h))⟩
  have own : ∀ a, ownB σ (restS s1 s2 vs) a = ownB (L2.wipe σ vs) s2 a := fun a => by
    rw [Bool.eq_iff_iff, ownB_iff, ownB_iff]
    constructor
    · rintro ⟨i, d, h1, h2⟩
      obtain ⟨h3, h4⟩ := sl h2
      exact ⟨i, d, by rw [wipe_out h3]; exact h1, h4⟩
    · rintro ⟨i, d, h1, h2⟩
      exact ⟨i, d, (wipe_some h1).1, (sl' h2).2⟩
  have view : hid (bs X p) σ (restS s1 s2 vs) (some D) H' = hid (bs X (pD p D xs)) (L2.wipe σ vs) s2 none H' := by
    funext a
    show (if (p.Z a || ownB σ (restS s1 s2 vs) a || decide (some D = some a)) = true then none else H' a) = (if ((p.Z a || decide (a = D)) || ownB (L2.wipe σ vs) s2 a || decide ((none : Option Addr) = some a)) = true then none else H' a)
    rw [own]
    by_cases e : a = D
    · subst e; simp
    · rw [decide_eq_false e, decide_eq_false (show ¬ (some D = some a) from fun z => e (Option.some.inj z).symm)]
      simp
  refine ⟨⟨by rw [restS_length, len2]; exact I1.len, fun i d h => ?_, fun i d h => ?_, fun i j d e a h1 h2 h3 h4 => ?_, fun i d a h1 h2 => ?_, fun q hq => ?_, fun i d h => ?_, fun a h => ?_, fun a o h1 h2 => ?_, I.tabs, I1.zs, I1.zio⟩, view, ?_⟩
  · rw [view]
    by_cases hi : i ∈ vs
    · obtain ⟨v, h1, h2⟩ := I1.sh i d (inn hi h)
      exact ⟨v, h1, Dv.ext ex h2⟩
    · obtain ⟨v, h1, h2⟩ := I.sh i d (by rw [← out hi]; exact h)
      rw [wipe_out hi] at h1
      exact ⟨v, h1, h2⟩
  · rw [view]
    obtain ⟨h1, h2⟩ := sl h
    obtain ⟨a, h3, h4, h5, h6⟩ := I.own i d h2
    rw [wipe_out h1] at h3
    have h5 : (p.Z a || decide (a = D)) = false := h5
    rw [Bool.or_eq_false_iff] at h5
    exact ⟨a, h3, h4, h5.1, fun z => of_decide_eq_false h5.2 (Option.some.inj z).symm⟩
  · obtain ⟨n1, g1⟩ := sl h1
    obtain ⟨n2, g2⟩ := sl h2
    exact I.inj i j d e a g1 g2 (by rw [wipe_out n1]; exact h3) (by rw [wipe_out n2]; exact h4)
  · obtain ⟨n1, g1⟩ := sl (.inl h1)
    have g1 : s2[i]? = some (some (SV.ow d)) := by rw [← out n1]; exact h1
    have z : upd p.H0 D (.lst xs) a = none := I.new i d a g1 (by rw [wipe_out n1]; exact h2)
    have ne : a ≠ D := fun e => by rw [e, upd_same] at z; cases z
    rw [upd_ne ne] at z
    exact z
  · obtain ⟨d, h1, h2⟩ := I.lent q hq
    obtain ⟨n1, g1⟩ := sl' (.inr h1)
    exact ⟨d, by rw [out n1]; exact h1, (wipe_some h2).1⟩
  · obtain ⟨n1, g1⟩ := sl (.inr h)
    exact I.lent2 i d (by rw [← out n1]; exact h)
  · cases h
    exact ⟨d0, dZ, _, atD⟩
  · have h1 : p.H0 a = some o := h1
    have ne : a ≠ D := fun e => by rw [e, d0] at h1; cases h1
    exact I.frame a o (show upd p.H0 D _ a = _ by rw [upd_ne ne]; exact h1) h2
  · have e2 : Ext (hid (bs X (pD p D xs)) (L2.wipe σ vs) s2 none H') (hid (bs X p) σ (restS s1 s2 vs) none H') := by
      rw [← view]
      exact hid_x
    exact ex.trans e2
/-- behind a loop the names of the block are forgotten -/
theorem compLoop_wiped {tgt : AL.D → S → Option S} {tst : S → Res Bool} {f : S → Res R} {vs : List Nat} : ∀ {ds acc : List AL.D} {s s2 : S} {ys : List AL.D}, (∀ i ∈ vs, ∀ x, s[i]? ≠ some (some x)) → compLoop tgt tst f vs ds acc s = .ok ys s2 → ∀ i ∈ vs, ∀ x, s2[i]? ≠ some (some x)
  | [], acc, s, s2, ys, h0, h => by cases h; exact h0
  | d :: ds, acc, s, s2, ys, h0, h => by
    have wz : ∀ s' : S, ∀ i ∈ vs, ∀ x, (wipeS s' vs)[i]? ≠ some (some x) := fun s' i hi x z => (wipeS_some z).2 hi
    unfold compLoop at h
    split at h
    · cases h
    · rename_i s1 e1
      cases e2 : tst s1 with
      | bad => rw [e2] at h; cases h
      | exc c s' => rw [e2] at h; cases h
      | ok b s2' =>
        rw [e2, bind_ok] at h
        split at h
        · cases e3 : f s2' with
          | bad => rw [e3] at h; cases h
          | exc c s' => rw [e3] at h; cases h
          | ok r s3 =>
            rw [e3, bind_ok] at h
            cases e4 : esc r s3 with
            | bad => rw [e4] at h; cases h
            | exc c s' => rw [e4] at h; cases h
            | ok y s4 =>
              rw [e4, bind_ok] at h
              split at h
              · exact compLoop_wiped (wz s4) h
              · cases h
        · split at h
          · exact compLoop_wiped (wz s2') h
          · cases h
/-- the loop's ways, from an item gone through -/
theorem comp_walk {σ : List (Option V)} {vs sl : List Nat} {tgt : AL.D → S → Option S} {tst : S → Res Bool} {f : S → Res R} {ds : List AL.D} {J : It} {Vw H2 : Hp} {D : Addr} {Qd : Hp → Prop} {sw : S} (hio : ∀ q ∈ p.io, q.2 ≠ D) (hsl : ∀ i ∈ sl, i ∈ vs) (itd : ItD X.K X.mg Vw ds J)
    (I0 : Rel (bs X (pD p D [])) (wipe σ vs) sw none H2) (ex0 : Ext Vw (hid (bs X (pD p D [])) (wipe σ vs) sw none H2)) (rc : RC X p (wipe σ vs) Vw D Qd (compLoop tgt tst f vs ds [] sw)) :
    ∃ Wm : Nat → Nat → Hp → Prop, (∃ m, Wm 0 m H2) ∧ ∀ i m H, Wm i m H →
      (J.stop i H ∧ Qd H) ∨ (J.go i H ∧ ∃ Nx : Hp → Prop, (∀ H', Nx H' → ∃ m', m' < m ∧ Wm (i + 1) m' H') ∧ ∀ x H', J.yld i H x H' → tgT X tgt sl x (wipe σ vs) H' fun σ2 H2 => wipe σ2 vs = wipe σ vs ∧ (∃ q : QT p, tG (bs X q.1) W0 (relE (bs X q.1)) tst σ2 H2 fun b H3 =>
        if b = true then ∃ q : QT p, tG (bs X q.1) W0 (relH (bs X q.1)) f σ2 H3 fun y H4 => ∃ acc, H4 D = some (.lst acc) ∧ acc.length < sizeLine ∧ Nx (upd H4 D (.lst (acc ++ [y]))) else Nx H3)) := by
  have wi2 : wipe (wipe σ vs) vs = wipe σ vs := by
    have key : ∀ (us : List Nat) (τ : List (Option V)), (∀ i ∈ us, ∀ v, τ[i]? ≠ some (some v)) → wipe τ us = τ := fun us => by
      induction us with
      | nil => intro τ _; rfl
      | cons u us ih =>
        intro τ h
        show (wipe τ us).set u none = τ
        rw [ih τ fun i hi => h i (List.mem_cons_of_mem _ hi)]
        apply List.ext_getElem?
        intro j
        by_cases e : u = j
        · subst e
          by_cases hu : u < τ.length
          · rw [List.getElem?_set_self hu]
            cases q : τ[u]? with
            | none => rw [List.getElem?_eq_none_iff] at q; omega
            | some c =>
              cases c with
              | none => rfl
              | some v => exact absurd q (h u List.mem_cons_self v)
          · rw [List.getElem?_eq_none (by simpa using hu), List.getElem?_eq_none (by omega)]
        · rw [List.getElem?_set_ne e]
    exact key vs _ fun i hi v z => (wipe_some z).2 hi
  let Pv : Nat → Hp → Prop := fun i H => ∃ acc xs s, Rel (bs X (pD p D xs)) (wipe σ vs) s none H ∧ Ext Vw (hid (bs X (pD p D xs)) (wipe σ vs) s none H) ∧ DvL X.K X.mg (hid (bs X (pD p D xs)) (wipe σ vs) s none H) xs acc ∧ RC X p (wipe σ vs) Vw D Qd (compLoop tgt tst f vs (ds.drop i) acc s)
  refine ⟨fun i m H => m = ds.length - i ∧ i ≤ ds.length ∧ Pv i H, ⟨ds.length, by simp, Nat.zero_le _, [], [], sw, I0, ex0, .nil, rc⟩, ?_⟩
  rintro i m H ⟨rfl, hi, acc, xs, s, I, ex, dl, rc⟩
  have hD := I.atD hio
  obtain ⟨go, stop, yld⟩ := itd H _ ex fun a o h => hid_sub _ _ h
  by_cases hlt : i < ds.length
  · refine .inr ⟨go i hlt, Pv (i + 1), fun H' pv => ⟨ds.length - (i + 1), by omega, rfl, hlt, pv⟩, fun x H' y => ?_⟩
    obtain ⟨d, hd, yy⟩ := yld i x H' hlt y
    have hdrop : ds.drop i = d :: ds.drop (i + 1) := by
      obtain ⟨h1, h2⟩ := List.getElem?_eq_some_iff.mp hd
      rw [List.drop_eq_getElem_cons h1, h2]
    rw [hdrop] at rc
    unfold compLoop at rc
    -- the item as data in the heap H'
    obtain ⟨IH, exH, dH⟩ : Rel (bs X (pD p D xs)) (wipe σ vs) s none H' ∧ Ext (hid (bs X (pD p D xs)) (wipe σ vs) s none H) (hid (bs X (pD p D xs)) (wipe σ vs) s none H') ∧ Dv X.K X.mg (hid (bs X (pD p D xs)) (wipe σ vs) s none H') x d := by
      rcases yy with ⟨e1, e2⟩ | ⟨T, ts, es, e1, e2, e3, e4, e5⟩
      · subst e1; exact ⟨I, Ext.refl _, e2⟩
      · subst e2 e3 e4
        obtain ⟨I', x1, _⟩ := I.fresh1 (o := .tup ts) e1
        exact ⟨I', x1, Dv.tup (hid_of upd_same (I.noZ e1) (I.unowned e1) (by simp)) (e5.ext x1)⟩
    cases e1 : tgt d s with
    | none => rw [e1] at rc; exact rc.elim
    | some s1 =>
      rw [e1] at rc
      dsimp only at rc
      refine ⟨pD p D xs, d, s, s1, IH, dH, e1, fun σ2 I2 x2 w2 => ?_⟩
      have ww : wipe σ2 vs = wipe σ vs := (w2 vs hsl).trans wi2
      refine ⟨ww, ⟨pD p D xs, rfl⟩, s1, I2, ?_⟩
      cases e2 : tst s1 with
      | bad => rw [e2] at rc; exact rc.elim
      | exc c s' => rw [e2] at rc; exact rc.elim
      | ok b s2 =>
        rw [e2, bind_ok] at rc
        intro b' H3 hb l3
        obtain ⟨I3, eb⟩ := hb
        subst eb
        cases b' with
        | false =>
          rw [if_neg Bool.false_ne_true] at rc
          split at rc
          · rename_i ok
            refine iteF ⟨acc, xs, wipeS s2 vs, ?_, ?_, ?_, rc⟩
            · rw [← ww]; exact I3.wipe ok
            · rw [← ww, view_wipe ok]; exact ((ex.trans exH).trans x2).trans l3
            · rw [← ww, view_wipe ok]; exact dl.ext ((exH.trans x2).trans l3)
          · exact rc.elim
        | true =>
          rw [if_pos rfl] at rc
          refine iteT ⟨⟨pD p D xs, rfl⟩, s2, I3, ?_⟩
          cases e3 : f s2 with
          | bad => rw [e3] at rc; exact rc.elim
          | exc c s' => rw [e3] at rc; exact rc.elim
          | ok r s3 =>
            rw [e3, bind_ok] at rc
            intro y H4 hy l4
            obtain ⟨I4, hr⟩ := hy
            cases e4 : esc r s3 with
            | bad => rw [e4] at rc; exact rc.elim
            | exc c s' => rw [e4] at rc; exact rc.elim
            | ok yd s4 =>
              rw [e4, bind_ok] at rc
              obtain ⟨I5, l5, dy⟩ := esc_ok I4 hr e4
              split at rc
              · rename_i ok
                have hD4 := I5.atD hio
                have exs : Ext (hid (bs X (pD p D xs)) (wipe σ vs) s none H) (hid (bs X (pD p D xs)) σ2 s4 none H4) := (((exH.trans x2).trans l3).trans l4).trans l5
                have dl4 := (dl.ext exs).append (.one dy)
                refine ⟨xs, hD4, by rw [dl.length]; exact ok.2, acc ++ [yd], xs ++ [y], wipeS s4 vs, ?_, ?_, ?_, rc⟩
                · rw [← ww]; exact (I5.wrD hD4).wipe ok.1
                · rw [← ww, view_wipe ok.1, view_wrD hD4]; exact ex.trans exs
                · rw [← ww, view_wipe ok.1, view_wrD hD4]; exact dl4
              · exact rc.elim
  · have e : i = ds.length := by omega
    subst e
    rw [List.drop_length] at rc
    exact .inl ⟨stop, rc H xs I ex hD dl⟩
/-- the reading of a one-clause comprehension -/
theorem lc_ok {own : List Nat} {it : S → Res (List AL.D)} {tgt : AL.D → S → Option S} {tst : S → Res Bool} {f : S → Res R} {sl : List Nat} (hsl : ∀ i ∈ sl, i ∈ own) {σ : List (Option V)} {H : Hp} {Q : VK}
    (h : tG (bs X p) W (relR (bs X p)) (compD it tgt tst f own) σ H Q) :
    tLc (tG (bs X p) W (relI (bs X p)) it) (tgT X tgt sl) (fun σ H Q => ∃ q : QT p, tG (bs X q.1) W0 (relE (bs X q.1)) tst σ H Q) (fun σ H Q => ∃ q : QT p, tG (bs X q.1) W0 (relH (bs X q.1)) f σ H Q) own σ H Q := by
  obtain ⟨s, I, q⟩ := h
  refine ⟨s, I, tR_mono (tR_bind (rel := relI (bs X p)) q) fun J H1 ⟨ds, s1, ⟨I1, itd⟩, l, q1⟩ D hD => ?_⟩
  dsimp only at q1
  split at q1
  · rename_i okw
    have hio : ∀ q ∈ p.io, q.2 ≠ D := I1.notio hD
    have w0 : ∀ i ∈ own, ∀ x, (wipeS s1 own)[i]? ≠ some (some x) := fun i hi x z => (wipeS_some z).2 hi
    have rc : RC X p (wipe σ own) (hid (bs X p) σ s1 none H1) D (Q (.ref D)) (compLoop tgt tst f own ds [] (wipeS s1 own)) := by
      cases e : compLoop tgt tst f own ds [] (wipeS s1 own) with
      | bad => rw [e] at q1; exact q1.elim
      | exc c s' => rw [e] at q1; exact q1.elim
      | ok ys s2 =>
        rw [e] at q1
        intro H' xs I' ex' atD dl
        obtain ⟨I2, v2, l2⟩ := I1.endD hD okw I' ex' atD (compLoop_wiped w0 e)
        exact tR_ok q1 ⟨D, rfl, I2, xs, atD, by rw [v2]; exact dl⟩ (by show Ext _ (hid _ _ _ (some D) _); rw [v2]; exact ex')
    have I2 : Rel (bs X (pD p D [])) (wipe σ own) (wipeS s1 own) none (upd H1 D (.lst [])) := (I1.layD hD).wipe okw
    exact comp_walk hio hsl itd I2 (by rw [view_wipe okw, view_D hD]; exact Ext.refl _) rc
  · exact q1.elim
theorem de_comp {scope : Scope} {own : List (Str × Nat)} {it : S → Res (List AL.D)} {tgt : AL.D → S → Option S} {tst : S → Res Bool} {f : S → Res R} {sl : List Nat} (hc : X.calm = true) (hN : X.N.Nodup) (ok : BlkOk X.N X.env.scope scope own) (hi : DI X p W tg iter it)
    (hg : ∀ (s : Shared) (H : Hp) (C : Addr) (cl : List (Str × Addr)) (fp : List Addr), DG (X.blk s H scope (compEnvC scope cl C X.env) fp) tg tgt sl) (hsl : ∀ i ∈ sl, i ∈ own.map (·.2))
    (ht : ∀ (s : Shared) (H : Hp) (C : Addr) (cl : List (Str × Addr)) (fp : List Addr) (q : QT p), DTs (X.blk s H scope (compEnvC scope cl C X.env) fp) q.1 W0 ifs tst)
    (he : ∀ (s : Shared) (H : Hp) (C : Addr) (cl : List (Str × Addr)) (fp : List Addr) (q : QT p), DH (X.blk s H scope (compEnvC scope cl C X.env) fp) q.1 W0 elt f) (hs : ∀ x, foldedSetIterable iter X.env x = pure x) :
    DE X p W (.ListComp elt [⟨tg, iter, ifs, 0⟩] scope pos) (compD it tgt tst f (own.map (·.2))) :=
  PE.imp (pe_lc (g := tgT X tgt sl) hc hN hi ok hg (fun s H C cl fp => pts_ex (t := fun q : QT p => tG (bs X q.1) W0 (relE (bs X q.1)) tst) fun q => ht s H C cl fp q) (fun s H C cl fp => pe_ex (t := fun q : QT p => tG (bs X q.1) W0 (relH (bs X q.1)) f) fun q => he s H C cl fp q) hs) fun _ _ _ h => lc_ok hsl h
end
end AL


set_option Elab.async false
set_option linter.all false
set_option maxRecDepth 100000
set_option maxHeartbeats 1000000
/-! AL10: statements by data. -/
namespace AL
open PySem PySem.Spec PyProof.Rows L2
inductive Fl where
  | nx
  | bk
  | ct
  | rt (r : R)
def tRS (B : Bas) (W : WX) (V0 : Hp) (m : Res Fl) (D : Ends) : Prop := match m with
  | .ok .nx s' => ∀ σ' H', Rel B σ' s' none H' → Ext V0 (hid B σ' s' none H') → D.nx σ' H'
  | .ok .bk s' => ∀ σ' H', Rel B σ' s' none H' → Ext V0 (hid B σ' s' none H') → D.bk σ' H'
  | .ok .ct s' => ∀ σ' H', Rel B σ' s' none H' → Ext V0 (hid B σ' s' none H') → D.ct σ' H'
  | .ok (.rt r) s' => ∀ σ' v H', relR B σ' s' H' r v → Ext V0 (hid B σ' s' (xR r v) H') → D.rt v H'
  | .exc c s' => ∀ σ' H', Rel B σ' s' none H' → Ext V0 (hid B σ' s' none H') → ∀ C, B.mg c = some (.ref C) → W (.ref C) none σ' H'
  | .bad => False
def tS (B : Bas) (W : WX) (f : S → Res Fl) : TS := fun D σ H => ∃ s, Rel B σ s none H ∧ tRS B W (hid B σ s none H) (f s) D
theorem tRS_ext {B : Bas} {W : WX} {V0 V1 : Hp} {m : Res Fl} {D : Ends} (e : Ext V0 V1) (h : tRS B W V0 m D) : tRS B W V1 m D := by
  cases m with
  | ok f s' =>
    cases f with
    | nx => exact fun σ' H' I x => h σ' H' I (e.trans x)
    | bk => exact fun σ' H' I x => h σ' H' I (e.trans x)
    | ct => exact fun σ' H' I x => h σ' H' I (e.trans x)
    | rt r => exact fun σ' v H' I x => h σ' v H' I (e.trans x)
  | exc c s' => exact fun σ' H' I x => h σ' H' I (e.trans x)
  | bad => exact h
def seqD (f g : S → Res Fl) (s : S) : Res Fl := match f s with
  | .ok .nx s1 => g s1
  | r => r
section
variable {X : Cx} {p : P0} {W : WX} {e tg : Expr} {st : Stmt} {rest body orelse : List Stmt} {es : List Expr} {pos pos' pos2 : Pos} {f g : S → Res Fl}
abbrev DS (X : Cx) (p : P0) (W : WX) (st : Stmt) (f : S → Res Fl) : Prop := PS X st (tS (bs X p) W f)
abbrev DSs (X : Cx) (p : P0) (W : WX) (st : List Stmt) (f : S → Res Fl) : Prop := PSs X st (tS (bs X p) W f)
theorem dss_nil : DSs X p W [] (fun s => .ok .nx s) := PSs.imp pss_nil fun D σ H ⟨s, I, q⟩ => q σ H I (Ext.refl _)
theorem dss_cons (h1 : DS X p W st f) (h2 : DSs X p W rest g) : DSs X p W (st :: rest) (seqD f g) := by
  refine PSs.imp (pss_cons h1 h2) fun D σ H ⟨s, I, q⟩ => ⟨s, I, ?_⟩
  unfold seqD at q
  cases e : f s with
  | bad => rw [e] at q; exact q
  | exc c s1 => rw [e] at q; exact q
  | ok a s1 =>
    rw [e] at q
    cases a with
    | nx => exact fun σ' H' I' x => ⟨s1, I', tRS_ext x q⟩
    | bk => exact q
    | ct => exact q
    | rt r => exact q
theorem ds_pass : DS X p W (.Pass pos) (fun s => .ok .nx s) := PS.imp ps_pass fun D σ H ⟨s, I, q⟩ => q σ H I (Ext.refl _)
theorem ds_break : DS X p W (.Break pos) (fun s => .ok .bk s) := PS.imp ps_break fun D σ H ⟨s, I, q⟩ => q σ H I (Ext.refl _)
theorem ds_continue : DS X p W (.Continue pos) (fun s => .ok .ct s) := PS.imp ps_continue fun D σ H ⟨s, I, q⟩ => q σ H I (Ext.refl _)
/-- an expression's result within a statement -/
theorem tS_bind {τ β : Type} {rel : RT τ β} {m : S → Res τ} {k : τ → S → Res Fl} {D : Ends} {σ : List (Option V)} {H : Hp} (h : tS (bs X p) W (fun s => (m s).bind k) D σ H) :
    tG (bs X p) W rel m σ H fun v H1 => ∃ a s1, rel σ s1 H1 a v ∧ ∃ V0, Ext V0 (hid (bs X p) σ s1 (rel.x a v) H1) ∧ tRS (bs X p) W V0 (k a s1) D := by
  obtain ⟨s, I, q⟩ := h
  have q : tRS (bs X p) W (hid (bs X p) σ s none H) ((m s).bind k) D := q
  refine ⟨s, I, ?_⟩
  cases e : m s with
  | bad => rw [e] at q; exact q
  | exc c s1 =>
    rw [e] at q
    exact fun H' I' l => q σ H' I' l
  | ok a s1 =>
    rw [e] at q
    exact fun v H' r l => ⟨a, s1, r, _, l, q⟩
theorem ds_expr {m : S → Res R} (he : DE X p W e m) (hs : swapsWith e none pos.line X.env = pure false) : DS X p W (.Expr e pos) (fun s => (m s).bind fun r s1 => match r with | .fr d => if isObjD d = true then .bad else .ok .nx s1 | _ => .ok .nx s1) := by
  refine PS.imp (ps_expr he hs) fun D σ H h => tG_mono (tS_bind (rel := relR (bs X p)) h) fun v H1 ⟨r, s1, hr, V0, ex, q⟩ => ?_
  cases r with
  | sh d => exact q σ H1 hr.1 ex
  | ob i => exact q σ H1 hr.1 ex
  | fr d =>
    obtain ⟨a, rfl, I1, c⟩ := hr
    dsimp only at q
    split at q
    · exact q.elim
    · exact q σ H1 I1.dropX (Ext.trans ex hid_x)
theorem ds_ret {m : S → Res R} (he : DE X p W e m) : DS X p W (.Return (some e) pos) (fun s => (m s).bind fun r s1 => .ok (.rt r) s1) := by
  refine PS.imp (ps_ret he) fun D σ H h => tG_mono (tS_bind (rel := relR (bs X p)) h) fun v H1 ⟨r, s1, hr, V0, ex, q⟩ => q σ v H1 hr ex
theorem ds_retN : DS X p W (.Return none pos) (fun s => .ok (.rt (.sh .non)) s) := PS.imp ps_retN fun D σ H ⟨s, I, q⟩ => q σ .non H ⟨I, Dv.non⟩ (Ext.refl _)
theorem ds_if {c : Expr} {t : S → Res Bool} (hc : DT X p W c t) (ha : DSs X p W body f) (hb : DSs X p W orelse g) : DS X p W (.If c body orelse pos) (fun s => (t s).bind fun b s1 => if b = true then f s1 else g s1) := by
  refine PS.imp (ps_if hc ha hb) fun D σ H h => tG_mono (tS_bind (rel := relE (bs X p)) h) fun b H1 ⟨b', s1, ⟨I1, eb⟩, V0, ex, q⟩ => ?_
  subst eb
  cases b with
  | true => exact iteT ⟨s1, I1, tRS_ext ex q⟩
  | false => exact iteF ⟨s1, I1, tRS_ext ex q⟩

/-! ### names stored -/
/-- a new object gets a name -/
theorem Rel.setOw {B : Bas} {σ : List (Option V)} {s : S} {H : Hp} {i : Nat} {d : AL.D} {a : Addr} (I : Rel B σ s (some a) H) (c : OwnC B.K B.mg H (hid B σ s (some a) H) a d) (hio : ∀ e, s[i]? ≠ some (some (SV.io e))) (hi : i < s.length) :
    Rel B (σ.set i (some (V.ref a))) (s.set i (some (.ow d))) none H ∧ Ext (hid B σ s (some a) H) (hid B (σ.set i (some (V.ref a))) (s.set i (some (.ow d))) none H) := by
  have hiσ : i < σ.length := by rw [← I.len]; exact hi
  obtain ⟨x0, xz, o, xo⟩ := I.xs a rfl
  have sl : ∀ {j : Nat} {e : AL.D}, Slot1 (s.set i (some (.ow d))) j e → (j = i ∧ e = d) ∨ (j ≠ i ∧ Slot1 s j e) := fun {j e} h => by
    rcases slotS h with ⟨ej, q, _⟩ | ⟨ne, h⟩
    · rcases q with q | q
      · cases q; exact .inl ⟨ej, rfl⟩
      · cases q
    · exact .inr ⟨ne, h⟩
  have σne : ∀ {j : Nat}, j ≠ i → (σ.set i (some (V.ref a)))[j]? = σ[j]? := fun {j} h => List.getElem?_set_ne (fun z => h z.symm)
  have σi : (σ.set i (some (V.ref a)))[i]? = some (some (V.ref a)) := List.getElem?_set_self hiσ
  have old : ∀ {j : Nat} {e : AL.D} {b : Addr}, Slot1 s j e → σ[j]? = some (some (V.ref b)) → b ≠ a := fun {j e b} h1 h2 z => by
    subst z; exact (I.ownH h1 h2).2.2 rfl
  have own' : ∀ b, ownB (σ.set i (some (V.ref a))) (s.set i (some (.ow d))) b = true → ownB σ s b = true ∨ b = a := fun b h => by
    obtain ⟨j, e, h1, h2⟩ := ownB_iff.mp h
    rcases sl h2 with ⟨rfl, _⟩ | ⟨ne, h3⟩
    · rw [σi] at h1; cases h1; exact .inr rfl
    · rw [σne ne] at h1
      exact .inl (ownB_iff.mpr ⟨j, e, h1, h3⟩)
  have ex : Ext (hid B σ s (some a) H) (hid B (σ.set i (some (V.ref a))) (s.set i (some (.ow d))) none H) := Ext.of fun b u h => by
    obtain ⟨h1, h2, h3, h4⟩ := hid_some h
    refine hid_of h1 h2 ?_ (by simp)
    cases q : ownB (σ.set i (some (V.ref a))) (s.set i (some (.ow d))) b with
    | false => rfl
    | true =>
      rcases own' b q with z | z
      · rw [z] at h3; cases h3
      · subst z; exact absurd rfl h4
  refine ⟨⟨by simp [I.len], fun j e h => ?_, fun j e h => ?_, fun j k e f b h1 h2 h3 h4 => ?_, fun j e b h1 h2 => ?_, fun q hq => ?_, fun j e h => ?_, fun b q => (by cases q), I.frame, I.tabs, I.zs, I.zio⟩, ex⟩
  · rcases setS h with ⟨_, q, _⟩ | ⟨ne, h3⟩
    · cases q
    · obtain ⟨w, h4, h5⟩ := I.sh j e h3
      exact ⟨w, by rw [σne ne]; exact h4, Dv.ext ex h5⟩
  · rcases sl h with ⟨rfl, rfl⟩ | ⟨ne, h3⟩
    · exact ⟨a, σi, c.mono rfl ex, xz, by simp⟩
    · obtain ⟨b, h4, h5, h6, h7⟩ := I.own j e h3
      exact ⟨b, by rw [σne ne]; exact h4, h5.mono rfl ex, h6, by simp⟩
  · rcases sl h1 with ⟨rfl, _⟩ | ⟨n1, g1⟩
    · rw [σi] at h3; cases h3
      rcases sl h2 with ⟨rfl, _⟩ | ⟨n2, g2⟩
      · rfl
      · rw [σne n2] at h4
        exact absurd rfl (old g2 h4)
    · rw [σne n1] at h3
      rcases sl h2 with ⟨rfl, _⟩ | ⟨n2, g2⟩
      · rw [σi] at h4; cases h4
        exact absurd rfl (old g1 h3)
      · rw [σne n2] at h4
        exact I.inj j k e f b g1 g2 h3 h4
  · rcases setS h1 with ⟨rfl, q, _⟩ | ⟨ne, h3⟩
    · rw [σi] at h2; cases h2; exact x0
    · rw [σne ne] at h2
      exact I.new j e b h3 h2
  · obtain ⟨e, h1, h2⟩ := I.lent q hq
    have ne : q.1 ≠ i := fun z => hio e (by rw [← z]; exact h1)
    exact ⟨e, by rw [List.getElem?_set_ne (fun z => ne z.symm)]; exact h1, by rw [σne ne]; exact h2⟩
  · rcases setS h with ⟨_, q, _⟩ | ⟨_, h3⟩
    · cases q
    · exact I.lent2 j e h3
/-- name = value -/
def setR (i : Nat) (r : R) (s : S) : Res Fl := match r with
  | .fr d => (match s[i]? with
    | some (some (.io _)) => .bad
    | some _ => .ok .nx (s.set i (some (.ow d)))
    | none => .bad)
  | r => (esc r s).bind fun d s1 => match setV i d s1 with
    | some s2 => .ok .nx s2
    | none => .bad
theorem setV_ok {B : Bas} {σ : List (Option V)} {s s2 : S} {H : Hp} {i : Nat} {d : AL.D} {v : V} (I : Rel B σ s none H) (dv : Dv B.K B.mg (hid B σ s none H) v d) (h : setV i d s = some s2) :
    Rel B (σ.set i (some v)) s2 none H ∧ Ext (hid B σ s none H) (hid B (σ.set i (some v)) s2 none H) := by
  unfold setV at h
  split at h
  · cases h
  · rename_i c ne hc
    cases h
    exact I.setSh dv (fun e z => by rw [hc] at z; exact ne e (Option.some.inj z)) (List.getElem?_eq_some_iff.mp hc).1
  · cases h
theorem setR_ok {σ : List (Option V)} {s : S} {H V0 : Hp} {i : Nat} {r : R} {v : V} {D : Ends} (hr : relR (bs X p) σ s H r v) (ex : Ext V0 (hid (bs X p) σ s (xR r v) H)) (q : tRS (bs X p) W V0 (setR i r s) D) : D.nx (σ.set i (some v)) H := by
  have shc : ∀ {r : R}, relH (bs X p) σ s H r v → Ext V0 (hid (bs X p) σ s none H) → tRS (bs X p) W V0 ((esc r s).bind fun d s1 => match setV i d s1 with | some s2 => .ok .nx s2 | none => .bad) D → D.nx (σ.set i (some v)) H := fun {r} hr ex q => by
    cases e : esc r s with
    | bad => rw [e] at q; exact q.elim
    | exc c s1 => exact absurd e esc_nexc
    | ok d s1 =>
      rw [e, bind_ok] at q
      obtain ⟨I1, l1, dv⟩ := esc_ok hr.1 hr.2 e
      cases e2 : setV i d s1 with
      | none => rw [e2] at q; exact q.elim
      | some s2 =>
        rw [e2] at q
        obtain ⟨I2, x2⟩ := setV_ok I1 dv e2
        exact q _ _ I2 ((ex.trans l1).trans x2)
  cases r with
  | sh d => exact shc (r := .sh d) hr ex q
  | ob j => exact shc (r := .ob j) hr ex q
  | fr d =>
    obtain ⟨a, rfl, I1, c⟩ := hr
    unfold setR at q
    dsimp only at q
    split at q
    · exact q.elim
    · rename_i c0 ne hc
      obtain ⟨I2, x2⟩ := I1.setOw (i := i) c (fun e z => by rw [hc] at z; exact ne e (Option.some.inj z)) (List.getElem?_eq_some_iff.mp hc).1
      exact q _ _ I2 (Ext.trans ex x2)
    · exact q.elim
end
end AL


set_option Elab.async false
set_option linter.all false
set_option maxRecDepth 100000
set_option maxHeartbeats 1000000
/-! AL11: stores, loops, raise by data. -/
namespace AL
open PySem PySem.Spec PyProof.Rows L2
section
variable {X : Cx} {p : P0} {W : WX} {e tg a b iter : Expr} {st : Stmt} {rest body orelse : List Stmt} {es : List Expr} {pos pos' pos2 : Pos} {f g : S → Res Fl}
theorem swaps_false {e : Expr} {t : Option Expr} {l : Nat} {env : Env} (h : (match e with | .ListComp _ _ _ _ => false | .SetComp _ _ _ _ => false | .DictComp _ _ _ _ _ => false | _ => true) = true) : swapsWith e t l env = pure false := by
  unfold swapsWith
  cases e <;> first | rfl | cases h
theorem ds_set {i : Nat} {x : Str} {m : S → Res R} (hN : X.N.Nodup) (hi : X.N[i]? = some x) (hx : Loc X.env.scope x) (he : DE X p W e m) (hs : swapsWith e (some (.Name x pos')) pos.line X.env = pure false) (hf : X.fn x = true ∨ X.env.scope.names.lookup x = some .local) :
    DS X p W (.Assign [.Name x pos'] e pos) (fun s => (m s).bind fun r s1 => setR i r s1) :=
  PS.imp (ps_set hN hi hx he hs hf) fun D σ H h => tG_mono (tS_bind (rel := relR (bs X p)) h) fun v H1 ⟨r, s1, hr, V0, ex, q⟩ => setR_ok hr ex q
theorem ds_setLc {i : Nat} {y : Str} {elt : Expr} {ifs : List Expr} {scope : Scope} {own : List (Str × Nat)} {it : S → Res (List AL.D)} {tgt : AL.D → S → Option S} {tst : S → Res Bool} {f : S → Res R} {sl : List Nat} (hc : X.calm = true) (hN : X.N.Nodup) (hy : X.N[i]? = some y)
    (hyl : X.env.scope.names.lookup y = some .local) (hsw : swapsWith (.ListComp elt [⟨tg, iter, ifs, 0⟩] scope pos) (some (.Name y pos')) pos2.line X.env = pure true) (ok : BlkOk X.N X.env.scope scope own) (hi : DI X p W tg iter it)
    (hg : ∀ (s : Shared) (H : Hp) (C : Addr) (cl : List (Str × Addr)) (fp : List Addr), DG (X.blk s H scope (compEnvC scope cl C X.env) fp) tg tgt sl) (hsl : ∀ i ∈ sl, i ∈ own.map (·.2))
    (ht : ∀ (s : Shared) (H : Hp) (C : Addr) (cl : List (Str × Addr)) (fp : List Addr) (q : QT p), DTs (X.blk s H scope (compEnvC scope cl C X.env) fp) q.1 W0 ifs tst)
    (he : ∀ (s : Shared) (H : Hp) (C : Addr) (cl : List (Str × Addr)) (fp : List Addr) (q : QT p), DH (X.blk s H scope (compEnvC scope cl C X.env) fp) q.1 W0 elt f) (hs : ∀ x, foldedSetIterable iter X.env x = pure x) :
    DS X p W (.Assign [.Name y pos'] (.ListComp elt [⟨tg, iter, ifs, 0⟩] scope pos) pos2) (fun s => (compD it tgt tst f (own.map (·.2)) s).bind fun r s1 => setR i r s1) :=
  PS.imp (ps_setLc (g := tgT X tgt sl) hc hN hy hyl hsw hi ok hg (fun s H C cl fp => pts_ex (t := fun q : QT p => tG (bs X q.1) W0 (relE (bs X q.1)) tst) fun q => ht s H C cl fp q) (fun s H C cl fp => pe_ex (t := fun q : QT p => tG (bs X q.1) W0 (relH (bs X q.1)) f) fun q => he s H C cl fp q) hs)
    fun D σ H h => lc_ok hsl (tG_mono (tS_bind (rel := relR (bs X p)) h) fun v H1 ⟨r, s1, hr, V0, ex, q⟩ => setR_ok hr ex q)
/-- a target tuple -/
theorem ds_asg {m : S → Res R} {tf : AL.D → S → Option S} {sl : List Nat} (he : DH X p W e m) (hg : DG X tg tf sl) (hs : swapsWithSole [tg] e pos.line X.env = pure false) (hw : swappedStores [tg] e X.env = pure none) (h1 : (assignEach [tg] X.env).map (·.2) = [assign tg X.env]) :
    DS X p W (.Assign [tg] e pos) (fun s => (m s).bind fun r s1 => (esc r s1).bind fun d s2 => match tf d s2 with | some s3 => .ok .nx s3 | none => .bad) :=
  PS.imp (ps_asg he hg hs hw h1) fun D σ H h => tG_mono (tS_bind (rel := relH (bs X p)) h) fun v H1 ⟨r, s1, hr, V0, ex, q⟩ => by
    cases e1 : esc r s1 with
    | bad => rw [e1] at q; exact q.elim
    | exc c s2 => exact absurd e1 esc_nexc
    | ok d s2 =>
      rw [e1, bind_ok] at q
      obtain ⟨I1, l1, dv⟩ := esc_ok hr.1 hr.2 e1
      cases e2 : tf d s2 with
      | none => rw [e2] at q; exact q.elim
      | some s3 =>
        rw [e2] at q
        exact ⟨p, d, s2, s3, I1, dv, e2, fun σ' I' x' _ => q σ' H1 I' ((Ext.trans ex l1).trans x')⟩

/-! ### parking a new object -/
def pK (p : P0) (A : Addr) (o : HO) : P0 := { p with H0 := upd p.H0 A o, Z := fun a => p.Z a || decide (a = A) }
section
variable {σ : List (Option V)} {s : S} {H : Hp} {A : Addr} {o : HO} {x : Option Addr}
theorem view_K : hid (bs X (pK p A o)) σ s none H = hid (bs X p) σ s (some A) H := by
  funext a
  show (if ((p.Z a || decide (a = A)) || ownB σ s a || decide ((none : Option Addr) = some a)) = true then none else H a) = (if (p.Z a || ownB σ s a || decide (some A = some a)) = true then none else H a)
  by_cases e : a = A
  · subst e; simp
  · rw [decide_eq_false e, decide_eq_false (show ¬ (some A = some a) from fun z => e (Option.some.inj z).symm)]
    simp
theorem Rel.park (I : Rel (bs X p) σ s (some A) H) (hA : H A = some o) : Rel (bs X (pK p A o)) σ s none H := by
  obtain ⟨a0, aZ, _⟩ := I.xs A rfl
  refine ⟨I.len, fun i d e => ?_, fun i d e => ?_, I.inj, fun i d a h1 h2 => ?_, I.lent, I.lent2, fun b q => (by cases q), fun a u h1 h2 => ?_, I.tabs, fun a h => ?_, fun q hq => ?_⟩
  · rw [view_K]; exact I.sh i d e
  · obtain ⟨a, h3, h4, h5, h6⟩ := I.own i d e
    have ne : a ≠ A := fun z => h6 (by rw [z])
    refine ⟨a, h3, by rw [view_K]; exact h4, ?_, by simp⟩
    show (p.Z a || decide (a = A)) = false
    rw [decide_eq_false ne, Bool.or_false]; exact h5
  · obtain ⟨a', h3, h4, h5, h6⟩ := I.own i d (.inl h1)
    rw [h2] at h3; cases h3
    have ne : a ≠ A := fun z => h6 (by rw [z])
    show upd p.H0 A o a = none
    rw [upd_ne ne]
    exact I.new i d a h1 h2
  · have h1 : upd p.H0 A o a = some u := h1
    by_cases e : a = A
    · subst e; rw [upd_same] at h1; cases h1; exact .inl hA
    · rw [upd_ne e] at h1
      exact I.frame a u h1 h2
  · have h : (p.Z a || decide (a = A)) = true := h
    by_cases e : a = A
    · exact ⟨o, by show upd p.H0 A _ a = _; rw [e, upd_same]⟩
    · rw [decide_eq_false e, Bool.or_false] at h
      obtain ⟨u, z⟩ := I.zs a h
      exact ⟨u, by show upd p.H0 A _ a = _; rw [upd_ne e]; exact z⟩
  · have ne : q.2 ≠ A := fun z => by
      obtain ⟨d, h1, h2⟩ := I.lent q hq
      have := (I.ownH (.inr h1) h2).2.2
      exact this (by rw [z])
    show (p.Z q.2 || decide (q.2 = A)) = false
    rw [decide_eq_false ne, Bool.or_false]; exact I.zio q hq
/-- what is asked of a parked object -/
structure Pk (p : P0) (A : Addr) (o : HO) : Prop where
  h0 : p.H0 A = none
  z : p.Z A = false
  io : ∀ q ∈ p.io, q.2 ≠ A
  nt : ∀ ps, o ≠ .tbl ps
theorem Rel.unpark (k : Pk p A o) (I : Rel (bs X (pK p A o)) σ s none H) : Rel (bs X p) σ s (some A) H ∧ H A = some o := by
  have hA : H A = some o := by
    rcases I.frame A o (show upd p.H0 A o A = _ from upd_same) (fun q hq => k.io q hq) with h | ⟨ps, ps', h, _⟩
    · exact h
    · exact absurd h (k.nt ps)
  have zz : ∀ {a : Addr}, (bs X (pK p A o)).Z a = false → a ≠ A ∧ p.Z a = false := fun {a} h => by
    have h : (p.Z a || decide (a = A)) = false := h
    rw [Bool.or_eq_false_iff] at h
    exact ⟨of_decide_eq_false h.2, h.1⟩
  refine ⟨⟨I.len, fun i d e => ?_, fun i d e => ?_, I.inj, fun i d a h1 h2 => ?_, I.lent, I.lent2, fun b q => ?_, fun a u h1 h2 => ?_, I.tabs, fun a h => ?_, fun q hq => (zz (I.zio q hq)).2⟩, hA⟩
  · rw [← view_K]; exact I.sh i d e
  · obtain ⟨a, h3, h4, h5, h6⟩ := I.own i d e
    obtain ⟨n1, n2⟩ := zz h5
    exact ⟨a, h3, by rw [← view_K]; exact h4, n2, fun z => n1 (Option.some.inj z).symm⟩
  · have z : upd p.H0 A o a = none := I.new i d a h1 h2
    have ne : a ≠ A := fun e => by rw [e, upd_same] at z; cases z
    rw [upd_ne ne] at z; exact z
  · cases q; exact ⟨k.h0, k.z, o, hA⟩
  · have h1 : p.H0 a = some u := h1
    have ne : a ≠ A := fun e => by rw [e, k.h0] at h1; cases h1
    exact I.frame a u (show upd p.H0 A o a = _ by rw [upd_ne ne]; exact h1) h2
  · obtain ⟨u, z⟩ := I.zs a (show (p.Z a || decide (a = A)) = true by have h : p.Z a = true := h; rw [h]; rfl)
    have z : upd p.H0 A o a = some u := z
    have ne : a ≠ A := fun e => by
      have := k.z
      rw [← e] at this
      have h : p.Z a = true := h
      rw [this] at h; cases h
    rw [upd_ne ne] at z
    exact ⟨u, z⟩
theorem Rel.pk (I : Rel (bs X p) σ s (some A) H) (nt : ∀ ps, o ≠ .tbl ps) : Pk p A o := by
  obtain ⟨a0, aZ, _⟩ := I.xs A rfl
  refine ⟨a0, aZ, fun q hq z => ?_, nt⟩
  obtain ⟨d, h1, h2⟩ := I.lent q hq
  have := (I.ownH (.inr h1) h2).2.2
  exact this (by rw [z])
end

/-! ### a, b = x, y -/
def setO (i : Nat) (r : R) (s : S) : Option S := match r with
  | .fr d => (match s[i]? with
    | some (some (.io _)) => none
    | some _ => some (s.set i (some (.ow d)))
    | none => none)
  | r => (match esc r s with
    | .ok d s1 => setV i d s1
    | _ => none)
theorem setO_ok {σ : List (Option V)} {s s2 : S} {H : Hp} {i : Nat} {r : R} {v : V} (hr : relR (bs X p) σ s H r v) (h : setO i r s = some s2) : Rel (bs X p) (σ.set i (some v)) s2 none H ∧ Ext (hid (bs X p) σ s (xR r v) H) (hid (bs X p) (σ.set i (some v)) s2 none H) := by
  have shc : ∀ {r : R}, relH (bs X p) σ s H r v → (match esc r s with | .ok d s1 => setV i d s1 | _ => none) = some s2 → Rel (bs X p) (σ.set i (some v)) s2 none H ∧ Ext (hid (bs X p) σ s none H) (hid (bs X p) (σ.set i (some v)) s2 none H) := fun {r} hr h => by
    cases e : esc r s with
    | bad => rw [e] at h; cases h
    | exc c s1 => rw [e] at h; cases h
    | ok d s1 =>
      rw [e] at h
      obtain ⟨I1, l1, dv⟩ := esc_ok hr.1 hr.2 e
      obtain ⟨I2, x2⟩ := setV_ok I1 dv h
      exact ⟨I2, Ext.trans l1 x2⟩
  cases r with
  | sh d => exact shc (r := .sh d) hr h
  | ob j => exact shc (r := .ob j) hr h
  | fr d =>
    obtain ⟨a, rfl, I1, c⟩ := hr
    unfold setO at h
    dsimp only at h
    split at h
    · cases h
    · rename_i c0 ne hc
      cases h
      exact I1.setOw (i := i) c (fun e z => by rw [hc] at z; exact ne e (Option.some.inj z)) (List.getElem?_eq_some_iff.mp hc).1
    · cases h
def ofO (m : Option S) : Res Fl := match m with
  | some s => .ok .nx s
  | none => .bad
def parD (i j : Nat) (f g : S → Res R) (s : S) : Res Fl := (f s).bind fun r1 s1 => match r1 with
  | .fr d1 => (g s1).bind fun r2 s2 => ofO ((setO j r2 s2).bind fun s3 => setO i (.fr d1) s3)
  | r1 => (esc r1 s1).bind fun d1 s1 => (g s1).bind fun r2 s2 => ofO ((setO j r2 s2).bind fun s3 => setV i d1 s3)
theorem OwnC.wr {K : PySem.W.Frag} {mg : Str → Option Value} {H Hv : Hp} {a : Addr} {d : AL.D} {o : HO} (h : OwnC K mg H Hv a d) (e : H a = some o) : ∀ ps, o ≠ .tbl ps := fun ps z => by
  obtain ⟨u, h1, h2⟩ := h.there
  rw [e] at h1; cases h1
  subst z
  exact h2
theorem ds_par {i j : Nat} {x y : Str} {a b : Expr} {px py pt : Pos} {kt k2 pt2} {f g : S → Res R} (hc : X.calm = true) (hN : X.N.Nodup) (hi : X.N[i]? = some x) (hj : X.N[j]? = some y) (hij : i ≠ j)
    (hx : X.env.scope.names.lookup x = some .local) (hy : X.env.scope.names.lookup y = some .local) (ha : DE X p W a f) (hb : ∀ q : QT p, DE X q.1 W b g) (h1 : starEach [a, b] X.env = (false, eval a X.env) :: starEach [b] X.env) (h2 : starEach [b] X.env = (false, eval b X.env) :: starEach [] X.env)
    (hw : swappedStores [.Tuple [.Name x px, .Name y py] kt pt] (.Tuple [a, b] k2 pt2) X.env = pure (some [x, y])) (hs : swapsWithSole [.Tuple [.Name x px, .Name y py] kt pt] (.Tuple [a, b] k2 pt2) pos.line X.env = pure false) :
    DS X p W (.Assign [.Tuple [.Name x px, .Name y py] kt pt] (.Tuple [a, b] k2 pt2) pos) (parD i j f g) := by
  refine PS.imp (ps_par hc hN hi hj hij hx hy (pa_cons ha (pa_cons (pe_ex (t := fun q : QT p => tG (bs X q.1) W (relR (bs X q.1)) g) hb) pa_nil h2) h1) hw hs) fun D σ H h => ?_
  refine tG_mono (tS_bind (rel := relR (bs X p)) h) fun v H1 ⟨r1, s1, hr, V0, ex, q⟩ => ?_
  have shc : ∀ (r1 : R), relH (bs X p) σ s1 H1 r1 v → Ext V0 (hid (bs X p) σ s1 none H1) → tRS (bs X p) W V0 ((esc r1 s1).bind fun d1 s1 => (g s1).bind fun r2 s2 => ofO ((setO j r2 s2).bind fun s3 => setV i d1 s3)) D →
      ∃ q : QT p, tG (bs X q.1) W (relR (bs X q.1)) g σ H1 fun w H2 => ∃ v' w', [v, w] = [v', w'] ∧ D.nx ((σ.set i (some v')).set j (some w')) H2 := fun r1 hr ex q => by
    cases e1 : esc r1 s1 with
    | bad => rw [e1] at q; exact q.elim
    | exc c s2 => exact absurd e1 esc_nexc
    | ok d s2 =>
      rw [e1, bind_ok] at q
      obtain ⟨I1, l1, dv⟩ := esc_ok hr.1 hr.2 e1
      have dv1 := dv
      refine ⟨⟨p, rfl⟩, s2, I1, ?_⟩
      have q : tRS (bs X p) W V0 ((g s2).bind fun r2 s2 => ofO ((setO j r2 s2).bind fun s3 => setV i d s3)) D := q
      cases e2 : g s2 with
      | bad => rw [e2] at q; exact q.elim
      | exc c s3 => rw [e2] at q; exact fun H' I' l => q σ H' I' ((Ext.trans ex l1).trans l)
      | ok r2 s3 =>
        rw [e2, bind_ok] at q
        intro w H2 hr2 l2
        refine ⟨v, w, rfl, ?_⟩
        rw [List.set_comm _ _ hij]
        cases e3 : setO j r2 s3 with
        | none => rw [e3] at q; exact q.elim
        | some s4 =>
          rw [e3] at q
          obtain ⟨I3, x3⟩ := setO_ok hr2 e3
          cases e4 : setV i d s4 with
          | none => rw [show ((some s4).bind fun s3 => setV i d s3) = none from e4] at q; exact q.elim
          | some s5 =>
            rw [show ((some s4).bind fun s3 => setV i d s3) = some s5 from e4] at q
            obtain ⟨I4, x4⟩ := setV_ok I3 (Dv.ext (Ext.trans l2 x3) dv) e4
            exact q _ _ I4 ((((Ext.trans ex l1).trans l2).trans x3).trans x4)
  cases r1 with
  | sh d => exact shc (.sh d) hr ex q
  | ob k => exact shc (.ob k) hr ex q
  | fr d1 =>
    obtain ⟨A, rfl, I1, c1⟩ := hr
    obtain ⟨o, hA, wo⟩ := c1.there
    have pk : Pk p A o := I1.pk (c1.wr hA)
    have q : tRS (bs X p) W V0 ((g s1).bind fun r2 s2 => ofO ((setO j r2 s2).bind fun s3 => setO i (.fr d1) s3)) D := q
    refine ⟨⟨pK p A o, rfl⟩, s1, I1.park hA, ?_⟩
    cases e2 : g s1 with
    | bad => rw [e2] at q; exact q.elim
    | exc c s3 =>
      rw [e2] at q
      intro H' I' l
      have l : Ext (hid (bs X (pK p A o)) σ s1 none H1) (hid (bs X (pK p A o)) σ s3 none H') := l
      rw [view_K, view_K] at l
      exact q σ H' (I'.unpark pk).1.dropX ((Ext.trans ex l).trans hid_x)
    | ok r2 s3 =>
      rw [e2, bind_ok] at q
      intro w H2 hr2 l2
      rw [view_K] at l2
      refine ⟨.ref A, w, rfl, ?_⟩
      rw [List.set_comm _ _ hij]
      cases e3 : setO j r2 s3 with
      | none => rw [e3] at q; exact q.elim
      | some s4 =>
        rw [e3] at q
        obtain ⟨I3, x3⟩ := setO_ok hr2 e3
        obtain ⟨I4, hA4⟩ := I3.unpark pk
        rw [view_K] at x3
        have c4 := c1.mono (hA4.trans hA.symm) (Ext.trans l2 x3)
        cases e4 : setO i (.fr d1) s4 with
        | none => rw [show ((some s4).bind fun s3 => setO i (.fr d1) s3) = none from e4] at q; exact q.elim
        | some s5 =>
          rw [show ((some s4).bind fun s3 => setO i (.fr d1) s3) = some s5 from e4] at q
          obtain ⟨I5, x5⟩ := setO_ok (r := .fr d1) (v := .ref A) ⟨A, rfl, I4, c4⟩ e4
          exact q _ _ I5 (((Ext.trans ex l2).trans x3).trans x5)

/-! ### for -/
def forLoop (tgt : AL.D → S → Option S) (body : S → Res Fl) : List AL.D → S → Res Fl
  | [], s => .ok .nx s
  | d :: ds, s => match tgt d s with
    | none => .bad
    | some s1 => match body s1 with
      | .ok .nx s2 => forLoop tgt body ds s2
      | .ok .ct s2 => forLoop tgt body ds s2
      | .ok .bk s2 => .ok .nx s2
      | m => m
def forD (it : S → Res (List AL.D)) (tgt : AL.D → S → Option S) (body : S → Res Fl) (s : S) : Res Fl := (it s).bind fun ds s1 => forLoop tgt body ds s1
theorem ds_for {it : S → Res (List AL.D)} {tgt : AL.D → S → Option S} {sl : List Nat} {f : S → Res Fl} (hp : PassesOwn (model X.prog X.w) X.A X.env X.xe) (hc : X.calm = true) (hi : DI X p W tg iter it) (hg : DG X tg tgt sl) (hb : DSs X p W body f)
    (hs : ∀ x, foldedSetIterable iter X.env x = pure x) : DS X p W (.For tg iter body [] pos) (forD it tgt f) := by
  refine PS.imp (ps_for hp hc hi hg hb hs) fun D σ H h => tG_mono (tS_bind (rel := relI (bs X p)) h) fun J H1 ⟨ds, s1, ⟨I1, itd⟩, V0, ex, q⟩ => ?_
  have ex : Ext V0 (hid (bs X p) σ s1 none H1) := ex
  let Vw := hid (bs X p) σ s1 none H1
  let Pv : Nat → List (Option V) → Hp → Prop := fun i σ H => ∃ s, Rel (bs X p) σ s none H ∧ Ext Vw (hid (bs X p) σ s none H) ∧ tRS (bs X p) W Vw (forLoop tgt f (ds.drop i) s) D
  refine ⟨fun i m σ H => m = ds.length - i ∧ i ≤ ds.length ∧ Pv i σ H, ⟨ds.length, by simp, Nat.zero_le _, s1, I1, Ext.refl _, tRS_ext ex q⟩, ?_⟩
  rintro i m σ' H' ⟨rfl, hi', s, I, ex', rc⟩
  obtain ⟨go, stop, yld⟩ := itd H' _ ex' fun a o h => hid_sub _ _ h
  by_cases hlt : i < ds.length
  · refine .inr ⟨go i hlt, Pv (i + 1), fun σ2 H2 pv => ⟨ds.length - (i + 1), by omega, rfl, hlt, pv⟩, fun x H2 y => ?_⟩
    obtain ⟨d, hd, yy⟩ := yld i x H2 hlt y
    have hdrop : ds.drop i = d :: ds.drop (i + 1) := by
      obtain ⟨h1, h2⟩ := List.getElem?_eq_some_iff.mp hd
      rw [List.drop_eq_getElem_cons h1, h2]
    rw [hdrop] at rc
    unfold forLoop at rc
    obtain ⟨IH, exH, dH⟩ : Rel (bs X p) σ' s none H2 ∧ Ext (hid (bs X p) σ' s none H') (hid (bs X p) σ' s none H2) ∧ Dv X.K X.mg (hid (bs X p) σ' s none H2) x d := by
      rcases yy with ⟨e1, e2⟩ | ⟨T, ts, es, e1, e2, e3, e4, e5⟩
      · subst e1; exact ⟨I, Ext.refl _, e2⟩
      · subst e2 e3 e4
        obtain ⟨I', x1, _⟩ := I.fresh1 (o := .tup ts) e1
        exact ⟨I', x1, Dv.tup (hid_of upd_same (I.noZ e1) (I.unowned e1) (by simp)) (e5.ext x1)⟩
    cases e1 : tgt d s with
    | none => rw [e1] at rc; exact rc.elim
    | some s2 =>
      rw [e1] at rc
      dsimp only at rc
      refine ⟨p, d, s, s2, IH, dH, e1, fun σ3 I3 x3 w3 => ⟨s2, I3, ?_⟩⟩
      have exs : Ext Vw (hid (bs X p) σ3 s2 none H2) := (ex'.trans exH).trans x3
      cases e2 : f s2 with
      | bad => rw [e2] at rc; exact rc.elim
      | exc c s4 => rw [e2] at rc; exact tRS_ext exs rc
      | ok fl s4 =>
        rw [e2] at rc
        cases fl with
        | nx => exact fun σ' H' I' x' => ⟨s4, I', exs.trans x', rc⟩
        | ct => exact fun σ' H' I' x' => ⟨s4, I', exs.trans x', rc⟩
        | bk => exact fun σ' H' I' x' => rc σ' H' I' (exs.trans x')
        | rt r => exact fun σ' v H' I' x' => rc σ' v H' I' (exs.trans x')
  · have e : i = ds.length := by omega
    subst e
    rw [List.drop_length] at rc
    exact .inl ⟨stop, rc σ' H' I ex'⟩

/-! ### while -/
def whileLoop (t : S → Res Bool) (body : S → Res Fl) : Nat → S → Res Fl
  | 0, _ => .bad
  | n + 1, s => (t s).bind fun b s1 => if b = true then (match body s1 with
      | .ok .nx s2 => whileLoop t body n s2
      | .ok .ct s2 => whileLoop t body n s2
      | .ok .bk s2 => .ok .nx s2
      | m => m) else .ok .nx s1
def Res.fine {τ : Type} : Res τ → Prop
  | .bad => False
  | _ => True
/-- as many turns as are needed -/
noncomputable def whileD (t : S → Res Bool) (body : S → Res Fl) (s : S) : Res Fl := open Classical in if h : ∃ n, (whileLoop t body n s).fine then whileLoop t body h.choose s else .bad
theorem whileLoop_more {t : S → Res Bool} {body : S → Res Fl} : ∀ {n : Nat} {s : S}, (whileLoop t body n s).fine → ∀ {k : Nat}, n ≤ k → whileLoop t body k s = whileLoop t body n s
  | 0, s, h, k, _ => h.elim
  | n + 1, s, h, 0, l => by omega
  | n + 1, s, h, k + 1, l => by
    unfold whileLoop at h ⊢
    cases e : t s with
    | bad => rfl
    | exc c s1 => rfl
    | ok b s1 =>
      rw [e] at h
      simp only [bind_ok] at h ⊢
      cases b with
      | false => rfl
      | true =>
        simp only [if_true] at h ⊢
        cases e2 : body s1 with
        | bad => rfl
        | exc c s2 => rfl
        | ok fl s2 =>
          rw [e2] at h
          cases fl with
          | nx => exact whileLoop_more (n := n) h (by omega)
          | ct => exact whileLoop_more (n := n) h (by omega)
          | bk => rfl
          | rt r => rfl
theorem whileD_eq {t : S → Res Bool} {body : S → Res Fl} {s : S} {m : Res Fl} (n : Nat) (h : whileLoop t body n s = m) (hm : m.fine) : whileD t body s = m := by
  unfold whileD
  have ex : ∃ n, (whileLoop t body n s).fine := ⟨n, by rw [h]; exact hm⟩
  rw [dif_pos ex]
  have h2 := ex.choose_spec
  subst h
  rcases Nat.le_total n ex.choose with l | l
  · exact whileLoop_more hm l
  · exact (whileLoop_more h2 l).symm
theorem ds_while {c : Expr} {t : S → Res Bool} {f : S → Res Fl} (hp : PassesOwn (model X.prog X.w) X.A X.env X.xe) (ht : DT X p W c t) (hb : DSs X p W body f) : DS X p W (.While c body [] pos) (whileD t f) := by
  refine PS.imp (ps_while hp ht hb) fun D σ H ⟨s, I, q⟩ => ?_
  unfold whileD at q
  split at q
  · rename_i ex
    let Vw := hid (bs X p) σ s none H
    generalize ex.choose = n at q
    refine ⟨fun m σ H => ∃ s, Rel (bs X p) σ s none H ∧ Ext Vw (hid (bs X p) σ s none H) ∧ tRS (bs X p) W Vw (whileLoop t f m s) D, ⟨n, s, I, Ext.refl _, q⟩, ?_⟩
    rintro m σ1 H1 ⟨s1, I1, x1, q1⟩
    cases m with
    | zero => exact q1.elim
    | succ m =>
      unfold whileLoop at q1
      refine ⟨s1, I1, ?_⟩
      cases e1 : t s1 with
      | bad => rw [e1] at q1; exact q1.elim
      | exc c s2 => rw [e1] at q1; exact fun H' I' l => q1 σ1 H' I' (x1.trans l)
      | ok b s2 =>
        rw [e1, bind_ok] at q1
        intro b' H2 hb l2
        obtain ⟨I2, eb⟩ := hb
        subst eb
        have x2 : Ext Vw (hid (bs X p) σ1 s2 none H2) := x1.trans l2
        cases b' with
        | false => exact iteF (q1 σ1 H2 I2 x2)
        | true =>
          rw [if_pos rfl] at q1
          refine iteT ⟨fun σ3 H3 => ∃ s, Rel (bs X p) σ3 s none H3 ∧ Ext Vw (hid (bs X p) σ3 s none H3) ∧ tRS (bs X p) W Vw (whileLoop t f m s) D, fun σ' H' z => ⟨m, Nat.lt_succ_self m, z⟩, s2, I2, ?_⟩
          cases e2 : f s2 with
          | bad => rw [e2] at q1; exact q1.elim
          | exc c s4 => rw [e2] at q1; exact tRS_ext x2 q1
          | ok fl s4 =>
            rw [e2] at q1
            cases fl with
            | nx => exact fun σ' H' I' x' => ⟨s4, I', x2.trans x', q1⟩
            | ct => exact fun σ' H' I' x' => ⟨s4, I', x2.trans x', q1⟩
            | bk => exact fun σ' H' I' x' => q1 σ' H' I' (x2.trans x')
            | rt r => exact fun σ' v H' I' x' => q1 σ' v H' I' (x2.trans x')
  · exact q.elim

/-! ### raise X('m') -/
theorem ds_raise {C : Addr} {bmB : List Value} {Bn newId initId : String} {x m : Str} {j : Nat} {p1 p2 : Pos} (hc : X.calm = true) (tk : L2N.Takes X W) (F : ExcBaseFacts Bn newId initId bmB) (q : PySem.W.excIn X.K C bmB newId = true) (gC : X.mg x = some (.ref C)) (kC : PySem.W.keepIn X.K (.ref C) = true)
    (r : Raises X (.ref C)) (hg : Gl X x) (hdb : (x == ("__debug__" : Str)) = false) : DS X p W (.Raise (some (.Call (.Name x p1) [.Constant (.str m) j p2] [] pos')) none pos) (fun s => .exc x s) :=
  PS.imp (L2N.ps_raise hc tk (L2N.pmk_own F q gC kC r hg hdb)) fun D σ H ⟨s, I, q⟩ => q σ H I (Ext.refl _) C gC
end
end AL


set_option Elab.async false
set_option linter.all false
set_option maxRecDepth 100000
set_option maxHeartbeats 1000000
/-! AL12: a def's promise by its body. -/
namespace AL
open PySem PySem.Spec PyProof.Rows L2
def initP : List Bool → List AL.D → S
  | true :: m, d :: ds => some (.io d) :: initP m ds
  | false :: m, d :: ds => some (.sh d) :: initP m ds
  | _, _ => []
def init (m : List Bool) (ds : List AL.D) (n : Nat) : S := initP m ds ++ List.replicate (n - ds.length) none
def ioPos : List Bool → Nat → List Nat
  | [], _ => []
  | true :: m, i => i :: ioPos m (i + 1)
  | false :: m, i => ioPos m (i + 1)
def ioCs (s : S) : List Nat → Option (List AL.D)
  | [] => some []
  | i :: is => match s[i]?, ioCs s is with
    | some (some (.io d)), some ds => some (d :: ds)
    | _, _ => none
def outR (r : R) (pos : List Nat) (s : S) : Option Rt := match r with
  | .sh d => some (.sh d)
  | .fr d => some (.fr d)
  | .ob i => (match s[i]? with
    | some (some (.sh d)) => some (.sh d)
    | some (some (.ow d)) => some (.fr d)
    | some (some (.io _)) => (pos.findIdx? (· == i)).map Rt.io
    | _ => none)
def outOf (pos : List Nat) : Res Fl → Out
  | .ok .nx s => (match ioCs s pos with
    | some ns => .ret (.sh .non) ns
    | none => .bad)
  | .ok (.rt r) s => (match outR r pos s, ioCs s pos with
    | some t, some ns => .ret t ns
    | _, _ => .bad)
  | .exc c s => (match ioCs s pos with
    | some ns => .exc c ns
    | none => .bad)
  | _ => .bad
def runF (m : List Bool) (n : Nat) (f : S → Res Fl) : Fs := ⟨m, fun ds => if ds.length = m.length then outOf (ioPos m 0) (f (init m ds n)) else .bad⟩

/-- the arguments as they are handed over -/
inductive ArgR (K : PySem.W.Frag) (mg : Str → Option Value) (Hv : Hp) (σ : List (Option V)) (s : S) : List Bool → List V → List AL.D → List Nat → List AL.D → Prop
  | nil : ArgR K mg Hv σ s [] [] [] [] []
  | sh {m : List Bool} {v : V} {vs : List V} {d : AL.D} {ds : List AL.D} {ks : List Nat} {cs : List AL.D} : Dv K mg Hv v d → ArgR K mg Hv σ s m vs ds ks cs → ArgR K mg Hv σ s (false :: m) (v :: vs) (d :: ds) ks cs
  | io {m : List Bool} {a : Addr} {vs : List V} {d : AL.D} {ds : List AL.D} {k : Nat} {ks : List Nat} {cs : List AL.D} : σ[k]? = some (some (V.ref a)) → Slot1 s k d → ArgR K mg Hv σ s m vs ds ks cs → ArgR K mg Hv σ s (true :: m) (.ref a :: vs) (d :: ds) (k :: ks) (d :: cs)
section
variable {K : PySem.W.Frag} {mg : Str → Option Value} {Hv : Hp} {σ : List (Option V)} {s : S}
theorem ArgR.ext {Hv' : Hp} (e : Ext Hv Hv') : ∀ {m : List Bool} {vs : List V} {ds : List AL.D} {ks : List Nat} {cs : List AL.D}, ArgR K mg Hv σ s m vs ds ks cs → ArgR K mg Hv' σ s m vs ds ks cs
  | _, _, _, _, _, .nil => .nil
  | _, _, _, _, _, .sh d r => .sh (Dv.ext e d) (ArgR.ext e r)
  | _, _, _, _, _, .io a b r => .io a b (ArgR.ext e r)
theorem ArgR.len : ∀ {m : List Bool} {vs : List V} {ds : List AL.D} {ks : List Nat} {cs : List AL.D}, ArgR K mg Hv σ s m vs ds ks cs → vs.length = m.length ∧ ds.length = m.length ∧ (initP m ds).length = m.length
  | _, _, _, _, _, .nil => ⟨rfl, rfl, rfl⟩
  | _, _, _, _, _, .sh d r => by obtain ⟨h1, h2, h3⟩ := r.len; simp [h1, h2, h3, initP]
  | _, _, _, _, _, .io a b r => by obtain ⟨h1, h2, h3⟩ := r.len; simp [h1, h2, h3, initP]
/-- the i-th argument -/
theorem ArgR.at {i : Nat} {c : SV} : ∀ {m : List Bool} {vs : List V} {ds : List AL.D} {ks : List Nat} {cs : List AL.D} {o : Nat}, ArgR K mg Hv σ s m vs ds ks cs → (initP m ds)[i]? = some (some c) → ∃ v, vs[i]? = some v ∧
      ((∃ d, c = .sh d ∧ Dv K mg Hv v d) ∨ (∃ (d : AL.D) (a : Addr) (k t : Nat), c = .io d ∧ v = .ref a ∧ σ[k]? = some (some (V.ref a)) ∧ Slot1 s k d ∧ ks[t]? = some k ∧ (ioPos m o)[t]? = some (o + i)))
  | _, _, _, _, _, o, .nil, h => by simp [initP] at h
  | _, _, _, _, _, o, .sh (m := m) (v := v) (d := dd) d r, h => by
    cases i with
    | zero =>
      have h : some (SV.sh dd) = some c := by simpa [initP] using h
      cases h
      exact ⟨v, rfl, .inl ⟨dd, rfl, d⟩⟩
    | succ i =>
      obtain ⟨v, h1, h2⟩ := ArgR.at (i := i) (o := o + 1) r (by simpa [initP] using h)
      refine ⟨v, by simpa using h1, h2.imp id ?_⟩
      rintro ⟨d, a, k, t, e1, e2, e3, e4, e5, e6⟩
      exact ⟨d, a, k, t, e1, e2, e3, e4, e5, by simp only [ioPos]; rw [e6]; congr 1; omega⟩
  | _, _, _, _, _, o, .io (m := m) (a := a) (k := k) (d := dd) e0 s0 r, h => by
    cases i with
    | zero =>
      have h : some (SV.io dd) = some c := by simpa [initP] using h
      cases h
      exact ⟨.ref a, rfl, .inr ⟨dd, a, k, 0, rfl, rfl, e0, s0, rfl, rfl⟩⟩
    | succ i =>
      obtain ⟨v, h1, h2⟩ := ArgR.at (i := i) (o := o + 1) r (by simpa [initP] using h)
      refine ⟨v, by simpa using h1, h2.imp id ?_⟩
      rintro ⟨d, a, k, t, e1, e2, e3, e4, e5, e6⟩
      exact ⟨d, a, k, t + 1, e1, e2, e3, e4, by simpa using e5, by simp only [ioPos, List.getElem?_cons_succ]; rw [e6]; congr 1; omega⟩
/-- the t-th lent object -/
theorem ArgR.lent {t k : Nat} : ∀ {m : List Bool} {vs : List V} {ds : List AL.D} {ks : List Nat} {cs : List AL.D} {o : Nat}, ArgR K mg Hv σ s m vs ds ks cs → ks[t]? = some k → ∃ (i : Nat) (d : AL.D) (a : Addr), (ioPos m o)[t]? = some (o + i) ∧ (initP m ds)[i]? = some (some (.io d)) ∧ vs[i]? = some (V.ref a) ∧
      σ[k]? = some (some (V.ref a)) ∧ Slot1 s k d
  | _, _, _, _, _, o, .nil, h => by simp at h
  | _, _, _, _, _, o, .sh (m := m) d r, h => by
    obtain ⟨i, d, a, h1, h2, h3, h4, h5⟩ := ArgR.lent (o := o + 1) r h
    exact ⟨i + 1, d, a, by simp only [ioPos]; rw [h1]; congr 1; omega, by simpa [initP] using h2, by simpa using h3, h4, h5⟩
  | _, _, _, _, _, o, .io (m := m) (a := a) (d := d) e0 s0 r, h => by
    cases t with
    | zero =>
      have h := Option.some.inj h
      subst h
      exact ⟨0, d, a, rfl, rfl, rfl, e0, s0⟩
    | succ t =>
      obtain ⟨i, d, a, h1, h2, h3, h4, h5⟩ := ArgR.lent (o := o + 1) r (by simpa using h)
      exact ⟨i + 1, d, a, by simp only [ioPos, List.getElem?_cons_succ]; rw [h1]; congr 1; omega, by simpa [initP] using h2, by simpa using h3, h4, h5⟩
theorem ArgR.ks : ∀ {m : List Bool} {vs : List V} {ds : List AL.D} {ks : List Nat} {cs : List AL.D} {o : Nat}, ArgR K mg Hv σ s m vs ds ks cs → (ioPos m o).length = ks.length
  | _, _, _, _, _, o, .nil => rfl
  | _, _, _, _, _, o, .sh d r => by simpa [ioPos] using ArgR.ks (o := o + 1) r
  | _, _, _, _, _, o, .io a b r => by simpa [ioPos] using ArgR.ks (o := o + 1) r
end
theorem ioPos_ge {m : List Bool} {o t j : Nat} : (ioPos m o)[t]? = some j → o ≤ j := fun h => by
  induction m generalizing o t with
  | nil => simp [ioPos] at h
  | cons b m ih =>
    cases b with
    | false => have := ih (o := o + 1) h; omega
    | true =>
      cases t with
      | zero => have := Option.some.inj h; omega
      | succ t => have := ih (o := o + 1) (t := t) (by simpa [ioPos] using h); omega
theorem ioPos_inj {m : List Bool} {o t u j : Nat} : (ioPos m o)[t]? = some j → (ioPos m o)[u]? = some j → t = u := fun h1 h2 => by
  induction m generalizing o t u with
  | nil => simp [ioPos] at h1
  | cons b m ih =>
    cases b with
    | false => exact ih (o := o + 1) h1 h2
    | true =>
      cases t with
      | zero =>
        have e := Option.some.inj h1
        cases u with
        | zero => rfl
        | succ u => have := ioPos_ge (m := m) (o := o + 1) (t := u) (by simpa [ioPos] using h2); omega
      | succ t =>
        cases u with
        | zero =>
          have e := Option.some.inj h2
          have := ioPos_ge (m := m) (o := o + 1) (t := t) (by simpa [ioPos] using h1); omega
        | succ u => rw [ih (o := o + 1) (t := t) (u := u) (by simpa [ioPos] using h1) (by simpa [ioPos] using h2)]

/-! ### the callers' cells -/
theorem reSV_len {s : S} {k : Nat} {d : AL.D} : (reSV s k d).length = s.length := by unfold reSV; split <;> simp
theorem reSV_ne {s : S} {k j : Nat} {d : AL.D} (h : j ≠ k) : (reSV s k d)[j]? = s[j]? := by
  unfold reSV; split
  · rw [List.getElem?_set_ne (fun z => h z.symm)]
  · rw [List.getElem?_set_ne (fun z => h z.symm)]
  · rfl
theorem setCells_len : ∀ {ks : List Nat} {ns : List AL.D} {s : S}, (setCells ks ns s).length = s.length
  | [], _, _ => by simp [setCells]
  | _ :: _, [], _ => rfl
  | k :: ks, n :: ns, s => by show (setCells ks ns (reSV s k n)).length = _; rw [setCells_len, reSV_len]
theorem setCells_out {j : Nat} : ∀ {ks : List Nat} {ns : List AL.D} {s : S}, j ∉ ks → (setCells ks ns s)[j]? = s[j]?
  | [], _, _, _ => by simp [setCells]
  | _ :: _, [], _, _ => rfl
  | k :: ks, n :: ns, s, h => by
    simp only [List.mem_cons, not_or] at h
    show (setCells ks ns (reSV s k n))[j]? = _
    rw [setCells_out h.2, reSV_ne h.1]
theorem setCells_in {k t : Nat} {n : AL.D} : ∀ {ks : List Nat} {ns : List AL.D} {s : S}, ks.Nodup → ks[t]? = some k → ns[t]? = some n →
    (∀ d, s[k]? = some (some (.ow d)) → (setCells ks ns s)[k]? = some (some (.ow n))) ∧ (∀ d, s[k]? = some (some (.io d)) → (setCells ks ns s)[k]? = some (some (.io n)))
  | [], _, _, _, h, _ => by simp at h
  | _ :: _, [], _, _, _, h => by simp at h
  | k0 :: ks, n0 :: ns, s, nd, h1, h2 => by
    rw [List.nodup_cons] at nd
    cases t with
    | zero =>
      have e1 := Option.some.inj h1
      have e2 := Option.some.inj h2
      subst e1 e2
      have hk : ∀ c, s[k0]? = some (some c) → k0 < s.length := fun c h => (List.getElem?_eq_some_iff.mp h).1
      refine ⟨fun d h => ?_, fun d h => ?_⟩
      · show (setCells ks ns (reSV s k0 n0))[k0]? = _
        rw [setCells_out nd.1]
        unfold reSV; rw [h]
        exact List.getElem?_set_self (hk _ h)
      · show (setCells ks ns (reSV s k0 n0))[k0]? = _
        rw [setCells_out nd.1]
        unfold reSV; rw [h]
        exact List.getElem?_set_self (hk _ h)
    | succ t =>
      have h1' : ks[t]? = some k := by simpa using h1
      have ne : k ≠ k0 := fun z => by subst z; exact nd.1 (List.mem_of_getElem? h1')
      obtain ⟨a, b⟩ := setCells_in (s := reSV s k0 n0) (ns := ns) (n := n) nd.2 h1' (by simpa using h2)
      exact ⟨fun d h => a d (by rw [reSV_ne ne]; exact h), fun d h => b d (by rw [reSV_ne ne]; exact h)⟩
theorem setCells_slot {ks : List Nat} {ns : List AL.D} {s : S} {j : Nat} {d : AL.D} (h : Slot1 (setCells ks ns s) j d) : ∃ d', Slot1 s j d' := by
  induction ks generalizing ns s with
  | nil => exact ⟨d, by simpa [setCells] using h⟩
  | cons k ks ih =>
    cases ns with
    | nil => exact ⟨d, h⟩
    | cons n ns =>
      obtain ⟨d', h'⟩ := ih (s := reSV s k n) (ns := ns) h
      by_cases e : j = k
      · subst e
        unfold reSV at h'
        split at h'
        · rename_i d0 h0; exact ⟨d0, .inl h0⟩
        · rename_i d0 h0; exact ⟨d0, .inr h0⟩
        · exact ⟨d', h'⟩
      · exact ⟨d', by unfold Slot1 at h' ⊢; rwa [reSV_ne e] at h'⟩
theorem setCells_sh {ks : List Nat} {ns : List AL.D} {s : S} {j : Nat} {d : AL.D} (h : (setCells ks ns s)[j]? = some (some (.sh d))) : s[j]? = some (some (.sh d)) := by
  induction ks generalizing ns s with
  | nil => simpa [setCells] using h
  | cons k ks ih =>
    cases ns with
    | nil => exact h
    | cons n ns =>
      have h' := ih (s := reSV s k n) (ns := ns) h
      by_cases e : j = k
      · subst e
        unfold reSV at h'
        split at h'
        · rcases setS h' with ⟨_, q, _⟩ | ⟨ne, _⟩
          · cases q
          · exact absurd rfl ne
        · rcases setS h' with ⟨_, q, _⟩ | ⟨ne, _⟩
          · cases q
          · exact absurd rfl ne
        · exact h'
      · rwa [reSV_ne e] at h'
theorem ioCs_get {s : S} {t i : Nat} : ∀ {pos : List Nat} {ns : List AL.D}, ioCs s pos = some ns → pos[t]? = some i → ∃ n, ns[t]? = some n ∧ s[i]? = some (some (.io n))
  | [], _, _, h => by simp at h
  | j :: pos, ns, e, h => by
    unfold ioCs at e
    split at e
    · rename_i d ds h1 h2
      cases e
      cases t with
      | zero => have := Option.some.inj h; subst this; exact ⟨d, rfl, h1⟩
      | succ t =>
        obtain ⟨n, a, b⟩ := ioCs_get (t := t) h2 (by simpa using h)
        exact ⟨n, by simpa using a, b⟩
    · cases e
theorem ioCs_len {s : S} : ∀ {pos : List Nat} {ns : List AL.D}, ioCs s pos = some ns → ns.length = pos.length
  | [], _, h => by cases h; rfl
  | j :: pos, ns, e => by
    unfold ioCs at e
    split at e
    · rename_i d ds h1 h2
      cases e
      simp [ioCs_len h2]
    · cases e
end AL


set_option Elab.async false
set_option linter.all false
set_option maxRecDepth 100000
set_option maxHeartbeats 1000000
/-! AL13: the callee's world. -/
namespace AL
open PySem PySem.Spec PyProof.Rows L2
/-- the lent objects' places with the callee -/
def ioL (σ : List (Option V)) : List Nat → List Nat → List (Nat × Addr)
  | k :: ks, i :: is => (match σ[k]? with
    | some (some (.ref a)) => [(i, a)]
    | _ => []) ++ ioL σ ks is
  | _, _ => []
theorem ioL_mem {σ : List (Option V)} {i : Nat} {a : Addr} : ∀ {ks is : List Nat}, (i, a) ∈ ioL σ ks is ↔ ∃ (t k : Nat), ks[t]? = some k ∧ is[t]? = some i ∧ σ[k]? = some (some (V.ref a))
  | [], is => by simp [ioL]
  | k :: ks, [] => by simp [ioL]
  | k :: ks, j :: is => by
    unfold ioL
    rw [List.mem_append, ioL_mem]
    constructor
    · rintro (h | ⟨t, k', h1, h2, h3⟩)
      · split at h
        · rename_i b hb
          rw [List.mem_singleton] at h
          cases h
          exact ⟨0, k, rfl, rfl, hb⟩
        · cases h
      · exact ⟨t + 1, k', by simpa using h1, by simpa using h2, h3⟩
    · rintro ⟨t, k', h1, h2, h3⟩
      cases t with
      | zero =>
        have e1 := Option.some.inj h1
        have e2 := Option.some.inj h2
        subst e1 e2
        left; rw [h3]; simp
      | succ t => exact .inr ⟨t, k', by simpa using h1, by simpa using h2, h3⟩
open Classical in
noncomputable def zL (Z : Addr → Bool) (σ : List (Option V)) (s : S) (L : List (Nat × Addr)) : Addr → Bool := fun a => (Z a || ownB σ s a) && !decide (∃ q ∈ L, q.2 = a)
theorem zL_true {Z : Addr → Bool} {σ : List (Option V)} {s : S} {L : List (Nat × Addr)} {a : Addr} : zL Z σ s L a = true ↔ (Z a || ownB σ s a) = true ∧ ∀ q ∈ L, q.2 ≠ a := by
  unfold zL
  rw [Bool.and_eq_true, Bool.not_eq_true', decide_eq_false_iff_not]
  constructor
  · rintro ⟨h1, h2⟩; exact ⟨h1, fun q hq e => h2 ⟨q, hq, e⟩⟩
  · rintro ⟨h1, h2⟩; exact ⟨h1, fun ⟨q, hq, e⟩ => h2 q hq e⟩
noncomputable def bIn (B : Bas) (σ : List (Option V)) (s : S) (m : List Bool) (ks : List Nat) (H : Hp) : Bas := ⟨B.K, B.mg, H, ioL σ ks (ioPos m 0), B.T, zL B.Z σ s (ioL σ ks (ioPos m 0))⟩
theorem init_get {m : List Bool} {ds : List AL.D} {n i : Nat} {c : SV} (h : (init m ds n)[i]? = some (some c)) : (initP m ds)[i]? = some (some c) := by
  unfold init at h
  by_cases hi : i < (initP m ds).length
  · rwa [List.getElem?_append_left hi] at h
  · rw [List.getElem?_append_right (by omega)] at h
    rw [List.getElem?_replicate] at h
    split at h
    · cases h
    · cases h
theorem start_get {N : List Str} {vs : List V} {i : Nat} {v : V} (h : vs[i]? = some v) : (L2.start N vs)[i]? = some (some v) := by
  unfold L2.start
  have hi : i < vs.length := (List.getElem?_eq_some_iff.mp h).1
  rw [List.getElem?_append_left (by simpa using hi), List.getElem?_map, h]; rfl
section
variable {B : Bas} {σ : List (Option V)} {s1 : S} {H : Hp} {m : List Bool} {vs : List V} {ds : List AL.D} {ks : List Nat} {cs : List AL.D} {N : List Str}
theorem ownIn (r : ArgR B.K B.mg (hid B σ s1 none H) σ s1 m vs ds ks cs) {a : Addr} : ownB (L2.start N vs) (init m ds N.length) a = true ↔ ∃ q ∈ ioL σ ks (ioPos m 0), q.2 = a := by
  rw [ownB_iff]
  constructor
  · rintro ⟨i, d, h1, h2⟩
    have key : ∀ c, (c = SV.ow d ∨ c = SV.io d) → (init m ds N.length)[i]? = some (some c) → ∃ q ∈ ioL σ ks (ioPos m 0), q.2 = a := fun c hc h => by
      obtain ⟨v, h3, h4⟩ := r.at (o := 0) (init_get h)
      rw [start_get h3] at h1
      cases h1
      rcases h4 with ⟨d', e, _⟩ | ⟨d', b, k, t, e, e1, e2, e3, e4, e5⟩
      · subst e; rcases hc with z | z <;> cases z
      · cases e1
        exact ⟨(0 + i, a), ioL_mem.mpr ⟨t, k, e4, e5, e2⟩, rfl⟩
    rcases h2 with h2 | h2
    · exact key _ (.inl rfl) h2
    · exact key _ (.inr rfl) h2
  · rintro ⟨⟨i, b⟩, hq, rfl⟩
    obtain ⟨t, k, h1, h2, h3⟩ := ioL_mem.mp hq
    obtain ⟨i', d, b', e1, e2, e3, e4, e5⟩ := r.lent (o := 0) h1
    rw [h3] at e4; cases e4
    refine ⟨i', d, start_get e3, .inr ?_⟩
    unfold init
    rw [List.getElem?_append_left (List.getElem?_eq_some_iff.mp e2).1]
    exact e2
theorem viewIn (I : Rel B σ s1 none H) (r : ArgR B.K B.mg (hid B σ s1 none H) σ s1 m vs ds ks cs) : hid (bIn B σ s1 m ks H) (L2.start N vs) (init m ds N.length) none H = hid B σ s1 none H := by
  funext a
  have e : ((zL B.Z σ s1 (ioL σ ks (ioPos m 0))) a || ownB (L2.start N vs) (init m ds N.length) a) = (B.Z a || ownB σ s1 a) := by
    rw [Bool.eq_iff_iff, Bool.or_eq_true, zL_true, ownIn r]
    constructor
    · rintro (⟨h, _⟩ | ⟨⟨i, b⟩, hq, rfl⟩)
      · exact h
      · obtain ⟨t, k, h1, h2, h3⟩ := ioL_mem.mp hq
        obtain ⟨i', d, b', e1, e2, e3, e4, e5⟩ := r.lent (o := 0) h1
        rw [Bool.or_eq_true]
        exact .inr (ownB_iff.mpr ⟨k, d, h3, e5⟩)
    · intro h
      by_cases q : ∃ q ∈ ioL σ ks (ioPos m 0), q.2 = a
      · exact .inr q
      · exact .inl ⟨h, fun x hx z => q ⟨x, hx, z⟩⟩
  unfold hid
  show (if ((zL B.Z σ s1 (ioL σ ks (ioPos m 0))) a || ownB (L2.start N vs) (init m ds N.length) a || decide ((none : Option Addr) = some a)) = true then none else H a) = _
  rw [e]
/-- the callee's world as it begins -/
theorem Rel.entry (I : Rel B σ s1 none H) (r : ArgR B.K B.mg (hid B σ s1 none H) σ s1 m vs ds ks cs) (nd : ks.Nodup) : Rel (bIn B σ s1 m ks H) (L2.start N vs) (init m ds N.length) none H := by
  obtain ⟨l1, l2, l3⟩ := r.len
  have io_of : ∀ {i : Nat} {c : SV}, (init m ds N.length)[i]? = some (some c) → ∃ v, (L2.start N vs)[i]? = some (some v) ∧ ((∃ d, c = .sh d ∧ Dv B.K B.mg (hid B σ s1 none H) v d) ∨
      (∃ (d : AL.D) (a : Addr) (k t : Nat), c = .io d ∧ v = .ref a ∧ σ[k]? = some (some (V.ref a)) ∧ Slot1 s1 k d ∧ ks[t]? = some k ∧ (ioPos m 0)[t]? = some i)) := fun {i c} h => by
    obtain ⟨v, h3, h4⟩ := r.at (o := 0) (init_get h)
    rw [Nat.zero_add] at h4
    exact ⟨v, start_get h3, h4⟩
  have slot_of : ∀ {i : Nat} {d : AL.D}, Slot1 (init m ds N.length) i d → ∃ (a : Addr) (k t : Nat), (L2.start N vs)[i]? = some (some (V.ref a)) ∧ σ[k]? = some (some (V.ref a)) ∧ Slot1 s1 k d ∧ ks[t]? = some k ∧ (ioPos m 0)[t]? = some i ∧ (init m ds N.length)[i]? = some (some (.io d)) := fun {i d} h => by
    rcases h with h | h
    · obtain ⟨v, _, h2⟩ := io_of h
      rcases h2 with ⟨_, e, _⟩ | ⟨_, _, _, _, e, _⟩ <;> cases e
    · obtain ⟨v, h1, h2⟩ := io_of h
      rcases h2 with ⟨_, e, _⟩ | ⟨d', a, k, t, e, e1, e2, e3, e4, e5⟩
      · cases e
      · cases e; subst e1
        exact ⟨a, k, t, h1, e2, e3, e4, e5, h⟩
  refine ⟨by simp [init, L2.start, l1, l2, l3], fun i d h => ?_, fun i d h => ?_, fun i j d e a h1 h2 h3 h4 => ?_, fun i d a h1 h2 => ?_, fun q hq => ?_, fun i d h => ?_, fun b q => (by cases q), fun a o h1 h2 => .inl h1, I.tabs, fun a h => ?_, fun q hq => ?_⟩
  · rw [viewIn I r]
    obtain ⟨v, h1, h2⟩ := io_of h
    rcases h2 with ⟨d', e, dv⟩ | ⟨_, _, _, _, e, _⟩
    · cases e; exact ⟨v, h1, dv⟩
    · cases e
  · rw [viewIn I r]
    obtain ⟨a, k, t, h1, h2, h3, h4, h5, _⟩ := slot_of h
    refine ⟨a, h1, (I.ownH h3 h2).1, ?_, by simp⟩
    cases z : (bIn B σ s1 m ks H).Z a with
    | false => rfl
    | true => exact absurd rfl ((zL_true.mp z).2 (i, a) (ioL_mem.mpr ⟨t, k, h4, h5, h2⟩))
  · obtain ⟨b, k, t, g1, g2, g3, g4, g5, _⟩ := slot_of h1
    obtain ⟨b', k', t', g1', g2', g3', g4', g5', _⟩ := slot_of h2
    rw [h3] at g1; cases g1
    rw [h4] at g1'; cases g1'
    have ek := I.inj k k' d e a g3 g3' g2 g2'
    subst ek
    have et : t = t' := by
      exact (List.getElem?_inj (List.getElem?_eq_some_iff.mp g4).1 nd).mp (g4.trans g4'.symm)
    subst et
    rw [g5] at g5'
    exact Option.some.inj g5'
  · exfalso
    obtain ⟨v, _, h4⟩ := io_of h1
    rcases h4 with ⟨_, e, _⟩ | ⟨_, _, _, _, e, _⟩ <;> cases e
  · obtain ⟨t, k, h1, h2, h3⟩ := ioL_mem.mp (show (q.1, q.2) ∈ ioL σ ks (ioPos m 0) from hq)
    obtain ⟨i', d, b', e1, e2, e3, e4, e5⟩ := r.lent (o := 0) h1
    rw [h3] at e4; cases e4
    rw [Nat.zero_add] at e1
    rw [h2] at e1; cases e1
    refine ⟨d, ?_, start_get e3⟩
    unfold init
    rw [List.getElem?_append_left (List.getElem?_eq_some_iff.mp e2).1]
    exact e2
  · obtain ⟨a, k, t, h1, h2, h3, h4, h5, _⟩ := slot_of (.inr h)
    exact ⟨a, ioL_mem.mpr ⟨t, k, h4, h5, h2⟩⟩
  · obtain ⟨h1, _⟩ := zL_true.mp h
    rw [Bool.or_eq_true] at h1
    rcases h1 with h1 | h1
    · obtain ⟨o, e⟩ := I.zs a h1
      exact (I.frame a o e fun p hp z => by
        have := I.zio p hp
        rw [z, h1] at this; cases this).there
    · obtain ⟨o, e, _⟩ := I.owned h1
      exact ⟨o, e⟩
  · cases z : (bIn B σ s1 m ks H).Z q.2 with
    | false => rfl
    | true => exact absurd rfl ((zL_true.mp z).2 q hq)
/-- .. and as it ends, for the caller -/
theorem Rel.exit {σ2 : List (Option V)} {s2 : S} {x : Option Addr} {H2 : Hp} {ns : List AL.D} (I : Rel B σ s1 none H) (r : ArgR B.K B.mg (hid B σ s1 none H) σ s1 m vs ds ks cs) (nd : ks.Nodup) (J : Rel (bIn B σ s1 m ks H) σ2 s2 x H2) (hn : ioCs s2 (ioPos m 0) = some ns)
    (ex : Ext (hid B σ s1 none H) (hid (bIn B σ s1 m ks H) σ2 s2 x H2)) : Rel B σ (setCells ks ns s1) x H2 ∧ Ext (hid (bIn B σ s1 m ks H) σ2 s2 x H2) (hid B σ (setCells ks ns s1) x H2) := by
  have sub : ∀ b u, hid (bIn B σ s1 m ks H) σ2 s2 x H2 b = some u → hid B σ (setCells ks ns s1) x H2 b = some u := fun b u h => by
    obtain ⟨h1, h2, h3, h4⟩ := hid_some h
    have no : ∀ q ∈ ioL σ ks (ioPos m 0), q.2 ≠ b := fun q hq z => by
      obtain ⟨d, e1, e2⟩ := J.lent q hq
      rw [z] at e2
      have := ownB_iff.mpr ⟨q.1, d, e2, .inr e1⟩
      rw [h3] at this; cases this
    have hz : (B.Z b || ownB σ s1 b) = false := by
      cases z : (B.Z b || ownB σ s1 b) with
      | false => rfl
      | true =>
        have := zL_true.mpr ⟨z, no⟩
        rw [show zL B.Z σ s1 (ioL σ ks (ioPos m 0)) b = false from h2] at this; cases this
    rw [Bool.or_eq_false_iff] at hz
    refine hid_of h1 hz.1 ?_ h4
    cases z : ownB σ (setCells ks ns s1) b with
    | false => rfl
    | true =>
      obtain ⟨j, d, g1, g2⟩ := ownB_iff.mp z
      obtain ⟨d', g3⟩ := setCells_slot g2
      rw [ownB_iff.mpr ⟨j, d', g1, g3⟩] at hz
      cases hz.2
  have exv : Ext (hid (bIn B σ s1 m ks H) σ2 s2 x H2) (hid B σ (setCells ks ns s1) x H2) := Ext.of sub
  -- a lent place
  have lentAt : ∀ {k : Nat}, k ∈ ks → ∃ (t : Nat) (n d : AL.D) (i : Nat) (a : Addr), ks[t]? = some k ∧ ns[t]? = some n ∧ (i, a) ∈ ioL σ ks (ioPos m 0) ∧ s2[i]? = some (some (.io n)) ∧ σ2[i]? = some (some (V.ref a)) ∧ σ[k]? = some (some (V.ref a)) ∧ Slot1 s1 k d := fun {k} hk => by
    obtain ⟨t, h1⟩ := List.getElem?_of_mem hk
    obtain ⟨i, d, a, e1, e2, e3, e4, e5⟩ := r.lent (o := 0) h1
    obtain ⟨n, g1, g2⟩ := ioCs_get hn e1
    have hm : (0 + i, a) ∈ ioL σ ks (ioPos m 0) := ioL_mem.mpr ⟨t, k, h1, e1, e4⟩
    obtain ⟨_, _, g3⟩ := J.lent _ hm
    exact ⟨t, n, d, 0 + i, a, h1, g1, hm, g2, g3, e4, e5⟩
  have notL : ∀ {a : Addr} {o : HO}, H a = some o → (∀ q ∈ ioL σ ks (ioPos m 0), q.2 ≠ a) → FrO H2 a o := fun {a o} h1 h2 => J.frame a o h1 h2
  refine ⟨⟨by rw [setCells_len]; exact I.len, fun i d h => ?_, fun i d h => ?_, fun i j d e a h1 h2 h3 h4 => ?_, fun i d a h1 h2 => ?_, fun q hq => ?_, fun i d h => ?_, fun a h => ?_, fun a o h1 h2 => ?_, J.tabs, I.zs, I.zio⟩, exv⟩
  · obtain ⟨v, h1, h2⟩ := I.sh i d (setCells_sh h)
    exact ⟨v, h1, Dv.ext (ex.trans exv) h2⟩
  · by_cases hk : i ∈ ks
    · obtain ⟨t, n, d0, i', a, g1, g2, g3, g4, g5, g6, g7⟩ := lentAt hk
      have en : d = n := by
        obtain ⟨c1, c2⟩ := setCells_in (s := s1) nd g1 g2
        rcases g7 with g7 | g7
        · have z := c1 _ g7
          rcases h with h | h <;> (rw [z] at h; cases h)
          rfl
        · have z := c2 _ g7
          rcases h with h | h <;> (rw [z] at h; cases h)
          rfl
      subst en
      obtain ⟨c1, c2, c3⟩ := J.ownH (.inr g4) g5
      exact ⟨a, g6, c1.mono rfl exv, (I.ownH g7 g6).2.1, c3⟩
    · have h : Slot1 s1 i d := by unfold Slot1 at h ⊢; rwa [setCells_out hk] at h
      obtain ⟨a, h1, h2, h3, _⟩ := I.own i d h
      obtain ⟨o, h4, h5⟩ := h2.there
      have no : ∀ q ∈ ioL σ ks (ioPos m 0), q.2 ≠ a := fun q hq z => by
        obtain ⟨t, k, e1, e2, e3⟩ := ioL_mem.mp (show (q.1, q.2) ∈ ioL σ ks (ioPos m 0) from hq)
        obtain ⟨_, d', a', _, _, _, e4, e5⟩ := r.lent (o := 0) e1
        rw [z] at e3
        exact hk (by rw [I.inj i k d d' a h e5 h1 e3]; exact List.mem_of_getElem? e1)
      have e2 : H2 a = H a := by
        rcases notL h4 no with q | ⟨ps, ps', q, _⟩
        · rw [q, h4]
        · subst q; exact h5.elim
      refine ⟨a, h1, h2.mono e2 (ex.trans exv), h3, fun z => ?_⟩
      obtain ⟨x0, _⟩ := J.xs a z
      have x0 : H a = none := x0
      rw [h4] at x0; cases x0
  · obtain ⟨d', g1⟩ := setCells_slot h1
    obtain ⟨e', g2⟩ := setCells_slot h2
    exact I.inj i j d' e' a g1 g2 h3 h4
  · obtain ⟨d', g1⟩ := setCells_slot (.inl h1)
    rcases g1 with g1 | g1
    · exact I.new i d' a g1 h2
    · exfalso
      by_cases hk : i ∈ ks
      · obtain ⟨t, n, d0, i', a, g3, g4, _⟩ := lentAt hk
        have z := (setCells_in (s := s1) nd g3 g4).2 _ g1
        rw [h1] at z; cases z
      · rw [setCells_out hk, g1] at h1; cases h1
  · obtain ⟨d, h1, h2⟩ := I.lent q hq
    by_cases hk : q.1 ∈ ks
    · obtain ⟨t, n, d0, i', a, g3, g4, _⟩ := lentAt hk
      exact ⟨n, (setCells_in (s := s1) nd g3 g4).2 _ h1, h2⟩
    · exact ⟨d, by rw [setCells_out hk]; exact h1, h2⟩
  · obtain ⟨d', g1⟩ := setCells_slot (.inr h)
    rcases g1 with g1 | g1
    · exfalso
      by_cases hk : i ∈ ks
      · obtain ⟨t, n, d0, i', a, g3, g4, _⟩ := lentAt hk
        have z := (setCells_in (s := s1) nd g3 g4).1 _ g1
        rw [h] at z; cases z
      · rw [setCells_out hk, g1] at h; cases h
    · exact I.lent2 i d' g1
  · obtain ⟨h1, h2, h3⟩ := J.xs a h
    have h1 : H a = none := h1
    exact ⟨I.new0 h1, I.noZ h1, h3⟩
  · have f1 := I.frame a o h1 h2
    have no : ∀ q ∈ ioL σ ks (ioPos m 0), q.2 ≠ a := fun q hq z => by
      obtain ⟨t, k, e1, e2, e3⟩ := ioL_mem.mp (show (q.1, q.2) ∈ ioL σ ks (ioPos m 0) from hq)
      obtain ⟨_, d', a', _, _, _, e4, e5⟩ := r.lent (o := 0) e1
      rw [z] at e3
      rcases e5 with e5 | e5
      · have := I.new k d' a e5 e3
        rw [h1] at this; cases this
      · obtain ⟨b, hb⟩ := I.lent2 k d' e5
        obtain ⟨_, _, g⟩ := I.lent _ hb
        rw [e3] at g; cases g
        exact h2 _ hb rfl
    rcases f1 with f1 | ⟨ps, ps', e, f1⟩
    · exact notL f1 no
    · rcases notL f1 no with q | ⟨_, ps'', _, q⟩
      · exact .inr ⟨ps, ps', e, q⟩
      · exact .inr ⟨ps, ps'', e, q⟩
/-- a name's own object is given out -/
theorem Rel.takeOw {i : Nat} {d : AL.D} {a : Addr} {s : S} (I : Rel B σ s none H) (hi : s[i]? = some (some (.ow d))) (ha : σ[i]? = some (some (V.ref a))) : Rel B σ (s.set i none) (some a) H ∧ hid B σ (s.set i none) (some a) H = hid B σ s none H ∧ OwnC B.K B.mg H (hid B σ s none H) a d := by
  have hil : i < s.length := (List.getElem?_eq_some_iff.mp hi).1
  obtain ⟨c, hz, _⟩ := I.ownH (.inl hi) ha
  have sl : ∀ {j : Nat} {e : AL.D}, Slot1 (s.set i none) j e → j ≠ i ∧ Slot1 s j e := fun {j e} h => by
    rcases slotS h with ⟨_, q, _⟩ | ⟨ne, h⟩
    · rcases q with q | q <;> cases q
    · exact ⟨ne, h⟩
  have view : hid B σ (s.set i none) (some a) H = hid B σ s none H := by
    funext b
    have e : (ownB σ (s.set i none) b || decide (some a = some b)) = ownB σ s b := by
      rw [Bool.eq_iff_iff, Bool.or_eq_true, ownB_iff, ownB_iff]
      constructor
      · rintro (⟨j, e, h1, h2⟩ | h)
        · exact ⟨j, e, h1, (sl h2).2⟩
        · have h := Option.some.inj (of_decide_eq_true h)
          subst h; exact ⟨i, d, ha, .inl hi⟩
      · rintro ⟨j, e, h1, h2⟩
        by_cases q : i = j
        · subst q; rw [ha] at h1; cases h1; right; simp
        · left; exact ⟨j, e, h1, by unfold Slot1 at h2 ⊢; rwa [List.getElem?_set_ne q]⟩
    unfold hid
    rw [Bool.or_assoc, e]
    simp
  refine ⟨⟨by simp [I.len], fun j e h => ?_, fun j e h => ?_, fun j k e f b h1 h2 => I.inj j k e f b (sl h1).2 (sl h2).2, fun j e b h1 h2 => ?_, fun q hq => ?_, fun j e h => ?_, fun b q => ?_, I.frame, I.tabs, I.zs, I.zio⟩, view, c⟩
  · rw [view]
    rcases setS h with ⟨_, q, _⟩ | ⟨_, h⟩
    · cases q
    · exact I.sh j e h
  · rw [view]
    obtain ⟨ne, h⟩ := sl h
    obtain ⟨b, h1, h2, h3, _⟩ := I.own j e h
    exact ⟨b, h1, h2, h3, fun z => ne (by cases z; exact I.inj j i e d a h (.inl hi) h1 ha)⟩
  · rcases setS h1 with ⟨_, q, _⟩ | ⟨_, h⟩
    · cases q
    · exact I.new j e b h h2
  · obtain ⟨e, h1, h2⟩ := I.lent q hq
    exact ⟨e, by rw [List.getElem?_set_ne (fun z => by rw [← z, hi] at h1; cases h1)]; exact h1, h2⟩
  · rcases setS h with ⟨_, q, _⟩ | ⟨_, h⟩
    · cases q
    · exact I.lent2 j e h
  · cases q
    obtain ⟨o, h, _⟩ := c.there
    exact ⟨I.new i d a hi ha, hz, o, h⟩
end
end AL


set_option Elab.async false
set_option linter.all false
set_option maxRecDepth 100000
set_option maxHeartbeats 1000000
/-! AL14: a def's promise by its body. -/
namespace AL
open PySem PySem.Spec PyProof.Rows L2
theorem argR_of {B : Bas} {σ : List (Option V)} {H : Hp} : ∀ {m : List Bool} {rs : List R} {vs : List V} {s s1 : S} {ods : List (Option AL.D)} {ks : List Nat}, Rel B σ s none H → Paired (RH B σ s H) rs vs → escArgs m rs s = .ok ods s1 → ioArgs m rs = some ks →
    Rel B σ s1 none H ∧ Le B σ s H s1 H ∧ ∀ cs, conts s1 ks = some cs → ArgR B.K B.mg (hid B σ s1 none H) σ s1 m vs (fill ods cs) ks cs
  | [], [], _, s, s1, ods, ks, I, .nil, e, k => by
    cases e
    refine ⟨I, Le.refl, fun cs h => ?_⟩
    cases k; cases h
    exact .nil
  | [], _ :: _, _, _, _, _, _, _, _, e, _ => by cases e
  | b :: m, [], _, _, _, _, _, _, _, e, _ => by cases b <;> cases e
  | true :: m, r :: rs, _, s, s1, ods, ks, I, .cons (b := v) (l₂ := vs) hr hs, e, k => by
    have e : ((escArgs m rs s).bind fun ds s1 => .ok (none :: ds) s1) = .ok ods s1 := e
    cases q : escArgs m rs s with
    | bad => rw [q] at e; cases e
    | exc c s2 => rw [q] at e; cases e
    | ok a s2 =>
      rw [q] at e; cases e
      cases r with
      | sh d => cases k
      | fr d => cases k
      | ob j =>
        have k : (ioArgs m rs).map (j :: ·) = some ks := k
        obtain ⟨ks', k1, k2⟩ := Option.map_eq_some_iff.mp k
        subst k2
        obtain ⟨I1, l1, h1⟩ := argR_of I hs q k1
        refine ⟨I1, l1, fun cs h => ?_⟩
        have hr : σ[j]? = some (some v) := hr
        unfold conts at h
        split at h
        · rename_i d ds hd hc
          cases h
          obtain ⟨a', z, _⟩ := I1.own j d (.inl hd)
          rw [hr] at z; cases z
          exact .io hr (.inl hd) (h1 _ hc)
        · rename_i d ds hd hc
          cases h
          obtain ⟨a', z, _⟩ := I1.own j d (.inr hd)
          rw [hr] at z; cases z
          exact .io hr (.inr hd) (h1 _ hc)
        · cases h
  | false :: m, r :: rs, _, s, s1, ods, ks, I, .cons (b := v) (l₂ := vs) hr hs, e, k => by
    have e : ((esc r s).bind fun d s1 => (escArgs m rs s1).bind fun ds s2 => .ok (some d :: ds) s2) = .ok ods s1 := e
    have k : ioArgs m rs = some ks := k
    cases q : esc r s with
    | bad => rw [q] at e; cases e
    | exc c s2 => rw [q] at e; cases e
    | ok d s2 =>
      rw [q] at e
      have e : ((escArgs m rs s2).bind fun ds s2 => .ok (some d :: ds) s2) = .ok ods s1 := e
      obtain ⟨I2, l2, dv⟩ := esc_ok I hr q
      cases q2 : escArgs m rs s2 with
      | bad => rw [q2] at e; cases e
      | exc c s3 => rw [q2] at e; cases e
      | ok a s3 =>
        rw [q2] at e; cases e
        obtain ⟨I3, l3, h3⟩ := argR_of I2 (Paired.mapP hs fun a b z => z.mono l2) q2 k
        exact ⟨I3, l2.trans l3, fun cs h => .sh (Dv.ext l3 dv) (h3 cs h)⟩
theorem ioCs_set {s : S} {i : Nat} {d : AL.D} (hi : s[i]? = some (some (.ow d))) : ∀ {pos : List Nat} {ns : List AL.D}, ioCs s pos = some ns → ioCs (s.set i none) pos = some ns
  | [], _, h => h
  | j :: pos, ns, e => by
    unfold ioCs at e ⊢
    split at e
    · rename_i d ds h1 h2
      cases e
      have ne : i ≠ j := fun z => by rw [z, h1] at hi; cases hi
      rw [List.getElem?_set_ne ne, h1, ioCs_set hi h2]
    · cases e
section
variable {P : Program} {w : World} {K : PySem.W.Frag} {mg : Str → Option Value} {base : Heap} {T : List (Addr × Str)}
theorem body_of {m : List Bool} {N : List Str} {f : S → Res Fl} {vs : List V} {H : Hp} {Q : VK} {E : XK} (hsp : spF K mg T (runF m N.length f) vs H Q E) :
    ∃ p : P0, p.T = T ∧ tS ⟨K, mg, p.H0, p.io, p.T, p.Z⟩ (fun cls d _ H => E cls d H) f { nx := fun _ H' => Q .non H', rt := Q } (L2.start N vs) H := by
  obtain ⟨H0, io, Z, σ, s, rs, W, I, hr, hl, hE, q⟩ := hsp
  unfold callD at q
  cases e1 : escArgs m rs s with
  | bad => rw [show escArgs (runF m N.length f).io rs s = .bad from e1] at q; exact q.elim
  | exc c s1 => exact absurd e1 escArgs_nexc
  | ok ods s1 =>
    rw [show escArgs (runF m N.length f).io rs s = .ok ods s1 from e1, bind_ok] at q
    cases e2 : ioArgs m rs with
    | none => rw [show ioArgs (runF m N.length f).io rs = none from e2] at q; exact q.elim
    | some ks =>
      rw [show ioArgs (runF m N.length f).io rs = some ks from e2] at q
      dsimp only at q
      obtain ⟨I1, l1, hA⟩ := argR_of I hr e1 e2
      cases e3 : conts s1 ks with
      | none => rw [e3] at q; exact q.elim
      | some cs =>
        rw [e3] at q
        dsimp only at q
        have r := hA cs e3
        by_cases nd : ks.Nodup
        · rw [if_pos nd] at q
          obtain ⟨L1, L2', L3⟩ := r.len
          have er : (runF m N.length f).run (fill ods cs) = outOf (ioPos m 0) (f (init m (fill ods cs) N.length)) := by
            show (if (fill ods cs).length = m.length then _ else _) = _
            rw [if_pos L2']
          rw [er] at q
          let B : Bas := ⟨K, mg, H0, io, T, Z⟩
          let B' := bIn B σ s1 m ks H
          refine ⟨⟨B'.H0, B'.io, B'.T, B'.Z⟩, rfl, init m (fill ods cs) N.length, I1.entry r nd, ?_⟩
          have vi := viewIn (N := N) I1 r
          have q : tR B W (relR B) σ s1 H (match outOf (ioPos m 0) (f (init m (fill ods cs) N.length)) with
              | .ret r ns => if ns.length = ks.length then retR r ks (setCells ks ns s1) else .bad
              | .exc c ns => if ns.length = ks.length then .exc c (setCells ks ns s1) else .bad
              | .bad => .bad) Q := tR_le l1 q
          show tRS B' _ (hid B' (L2.start N vs) (init m (fill ods cs) N.length) none H) _ _
          rw [vi]
          cases e4 : f (init m (fill ods cs) N.length) with
          | bad => rw [e4] at q; exact q.elim
          | exc c s2 =>
            rw [e4] at q
            unfold outOf at q
            dsimp only at q
            cases e5 : ioCs s2 (ioPos m 0) with
            | none => rw [e5] at q; exact q.elim
            | some ns =>
              rw [e5] at q
              dsimp only at q
              rw [if_pos ((ioCs_len e5).trans r.ks)] at q
              intro σ' H' J ex C hC
              obtain ⟨J1, x1⟩ := I1.exit r nd J e5 ex
              exact hE _ _ (q H' J1 (Ext.trans ex x1) C hC)
          | ok fl s2 =>
            rw [e4] at q
            cases fl with
            | bk => exact q.elim
            | ct => exact q.elim
            | nx =>
              unfold outOf at q
              dsimp only at q
              cases e5 : ioCs s2 (ioPos m 0) with
              | none => rw [e5] at q; exact q.elim
              | some ns =>
                rw [e5] at q
                dsimp only at q
                rw [if_pos ((ioCs_len e5).trans r.ks)] at q
                intro σ' H' J ex
                obtain ⟨J1, x1⟩ := I1.exit r nd J e5 ex
                exact show Q .non H' from tR_ok (v := V.non) (H' := H') q (show relR B σ _ H' (.sh .non) .non from ⟨J1, Dv.non⟩) (Ext.trans ex x1)
            | rt rr =>
              unfold outOf at q
              dsimp only at q
              cases e6 : outR rr (ioPos m 0) s2 with
              | none => rw [e6] at q; exact q.elim
              | some t =>
                cases e5 : ioCs s2 (ioPos m 0) with
                | none => rw [e6, e5] at q; exact q.elim
                | some ns =>
                  rw [e6, e5] at q
                  dsimp only at q
                  rw [if_pos ((ioCs_len e5).trans r.ks)] at q
                  intro σ' v H' hv ex
                  cases rr with
                  | sh d =>
                    cases e6
                    obtain ⟨J, dv⟩ := hv
                    obtain ⟨J1, x1⟩ := I1.exit r nd J e5 ex
                    exact tR_ok q (show relR B σ _ H' (.sh d) v from ⟨J1, Dv.ext x1 dv⟩) (Ext.trans ex x1)
                  | fr d =>
                    cases e6
                    obtain ⟨a, rfl, J, c⟩ := hv
                    obtain ⟨J1, x1⟩ := I1.exit r nd J e5 ex
                    exact tR_ok q (show relR B σ _ H' (.fr d) (.ref a) from ⟨a, rfl, J1, c.mono rfl x1⟩) (Ext.trans ex x1)
                  | ob i =>
                    obtain ⟨J, hi⟩ := hv
                    unfold outR at e6
                    dsimp only at e6
                    split at e6
                    · rename_i d hd
                      cases e6
                      obtain ⟨v', g1, g2⟩ := J.sh i d hd
                      rw [hi] at g1; cases g1
                      obtain ⟨J1, x1⟩ := I1.exit r nd J e5 ex
                      exact tR_ok q (show relR B σ _ H' (.sh d) v from ⟨J1, Dv.ext x1 g2⟩) (Ext.trans ex x1)
                    · rename_i d hd
                      cases e6
                      obtain ⟨a, g1, _⟩ := J.own i d (.inl hd)
                      rw [hi] at g1; cases g1
                      obtain ⟨J0, vw, c⟩ := J.takeOw hd hi
                      have ex0 : Ext (hid B σ s1 none H) (hid B' σ' (s2.set i none) (some a) H') := by rw [vw]; exact ex
                      obtain ⟨J1, x1⟩ := I1.exit r nd J0 (ioCs_set hd e5) ex0
                      have c1 : OwnC K mg H' (hid B' σ' (s2.set i none) (some a) H') a d := by rw [vw]; exact c
                      exact tR_ok q (show relR B σ _ H' (.fr d) (.ref a) from ⟨a, rfl, J1, c1.mono rfl x1⟩) (Ext.trans ex0 x1)
                    · rename_i d hd
                      obtain ⟨t', k1, k2⟩ := Option.map_eq_some_iff.mp e6
                      subst k2
                      obtain ⟨J1, x1⟩ := I1.exit r nd J e5 ex
                      obtain ⟨h1, h2⟩ := List.findIdx?_eq_some_iff_getElem.mp k1
                      have h3 : (ioPos m 0)[t']? = some i := by rw [List.getElem?_eq_getElem h1]; exact congrArg some (beq_iff_eq.mp h2.1)
                      have ht : t' < ks.length := by rw [← r.ks (o := 0)]; exact h1
                      have h4 : ks[t']? = some ks[t'] := List.getElem?_eq_getElem ht
                      obtain ⟨i', d', a, e1', e2', e3', e4', e5'⟩ := r.lent (o := 0) h4
                      rw [h3, Nat.zero_add] at e1'; cases e1'
                      have hm : (i, a) ∈ ioL σ ks (ioPos m 0) := ioL_mem.mpr ⟨t', _, h4, h3, e4'⟩
                      obtain ⟨_, _, g3⟩ := J.lent _ hm
                      rw [hi] at g3; cases g3
                      unfold retR at q
                      dsimp only at q
                      rw [h4] at q
                      exact tR_ok q (show relR B σ _ H' (.ob ks[t']) (.ref a) from ⟨J1, e4'⟩) (Ext.trans ex x1)
                    · cases e6
        · rw [if_neg nd] at q; exact q.elim
end
end AL


set_option Elab.async false
set_option linter.all false
set_option maxRecDepth 100000
set_option maxHeartbeats 2000000
/-! RP: str.replace of written texts, where a token is out. -/
namespace AL
open PySem PySem.Spec PyProof.Rows L2 CwR
section
variable {X : Cx} {p : P0} {W : WX} {e c : Expr} {st : Stmt} {es : List Expr} {rest body orelse : List Stmt} {pos pos' pos2 lpos cpos c0 c1 apos : Pos} {y z x : Str} {i j k : Nat} {te : TE} {ta : TA} {u : TS}
/-- x = ['y', ..]: behind it a token is out -/
theorem pss_lst1 (hN : X.N.Nodup) (hi : X.N[i]? = some x) (hx : Loc X.env.scope x) (hf : X.fn x = true ∨ X.env.scope.names.lookup x = some .local) (ha : PA X es ta) (h2 : PSsT X rest u) :
    PSs X (.Assign [.Name x pos'] (.List (.Constant (.str y) j cpos :: es) lpos) pos :: rest) (tSeq (tAsg (tLst (tCons (tC (.str y)) ta)) (gName i)) u) := by
  refine ⟨fun pins s σ H D I h => ?_⟩
  refine wpAny_execs_cons (wpAny_Assign_Name (wpAny_List_spliced ?_) rfl)
  show wpAny _ _ (spliced ((false, eval (.Constant (.str y) j cpos) X.env) :: backTo lpos (starEach es X.env))) _ _ s
  refine Calls.spliced_cons (Calls.Constant_str ?_)
  refine wpAny_mono (PySem.wpAny_toks (ha.run lpos pins { s with toks := s.toks + 1 } σ H _ (I.tok _) h)) (fun us s1 ⟨hk, xs, H1, I1, r1, z1, q1⟩ => ?_) fun _ _ z => z.2
  have hk : s.toks + 1 ≤ s1.toks := hk
  have z2 : (V.str y :: xs).length ≤ sizeLine := z1
  refine ⟨by rw [List.length_cons, ← r1.length]; exact z2, ?_⟩
  have hfr : H1 s1.heap.objs.size = none := I1.hok.fresh (Nat.le_refl _)
  have I2 : Inv X pins σ (upd H1 s1.heap.objs.size (.lst (V.str y :: xs))) { s1 with heap := s1.heap.push { cls := .type "list", data := .seq (Value.str y s.toks :: us).toArray } } :=
    I1.laid (t' := s1.toks) (fun b u e => Heap.get?_push_of_some _ e) (Nat.le_refl _) ⟨z2, Value.str y s.toks :: us, 0, .cons ⟨s.toks, rfl⟩ r1, Heap.get?_push_size _ rfl⟩
  refine wpAny_mono (PySem.wpAny_toks (store_ok (v := V.ref s1.heap.objs.size) (u := Value.ref s1.heap.objs.size) (Q := fun _ s2 => Inv X pins (σ.set i (some (V.ref s1.heap.objs.size))) (upd H1 s1.heap.objs.size (.lst (V.str y :: xs))) s2) I2 hN hi hx rfl (fun _ I3 => I3) hf)) (fun _ s2 q => ?_) fun _ _ z => z.2
  have hk2 : s1.toks ≤ s2.toks := q.1
  exact h2 pins s2 _ _ D (by omega) q.2 (q1 _ hfr)
abbrev DSsT (X : Cx) (p : P0) (W : WX) (st : List Stmt) (f : S → Res Fl) : Prop := PSsT X st (tS (bs X p) W f)
abbrev DST (X : Cx) (p : P0) (W : WX) (st : Stmt) (f : S → Res Fl) : Prop := PST X st (tS (bs X p) W f)
theorem PSsT.imp {t t' : TS} (h : PSsT X rest t) (hi : ∀ D σ H, t' D σ H → t D σ H) : PSsT X rest t' := fun pins s σ H D h0 I q => h pins s σ H D h0 I (hi _ _ _ q)
theorem PST.imp {t t' : TS} (h : PST X st t) (hi : ∀ D σ H, t' D σ H → t D σ H) : PST X st t' := fun pins s σ H D h0 I q => h pins s σ H D h0 I (hi _ _ _ q)
theorem seq_ok {f g : S → Res Fl} {D : Ends} {σ : List (Option V)} {H : Hp} (h : tS (bs X p) W (seqD f g) D σ H) : tS (bs X p) W f { D with nx := tS (bs X p) W g D } σ H := by
  obtain ⟨s, I, q⟩ := h
  refine ⟨s, I, ?_⟩
  unfold seqD at q
  cases e : f s with
  | bad => rw [e] at q; exact q
  | exc c s1 => rw [e] at q; exact q
  | ok a s1 =>
    rw [e] at q
    cases a with
    | nx => exact fun σ' H' I' x => ⟨s1, I', tRS_ext x q⟩
    | bk => exact q
    | ct => exact q
    | rt r => exact q
theorem dsst_cons {f g : S → Res Fl} (h1 : DST X p W st f) (h2 : DSsT X p W rest g) : DSsT X p W (st :: rest) (seqD f g) := PSsT.imp (psst_cons h1 h2) fun D σ H h => seq_ok h
theorem dst_if {t : S → Res Bool} {f g : S → Res Fl} (hc : DT X p W c t) (ha : DSsT X p W body f) (hb : DSsT X p W orelse g) : DST X p W (.If c body orelse pos) (fun s => (t s).bind fun b s1 => if b = true then f s1 else g s1) := by
  refine PST.imp (pst_if hc ha hb) fun D σ H h => tG_mono (tS_bind (rel := relE (bs X p)) h) fun b H1 ⟨b', s1, ⟨I1, eb⟩, V0, ex, q⟩ => ?_
  subst eb
  cases b with
  | true => exact iteT ⟨s1, I1, tRS_ext ex q⟩
  | false => exact iteF ⟨s1, I1, tRS_ext ex q⟩
/-- x.replace(y, z) -/
def replR (y z : Str) (r : R) (s : S) : Res R := match peek r s with
  | some (.str x) => if x.length + (x.length + 1) * z.length ≤ 16777216 then .ok (.sh (.str (Txt.replace x y z))) s else .bad
  | _ => .bad
theorem dst_retRepl {o : Expr} {f : S → Res R} (ho : DH X p W o f) (hyz : (y == z) = false) (hb : baseOk o = true) (hline : (apos.endLine == pos.line) = true) :
    DST X p W (.Return (some (.Call (.Attribute o "replace" apos) [.Constant (.str y) j c0, .Constant (.str z) k c1] [] pos)) pos2) (fun s => (f s).bind fun r s1 => (replR y z r s1).bind fun r2 s2 => .ok (.rt r2) s2) := by
  refine PST.imp (pst_ret (pet_replC (X := X) ho hyz rfl (base_ok hb) hline)) fun D σ H h => tG_mono (tS_bind (rel := relH (bs X p)) h) fun v H1 ⟨r, s1, ⟨I1, hr⟩, V0, ex, q⟩ => ?_
  unfold replR at q
  split at q
  · rename_i x e1
    obtain rfl := str_of (peek_sh I1 hr e1 rfl)
    split at q
    · rename_i c0
      exact ⟨x, rfl, c0, q σ (.str (Txt.replace x y z)) H1 ⟨I1, Dv.str _⟩ ex⟩
    · exact q.elim
  · exact q.elim
/-- x = ['y', ..] by data -/
theorem dss_tok {f : S → Res (List R)} {g : S → Res Fl} (hN : X.N.Nodup) (hi : X.N[i]? = some x) (hx : Loc X.env.scope x) (hf : X.fn x = true ∨ X.env.scope.names.lookup x = some .local) (ha : DA X p W es f) (h2 : DSsT X p W rest g) :
    DSs X p W (.Assign [.Name x pos'] (.List (.Constant (.str y) j cpos :: es) lpos) pos :: rest) (seqD (fun s => ((f s).bind fun rs s0 => (escs (.sh (.str y) :: rs) s0).bind fun ds s1 => if lineOk ds.length = true then newLst ds s1 else .bad).bind fun r s1 => setR i r s1) g) := by
  refine PSs.imp (pss_lst1 hN hi hx hf ha h2) fun D σ H h => ?_
  have h := seq_ok h
  obtain ⟨s, I, q⟩ := tS_bind (rel := relR (bs X p)) h
  refine ⟨s, I, tR_mono (tR_bind (rel := relL (bs X p)) q) fun xs H1 ⟨rs, s1, ⟨I1, hd⟩, l1, q1⟩ => ?_⟩
  obtain ⟨ds, s2, I2, l2, dvs, q2⟩ := tR_escs (B := bs X p) I1 (.cons (show RH (bs X p) σ s1 H1 (.sh (.str y)) (V.str y) from Dv.str y) hd) q1
  split at q2
  · rename_i c
    refine ⟨by rw [dvs.length]; exact of_decide_eq_true c, fun pp hp => ?_⟩
    obtain ⟨r, s3, hr, V0, ex, q3⟩ := newLst_ok I2 dvs q2 pp hp
    exact setR_ok hr ex q3
  · exact q2.elim
end
end AL


set_option Elab.async false
set_option linter.all false
set_option maxRecDepth 100000
set_option maxHeartbeats 2000000
/-! HX1: ends of walks while an exception is handled. -/
namespace HX
open PySem PySem.Spec PyProof.Rows L2 HotX
section
variable {prog : Program} {w : World} {A : Around} {E : Value → Shared → Prop} {s : Shared} {x1 : Addr}
theorem hot_up {h h' : Heap} (t : HotAt A x1 h) (k : ∀ o, h.get? x1 = some o → h'.get? x1 = some o) : HotAt A x1 h' := by
  obtain ⟨a, o, vs, e, d, c⟩ := t
  exact ⟨a, o, vs, k o e, d, c⟩
/-- StopIteration is made and raised -/
theorem stop_hot {α : Type} {Q : α → Shared → Prop} (hot : HotAt A x1 s.heap)
    (fin : ∀ hp e, (∀ b o, s.heap.get? b = some o → hp.get? b = some o) → (∃ o, hp.get? e = some o ∧ o.cls = .type "StopIteration") → E (.ref e) { s with heap := hp }) :
    wpAny (model prog w) A ((newExc (.type "StopIteration") [] >>= fun e => raiseNew e) : Sem α) Q E s := by
  obtain ⟨hh, o1, vs1, e1, d1, c1⟩ := hot
  refine wpAny_bind ?_
  simp only [newExc, newTuple]
  refine wpAny_bind (wpAny_newObj_type ?_ (by size_fits))
  refine wpAny_bind (m := firstArgMember _ _) (wpAny_of_eq (a := Value.none) (by first | rfl | (simp only [firstArgMember]; rfl)) ?_)
  refine wpAny_newObj_type ?_ (by size_fits)
  refine raiseNew_hot ⟨hh, o1, vs1, Heap.get?_push_of_some _ (Heap.get?_push_of_some _ e1), d1, c1⟩ (Nat.ne_of_lt (Heap.lt_size (Heap.get?_push_of_some _ e1))) (Heap.get?_push_size _ rfl) rfl (by first | (simp; done) | (simp; omega) | (simp only [Array.size_append]; simp; omega)) ?_
  refine fin _ _ (fun b o e => ?_) ⟨_, Heap.get?_update_self _ (Heap.get?_push_size _ rfl) rfl, rfl⟩
  rw [Heap.get?_update_other _ _ (Nat.ne_of_gt (Heap.lt_size (Heap.get?_push_of_some _ e)))]
  exact Heap.get?_push_of_some _ (Heap.get?_push_of_some _ e)
theorem nextOf_list_hot {it l : Addr} {i : Nat} {items : Array Value} {Q : Value → Shared → Prop} (hot : HotAt A x1 s.heap) (nx : x1 ≠ it) (hit : s.heap.IsListIter it l i) (hl : s.heap.IsList l items) (hx : items[i]? = none)
    (fin : ∀ hp e, Heap.ExtBut it s.heap hp → (∃ o, hp.get? e = some o ∧ o.cls = .type "StopIteration") → E (.ref e) { s with heap := hp }) : wpAny (model prog w) A (Builtin.SmallTypes.nextOf (.ref it)) Q E s := by
  obtain ⟨o, ho, hc, hd⟩ := id hit
  obtain ⟨ol, hol, _, nl, hdl⟩ := hl
  unfold Builtin.SmallTypes.nextOf
  refine wpAny_bind (wpAny_callSpecial?_slot (name := Str.ofString "__next__") hit.typeIs slot_listiter_next (wpAny_call_entry slot_listiter_next hit.typeIs entry_listiter_next ?_ (args_listiter_next _)))
  show wpAny _ _ (field (.ref it) 0 >>= _) _ _ s
  refine wpAny_bind (wpAny_field ho hd (x := .ref l) rfl ?_)
  show wpAny _ _ (if (Value.ref l == Value.none) = true then _ else _) _ _ s
  rw [if_neg (show ¬ ((Value.ref l == Value.none) = true) from Bool.false_ne_true)]
  show wpAny _ _ (field (.ref it) 1 >>= _) _ _ s
  refine wpAny_bind (wpAny_field ho hd (x := .int i 0) rfl ?_)
  show wpAny _ _ (seqItems? (.ref l) >>= _) _ _ s
  refine wpAny_bind (wpAny_seqItems hol hdl ?_)
  simp only [Int.toNat_natCast, hx]
  refine wpAny_bind (wpAny_rule (wpAny_bind (wpAny_setField ho hd (by simp) ?_)))
  refine stop_hot (hot_up hot fun o e => (Heap.SameBut.update ..).extBut _ _ nx e) fun hp e k st => fin hp e (fun b o hb q => k b o ((Heap.SameBut.update ..).extBut b o hb q)) st
theorem zipNext_hot {z TI TO i1 i2 l1 l2 : Addr} {k1 k2 : Nat} {xs ys : Array Value} {a b : Value} {Q : Fin → Shared → Prop} (hot : HotAt A x1 s.heap) (nz : x1 ≠ z) (nT : x1 ≠ TO) (n1 : x1 ≠ i1) (n2 : x1 ≠ i2) (D : ZipApart z TI TO i1 i2 l1 l2)
    (hz : IsZip s.heap z TI TO .none) (hTI : IsPair s.heap TI (.ref i1) (.ref i2)) (hTO : IsPair s.heap TO a b) (h1 : s.heap.IsListIter i1 l1 k1) (h2 : s.heap.IsListIter i2 l2 k2) (hl1 : s.heap.IsList l1 xs) (hl2 : s.heap.IsList l2 ys) (hend : xs[k1]? = none ∨ ys[k2]? = none)
    (fin : ∀ hp e, (∀ c o, c ≠ z → c ≠ TO → c ≠ i1 → c ≠ i2 → s.heap.get? c = some o → hp.get? c = some o) → (∃ o, hp.get? e = some o ∧ o.cls = .type "StopIteration") → E (.ref e) { s with heap := hp }) : wpAny (model prog w) A (Builtin.«zip.__next__» ⟨[.ref z], []⟩) Q E s := by
  show wpAny _ _ (field (.ref z) 2 >>= _) _ _ _
  refine wpAny_bind (wpAny_field hz rfl (x := .bool false) rfl ?_)
  show wpAny _ _ (field (.ref z) 3 >>= _) _ _ _
  refine wpAny_bind (wpAny_field hz rfl (x := .ref TI) rfl (wpAny_bind (wpAny_seqItems hTI rfl ?_)))
  show wpAny _ _ (Builtin.SmallTypes.ownedTupleIsFree (.ref z) >>= _) _ _ _
  refine wpAny_bind ?_
  unfold Builtin.SmallTypes.ownedTupleIsFree
  refine wpAny_bind (wpAny_field hz rfl (x := .none) rfl (wpAny_pure ?_))
  simp only [if_true]
  refine wpAny_bind (wpAny_rule (wpAny_bind (wpAny_field hz rfl (x := .ref TO) rfl (wpAny_bind (wpAny_setField_rec hz (by simp) fun h₁ hz₁ hs₁ => ?_)))))
  replace hz₁ : IsZip h₁ z TI TO .ellipsis := hz₁
  refine wpAny_bind ?_
  simp only [List.zipIdx_cons, List.zipIdx_nil, List.forIn_cons, List.forIn_nil]
  refine wpAny_bind (wpAny_bind (wpAny_onRaise ?_))
  show wpAny _ _ (Builtin.SmallTypes.nextOf (.ref i1) >>= _) _ _ _
  have hot1 : HotAt A x1 h₁ := hot_up hot fun o e => hs₁.extBut _ _ nz e
  cases hx : xs[k1]? with
  | none =>
    refine wpAny_bind (nextOf_list_hot hot1 n1 (h1.extBut hs₁.extBut D.i1z) (hl1.extBut hs₁.extBut D.l1z) hx fun h₂ e hs₂ he => ?_)
    obtain ⟨oe, hoe, hce⟩ := he
    have g₂ : IsZip h₂ z TI TO .ellipsis := hs₂ _ _ D.i1z.symm hz₁
    have ez : e ≠ z := fun q => by subst q; rw [g₂] at hoe; cases hoe; simp at hce
    exact wpAny_setField_rec g₂ (by simp) fun h₃ _ hs₃ => fin h₃ e (fun c o c1 _ c3 _ q => hs₃.extBut _ _ c1 (hs₂ _ _ c3 (hs₁.extBut _ _ c1 q))) ⟨oe, hs₃.extBut _ _ ez hoe, hce⟩
  | some x =>
    have hy : ys[k2]? = none := by rcases hend with h | h; rw [hx] at h; cases h; exact h
    refine wpAny_bind (wpAny_nextOf_list_item (h1.extBut hs₁.extBut D.i1z) (hl1.extBut hs₁.extBut D.l1z) hx fun h₂ h1₂ hs₂ => wpAny_pure ?_)
    have g₂ : IsPair h₂ TO a b := hs₂.extBut _ _ D.TOi1 (hs₁.extBut _ _ D.TOz hTO)
    refine wpAny_bind (wpAny_seqItems g₂ rfl (wpAny_bind (wpAny_updateSeq_pair g₂ fun h₃ hTO₃ hs₃ => wpAny_bind (wpAny_letGo (wpAny_pure (wpAny_bind (wpAny_bind (wpAny_onRaise ?_))))))))
    show wpAny _ _ (Builtin.SmallTypes.nextOf (.ref i2) >>= _) _ _ _
    have hot3 : HotAt A x1 h₃ := hot_up hot1 fun o e => hs₃.extBut _ _ nT (hs₂.extBut _ _ n1 e)
    refine wpAny_bind (nextOf_list_hot hot3 n2 (((h2.extBut hs₁.extBut D.i2z).extBut hs₂.extBut D.i12.symm).extBut hs₃.extBut D.TOi2.symm) (((hl2.extBut hs₁.extBut D.l2z).extBut hs₂.extBut D.l2i1).extBut hs₃.extBut D.l2TO) hy fun h₄ e hs₄ he => ?_)
    obtain ⟨oe, hoe, hce⟩ := he
    have g₄ : IsZip h₄ z TI TO .ellipsis := hs₄ _ _ D.i2z.symm (hs₃.extBut _ _ D.TOz.symm (hs₂.extBut _ _ D.i1z.symm hz₁))
    have ez : e ≠ z := fun q => by subst q; rw [g₄] at hoe; cases hoe; simp at hce
    exact wpAny_setField_rec g₄ (by simp) fun h₅ _ hs₅ => fin h₅ e (fun c o c1 c2 c3 c4 q => hs₅.extBut _ _ c1 (hs₄ _ _ c4 (hs₃.extBut _ _ c2 (hs₂.extBut _ _ c3 (hs₁.extBut _ _ c1 q))))) ⟨oe, hs₅.extBut _ _ ez hoe, hce⟩
theorem pyNext_zip_hot {z TI TO i1 i2 l1 l2 : Addr} {k1 k2 : Nat} {xs ys : Array Value} {a b : Value} {Q : Option Value → Shared → Prop} (hot : HotAt A x1 s.heap) (nz : x1 ≠ z) (nT : x1 ≠ TO) (n1 : x1 ≠ i1) (n2 : x1 ≠ i2) (D : ZipApart z TI TO i1 i2 l1 l2)
    (hz : IsZip s.heap z TI TO .none) (hTI : IsPair s.heap TI (.ref i1) (.ref i2)) (hTO : IsPair s.heap TO a b) (h1 : s.heap.IsListIter i1 l1 k1) (h2 : s.heap.IsListIter i2 l2 k2) (hl1 : s.heap.IsList l1 xs) (hl2 : s.heap.IsList l2 ys) (hend : xs[k1]? = none ∨ ys[k2]? = none)
    (fin : ∀ hp, (∀ c o, c ≠ z → c ≠ TO → c ≠ i1 → c ≠ i2 → s.heap.get? c = some o → hp.get? c = some o) → Q none { s with heap := hp }) : wpAny (model prog w) A (pyNext (.ref z)) Q E s := by
  have hT : s.TypeIs (.ref z) "zip" := ⟨_, hz, rfl⟩
  unfold pyNext
  refine wpAny_bind (wpAny_attempt (wpAny_callSpecial?_slot (name := Str.ofString "__next__") hT F.slot_zip_next (wpAny_call_entry F.slot_zip_next hT F.entry_zip_next
    (zipNext_hot hot nz nT n1 n2 D hz hTI hTO h1 h2 hl1 hl2 hend fun hp e hk ⟨o, ho, hc⟩ => wpAny_bind (wpAny_isInstance (T := "StopIteration") (b := true) ⟨o, ho, hc⟩ isSubtype_stop (wpAny_pure (fin _ hk)))) (F.args_zip_next_1 _))))
theorem next_tuple_hot {it t : Addr} {i : Nat} {items : Array Value} {Q : Option Value → Shared → Prop} (hot : HotAt A x1 s.heap) (nx : x1 ≠ it) (hit : IsTupIter s.heap it t i) (ht : IsTup s.heap t items) (hx : items[i]? = none)
    (fin : ∀ hp, Heap.ExtBut it s.heap hp → Q none { s with heap := hp }) : wpAny (model prog w) A (pyNext (.ref it)) Q E s := by
  obtain ⟨o, ho, hc, hd⟩ := id hit
  obtain ⟨ol, hol, _, nl, hdl⟩ := ht
  unfold pyNext
  refine wpAny_bind (wpAny_attempt (wpAny_callSpecial?_slot (name := Str.ofString "__next__") hit.typeIs slot_tupleiter_next (wpAny_call_entry slot_tupleiter_next hit.typeIs entry_tupleiter_next ?_ (args_tupleiter_next _))))
  show wpAny _ _ (field (.ref it) 0 >>= _) _ _ s
  refine wpAny_bind (wpAny_field ho hd (x := .ref t) rfl ?_)
  show wpAny _ _ (if (Value.ref t == Value.none) = true then _ else _) _ _ s
  rw [if_neg (show ¬ ((Value.ref t == Value.none) = true) from Bool.false_ne_true)]
  show wpAny _ _ (field (.ref it) 1 >>= _) _ _ s
  refine wpAny_bind (wpAny_field ho hd (x := .int i 0) rfl ?_)
  show wpAny _ _ (seqItems? (.ref t) >>= _) _ _ s
  refine wpAny_bind (wpAny_seqItems hol hdl ?_)
  simp only [Int.toNat_natCast, hx]
  refine wpAny_bind (wpAny_rule (wpAny_bind (wpAny_setField ho hd (by simp) ?_)))
  refine stop_hot (hot_up hot fun o e => (Heap.SameBut.update ..).extBut _ _ nx e) fun hp e k ⟨oe, he, hce⟩ => wpAny_bind (wpAny_isInstance (T := "StopIteration") (b := true) ⟨oe, he, hce⟩ isSubtype_stop (wpAny_pure (fin hp fun b o hb q => k b o ((Heap.SameBut.update ..).extBut b o hb q))))
theorem assignT_hot {env : Env} {elts : List Expr} {kk : Nat} {pos : Pos} {t : Addr} {items : Array Value} {Q : Unit → Shared → Prop} (hot : HotAt A x1 s.heap) (ht : IsTup s.heap t items) (hn : (assignEach elts env).length = items.size) (hstar : (assignEach elts env).findIdx? (·.1) = none)
    (fin : ∀ hp, Heap.ExtBut s.heap.objs.size s.heap hp → wpAny (model prog w) A (assignInOrder ((assignEach elts env).map (·.2)) items.toList) Q E { s with heap := hp }) : wpAny (model prog w) A (assign (.Tuple elts kk pos) env (.ref t)) Q E s := by
  rw [assign_Tuple]
  refine wpAny_bind (wpAny_standAt ?_)
  unfold unpack
  rw [hn, hstar]
  refine wpAny_bind (wpAny_holding ?_)
  have hlt : t ≠ s.heap.objs.size := by obtain ⟨o, ho, _⟩ := ht; exact Nat.ne_of_lt (Heap.lt_size ho)
  have nx : x1 ≠ s.heap.objs.size := by obtain ⟨_, o, vs, e, _⟩ := hot; exact Nat.ne_of_lt (Heap.lt_size e)
  unfold unpackItems
  refine wpAny_bind ?_
  unfold notIterableAtAll
  refine wpAny_bind (wpAny_specialOf ht.typeIs slot_tuple_iter.lookup (wpAny_pure ?_))
  simp only [Bool.false_eq_true, if_false]
  refine wpAny_bind (wpAny_holding (iter_tuple ht (wpAny_bind (wpAny_holding (draw_tuple hlt items.size 0 _ _ ⟨_, Heap.get?_push_size _ rfl, rfl, rfl⟩ (ht.push _) (by omega) fun h₁ hit₁ hs₁ => ?_)))))
  have hall : List.take items.size (List.drop 0 items.toList) = items.toList := by rw [List.drop_zero]; exact List.take_of_length_le (by simp)
  rw [hall, if_neg (by simp)]
  have ht₁ : IsTup h₁ t items := (ht.push _).extBut hs₁.extBut hlt
  have hot₁ : HotAt A x1 h₁ := hot_up hot fun o e => hs₁.extBut _ _ nx (Heap.get?_push_of_some _ e)
  refine wpAny_bind (wpAny_holding (next_tuple_hot hot₁ nx hit₁ ht₁ (by simp) fun h₂ he₂ => ?_))
  simp only [Option.isSome_none, Bool.false_eq_true, if_false]
  exact wpAny_pure (fin h₂ fun b o hb e => he₂ b o hb (hs₁.extBut b o hb (Heap.get?_push_of_some _ e)))
end
end HX


set_option Elab.async false
set_option linter.all false
set_option maxRecDepth 100000
set_option maxHeartbeats 4000000
/-! HX2: zip, tuple targets and list comprehensions while an exception is handled. -/
namespace HX
open PySem PySem.Spec PyProof.Rows L2 HotX L2H
theorem turn_zipH {P : Program} {w : World} {K : PySem.W.Frag} {elts : List Expr} {kk : Nat} {tpos : Pos} {a b z TI TO i1 i2 : Addr} (D : ZipApart z TI TO i1 i2 a b) :
    TurnH P w K (.Tuple elts kk tpos) (Itz K a b) [z, TI, TO, i1, i2] z (fun i h => IsZip h z TI TO .none ∧ IsPair h TI (.ref i1) (.ref i2) ∧ (∃ x y, IsPair h TO x y) ∧ h.IsListIter i1 a i ∧ h.IsListIter i2 b i) where
  mem := by simp
  obj := fun i h st c hc => (turn_zip (P := P) (w := w) (K := K) (elts := elts) (kk := kk) (tpos := tpos) D).obj i h st c hc
  keep := fun i h h' st k => (turn_zip (P := P) (w := w) (K := K) (elts := elts) (kk := kk) (tpos := tpos) D).keep i h h' st k
  item := by
    intro X hP hw hK hc i pins s σ H E I hf st hg
    subst hP hw hK
    obtain ⟨gz, gTI, ⟨x0, y0, gTO⟩, g1, g2⟩ := st
    obtain ⟨xs, ys, x, y, hqx, hqy, hx, hy⟩ := hg
    obtain ⟨ia, ra, pa, _⟩ := I.list hqx
    obtain ⟨ib, rb, pb, _⟩ := I.list hqy
    obtain ⟨u, hu, ru⟩ := ra.get hx
    obtain ⟨v, hv, rv⟩ := rb.get hy
    have zl : z < s.heap.objs.size := Heap.lt_size gz
    refine wpAny_pyNext_zip_item D gz gTI gTO g1 g2 pa.isList pb.isList (x := u) (y := v) (by simpa using hu) (by simpa using hv) fun k z' TO' a' b' hT hsz hk => ?_
    refine ⟨_, rfl, wpAny_letOwnedTupleGo_zip (s := { s with heap := k }) z' fun k2 z'' sb => ?_⟩
    have hT2 : k2.get? s.heap.objs.size = some { cls := .type "tuple", data := .seq #[u, v] } := (sb.2 _ (Nat.ne_of_gt zl)).trans hT
    have new : ObjOk X.prog X.w (upd H s.heap.objs.size (.tup [x, y])) k2 s.heap.objs.size (.tup [x, y]) := ⟨by show 2 ≤ sizeLine; decide, [u, v], .cons ru (.cons rv .nil), ⟨_, hT2, rfl, _, rfl⟩⟩
    have I1 : Inv X pins σ (upd H s.heap.objs.size (.tup [x, y])) { s with heap := k2 } :=
      I.turnedNew (t' := s.toks) (ch := [z, TI, TO, i1, i2]) (fun c o nb q => (sb.2 c (fun e => nb (by simp [e]))).trans (hk c o (fun e => nb (by simp [e])) (fun e => nb (by simp [e])) (fun e => nb (by simp [e])) (fun e => nb (by simp [e])) q)) hf (Nat.le_refl _) new
    refine ⟨.ref s.heap.objs.size, _, I1, rfl, ⟨_, x, y, rfl, I.hok.fresh (Nat.le_refl _), rfl, fun l hl => by rw [I.list_inj hl hqx]; exact hx, fun l hl => by rw [I.list_inj hl hqy]; exact hy⟩,
      ⟨z'', (sb.2 _ D.TIz).trans (hk _ _ D.TIz D.TITO D.TIi1 D.TIi2 gTI), ⟨u, v, (sb.2 _ D.TOz).trans TO'⟩, a'.at fun o q => (sb.2 _ D.i1z).trans q, b'.at fun o q => (sb.2 _ D.i2z).trans q⟩, fun c hcm => ?_⟩
    have lt : c < s.heap.objs.size := by
      have e' : c = z ∨ c = TI ∨ c = TO ∨ c = i1 ∨ c = i2 := by simpa using hcm
      rcases e' with rfl | rfl | rfl | rfl | rfl
      · exact zl
      · exact Heap.lt_size gTI
      · exact Heap.lt_size gTO
      · obtain ⟨_, e1, _⟩ := g1; exact Heap.lt_size e1
      · obtain ⟨_, e2, _⟩ := g2; exact Heap.lt_size e2
    rw [upd_ne (Nat.ne_of_lt lt)]
    exact (hf c hcm).1
  done := by
    intro X hP hw hK hc i pins s σ H E I hf st hg
    subst hP hw hK
    obtain ⟨gz, gTI, ⟨x0, y0, gTO⟩, g1, g2⟩ := st
    obtain ⟨xs, ys, hqx, hqy, hend⟩ := hg
    obtain ⟨ia, ra, pa, _⟩ := I.list hqx
    obtain ⟨ib, rb, pb, _⟩ := I.list hqy
    have l1 := ra.length
    have l2 := rb.length
    have he : ia.toArray[i]? = none ∨ ib.toArray[i]? = none := hend.elim (fun q => .inl (by simp; omega)) fun q => .inr (by simp; omega)
    obtain ⟨p, ⟨hh, v1, e1, c1⟩, hp⟩ := hc
    have hot : HotAt X.A p.1 s.heap := ⟨hh, p.2, v1, (I.pin p (List.mem_append_left _ hp)).1, e1, c1⟩
    have ne : ∀ c, c ∈ [z, TI, TO, i1, i2] → p.1 ≠ c := fun c hcm => (hf c hcm).2.2.2.2.2 p (List.mem_append_left _ hp)
    exact pyNext_zip_hot hot (ne z (by simp)) (ne TO (by simp)) (ne i1 (by simp)) (ne i2 (by simp)) D gz gTI gTO g1 g2 pa.isList pb.isList he fun k hk => ⟨rfl, I.turnedL (t' := s.toks) (ch := [z, TI, TO, i1, i2]) (fun c o nb q =>
      hk c o (fun e => nb (by simp [e])) (fun e => nb (by simp [e])) (fun e => nb (by simp [e])) (fun e => nb (by simp [e])) q) hf⟩
  self := fun A i s Q E st h => wpAny_pyIter_zip st.1 h
theorem pi_zipH {X : Cx} {e e2 : Expr} {ta : TA} {p pos tpos : Pos} {elts : List Expr} {kk : Nat} (hg : Gl X "zip") (hm : X.mg "zip" = none) (ha : PA X [e, e2] ta) (hs : starEach [e, e2] X.env = (false, eval e X.env) :: starEach [e2] X.env) (hpl : (backTo pos (starEach [e2] X.env)).any (·.1) = false) :
    PIH X (.Tuple elts kk tpos) (.Call (.Name "zip" p) [e, e2] [] pos) (iZip X.K ta) := by
  refine ⟨fun pins s σ H R I h => Call_ (ld_blt I hg hm PyProof.Rows.boot_zip (PyProof.Rows.callWith_type1 (thn (ha.run pos pins s σ H _ I h) fun us s1 ⟨vs, H1, I1, r1, q1⟩ => ?_) hs hpl))⟩
  obtain ⟨a, b, xs, ys, ex, hqx, hqy, q⟩ := q1
  subst ex
  cases r1 with
  | cons r rr =>
    cases rr with
    | cons r' rr =>
      cases rr; cases r; cases r'
      obtain ⟨ia, ra, pa, _⟩ := I1.list hqx
      obtain ⟨ib, rb, pb, _⟩ := I1.list hqy
      refine call_zip_2 pa.isList pb.isList fun k hz hTI hTO h1 h2 hsz hk => wpAny_pyIter_zip hz ⟨s1.heap.objs.size + 4, [s1.heap.objs.size + 4, s1.heap.objs.size + 2, s1.heap.objs.size + 3, s1.heap.objs.size, s1.heap.objs.size + 1], _, _, H1, rfl, I1.kept (t' := s1.toks) hk,
        turn_zipH (PySem.W.ktu_apart s1.heap.objs.size a b pa.lt pb.lt), ⟨hz, hTI, ⟨_, _, hTO⟩, h1, h2⟩, fun c hcm => ?_, q⟩
      have le : s1.heap.objs.size ≤ c := by
        have e' : c = s1.heap.objs.size + 4 ∨ c = s1.heap.objs.size + 2 ∨ c = s1.heap.objs.size + 3 ∨ c = s1.heap.objs.size ∨ c = s1.heap.objs.size + 1 := by simpa using hcm
        rcases e' with z | z | z | z | z <;> rw [z] <;> first | exact Nat.le_refl _ | exact Nat.le_add_right _ _
      exact I1.fpOk le (I1.hok.fresh le)
theorem pg_tupH {X : Cx} {es : List Expr} {k : Nat} {t : TGs} {n : Nat} {pos : Pos} (hc : HotC X) (h : PGs X es t) (hn : (assignEach es X.env).length = n) (hst : (assignEach es X.env).findIdx? (·.1) = none) : PG X (.Tuple es k pos) (gTup X.K n t) := by
  refine ⟨fun pins s σ H v u Q I r hw => ?_⟩
  obtain ⟨a, xs, e1, hq, hl, hw⟩ := hw
  subst e1
  cases r
  obtain ⟨ia, ra, pa, _⟩ := I.tuple hq
  obtain ⟨x1, hot⟩ := hc.at I
  refine assignT_hot hot pa (by simp [hn, ← hl, ra.length]) hst fun k hx => ?_
  exact h.run pins _ σ H xs _ Q (I.kept (t' := s.toks) fun b o e => hx b o (Nat.ne_of_lt (Heap.lt_size e)) e) (by simpa using ra) hw
/-- a comprehension's block there -/
abbrev blkH (X : Cx) (s : Shared) (H : Hp) (scope : Scope) (cenv : Env) (fp : List Addr) : Cx := { X.blk s H scope cenv fp with pn := X.pn }
theorem blkH_hot {X : Cx} {s : Shared} {H : Hp} {scope : Scope} {cenv : Env} {fp : List Addr} (h : HotC X) : HotC (blkH X s H scope cenv fp) := h
theorem blockH {X : Cx} {pins : List (Addr × Obj)} {σ : L2.St} {H : Hp} {s : Shared} {scope : Scope} {own : List (Str × Nat)} {fp : List Addr} (I : Inv X pins σ H s) (ok : BlkOk X.N X.env.scope scope own) (hN : X.N.Nodup) (hfp : ∀ b ∈ fp, FpOk X pins H b ∧ b < s.heap.objs.size) :
    Inv (blkH X s H scope (compEnvC scope (cellsFrom (s.heap.objs.size + 1) scope.names (cloFrom X.env.cells scope.names [])) s.heap.objs.size X.env) fp) [] (wipe σ (own.map (·.2))) H { s with heap := pushCells (s.heap.push { cls := .type "dict", data := .dict #[] }) scope.names } := by
  have B := block_start I ok hN hfp
  obtain ⟨o1, o2, o3, o4, o5, o6, o7, o8, o9, o10, o11, o12, o13, o14, o15, o16, o17, o18⟩ := B.ok
  refine ⟨⟨o1, o2, o3, o4, o5, o6, o7, o8, o9, o10, o11, o12, o13, o14, o15, o16, o17, o18⟩, B.os, B.bare, B.base, B.loc, B.cell, B.free, B.freeC, fun q hq => ?_, B.hok, B.len⟩
  have hq : q ∈ X.pn ++ ([] : List (Addr × Obj)) := hq
  rw [List.append_nil] at hq
  obtain ⟨p1, p2, p3, p4, p5⟩ := I.pin q (List.mem_append_left _ hq)
  exact ⟨pushCells_keeps _ _ _ _ (Heap.get?_push_of_some _ p1), p2, Nat.ne_of_lt (Heap.lt_size p1), fun m => (List.mem_cons.mp (I.stkSub q.1 m)).elim p3 p4, p5⟩
/-- [elt for target in iter if ..] there -/
theorem pe_lcH {X : Cx} {elt tg iter : Expr} {ifs : List Expr} {scope : Scope} {own : List (Str × Nat)} {pos : Pos} {wi : TI} {g : TG} {tt : TT} {te : TE} (hc : HotC X) (hN : X.N.Nodup) (hi : PIH X tg iter wi) (ok : BlkOk X.N X.env.scope scope own)
    (hg : ∀ (s : Shared) (H : Hp) (C : Addr) (cl : List (Str × Addr)) (fp : List Addr), PG (blkH X s H scope (compEnvC scope cl C X.env) fp) tg g) (ht : ∀ (s : Shared) (H : Hp) (C : Addr) (cl : List (Str × Addr)) (fp : List Addr), PTs (blkH X s H scope (compEnvC scope cl C X.env) fp) ifs tt)
    (he : ∀ (s : Shared) (H : Hp) (C : Addr) (cl : List (Str × Addr)) (fp : List Addr), PE (blkH X s H scope (compEnvC scope cl C X.env) fp) elt te) (hs : ∀ x, foldedSetIterable iter X.env x = pure x) :
    PE X (.ListComp elt [⟨tg, iter, ifs, 0⟩] scope pos) (tLc wi g tt te (own.map (·.2))) := by
  refine ⟨fun pins s σ H Q I h => ?_⟩
  rw [eval_ListComp]
  have hfree : ∀ y ∈ scope.names, y.2 = .free → ∃ c, X.env.cells.lookup y.1 = some c := fun y hy e => (ok.free y hy e).elim (fun k => I.ok.has _ (.inl k)) fun k => I.ok.has _ (.inr k)
  refine wpAny_comprehension_free (use := none) rfl hs (closure_ok hfree) ok.kind (fun y hy e => by rw [ok.uniq y hy, e]) (thn (hi.run pins s σ H _ I h) fun xv s1 hx => thn hx fun itv s2 h2 => ?_)
  obtain ⟨it, fp, tn, J, H2, e, I2, T, st2, f2, q⟩ := h2
  subst e
  refine wpAny_newObj_type (newEnv_comp ?_) (by show 0 ≤ sizeLine; decide)
  generalize hD : s2.heap.objs.size = D
  have hDn : H2 D = none := I2.hok.fresh (Nat.le_of_eq hD)
  obtain ⟨W, ⟨m0, w0⟩, turn⟩ := q D hDn
  generalize hs3 : ({ s2 with heap := s2.heap.push { cls := .type "list", data := .seq ([] : List Value).toArray } } : Shared) = s3
  have I3 : Inv X pins σ (upd H2 D (.lst [])) s3 := by
    subst hs3
    exact I2.laid (t' := s2.toks) (fun b o e => Heap.get?_push_of_some _ e) (Nat.le_of_eq hD) ⟨Nat.zero_le _, [], 0, .nil, by rw [← hD]; exact Heap.get?_push_size _ rfl⟩
  have h3 : s3.heap = s2.heap.push { cls := .type "list", data := .seq ([] : List Value).toArray } := by rw [← hs3]
  have f3 : ∀ b ∈ fp, FpOk X pins (upd H2 D (.lst [])) b ∧ b < s3.heap.objs.size := fun b hb => by
    obtain ⟨o, ob, _⟩ := T.obj _ _ st2 b hb
    have lt := Heap.lt_size ob
    exact ⟨⟨by rw [upd_ne (by rw [← hD]; exact Nat.ne_of_lt lt)]; exact (f2 b hb).1, (f2 b hb).2⟩, by rw [h3, Heap.size_push]; exact Nat.lt_succ_of_lt lt⟩
  have st3 : tn 0 s3.heap := T.keep _ _ _ st2 fun b _ o e => by rw [h3]; exact Heap.get?_push_of_some _ e
  have I4 := blockH I3 ok hN f3
  have nfp : ∀ b ∈ fp, (upd H2 D (.lst [])) b = none := fun b hb => (f3 b hb).1.1
  show codeAny _ _ (.compStart (.ListComp elt [⟨tg, iter, ifs, 0⟩] scope pos) 0 (.ref it) (.ref D) (compEnvC scope (cellsFrom (s3.heap.objs.size + 1) scope.names (cloFrom X.env.cells scope.names [])) s3.heap.objs.size X.env)) (compPost (model X.prog X.w) X.A X.xe none (EP X pins σ Q) (.ref D) s3.heap.objs.size) { s3 with heap := pushCells (s3.heap.push { cls := .type "dict", data := .dict #[] }) scope.names }
  generalize hcl : cellsFrom (s3.heap.objs.size + 1) scope.names (cloFrom X.env.cells scope.names []) = cl at I4 ⊢
  have pg := hg s3 (upd H2 D (.lst [])) s3.heap.objs.size cl fp
  have pt := ht s3 (upd H2 D (.lst [])) s3.heap.objs.size cl fp
  have pe := he s3 (upd H2 D (.lst [])) s3.heap.objs.size cl fp
  generalize hce : compEnvC scope cl s3.heap.objs.size X.env = ce at I4 pg pt pe ⊢
  have cL : ce.locals = s3.heap.objs.size := by subst hce; rfl
  generalize hH3 : upd H2 D (.lst []) = H3 at I3 I4 pg pt pe w0 nfp f3
  generalize hs4 : ({ s3 with heap := pushCells (s3.heap.push { cls := .type "dict", data := .dict #[] }) scope.names } : Shared) = s4 at I4 ⊢
  have st4 : tn 0 s4.heap := T.keep _ _ _ st3 fun b _ o e => by rw [← hs4]; exact pushCells_keeps _ _ _ _ (Heap.get?_push_of_some _ e)
  have hcB : HotC (blkH X s3 H3 scope ce fp) := hc
  have stat : ∀ {σ' : L2.St} {H' : Hp} {s' : Shared}, Inv (blkH X s3 H3 scope ce fp) [] σ' H' s' → (∀ b ∈ fp, H' b = none) → ∀ b ∈ fp, FpOk (blkH X s3 H3 scope ce fp) [] H' b := fun {σ' H' s'} I' hn b hb =>
    ⟨hn b hb, (I'.ok.exf b hb).1, I'.ok.exfs b hb, .inl hb, fun x c e => (I'.ok.exf b hb).2 x c e, fun p hp => by
      have hp : p ∈ X.pn ++ ([] : List (Addr × Obj)) := hp
      rw [List.append_nil] at hp
      exact (f3 b hb).1.2.2.2.2.2 p (List.mem_append_left _ hp)⟩
  have loop : codeAny (model X.prog X.w) X.A (.compLoop (.ListComp elt [⟨tg, iter, ifs, 0⟩] scope pos) 0 (.ref it) (.ref D) ce) (compPost (model X.prog X.w) X.A X.xe none (EP X pins σ Q) (.ref D) s3.heap.objs.size) s4 := by
    refine compLoop_any (fun n s' => ∃ i H', Inv (blkH X s3 H3 scope ce fp) [] (wipe σ (own.map (·.2))) H' s' ∧ tn i s'.heap ∧ (∀ b ∈ fp, H' b = none) ∧ W i n H') ?_ m0 ⟨0, H3, I4, st4, nfp, w0⟩
    rintro n s5 ⟨i, H5, I5, st5, n5, w5⟩
    rcases turn i n H5 w5 with ⟨stop, qq⟩ | ⟨go, Nx, hNx, step⟩
    · refine thnF (T.done (blkH X s3 H3 scope ce fp) rfl rfl rfl hcB i [] s5 _ H5 (fun _ _ => False) I5 (stat I5 n5) st5 stop) fun r s6 ⟨hr, I6⟩ => ?_
      subst hr
      have I7 : Inv X pins σ H5 s6 := I3.call' (ch := fp) I6.os I6.base I6.hok I6.bare fun b hb => ⟨(f3 b hb).1.2.2.2.1, (f3 b hb).1.2.1, (f3 b hb).1.2.2.2.2.1, (f3 b hb).1.2.2.2.2.2⟩
      have nC : H5 s3.heap.objs.size = none := by have z : H5 ce.locals = none := I6.free; rwa [cL] at z
      obtain ⟨m, hn, _⟩ := I6.loc
      have hn : s6.heap.Ns s3.heap.objs.size m := by have hn : s6.heap.Ns ce.locals m := hn; rwa [cL] at hn
      obtain ⟨g0, g1, g2, g3, g4, g5⟩ := I3.fpOk (Nat.le_refl _) nC
      exact ⟨m, hn, fun k sb => ⟨.ref D, H5, I7.turned (t' := s6.toks) (fun b o hb e => (sb.2 b hb).trans e) g0 g1 g3 g4 g5, rfl, qq⟩⟩
    · refine thnF (T.item (blkH X s3 H3 scope ce fp) rfl rfl rfl hcB i [] s5 _ H5 (fun _ _ => False) I5 (stat I5 n5) st5 go) fun r s6 ⟨u, hr, h6⟩ => ?_
      subst hr
      refine thnF h6 fun _ s7 ⟨x, H7, I7, r7, y7, st7, n7⟩ => ?_
      have P7 := I7.pinned (stat I7 n7) (T.obj _ _ st7)
      refine thnF (pg.run _ s7 _ H7 x u _ P7 r7 (step x H7 y7)) fun _ s8 ⟨σ8, H8, I8, hw8, q8⟩ => thnF (pt.run _ s8 σ8 H8 _ I8 q8) fun b s9 ⟨H9, I9, q9⟩ => ?_
      have fin : ∀ {s' : Shared} {H' : Hp}, Inv (blkH X s3 H3 scope ce fp) ([] ++ pinsAt fp s7.heap) σ8 H' s' → Nx H' → ∃ m, m < n ∧ ∃ i H', Inv (blkH X s3 H3 scope ce fp) [] (wipe σ (own.map (·.2))) H' s' ∧ tn i s'.heap ∧ (∀ b ∈ fp, H' b = none) ∧ W i m H' := fun {s' H'} I' nx => by
        obtain ⟨m', hm, w'⟩ := hNx H' nx
        have pin' : ∀ b ∈ fp, ∀ o, s7.heap.get? b = some o → s'.heap.get? b = some o ∧ H' b = none := fun b hb o e => ⟨(I'.pin (b, o) (List.mem_append_right _ (List.mem_append_right _ (mem_pinsAt hb e)))).1, (I'.pin (b, o) (List.mem_append_right _ (List.mem_append_right _ (mem_pinsAt hb e)))).2.1⟩
        have hl : (wipe σ (own.map (·.2))).length = σ8.length := by rw [← hw8, wipe_length]
        refine ⟨m', hm, i + 1, H', (I'.unpinned (pins := [])).weak hl (fun j v e => ?_), T.keep _ _ _ st7 fun b hb o e => (pin' b hb o e).1, fun b hb => ?_, w'⟩
        · rw [← hw8] at e; exact (wipe_some e).1
        · obtain ⟨o, e, _⟩ := T.obj _ _ st7 b hb; exact (pin' b hb o e).2
      cases b with
      | false =>
        simp only [Bool.false_eq_true, if_false] at q9 ⊢
        exact fin I9 q9
      | true =>
        simp only [if_true] at q9 ⊢
        exact thnF (pe.run _ s9 σ8 H9 _ I9 q9) fun z s10 ⟨yv, H10, I10, r10, acc, hD10, hz10, nx⟩ => app_ok (X := blkH X s3 H3 scope ce fp) I10 hD10 hz10 r10 fun s11 I11 => fin I11 nx
  exact codeAny_compStart_list loop (T.self X.A 0 _ _ _ st4 loop)
end HX


set_option Elab.async false
set_option linter.all false
set_option maxRecDepth 100000
set_option maxHeartbeats 4000000
/-! HX3: the kind of a handled error, told by a def. -/
namespace HX
open PySem PySem.Spec PyProof.Rows L2 HotX L2H
/-- all that was is -/
def Gw (H H' : Hp) : Prop := ∀ b o, H b = some o → H' b = some o
theorem Gw.refl (H : Hp) : Gw H H := fun _ _ h => h
theorem Gw.trans {H H1 H2 : Hp} (a : Gw H H1) (b : Gw H1 H2) : Gw H H2 := fun c o h => b c o (a c o h)
theorem Gw.upd {H : Hp} {p : Addr} {o : HO} (h : H p = none) : Gw H (upd H p o) := AL.upd_grow h
section
variable {X : Cx} {a D : Addr} {oe : Obj}
theorem call_isN (hp : (a, oe) ∈ X.pn) (C : ExcC X.K D) (hz : Zc (.ref D) none oe) (hf : ∃ vs, oe.data = .fields vs) : CallR X (.builtin "isinstance") (rIsE X.K D a) := by
  intro pins s σ H xs us Q I r h
  obtain ⟨c, cv, b, rfl, hcv, e, q⟩ := h
  cases r with
  | cons rx rr =>
    cases rr with
    | cons rt rr =>
      cases rr; cases rx
      have ec := hcv _ rt
      subst ec
      have hget := (I.pin (a, oe) (List.mem_append_left _ hp)).1
      obtain ⟨vs, hv⟩ := hf
      have J : PySem.W.InstAt s.heap a oe D none := by
        obtain ⟨oc, od, oda, osl⟩ := oe
        obtain ⟨h1, h2⟩ := hz
        dsimp only at h1 h2 hv
        subst h1 h2 hv
        exact ⟨hget, rfl, rfl, trivial⟩
      exact PySem.W.kia_one (PySem.W.handS_kitx_exc C.hg C.hk C.hs C.hd C.ha C.hn C.ht C.hm) I.kIn J e (fun z => nomatch z) fun tk => ⟨.bl b, H, I.kept (t' := tk) fun _ _ z => z, rfl, q⟩
/-- what is known of the error's class and of the names -/
structure NeOk (X : Cx) (a D : Addr) (oe : Obj) (y : Str) (b : Bool) : Prop where
  pin : (a, oe) ∈ X.pn
  cls : ExcC X.K D
  z : Zc (.ref D) none oe
  f : ∃ vs, oe.data = .fields vs
  gi : Gl X "isinstance"
  mi : X.mg "isinstance" = none
  gy : Gl X y
  ny : (y == ("__debug__" : Str)) = false
  at_ : ∃ cv, X.mg y = some cv ∧ (∃ C, cv = .ref C) ∧ PySem.W.kitOne X.K (.ref D) cv = some b
theorem pe_isN {i : Nat} {x y : Str} {b : Bool} {p1 p2 p3 pos : Pos} (k : NeOk X a D oe y b) (hN : X.N[i]? = some x) (hv : Vis X.env.scope x) (hd : (x == ("__debug__" : Str)) = false) (hcd : (x == ("__classdict__" : Str)) = false) :
    PE X (.Call (.Name "isinstance" p1) [.Name x p2, .Name y p3] [] pos) (fun σ H Q => σ[i]? = some (some (.ref a)) ∧ Q (.bl b) H) := by
  obtain ⟨cv, h1, ⟨C, rfl⟩, h2⟩ := k.at_
  have hb : PE X (.Name y p3) (tC (.ref C)) := ⟨fun pins s σ H Q I h => ld_glob I k.gy h1 ⟨.ref C, H, I, rfl, h⟩ k.ny⟩
  exact AL.PE.imp (pe_callB (r := rIsE X.K D a) (call_isN k.pin k.cls k.z k.f) k.gi k.mi (by decide +kernel) (pa_cons (pe_var hN hv hd hcd) (pa_cons hb pa_nil)) (by decide) (by decide)) fun σ H Q ⟨h, q⟩ => ⟨.ref a, h, .ref C, .ref C, b, rfl, fun u r => r, h2, q⟩
/-- three of them in a new list -/
theorem pe_is3 {i : Nat} {x y1 y2 y3 : Str} {b1 b2 b3 : Bool} {p1 p2 p3 p4 p5 p6 p7 p8 p9 p10 p11 p12 pos : Pos} (k1 : NeOk X a D oe y1 b1) (k2 : NeOk X a D oe y2 b2) (k3 : NeOk X a D oe y3 b3) (hN : X.N[i]? = some x) (hv : Vis X.env.scope x) (hd : (x == ("__debug__" : Str)) = false) (hcd : (x == ("__classdict__" : Str)) = false) :
    PE X (.List [.Call (.Name "isinstance" p1) [.Name x p2, .Name y1 p3] [] p4, .Call (.Name "isinstance" p5) [.Name x p6, .Name y2 p7] [] p8, .Call (.Name "isinstance" p9) [.Name x p10, .Name y3 p11] [] p12] pos)
      (fun σ H Q => σ[i]? = some (some (.ref a)) ∧ ∀ p, H p = none → Q (.ref p) (upd H p (.lst [.bl b1, .bl b2, .bl b3]))) :=
  AL.PE.imp (pe_lst (pa_cons (pe_isN k1 hN hv hd hcd) (pa_cons (pe_isN k2 hN hv hd hcd) (pa_cons (pe_isN k3 hN hv hd hcd) pa_nil)))) fun σ H Q ⟨h, q⟩ => ⟨h, h, h, by show 3 ≤ sizeLine; decide, q⟩
/-- some = [..] -/
theorem ps_is3 {i j : Nat} {x z y1 y2 y3 : Str} {b1 b2 b3 : Bool} {p0 p1 p2 p3 p4 p5 p6 p7 p8 p9 p10 p11 p12 p13 pos : Pos} (nd : X.N.Nodup) (k1 : NeOk X a D oe y1 b1) (k2 : NeOk X a D oe y2 b2) (k3 : NeOk X a D oe y3 b3) (hN : X.N[i]? = some x) (hv : Vis X.env.scope x) (hd : (x == ("__debug__" : Str)) = false) (hcd : (x == ("__classdict__" : Str)) = false)
    (hj : X.N[j]? = some z) (hz : X.env.scope.names.lookup z = some .local) :
    PS X (.Assign [.Name z p0] (.List [.Call (.Name "isinstance" p1) [.Name x p2, .Name y1 p3] [] p4, .Call (.Name "isinstance" p5) [.Name x p6, .Name y2 p7] [] p8, .Call (.Name "isinstance" p9) [.Name x p10, .Name y3 p11] [] p12] p13) pos)
      (fun D σ H => σ[i]? = some (some (.ref a)) ∧ ∀ p H', Gw H H' → H' p = some (.lst [.bl b1, .bl b2, .bl b3]) → D.nx (σ.set j (some (.ref p))) H') :=
  AL.PS.imp (ps_set nd hj (.inl hz) (pe_is3 k1 k2 k3 hN hv hd hcd) rfl (.inr hz)) fun D σ H ⟨h, q⟩ => ⟨h, fun p hp => q p _ (Gw.upd hp) upd_same⟩
/-- some = some + [..] -/
theorem ps_more3 {i j : Nat} {x z y1 y2 y3 : Str} {b1 b2 b3 : Bool} {p0 p00 p1 p2 p3 p4 p5 p6 p7 p8 p9 p10 p11 p12 p13 p14 pos : Pos} (nd : X.N.Nodup) (k1 : NeOk X a D oe y1 b1) (k2 : NeOk X a D oe y2 b2) (k3 : NeOk X a D oe y3 b3) (hN : X.N[i]? = some x) (hv : Vis X.env.scope x) (hd : (x == ("__debug__" : Str)) = false) (hcd : (x == ("__classdict__" : Str)) = false)
    (hj : X.N[j]? = some z) (hz : X.env.scope.names.lookup z = some .local) (zd : (z == ("__debug__" : Str)) = false) (zcd : (z == ("__classdict__" : Str)) = false) :
    PS X (.Assign [.Name z p0] (.BinOp (.Name z p00) .Add (.List [.Call (.Name "isinstance" p1) [.Name x p2, .Name y1 p3] [] p4, .Call (.Name "isinstance" p5) [.Name x p6, .Name y2 p7] [] p8, .Call (.Name "isinstance" p9) [.Name x p10, .Name y3 p11] [] p12] p13) p14) pos)
      (fun D σ H => σ[i]? = some (some (.ref a)) ∧ ∃ q bs, σ[j]? = some (some (.ref q)) ∧ H q = some (.lst bs) ∧ bs.length ≤ 100 ∧ ∀ p H', Gw H H' → H' p = some (.lst (bs ++ [.bl b1, .bl b2, .bl b3])) → D.nx (σ.set j (some (.ref p))) H') :=
  AL.PS.imp (ps_set nd hj (.inl hz) (pe_op op_cat (pe_var hj (.inl hz) zd zcd) (pe_is3 k1 k2 k3 hN hv hd hcd)) rfl (.inr hz)) fun D σ H ⟨h, q, bs, h1, h2, h3, k⟩ =>
    ⟨.ref q, h1, h, fun p hp => ⟨q, p, bs, _, rfl, rfl, Gw.upd hp _ _ h2, upd_same, by
      show bs.length + 3 ≤ sizeLine
      have : (103 : Nat) ≤ sizeLine := by decide
      omega, fun r hr => k r _ (Gw.trans (Gw.upd hp) (Gw.upd hr)) upd_same⟩⟩
end
end HX


set_option Elab.async false
set_option linter.all false
set_option maxRecDepth 100000
set_option maxHeartbeats 4000000
/-! HX4: [label for label, good in zip(labels.split(' '), some) if good] while an error is handled. -/
namespace HX
open PySem PySem.Spec PyProof.Rows L2 HotX L2H
def sel (ws : List Str) (bs : List Bool) : List Str := ((ws.zip bs).filter (·.2)).map (·.1)
theorem sel_snoc {ws : List Str} {bs : List Bool} {i : Nat} {x : Str} {b : Bool} (hx : ws[i]? = some x) (hb : bs[i]? = some b) : sel (ws.take (i + 1)) (bs.take (i + 1)) = sel (ws.take i) (bs.take i) ++ (if b = true then [x] else []) := by
  have l1 : i < ws.length := (List.getElem?_eq_some_iff.mp hx).1
  have l2 : i < bs.length := (List.getElem?_eq_some_iff.mp hb).1
  have e : (ws.take (i + 1)).zip (bs.take (i + 1)) = (ws.take i).zip (bs.take i) ++ [(x, b)] := by
    rw [List.take_succ, List.take_succ, hx, hb, Option.toList_some, Option.toList_some]
    rw [List.zip_append (by simp; omega)]
    rfl
  unfold sel
  rw [e, List.filter_append, List.map_append]
  cases b <;> rfl
section
variable {X : Cx}
theorem wipe_wipe {σ : L2.St} : ∀ {us vs : List Nat}, (∀ i ∈ us, i ∈ vs) → wipe (wipe σ vs) us = wipe σ vs
  | [], _, _ => rfl
  | u :: us, vs, h => by
    show (wipe (wipe σ vs) us).set u none = _
    rw [wipe_wipe fun i hi => h i (List.mem_cons_of_mem _ hi)]
    have hu := h u List.mem_cons_self
    have key : ∀ {ws : List Nat}, u ∈ ws → (wipe σ ws).set u none = wipe σ ws := fun {ws} => by
      induction ws with
      | nil => intro h; cases h
      | cons w ws ih =>
        intro h
        show ((wipe σ ws).set w none).set u none = (wipe σ ws).set w none
        by_cases e : w = u
        · subst e; rw [List.set_set]
        · rw [List.set_comm _ _ e, ih ((List.mem_cons.mp h).resolve_left fun z => e z.symm)]
    exact key hu
theorem pe_sel {il ig jl js : Nat} {l g lab som : Str} {scope : Scope} {own : List (Str × Nat)} {p1 p2 p3 p4 p5 p6 p7 p8 p9 p10 apos pos pt : Pos} {kt j0 : Nat} {LS : Str} {ws : List Str} {bs : List Bool}
    (hc : HotC X) (nd : X.N.Nodup) (gz : Gl X "zip") (mz : X.mg "zip" = none) (ok : BlkOk X.N X.env.scope scope own) (how : own.map (·.2) = [il, ig]) (hil : X.N[il]? = some l) (hig : X.N[ig]? = some g) (ne : il ≠ ig)
    (sl : (relS scope X.env.scope).names.lookup l = some .local) (sg : (relS scope X.env.scope).names.lookup g = some .local) (dl : (l == ("__debug__" : Str)) = false) (cl : (l == ("__classdict__" : Str)) = false) (dg : (g == ("__debug__" : Str)) = false) (cg : (g == ("__classdict__" : Str)) = false)
    (hjl : X.N[jl]? = some lab) (vl : Vis X.env.scope lab) (dla : (lab == ("__debug__" : Str)) = false) (cla : (lab == ("__classdict__" : Str)) = false) (hjs : X.N[js]? = some som) (vs : Vis X.env.scope som) (ds : (som == ("__debug__" : Str)) = false) (cs : (som == ("__classdict__" : Str)) = false)
    (hline : (apos.endLine == p7.line) = true) (hw : Txt.split LS " " = ws) (hl1 : LS.length + 2 ≤ sizeLine) (hlen : ws.length = bs.length) (hsm : ws.length ≤ 100) :
    PE X (.ListComp (.Name l p1) [⟨.Tuple [.Name l p2, .Name g p3] kt pt, .Call (.Name "zip" p4) [.Call (.Attribute (.Name lab p5) "split" apos) [.Constant (.str " ") j0 p6] [] p7, .Name som p8] [] p9, [.Name g p10], 0⟩] scope pos)
      (fun σ H Q => (il < σ.length ∧ ig < σ.length) ∧ σ[jl]? = some (some (.str LS)) ∧ ∃ q, σ[js]? = some (some (.ref q)) ∧ H q = some (.lst (bs.map V.bl)) ∧ ∀ p H', Gw H H' → H' p = some (.lst ((sel ws bs).map V.str)) → Q (.ref p) H') := by
  have hsplit := pe_split (X := X) (apos := apos) (pos := p7) (pe_var (pos := p5) hjl vl dla cla) (pe_str (x := " ") (j := j0) (pos := p6)) rfl rfl hline
  refine AL.PE.imp (pe_lcH (tg := .Tuple [.Name l p2, .Name g p3] kt pt) (g := gTup X.K 2 (gCons (gName il) (gCons (gName ig) gNil))) hc nd (pi_zipH gz mz (pa_cons hsplit (pa_cons (pe_var hjs vs ds cs) pa_nil)) rfl rfl) ok (fun s H C c2 fp => ?_) (tt := fun σ H Q => tVar ig σ H fun x H' => ∃ k, TruV X.K x H' k ∧ Q k H') (te := tVar il) (fun s H C c2 fp => pts_one (X := blkH X s H scope (compEnvC scope c2 C X.env) fp) (pt_truth (X := blkH X s H scope (compEnvC scope c2 C X.env) fp) (pe_var (X := blkH X s H scope (compEnvC scope c2 C X.env) fp) (i := ig) hig (.inl sg) dg cg) fun _ => rfl))
    (fun s H C c2 fp => pe_var (X := blkH X s H scope (compEnvC scope c2 C X.env) fp) (i := il) hil (.inl sl) dl cl) (fun _ => rfl)) fun σ H Q ⟨⟨l1, l2⟩, h1, q, h2, h3, k⟩ => ?_
  · exact pg_tupH (blkH_hot hc) (pgs_cons (pg_name nd hil (.inl sl) (.inr sl)) (pgs_cons (pg_name nd hig (.inl sg) (.inr sg)) pgs_nil)) rfl rfl
  · refine ⟨.str LS, h1, ⟨LS, rfl⟩, LS, " ", rfl, rfl, by decide, hl1, fun W hW => ?_⟩
    rw [hw]
    refine ⟨.ref q, h2, W, q, ws.map V.str, bs.map V.bl, rfl, SqL.of upd_same, SqL.of (Gw.upd hW _ _ h3), ?_⟩
    intro D hD
    rw [how]
    have nWD : W ≠ D := fun z => by rw [← z, upd_same] at hD; cases hD
    have nqD : q ≠ D := fun z => by rw [← z, Gw.upd hW _ _ h3] at hD; cases hD
    let Pv : Nat → Hp → Prop := fun i H' => H' D = some (.lst ((sel (ws.take i) (bs.take i)).map V.str)) ∧ ∀ b o, b ≠ D → upd H W (.lst (ws.map V.str)) b = some o → H' b = some o
    refine ⟨fun i m H' => m = ws.length - i ∧ i ≤ ws.length ∧ Pv i H', ⟨ws.length, by simp, Nat.zero_le _, by rw [upd_same]; rfl, fun b o nb e => by rw [upd_ne nb]; exact e⟩, ?_⟩
    rintro i m H' ⟨rfl, hi, pD, pk⟩
    have aW : H' W = some (.lst (ws.map V.str)) := pk W _ nWD upd_same
    have aq : H' q = some (.lst (bs.map V.bl)) := pk q _ nqD (Gw.upd hW _ _ h3)
    by_cases hlt : i < ws.length
    · have hb : i < bs.length := by omega
      refine .inr ⟨⟨ws.map V.str, bs.map V.bl, .str ws[i], .bl bs[i], SqL.of aW, SqL.of aq, by simp [hlt], by simp [hb]⟩, Pv (i + 1), fun H2 pv => ⟨ws.length - (i + 1), by omega, rfl, hlt, pv⟩, fun x H2 yy => ?_⟩
      obtain ⟨T, x0, y0, rfl, hT, rfl, e1, e2⟩ := yy
      have e1 := e1 _ (SqL.of aW)
      have e2 := e2 _ (SqL.of aq)
      have e1 : V.str ws[i] = x0 := by simpa [hlt] using e1
      have e2 : V.bl bs[i] = y0 := by simpa [hb] using e2
      subst e1 e2
      have nTD : T ≠ D := fun z => by rw [z, pD] at hT; cases hT
      refine ⟨T, _, rfl, SqT.of upd_same, rfl, .str ws[i], _, rfl, .bl bs[i], _, rfl, rfl, ?_⟩
      refine ⟨?_, ?_⟩
      · rw [AL.wipe_set (by simp), AL.wipe_set (by simp)]
        exact wipe_wipe fun i hi => hi
      · have g1 : (((wipe σ [il, ig]).set il (some (V.str ws[i]))).set ig (some (V.bl bs[i])))[ig]? = some (some (.bl bs[i])) := List.getElem?_set_self (by rw [List.length_set, wipe_length]; exact l2)
        have g2 : (((wipe σ [il, ig]).set il (some (V.str ws[i]))).set ig (some (V.bl bs[i])))[il]? = some (some (.str ws[i])) := by
          rw [List.getElem?_set_ne (fun z => ne z.symm)]
          exact List.getElem?_set_self (by rw [wipe_length]; exact l1)
        have keep : ∀ b o, b ≠ D → upd H W (.lst (ws.map V.str)) b = some o → upd H' T (.tup [.str ws[i], .bl bs[i]]) b = some o := fun b o nb e => Gw.upd hT _ _ (pk b o nb e)
        have atD : upd H' T (.tup [.str ws[i], .bl bs[i]]) D = some (.lst ((sel (ws.take i) (bs.take i)).map V.str)) := Gw.upd hT _ _ pD
        have sn := sel_snoc (ws := ws) (bs := bs) (i := i) (x := ws[i]) (b := bs[i]) (by simp [hlt]) (by simp [hb])
        refine ⟨.bl bs[i], g1, bs[i], rfl, ?_⟩
        cases hbi : bs[i] with
        | false =>
          rw [hbi] at sn keep atD
          refine iteF ⟨?_, keep⟩
          rw [sn, atD]; simp
        | true =>
          rw [hbi] at sn keep atD g2
          refine iteT ⟨.str ws[i], g2, _, atD, ?_, ?_, fun b o nb e => ?_⟩
          · have z1 : (sel (ws.take i) (bs.take i)).length ≤ ws.length := by
              unfold sel
              rw [List.length_map]
              refine Nat.le_trans (List.length_filter_le ..) ?_
              simp; omega
            rw [List.length_map]
            have : (101 : Nat) ≤ sizeLine := by decide
            omega
          · rw [upd_same, sn]; simp
          · rw [upd_ne nb]; exact keep b o nb e
    · have e : i = ws.length := by omega
      subst e
      refine .inl ⟨⟨ws.map V.str, bs.map V.bl, SqL.of aW, SqL.of aq, .inl (by simp)⟩, ?_⟩
      refine k D H' (fun b o e => pk b o (fun z => by rw [z] at e; have z2 := Gw.upd (o := .lst (ws.map V.str)) hW _ _ e; rw [hD] at z2; cases z2) (Gw.upd hW _ _ e)) ?_
      rw [pD]
      congr 3
      rw [List.take_of_length_le (Nat.le_refl _), List.take_of_length_le (by omega)]
end
end HX


set_option Elab.async false
set_option linter.all false
set_option maxRecDepth 100000
set_option maxHeartbeats 4000000
/-! HX5: a def called with the handled error. -/
namespace HX
open PySem PySem.Spec PyProof.Rows L2 HotX L2H
theorem run_ofHS {CX : CXT} {P : Program} {w : World} {K : PySem.W.Frag} {mg : Str → Option Value} {base : Heap} {k : Nat} {f : Addr} {name qual : Str} {params : Arguments} {body : List Stmt} {scope : Scope} {dV kV doc pm cdv ct oc : Value} {an od : Option Addr}
    {osl : Array (Option Value)} {N ps : List Str} (lk : K.lookup f = some ⟨oc, od, .func (PySem.W.fnOf name qual params body scope dV kV doc pm an cdv ct), osl⟩) (hcd : PySem.W.codeIn K cdv qual = true) (S : FnScope N ps scope) {p : Addr × Obj}
    {A : Around} {outer : List Env} {s : Shared} {H : Hp} {args : Args} {us : List Value} {vs : List V} {Q : VK} {E : XK} (hr : RoomH (k + 1) A) (hpin : PinOk outer H s p) (e0 : Env0 P w K mg base A outer s H)
    (hb : BindsTo s (PySem.W.fnOf name qual params body scope dV kV doc pm an cdv ct) args (ps.zip us)) (r : Vals vs us) (hl : vs.length = ps.length)
    (hbody : RoomH k (A.deeper (envOfC qual scope s.heap.objs.size f cdv)) → ∃ t, PSs (cxH CX P w K mg base N qual scope f cdv A outer s H E p) body t ∧ t { nx := fun _ H' => Q .non H', rt := Q } (L2.start N vs) H) :
    codeAny (model P w) A (.call (.ref f) args) (CR CX outer P w H s Q E) s := by
  have KX : K.In s.heap := e0.mod.kin.keeps fun b o e => (e0.bs b o e).1
  have lim : s.heap.NoLimit := e0.mod.nolimit.keeps fun b o e => (e0.bs b o e).1
  have hkind : ∀ y ∈ ps.zip us, scope.names.lookup y.1 = some .local ∨ (scope.names.lookup y.1 = some .cell ∧ ((cellsFrom (s.heap.objs.size + 1) scope.names []).lookup y.1).isSome = true) := fun ⟨n, v⟩ hy =>
    (S.par n (List.of_mem_zip hy).1).elim .inl fun q => .inr ⟨q, PySem.W.cellsFrom_some _ _ _ (.inl q)⟩
  refine codeAny_call_function hr.depth (KX _ _ lk) rfl S.co S.gen rfl (PySem.W.codeRec_of KX hcd) (hb _ _ _ _ (wpAny_newFunctionEnv_cells S.kind hkind fun env he s1 x => ?_))
  subst he
  refine ⟨lim.keeps x.toInCall.keep, codeAny_func ?_⟩
  obtain ⟨t, ht, hq⟩ := hbody (hr.deeper _)
  have I : Inv (cxH CX P w K mg base N qual scope f cdv A outer s H E p) [] (L2.start N vs) H s1 := inv_startH S hpin e0 hl r x
  refine wpAny_mono (ht.run [] s1 (L2.start N vs) H _ I hq) (fun fl s' hs => ?_) fun e s' hs => hs
  cases fl with
  | ret u => obtain ⟨v, σ', H', J, rv, q⟩ := hs; exact ⟨v, H', J.os, J.bare, J.base, J.hok, rv, q⟩
  | next => obtain ⟨σ', H', J, q⟩ := hs; exact ⟨V.non, H', J.os, J.bare, J.base, J.hok, rfl, q⟩
  | brk => obtain ⟨_, _, _, q⟩ := hs; exact q.elim
  | cont => obtain ⟨_, _, _, q⟩ := hs; exact q.elim
/-- x(e), e the handled error -/
theorem pe_callHS {X : Cx} {a : Addr} {oe : Obj} {k i : Nat} {x e : Str} {f : Addr} {params : Arguments} {body : List Stmt} {scope : Scope} {dV kV doc pm cdv ct oc : Value} {an od : Option Addr} {osl : Array (Option Value)} {N : List Str} {pe1 : Str} {r : Str} {p1 p2 pos : Pos}
    (hp : (a, oe) ∈ X.pn) (hot : Hot1 X.A (a, oe)) (hr : RoomH (k + 1) X.A) (hg : Gl X x) (hdb : (x == ("__debug__" : Str)) = false) (hm : X.mg x = some (.ref f)) (hk : PySem.W.keepIn X.K (.ref f) = true)
    (lk : X.K.lookup f = some ⟨oc, od, .func (PySem.W.fnOf x x params body scope dV kV doc pm an cdv ct), osl⟩) (hcd : PySem.W.codeIn X.K cdv x = true) (S : FnScope N [pe1] scope) (hb : Binds X.K (PySem.W.fnOf x x params body scope dV kV doc pm an cdv ct) [pe1] [])
    (hN : X.N[i]? = some e) (hv : Vis X.env.scope e) (hd : (e == ("__debug__" : Str)) = false) (hcd2 : (e == ("__classdict__" : Str)) = false)
    (hbody : ∀ (A : Around) (outer : List Env) (s : Shared) (H : Hp) (Q : VK), Hot1 A (a, oe) → RoomH k (A.deeper (envOfC x scope s.heap.objs.size f cdv)) → (∀ H', Gw H H' → Q (.str r) H') →
      ∃ t, PSs (cxH CX0 X.prog X.w X.K X.mg X.base N x scope f cdv A outer s H E0 (a, oe)) body t ∧ t { nx := fun _ H' => Q .non H', rt := Q } (L2.start N [.ref a]) H) :
    PE X (.Call (.Name x p1) [.Name e p2] [] pos) (fun σ H Q => σ[i]? = some (some (.ref a)) ∧ ∀ H', Gw H H' → Q (.str r) H') := by
  refine ⟨fun pins s σ H Q I ⟨h1, h2⟩ => ?_⟩
  refine wpAny_Call_Name_kw (ld_glob I hg hm ?_ hdb)
  have ha : PA X [.Name e p2] (tCons (tVar i) tNil) := pa_cons (pe_var hN hv hd hcd2) pa_nil
  refine PySem.W.callWith_K (h₀ := X.base) I.ok.mod.kin hk (thn (ha.run pos pins s σ H (fun vs H1 => vs = [.ref a] ∧ H1 = H) I ⟨.ref a, h1, rfl, rfl⟩) fun us s1 ⟨vs, H1, I1, r1, ev, eH⟩ => ⟨I1.kIn, ?_⟩) (by rfl) (by rfl)
  subst ev eH
  have P1 := I1.pin (a, oe) (List.mem_append_left _ hp)
  have hpin : PinOk X.stack H1 s1 (a, oe) := ⟨P1.1, P1.2.1, fun m => (List.mem_cons.mp (I1.stkSub a m)).elim P1.2.2.1 P1.2.2.2.1, P1.2.2.2.2⟩
  have b := hb s1 us I1.kIn (by rw [List.append_nil, ← r1.length]; rfl)
  rw [List.append_nil] at b
  refine wpAny_call (codeAny_mono (run_ofHS (CX := CX0) (E := E0) (Q := Q) lk hcd S hr hpin I1.env0 b r1 rfl fun hr' => hbody X.A X.stack s1 H1 Q hot hr' h2) fun rr s' hq => ?_)
  cases rr with
  | error e => exact (show False from hq).elim
  | ok fl =>
    cases fl with
    | ret u => exact I1.after hq
    | next => exact (show False from hq).elim
    | brk => exact (show False from hq).elim
    | cont => exact (show False from hq).elim
end HX


set_option Elab.async false
set_option linter.all false
set_option maxRecDepth 100000
set_option maxHeartbeats 4000000
/-! HX6: the def that tells an error's kind. -/
namespace HX
open PySem PySem.Spec PyProof.Rows L2 HotX L2H
def neL : Str := "plan line words number index ring cell text slips silent unlike undo"
def neC : List Str := ["InvalidPlan", "InvalidLine", "InvalidWords", "InvalidNumber", "InvalidIndex", "InvalidRing", "InvalidCell", "InvalidText", "InvalidSlips", "Silent", "Unlike", "NothingToUndo"]
theorem ne_body {X : Cx} {a D : Addr} {oe : Obj} {b0 b1 b2 b3 b4 b5 b6 b7 b8 b9 b10 b11 : Bool} {r : Str} {scope : Scope} {own : List (Str × Nat)} {j1 j2 j3 kt : Nat} {q1 q2 q3 q4 q5 q6 q7 q8 q9 q10 q11 q12 q13 q14 q15 q16 q17 q18 q19 q20 q21 q22 q23 q24 q25 q26 q27 q28 q29 q30 q31 q32 q33 q34 q35 q36 q37 q38 q39 q40 q41 q42 q43 q44 q45 q46 q47 q48 q49 q50 q51 q52 q53 q54 q55 q56 q57 q58 q59 q60 q61 q62 q63 q64 q65 q66 q67 q68 q69 q70 q71 q72 q73 q74 q75 q76 q77 q78 q79 q80 q81 q82 q83 q84 q85 q86 : Pos}
    (hc : HotC X) (hN : X.N = (["e", "some", "labels", "label", "good"] : List Str)) (le : X.env.scope.names.lookup ("e" : Str) = some .local) (ls : X.env.scope.names.lookup ("some" : Str) = some .local) (ll : X.env.scope.names.lookup ("labels" : Str) = some .local)
    (gz : Gl X "zip") (mz : X.mg "zip" = none) (ok : BlkOk X.N X.env.scope scope own) (how : own.map (·.2) = [3, 4]) (sl : (relS scope X.env.scope).names.lookup ("label" : Str) = some .local) (sg : (relS scope X.env.scope).names.lookup ("good" : Str) = some .local)
    (h1 : (q72.endLine == q73.line) = true) (h2 : (q70.endLine == q71.line) = true)
    (k0 : NeOk X a D oe "InvalidPlan" b0)
    (k1 : NeOk X a D oe "InvalidLine" b1)
    (k2 : NeOk X a D oe "InvalidWords" b2)
    (k3 : NeOk X a D oe "InvalidNumber" b3)
    (k4 : NeOk X a D oe "InvalidIndex" b4)
    (k5 : NeOk X a D oe "InvalidRing" b5)
    (k6 : NeOk X a D oe "InvalidCell" b6)
    (k7 : NeOk X a D oe "InvalidText" b7)
    (k8 : NeOk X a D oe "InvalidSlips" b8)
    (k9 : NeOk X a D oe "Silent" b9)
    (k10 : NeOk X a D oe "Unlike" b10)
    (k11 : NeOk X a D oe "NothingToUndo" b11)
    (hr : Txt.join " " (sel (Txt.split neL " ") [b0, b1, b2, b3, b4, b5, b6, b7, b8, b9, b10, b11]) = r) (hs : ((sel (Txt.split neL " ") [b0, b1, b2, b3, b4, b5, b6, b7, b8, b9, b10, b11]).map (·.length)).sum + (sel (Txt.split neL " ") [b0, b1, b2, b3, b4, b5, b6, b7, b8, b9, b10, b11]).length * 1 ≤ 16777216) :
    ∃ t, PSs X [.Assign [.Name "some" q1] (.List [.Call (.Name "isinstance" q2) [.Name "e" q3, .Name "InvalidPlan" q4] [] q5, .Call (.Name "isinstance" q6) [.Name "e" q7, .Name "InvalidLine" q8] [] q9, .Call (.Name "isinstance" q10) [.Name "e" q11, .Name "InvalidWords" q12] [] q13] q14) q15, .Assign [.Name "some" q16] (.BinOp (.Name "some" q17) .Add (.List [.Call (.Name "isinstance" q18) [.Name "e" q19, .Name "InvalidNumber" q20] [] q21, .Call (.Name "isinstance" q22) [.Name "e" q23, .Name "InvalidIndex" q24] [] q25, .Call (.Name "isinstance" q26) [.Name "e" q27, .Name "InvalidRing" q28] [] q29] q30) q31) q32, .Assign [.Name "some" q33] (.BinOp (.Name "some" q34) .Add (.List [.Call (.Name "isinstance" q35) [.Name "e" q36, .Name "InvalidCell" q37] [] q38, .Call (.Name "isinstance" q39) [.Name "e" q40, .Name "InvalidText" q41] [] q42, .Call (.Name "isinstance" q43) [.Name "e" q44, .Name "InvalidSlips" q45] [] q46] q47) q48) q49, .Assign [.Name "some" q50] (.BinOp (.Name "some" q51) .Add (.List [.Call (.Name "isinstance" q52) [.Name "e" q53, .Name "Silent" q54] [] q55, .Call (.Name "isinstance" q56) [.Name "e" q57, .Name "Unlike" q58] [] q59, .Call (.Name "isinstance" q60) [.Name "e" q61, .Name "NothingToUndo" q62] [] q63] q64) q65) q66, .Assign [.Name "labels" q67] (.Constant (.str "plan line words number index ring cell text slips silent unlike undo") j1 q68) q69, .Return (some (.Call (.Attribute (.Constant (.str " ") j3 q85) "join" q70) [.ListComp (.Name "label" q74) [⟨.Tuple [.Name "label" q75, .Name "good" q76] kt q77, .Call (.Name "zip" q78) [.Call (.Attribute (.Name "labels" q79) "split" q72) [.Constant (.str " ") j2 q80] [] q73, .Name "some" q81] [] q82, [.Name "good" q83], 0⟩] scope q84] [] q71)) q86] t ∧ ∀ (E : Ends) (H : Hp), (∀ H', Gw H H' → E.rt (.str r) H') → t E (L2.start ["e", "some", "labels", "label", "good"] [.ref a]) H := by
  have nd : X.N.Nodup := by rw [hN]; decide +kernel
  have n0 : X.N[0]? = some ("e" : Str) := by rw [hN]; rfl
  have n1 : X.N[1]? = some ("some" : Str) := by rw [hN]; rfl
  have n2 : X.N[2]? = some ("labels" : Str) := by rw [hN]; rfl
  have n3 : X.N[3]? = some ("label" : Str) := by rw [hN]; rfl
  have n4 : X.N[4]? = some ("good" : Str) := by rw [hN]; rfl
  have zl : (Txt.split neL " ").length = 12 := by decide +kernel
  have hsel := pe_sel (X := X) (il := 3) (ig := 4) (jl := 2) (js := 1) (LS := neL) (ws := Txt.split neL " ") (bs := [b0, b1, b2, b3, b4, b5, b6, b7, b8, b9, b10, b11]) (p1 := q74) (p2 := q75) (p3 := q76) (pt := q77) (p4 := q78) (p5 := q79) (apos := q72) (p6 := q80) (p7 := q73) (p8 := q81) (p9 := q82) (p10 := q83) (pos := q84) (kt := kt) (j0 := j2) (scope := scope) (own := own)
    hc nd gz mz ok how n3 n4 (by decide) sl sg (by decide) (by decide) (by decide) (by decide) n2 (.inl ll) (by decide) (by decide) n1 (.inl ls) (by decide) (by decide) h1 rfl (by decide +kernel) (by rw [zl]; rfl) (by rw [zl]; decide)
  refine ⟨_, pss_cons (ps_is3 nd k0 k1 k2 n0 (.inl le) (by decide) (by decide) n1 ls) (pss_cons (ps_more3 nd k3 k4 k5 n0 (.inl le) (by decide) (by decide) n1 ls (by decide) (by decide)) (pss_cons (ps_more3 nd k6 k7 k8 n0 (.inl le) (by decide) (by decide) n1 ls (by decide) (by decide)) (pss_cons (ps_more3 nd k9 k10 k11 n0 (.inl le) (by decide) (by decide) n1 ls (by decide) (by decide))
    (pss_cons (ps_set nd n2 (.inl ll) pe_str rfl (.inr ll)) (pss_one (ps_ret (pe_join pe_str hsel rfl rfl h2))))))), fun E H q => ?_⟩
  refine ⟨rfl, fun x1 H1 g1 e1 => ⟨rfl, x1, _, rfl, e1, by show 3 ≤ 100; decide, fun x2 H2 g2 e2 => ⟨rfl, x2, _, rfl, e2, by show 6 ≤ 100; decide, fun x3 H3 g3 e3 => ⟨rfl, x3, _, rfl, e3, by show 9 ≤ 100; decide, fun x4 H4 g4 e4 => ?_⟩⟩⟩⟩
  refine ⟨⟨" ", rfl⟩, ⟨by show 3 < 5; decide, by show 4 < 5; decide⟩, rfl, x4, rfl, e4, fun p H5 g5 e5 => ⟨" ", p, _, rfl, rfl, .inl (SqL.of e5), hs, ?_⟩⟩
  rw [hr]
  exact q H5 ((((g1.trans g2).trans g3).trans g4).trans g5)
end HX



set_option Elab.async false
set_option linter.all false
set_option maxRecDepth 100000
set_option maxHeartbeats 4000000
/-! HX7: lambdas by data. -/
namespace HX
open PySem PySem.Spec PyProof.Rows L2 LamX
/-- as it was but for what the tables tell more -/
structure Tb (H H' : Hp) : Prop where
  ext : ExtN H H'
  tbl : ∀ b ps, H b = some (.tbl ps) → ∃ ps', H' b = some (.tbl ps')
theorem Tb.refl (H : Hp) : Tb H H := ⟨ExtN.refl H, fun _ ps h => ⟨ps, h⟩⟩
section
variable {X : Cx} {pins : List (Addr × Obj)} {σ : L2.St} {H : Hp} {s : Shared}
theorem lam_new {T : List (Addr × Str)} {c P : Addr} {params : Arguments} {body : Expr} {scope : Scope} {pos : Pos} {E : Value → Shared → Prop} {Q : Value → Shared → Prop} (I : Inv X pins σ H s) (TB : TabB X.base X.mg c P) (hcode : X.env.code = .ref c)
    (hm : (P, X.env.qual ++ "<lambda>") ∈ T) (hu : ∀ p ∈ T, p.1 = P → p.2 = X.env.qual ++ "<lambda>") (hT : Tabs T H) (hdef : defaultsOf params X.env = ([], [])) (hfree : ∀ y ∈ scope.names, y.2 = .free → ∃ c, X.env.cells.lookup y.1 = some c)
    (h : ∀ (f c' : Addr) (pm ctv : Value) (H1 : Hp) (s' : Shared), Inv X pins σ H1 s' → Tb H H1 → Tabs T H1 →
      s'.heap.get? f = some (PySem.W.kla_obj "<lambda>" (X.env.qual ++ "<lambda>") params body scope (cloFrom X.env.cells scope.names []) pm c' ctv) → H1 f = none → f ∉ frs X.stack → H1 c' = some (CodeO c' (X.env.qual ++ "<lambda>")) → Q (.ref f) s') :
    wpAny (model X.prog X.w) X.A (eval (.Lambda params body scope pos) X.env) Q E s := by
  obtain ⟨ps, hP, ht, ha⟩ := hT _ hm
  have bP : s.heap.BuiltinsAt X.mg P := TB.bm.keeps I.bk
  have hP' : s.heap.get? P = some { cls := .none, data := .fields ps } := I.hok P _ hP
  have nofr : ∀ f, s.heap.objs.size ≤ f → f ∉ frs X.stack := fun f hf z => (List.mem_cons.mp (I.stkSub _ z)).elim
    (fun e => by have h1 := I.lt; rw [← e] at h1; exact Nat.lt_irrefl _ (Nat.lt_of_lt_of_le h1 hf)) fun e => I.nofs hf e
  refine PySem.W.kla_eval hdef ?_
  cases hc : codeAmong pos ps.toList with
  | none =>
    refine PySem.W.kla_makeFunction (mg := X.mg) (c := c) (P := P) (ps := ps) (closure_ok hfree) I.ok.glob (I.mod.glob.keeps I.bk) hcode (TB.code.keeps I.bk) hP' ht hc TB.gP bP fun c' ctv k tk hx hge hlt hrec htb => ?_
    obtain ⟨c2, oc, vs, t, e2, hoc, hd, hv⟩ := hrec
    cases e2
    have hsz : s.heap.objs.size ≤ k.objs.size := Nat.le_trans hge (Nat.le_of_lt hlt)
    have nC : H c' = none := I.hok.fresh hge
    have I1 := inv_table (t' := tk) (more := #[rawInt pos.line, rawInt pos.col, .ref c']) (h' := k.push (PySem.W.kla_obj "<lambda>" (X.env.qual ++ "<lambda>") params body scope (cloFrom X.env.cells scope.names []) ((X.mg "__name__").getD .none) c' ctv)) I hP
      (fun b o hb e => Heap.get?_push_of_some _ (hx b o hb e)) (Heap.get?_push_of_some _ htb) hge ⟨oc, vs, t, Heap.get?_push_of_some _ hoc, hd, hv⟩
    have hE : ExtN H (upd (upd H P (.tbl (ps ++ #[rawInt pos.line, rawInt pos.col, .ref c']))) c' (CodeO c' (X.env.qual ++ "<lambda>"))) := fun b o e n => by
      rw [upd_ne (ne_of_none e nC), upd_ne (fun z => n ps (Option.some.inj (e.symm.trans (by rw [z]; exact hP))))]
      exact e
    have hB : Tb H (upd (upd H P (.tbl (ps ++ #[rawInt pos.line, rawInt pos.col, .ref c']))) c' (CodeO c' (X.env.qual ++ "<lambda>"))) := ⟨hE, fun b qs e => by
      rw [upd_ne (ne_of_none e nC)]
      by_cases z : b = P
      · rw [z, upd_same]; exact ⟨_, rfl⟩
      · rw [upd_ne z]; exact ⟨qs, e⟩⟩
    have eL : (ps ++ #[rawInt pos.line, rawInt pos.col, .ref c']).toList = ps.toList ++ [rawInt pos.line, rawInt pos.col, .ref c'] := by simp
    refine h k.objs.size c' ((X.mg "__name__").getD .none) ctv _ _ I1 hB (fun p hp => ?_) (Heap.get?_push_size _ rfl) ?_ (nofr _ hsz) upd_same
    · by_cases hb : p.1 = P
      · rw [hu p hp hb, hb]
        refine ⟨_, by rw [upd_ne (ne_of_none hP nC), upd_same], by rw [eL]; exact PySem.TriplesOk_snoc _ _ _ _ ht, fun p' cv hcv => ?_⟩
        rw [eL] at hcv
        rcases among_app _ ht hcv with z | z
        · obtain ⟨c0, e1, e2⟩ := ha p' cv z
          exact ⟨c0, e1, hE _ _ e2 codeO_ne⟩
        · exact ⟨c', z, upd_same⟩
      · obtain ⟨ps', a1, a2, a3⟩ := hT p hp
        refine ⟨ps', by rw [upd_ne (ne_of_none a1 nC), upd_ne hb]; exact a1, a2, fun p' cv hcv => ?_⟩
        obtain ⟨c0, e1, e2⟩ := a3 p' cv hcv
        exact ⟨c0, e1, hE _ _ e2 codeO_ne⟩
    · rw [upd_ne (Nat.ne_of_gt hlt), upd_ne (Nat.ne_of_gt (Nat.lt_of_lt_of_le (Heap.lt_size hP') hsz))]
      exact I.hok.fresh hsz
  | some cv =>
    obtain ⟨c', e, hco⟩ := ha pos cv hc
    subst e
    refine PySem.W.kla_makeFunctionHit (mg := X.mg) (c := c) (P := P) (ps := ps) (closure_ok hfree) I.ok.glob (I.mod.glob.keeps I.bk) hcode (TB.code.keeps I.bk) hP' ht hc bP fun ctv k tk hx hsz => ?_
    have I1 : Inv X pins σ H { s with heap := k.push (PySem.W.kla_obj "<lambda>" (X.env.qual ++ "<lambda>") params body scope (cloFrom X.env.cells scope.names []) ((X.mg "__name__").getD .none) c' ctv), toks := tk } := I.kept fun b o e => Heap.get?_push_of_some _ (hx b o e)
    exact h k.objs.size c' ((X.mg "__name__").getD .none) ctv H _ I1 (Tb.refl H) hT (Heap.get?_push_size _ rfl) (I.hok.fresh hsz) (nofr _ hsz) hco
end
/-- the world behind the making of a lambda -/
theorem rel_tb {B : AL.Bas} {σ : List (Option V)} {s : AL.S} {H H1 : Hp} (I : AL.Rel B σ s none H) (t : Tb H H1) (hT : Tabs B.T H1) : AL.Rel B σ s none H1 ∧ AL.Le B σ s H s H1 := by
  have kp : ∀ a o, AL.Wr o → H a = some o → H1 a = some o := fun a o w h => t.ext a o h fun ps z => by subst z; exact w
  have ex : AL.Le B σ s H s H1 := fun a u g r => by
    have key : ∀ o, (∀ ps, o ≠ .tbl ps) → AL.hid B σ s none H a = some o → AL.hid B σ s none H1 a = some o := fun o n h => by
      obtain ⟨h1, h2, h3, h4⟩ := AL.hid_some h
      exact AL.hid_of (t.ext a o h1 n) h2 h3 h4
    cases u with
    | dK k => exact r.elim (fun q => .inl (key _ (fun _ z => by cases z) q)) fun ⟨o, q⟩ => .inr ⟨o, key _ (fun _ z => by cases z) q⟩
    | dT k => exact r.elim (fun q => .inl (key _ (fun _ z => by cases z) q)) fun ⟨o, q⟩ => .inr ⟨o, key _ (fun _ z => by cases z) q⟩
    | lst k => exact key _ (fun _ z => by cases z) r
    | tup k => exact key _ (fun _ z => by cases z) r
    | frz o u => exact key _ (fun _ z => by cases z) r
    | _ => cases g
  refine ⟨⟨I.len, fun i d h => ?_, fun i d h => ?_, I.inj, I.new, I.lent, I.lent2, fun b q => (by cases q), fun a o h1 h2 => ?_, hT, I.zs, I.zio⟩, ex⟩
  · obtain ⟨v, q, r⟩ := I.sh i d h
    exact ⟨v, q, AL.Dv.ext ex r⟩
  · obtain ⟨a, q, r, z⟩ := I.own i d h
    obtain ⟨o, q2, w⟩ := r.there
    exact ⟨a, q, r.mono ((kp a o w q2).trans q2.symm) ex, z⟩
  · rcases I.frame a o h1 h2 with q | ⟨ps, ps', e, q⟩
    · by_cases hb : ∃ ps, o = .tbl ps
      · obtain ⟨ps, rfl⟩ := hb
        obtain ⟨ps', q'⟩ := t.tbl a ps q
        exact .inr ⟨ps, ps', rfl, q'⟩
      · exact .inl (t.ext a o q fun ps z => hb ⟨ps, z⟩)
    · obtain ⟨ps2, q'⟩ := t.tbl a ps' q
      exact .inr ⟨ps, ps2, e, q'⟩
/-- the context of a lambda's body, its errors with no context of their own -/
abbrev lamCxN (X : Cx) (A : Around) (outer : List Env) (s : Shared) (H : Hp) (E : XK) (scope : Scope) (f c' : Addr) : Cx :=
  { lamCx X A outer s H E scope f c' with xe := fun e s' => wpAny (model X.prog X.w) (A.deeper (lamEnv X scope s.heap.objs.size f c')) (leaving (lamEnv X scope s.heap.objs.size f c') e) (fun _ s'' => L2N.CX X.prog X.w outer H s E e s'') (fun e' s'' => L2N.CX X.prog X.w outer H s E e' s'') s' }
theorem lam_takes {X : Cx} {A : Around} {outer : List Env} {s : Shared} {H : Hp} {E : XK} {scope : Scope} {f c' : Addr} : L2N.Takes (lamCxN X A outer s H E scope f c') (fun cls d _ H => E cls d H) := L2N.takes_of rfl rfl rfl rfl
theorem lam_inv {X : Cx} {A : Around} {outer : List Env} {s s' : Shared} {H H' : Hp} {E : XK} {scope : Scope} {f c' : Addr} {pins : List (Addr × Obj)} {σ : L2.St} (I : Inv (lamCx X A outer s H E scope f c') pins σ H' s') : Inv (lamCxN X A outer s H E scope f c') pins σ H' s' := by
  obtain ⟨o1, o2, o3, o4, o5, o6, o7, o8, o9, o10, o11, o12, o13, o14, o15, o16, o17, o18⟩ := I.ok
  exact ⟨⟨o1, o2, o3, o4, o5, o6, o7, o8, o9, o10, o11, o12, o13, o14, o15, o16, o17, o18⟩, I.os, I.bare, I.base, I.loc, I.cell, I.free, I.freeC, I.pin, I.hok, I.len⟩
section
variable {X : Cx} {pins : List (Addr × Obj)} {σ : L2.St} {H : Hp} {s : Shared}
/-- x(), in the def that got the lambda -/
theorem pe_actN {CXg : CXT} {Eg : XK} {Ng : List Str} {qg : Str} {sg : Scope} {g f c' : Addr} {cdg pm ctv : Value} {params : Arguments} {body : Expr} {scope : Scope} {k i : Nat} {a : Str} {pn : List (Addr × Obj)} {xe : Value → Shared → Prop} {W : WX} {tb : XK → TE} {p1 p2 : Pos}
    (I : Inv X pins σ H s) (L : LamS X.env.scope scope) (hf : s.heap.get? f = some (PySem.W.kla_obj "<lambda>" (X.env.qual ++ "<lambda>") params body scope (cloFrom X.env.cells scope.names []) pm c' ctv)) (hfn : H f = none) (hfr : f ∉ frs X.stack)
    (hbind : bindArgs (PySem.W.kla_fn "<lambda>" (X.env.qual ++ "<lambda>") params body scope (cloFrom X.env.cells scope.names []) pm (.ref c') ctv) ⟨[], []⟩ = pure [])
    (tk : L2N.Takes ((cxOf CXg X.prog X.w X.K X.mg X.base Ng qg sg g cdg X.A X.stack s H Eg).tr pn xe) W) (hr : Room (k + 1) (X.A.deeper (envOfC qg sg s.heap.objs.size g cdg)))
    (hbody : ∀ (A : Around) (outer : List Env) (s : Shared) (H : Hp) (E : XK), Room k (A.deeper (lamEnv X scope s.heap.objs.size f c')) → PE (lamCxN X A outer s H E scope f c') body (tb E))
    (hN : Ng[i]? = some a) (hv : Vis sg a) (hd : (a == ("__debug__" : Str)) = false) (hcd : (a == ("__classdict__" : Str)) = false) :
    PE ((cxOf CXg X.prog X.w X.K X.mg X.base Ng qg sg g cdg X.A X.stack s H Eg).tr pn xe) (.Call (.Name a p1) [] [] p2)
      (fun σZ HZ Q => σZ[i]? = some (some (.ref f)) ∧ HZ c' = some (CodeO c' (X.env.qual ++ "<lambda>")) ∧ tb (fun cls d H' => W cls d σZ H') σ HZ Q) := by
  refine ⟨fun pinsZ sZ σZ HZ Q IZ ⟨hs, hc, ht⟩ => ?_⟩
  refine wpAny_Call_Name_kw (thn ((pe_var (pos := p1) (i := i) hN hv hd hcd).run pinsZ sZ σZ HZ (fun v H1 => v = .ref f ∧ H1 = HZ) IZ ⟨.ref f, hs, rfl, rfl⟩) fun u s1 ⟨v, H1, I1, r1, ev, eH⟩ => ?_)
  subst ev
  rw [eH] at I1
  obtain rfl : u = Value.ref f := r1
  have of1 : s1.heap.get? f = some (PySem.W.kla_obj "<lambda>" (X.env.qual ++ "<lambda>") params body scope (cloFrom X.env.cells scope.names []) pm c' ctv) := I1.base.keep f _ hf hfn hfr (fun z => nomatch (show f ∈ ([] : List Addr) from z))
  refine PySem.W.callWith_F0 ⟨_, _, _, _, of1⟩ ?_
  have un : Un (frs X.stack) [] H HZ s.heap s1.heap := I1.base
  obtain ⟨⟨oc, vs, t, hoc, hdc, hvc⟩, _, _⟩ := I1.hok c' _ hc
  have rc : codeAny (model X.prog X.w) (X.A.deeper (envOfC qg sg s.heap.objs.size g cdg)) (.call (.ref f) ⟨[], []⟩) (CR (L2N.CX X.prog X.w) (envOfC qg sg s.heap.objs.size g cdg :: X.stack) X.prog X.w HZ s1 Q (fun cls d H' => W cls d σZ H')) s1 := by
    refine PySem.W.kla_callFunE hr.depth of1 rfl L.co L.gen rfl ⟨c', oc, vs, t, rfl, hoc, hdc, hvc⟩ ?_
    rw [hbind]
    refine wpAny_pure (wpAny_newFunctionEnv (fun y hy => (L.own y hy).2) (fun y hy => absurd hy (by simp)) (fun h₁ hns hsb => ⟨I1.nolimit.fresh _ hsb, ?_⟩) L.kind)
    show codeAny _ _ (.expr body (lamEnv X scope s1.heap.objs.size f c')) _ _
    have kp : ∀ b o, s1.heap.get? b = some o → h₁.get? b = some o := fun b o e => hsb.extBut b o (Nat.ne_of_lt (Heap.lt_size e)) (Heap.get?_push_of_some _ e)
    have J := lam_inv (lam_start2 (E := fun cls d H' => W cls d σZ H') (tk := s1.toks + ([] : List (Str × Value)).length) I L I1.env0 hr.hd un hns kp (f := f) (c' := c'))
    refine PySem.W.kla_codeExpr (wpAny_mono ((hbody _ _ s1 HZ _ (hr.deeper _)).run [] _ _ HZ Q J ht) (fun v s' ⟨w', H', J', rv, q⟩ => ⟨w', H', J'.os, J'.bare, J'.base, J'.hok, rv, q⟩) fun e s' hq => hq)
  refine wpAny_call (codeAny_mono rc fun r s' hq => ?_)
  cases r with
  | error e => exact L2N.passAt tk σZ pinsZ HZ s1 e s' I1 hq
  | ok fl =>
    cases fl with
    | ret u => exact I1.after hq
    | next => exact False.elim hq
    | brk => exact False.elim hq
    | cont => exact False.elim hq
end
end HX


set_option Elab.async false
set_option linter.all false
set_option maxRecDepth 100000
set_option maxHeartbeats 4000000
/-! HX8: error(lambda: ..), told(lambda: ..) by data. -/
namespace HX
open PySem PySem.Spec PyProof.Rows L2 LamX L2H
/-- an own error's class and what is told of it -/
structure Lab (K : PySem.W.Frag) (mg : Str → Option Value) (CS C : Addr) (bs : List Bool) (r : Str) : Prop where
  cls : ExcC K C
  ve : PySem.W.kitOne K (.ref C) (.type "ValueError") = some true
  exm : PySem.W.exmOne K (.ref C) (.ref CS) = some true
  len : bs.length = 12
  at_ : ∀ (j : Nat) (y : Str) (b : Bool), neC[j]? = some y → bs[j]? = some b → ∃ C', mg y = some (.ref C') ∧ PySem.W.kitOne K (.ref C) (.ref C') = some b
  txt : Txt.join " " (sel (Txt.split neL " ") bs) = r
  sz : ((sel (Txt.split neL " ") bs).map (·.length)).sum + (sel (Txt.split neL " ") bs).length * 1 ≤ 16777216
/-- the def that tells an error's kind, called in a suite -/
def NeCall (P : Program) (w : World) (K : PySem.W.Frag) (mg : Str → Option Value) (base : Heap) (CS : Addr) (nn : Str) (k : Nat) : Prop :=
  ∀ (Y : Cx) (a C : Addr) (oe : Obj) (bs : List Bool) (r e : Str) (i : Nat) (q1 q2 q3 : Pos), Y.prog = P → Y.w = w → Y.K = K → Y.mg = mg → Y.base = base → Lab K mg CS C bs r → (a, oe) ∈ Y.pn → Hot1 Y.A (a, oe) → RoomH k Y.A → Zc (.ref C) none oe → (∃ vs, oe.data = .fields vs) → Gl Y nn →
    Y.N[i]? = some e → Vis Y.env.scope e → (e == ("__debug__" : Str)) = false → (e == ("__classdict__" : Str)) = false →
    PE Y (.Call (.Name nn q1) [.Name e q2] [] q3) (fun σ H Q => σ[i]? = some (some (.ref a)) ∧ ∀ H', Gw H H' → Q (.str r) H')
/-- isinstance(e, ValueError), e the handled error -/
theorem pe_isVE {X : Cx} {a D : Addr} {oe : Obj} {i : Nat} {x : Str} {p1 p2 p3 pos : Pos} (hp : (a, oe) ∈ X.pn) (C : ExcC X.K D) (hz : Zc (.ref D) none oe) (hf : ∃ vs, oe.data = .fields vs) (gi : Gl X "isinstance") (mi : X.mg "isinstance" = none) (gv : Gl X "ValueError") (mv : X.mg "ValueError" = none)
    (hk : PySem.W.kitOne X.K (.ref D) (.type "ValueError") = some true) (hN : X.N[i]? = some x) (hv : Vis X.env.scope x) (hd : (x == ("__debug__" : Str)) = false) (hcd : (x == ("__classdict__" : Str)) = false) :
    PE X (.Call (.Name "isinstance" p1) [.Name x p2, .Name "ValueError" p3] [] pos) (fun σ H Q => σ[i]? = some (some (.ref a)) ∧ Q (.bl true) H) := by
  have hb : PE X (.Name "ValueError" p3) (tC (.ty "ValueError")) := pe_bltn gv mv (by decide +kernel) rfl (by decide) (by decide)
  exact AL.PE.imp (pe_callB (r := rIsE X.K D a) (call_isN hp C hz hf) gi mi (by decide +kernel) (pa_cons (pe_var hN hv hd hcd) (pa_cons hb pa_nil)) (by decide) (by decide)) fun σ H Q ⟨h, q⟩ => ⟨.ref a, h, .ty "ValueError", .type "ValueError", true, rfl, fun u r => r, hk, q⟩
section
variable {X : Cx} {CS : Addr} {nn : Str} {k : Nat}
/-- what the suite may rely on -/
structure SuOk (Y : Cx) (CS : Addr) (nn : Str) (k : Nat) (vb : Bool) : Prop where
  N : Y.N[1]? = some ("e" : Str)
  nd : Y.N.Nodup
  le : Y.env.kindOf "e" = some .local
  gi : vb = true → Gl Y "isinstance"
  mi : Y.mg "isinstance" = none
  gv : vb = true → Gl Y "ValueError"
  mv : Y.mg "ValueError" = none
  gL : Gl Y "LineError"
  mL : Y.mg "LineError" = some (.ref CS)
  gn : Gl Y nn
  ne : NeCall Y.prog Y.w Y.K Y.mg Y.base CS nn k
  room : RoomH k Y.A
/-- the suite's reading -/
def tSu (K : PySem.W.Frag) (mg : Str → Option Value) (CS : Addr) (a : Addr) (cls : Value) (d : Option Addr) (t : Str → TS) : TS := fun D σ H => ∃ C bs r, cls = .ref C ∧ d = none ∧ Lab K mg CS C bs r ∧ σ[1]? = some (some (.ref a)) ∧ t r D σ H
theorem su_of {Y : Cx} {a : Addr} {oe : Obj} {cls : Value} {d : Option Addr} {pn : List (Addr × Obj)} {b : List Stmt} {t : Str → TS} {vb : Bool} (O : SuOk Y CS nn k vb) (hz : L2N.Zn cls d oe) (hf : ∃ vs, oe.data = .fields vs)
    (h : ∀ C bs r, cls = .ref C → d = none → Lab Y.K Y.mg CS C bs r → (vb = true → ∀ q1 q2 q3 q4, PE (Y.suite a ((a, oe) :: pn)) (.Call (.Name "isinstance" q1) [.Name "e" q2, .Name "ValueError" q3] [] q4) (fun σ H Q => σ[1]? = some (some (.ref a)) ∧ Q (.bl true) H)) →
      (∀ q1 q2 q3, PE (Y.suite a ((a, oe) :: pn)) (.Call (.Name nn q1) [.Name "e" q2] [] q3) (fun σ H Q => σ[1]? = some (some (.ref a)) ∧ ∀ H', Gw H H' → Q (.str r) H')) → PSs (Y.suite a ((a, oe) :: pn)) b (fun D σ H => σ[1]? = some (some (.ref a)) ∧ t r D σ H)) :
    PSs (Y.suite a ((a, oe) :: pn)) b (tSu Y.K Y.mg CS a cls d t) := by
  refine ⟨fun pins s σ H D I ⟨C, bs, r, e1, e2, L, e3, q⟩ => ?_⟩
  subst e1 e2
  have mem : (a, oe) ∈ (Y.suite a ((a, oe) :: pn)).pn := List.mem_cons_self
  have hot : Hot1 (Y.suite a ((a, oe) :: pn)).A (a, oe) := by
    obtain ⟨vs, hv⟩ := hf
    exact ⟨rfl, vs, hv, hz.2.2 vs hv⟩
  have hr : RoomH k (Y.suite a ((a, oe) :: pn)).A := ⟨O.room.dp, O.room.un⟩
  exact (h C bs r rfl rfl L (fun hv q1 q2 q3 q4 => pe_isVE (X := Y.suite a ((a, oe) :: pn)) mem L.cls hz.zc hf (O.gi hv) O.mi (O.gv hv) O.mv L.ve O.N (.inl O.le) (by decide) (by decide))
    (fun q1 q2 q3 => O.ne (Y.suite a ((a, oe) :: pn)) a C oe bs r "e" 1 q1 q2 q3 rfl rfl rfl rfl rfl L mem hot hr hz.zc hf O.gn O.N (.inl O.le) (by decide) (by decide))).run pins s σ H D I ⟨e3, q⟩
/-- try: call() except LineError as e: return named(e) if isinstance(e, ValueError) else 'odd'; return '' -/
theorem terr_body {Y : Cx} {f c' : Addr} {q : Str} {tl : XK → Hp → VK → Prop} {j1 j2 : Nat} {q1 q2 q3 q4 q5 q6 q7 q8 q9 q10 q11 q12 q13 q14 q15 q16 q17 q18 : Pos} (hs : Y.stack = Y.env :: Y.outer) (hfr : Y.env.frame = some Y.env.locals) (O : SuOk Y CS nn k true)
    (act : ∀ (W : WX) (pn : List (Addr × Obj)) (xe : Value → Shared → Prop), L2N.Takes (Y.tr pn xe) W → PE (Y.tr pn xe) (.Call (.Name "call" q1) [] [] q2) (fun σZ HZ Q => σZ[0]? = some (some (.ref f)) ∧ HZ c' = some (CodeO c' q) ∧ tl (fun cls d H' => W cls d σZ H') HZ Q)) :
    ∃ t, PSs Y [.Try [.Expr (.Call (.Name "call" q1) [] [] q2) q3] [.ExceptHandler (some (.Name "LineError" q4)) (some "e") [.Return (some (.IfExp (.Call (.Name "isinstance" q5) [.Name "e" q6, .Name "ValueError" q7] [] q8) (.Call (.Name nn q9) [.Name "e" q10] [] q11) (.Constant (.str "odd") j1 q12) q13)) q14] q15] [] [] q16,
        .Return (some (.Constant (.str "") j2 q17)) q18] t ∧
      ∀ (H : Hp) (Q : VK), H c' = some (CodeO c' q) → (∀ (E E' : XK) (Q' Q'' : VK), (∀ cls d H', E cls d H' → E' cls d H') → (∀ v H', Q' v H' → Q'' v H') → tl E H Q' → tl E' H Q'') →
        tl (fun cls d H' => ∃ C bs r, cls = .ref C ∧ d = none ∧ Lab Y.K Y.mg CS C bs r ∧ ∀ H'', Gw H' H'' → Q (.str r) H'') H (fun _ H' => Q (.str "") H') → t { nx := fun _ H' => Q .non H', rt := Q } (L2.start ["call", "e"] [.ref f]) H := by
  refine ⟨_, pss_cons (L2N.ps_try_as (c := .ref CS) (i := 1) (Wout := fun _ _ _ _ => False) (ts := fun a cls d => tSu Y.K Y.mg CS a cls d fun r D σ H => ∀ H', Gw H H' → D.rt (.str r) H') hs hfr O.nd O.N O.le ⟨O.gL, by decide, .inl O.mL⟩ AL.takesN0
    (fun W pn xe tk _ => pss_one (ps_expr (act W pn xe tk) rfl)) (fun a oe cls d pn hz hf => su_of O hz hf fun C bs r e1 e2 L is ne => ?_)) (pss_one (ps_ret pe_str)), fun H Q hc mono h => ?_⟩
  · exact AL.PSs.imp (pss_one (ps_ret (pe_ifExp (pt_truth (is rfl q5 q6 q7 q8) fun _ => rfl) (ne q9 q10 q11) pe_str))) fun D σ H ⟨h1, h2⟩ => ⟨h1, true, rfl, iteT ⟨h1, h2⟩⟩
  · refine ⟨rfl, hc, mono _ _ _ _ (fun cls d H' => ?_) (fun v H' z => z) h⟩
    rintro ⟨C, bs, r, rfl, rfl, L, hQ⟩
    exact ⟨true, L.exm, fun _ a na => ⟨C, bs, r, rfl, rfl, L, rfl, hQ⟩, fun z => by cases z⟩
/-- try: return (call(), '') except LineError as e: return (None, named(e)) -/
theorem told_body {Y : Cx} {f c' : Addr} {q : Str} {tl : XK → Hp → VK → Prop} {j1 j2 k1 k2 : Nat} {q1 q2 q3 q4 q5 q6 q7 q8 q9 q10 q11 q12 q13 q14 : Pos} (hs : Y.stack = Y.env :: Y.outer) (hfr : Y.env.frame = some Y.env.locals) (O : SuOk Y CS nn k false)
    (act : ∀ (W : WX) (pn : List (Addr × Obj)) (xe : Value → Shared → Prop), L2N.Takes (Y.tr pn xe) W → PE (Y.tr pn xe) (.Call (.Name "call" q1) [] [] q2) (fun σZ HZ Q => σZ[0]? = some (some (.ref f)) ∧ HZ c' = some (CodeO c' q) ∧ tl (fun cls d H' => W cls d σZ H') HZ Q)) :
    ∃ t, PSs Y [.Try [.Return (some (.Tuple [.Call (.Name "call" q1) [] [] q2, .Constant (.str "") j1 q3] k1 q4)) q5] [.ExceptHandler (some (.Name "LineError" q6)) (some "e") [.Return (some (.Tuple [.Constant .none j2 q7, .Call (.Name nn q8) [.Name "e" q9] [] q10] k2 q11)) q12] q13] [] [] q14] t ∧
      ∀ (H : Hp) (Q : VK), H c' = some (CodeO c' q) → (∀ (E E' : XK) (Q' Q'' : VK), (∀ cls d H', E cls d H' → E' cls d H') → (∀ v H', Q' v H' → Q'' v H') → tl E H Q' → tl E' H Q'') →
        tl (fun cls d H' => ∃ C bs r, cls = .ref C ∧ d = none ∧ Lab Y.K Y.mg CS C bs r ∧ ∀ H'', Gw H' H'' → ∀ p, H'' p = none → Q (.ref p) (upd H'' p (.tup [.non, .str r]))) H (fun v H' => ∀ p, H' p = none → Q (.ref p) (upd H' p (.tup [v, .str ""]))) →
          t { nx := fun _ H' => Q .non H', rt := Q } (L2.start ["call", "e"] [.ref f]) H := by
  refine ⟨_, pss_one (L2N.ps_try_as (c := .ref CS) (i := 1) (Wout := fun _ _ _ _ => False) (ts := fun a cls d => tSu Y.K Y.mg CS a cls d fun r D σ H => ∀ H', Gw H H' → ∀ p, H' p = none → D.rt (.ref p) (upd H' p (.tup [.non, .str r]))) hs hfr O.nd O.N O.le ⟨O.gL, by decide, .inl O.mL⟩ AL.takesN0
    (fun W pn xe tk _ => pss_one (ps_ret (pe_tup (pa_cons (act W pn xe tk) (pa_cons pe_str pa_nil))))) (fun a oe cls d pn hz hf => su_of O hz hf fun C bs r e1 e2 L is ne => ?_)), fun H Q hc mono h => ?_⟩
  · exact AL.PSs.imp (pss_one (ps_ret (pe_tup (pa_cons pe_non (pa_cons (ne q8 q9 q10) pa_nil))))) fun D σ H ⟨h1, h2⟩ => ⟨h1, fun H' g => ⟨by show 2 ≤ sizeLine; decide, h2 H' g⟩⟩
  · refine ⟨rfl, hc, mono _ _ _ _ (fun cls d H' => ?_) (fun v H' z => ?_) h⟩
    · rintro ⟨C, bs, r, rfl, rfl, L, hQ⟩
      exact ⟨true, L.exm, fun _ a na => ⟨C, bs, r, rfl, rfl, L, rfl, hQ⟩, fun z => by cases z⟩
    · exact ⟨by show 2 ≤ sizeLine; decide, z⟩
end
end HX


set_option Elab.async false
set_option linter.all false
set_option maxRecDepth 100000
set_option maxHeartbeats 4000000
/-! HX9: error(lambda: ..), told(lambda: ..): what they give as data. -/
namespace HX
open PySem PySem.Spec PyProof.Rows L2 LamX L2H AL
def terrA (nn : Str) (j1 j2 : Nat) (q1 q2 q3 q4 q5 q6 q7 q8 q9 q10 q11 q12 q13 q14 q15 q16 q17 q18 : Pos) : List Stmt :=
  [.Try [.Expr (.Call (.Name "call" q1) [] [] q2) q3] [.ExceptHandler (some (.Name "LineError" q4)) (some "e") [.Return (some (.IfExp (.Call (.Name "isinstance" q5) [.Name "e" q6, .Name "ValueError" q7] [] q8) (.Call (.Name nn q9) [.Name "e" q10] [] q11) (.Constant (.str "odd") j1 q12) q13)) q14] q15] [] [] q16,
    .Return (some (.Constant (.str "") j2 q17)) q18]
def toldA (nn : Str) (j1 j2 k1 k2 : Nat) (q1 q2 q3 q4 q5 q6 q7 q8 q9 q10 q11 q12 q13 q14 : Pos) : List Stmt :=
  [.Try [.Return (some (.Tuple [.Call (.Name "call" q1) [] [] q2, .Constant (.str "") j1 q3] k1 q4)) q5] [.ExceptHandler (some (.Name "LineError" q6)) (some "e") [.Return (some (.Tuple [.Constant .none j2 q7, .Call (.Name nn q8) [.Name "e" q9] [] q10] k2 q11)) q12] q13] [] [] q14]
/-- the defs error, told as they stand -/
structure TryFn (P : Program) (w : World) (K : PySem.W.Frag) (mg : Str → Option Value) (base : Heap) (x : Str) (told : Bool) (CS : Addr) (nn : Str) (k : Nat) : Prop where
  fn : ∃ (g : Addr) (fd : FuncData) (params : Arguments) (body : List Stmt) (sg : Scope), FunD K x x params body sg [] [] g fd ∧ mg x = some (.ref g) ∧ Binds K fd ["call"] [] ∧ FnScope ["call", "e"] ["call"] sg ∧
    sg.names.lookup ("e" : Str) = some .local ∧ sg.names.lookup ("call" : Str) = some .local ∧ (told = false → sg.names.lookup ("isinstance" : Str) = some .globalImplicit) ∧ (told = false → sg.names.lookup ("ValueError" : Str) = some .globalImplicit) ∧ sg.names.lookup ("LineError" : Str) = some .globalImplicit ∧ sg.names.lookup nn = some .globalImplicit ∧
    (told = false → ∃ j1 j2 q1 q2 q3 q4 q5 q6 q7 q8 q9 q10 q11 q12 q13 q14 q15 q16 q17 q18, body = terrA nn j1 j2 q1 q2 q3 q4 q5 q6 q7 q8 q9 q10 q11 q12 q13 q14 q15 q16 q17 q18) ∧
    (told = true → ∃ j1 j2 k1 k2 q1 q2 q3 q4 q5 q6 q7 q8 q9 q10 q11 q12 q13 q14, body = toldA nn j1 j2 k1 k2 q1 q2 q3 q4 q5 q6 q7 q8 q9 q10 q11 q12 q13 q14)
  mi : mg "isinstance" = none
  mv : mg "ValueError" = none
  mL : mg "LineError" = some (.ref CS)
  ne : NeCall P w K mg base CS nn k
def terrD (lab : Str → Option Str) : Res R → Res R
  | .ok _ s => .ok (.sh (.str "")) s
  | .exc c s => (match lab c with
    | some r => .ok (.sh (.str r)) s
    | none => .bad)
  | .bad => .bad
def toldD (lab : Str → Option Str) : Res R → Res R
  | .ok r s => (hold r s).bind fun r1 s1 => (esc r1 s1).bind fun d s2 => .ok (.sh (.tup [d, .str ""])) s2
  | .exc c s => (match lab c with
    | some r => .ok (.sh (.tup [.non, .str r])) s
    | none => .bad)
  | .bad => .bad
/-- what is known of the maker of lambdas -/
structure MkOk (X : Cx) (T : List (Addr × Str)) : Prop where
  ex : ∃ (c P : Addr), X.env.code = .ref c ∧ TabB X.base X.mg c P ∧ (P, X.env.qual ++ "<lambda>") ∈ T ∧ ∀ p ∈ T, p.1 = P → p.2 = X.env.qual ++ "<lambda>"
def LabOk (K : PySem.W.Frag) (mg : Str → Option Value) (CS : Addr) (lab : Str → Option Str) : Prop := ∀ c r, lab c = some r → ∃ C bs, mg c = some (.ref C) ∧ Lab K mg CS C bs r
section
variable {X : Cx} {p : P0} {W : WX}
/-- x(lambda: body), by what x makes of it -/
theorem pe_lamN {told : Bool} {CS : Addr} {nn x : Str} {k : Nat} {params : Arguments} {body : Expr} {scope : Scope} {t : XK → TE} {p1 lpos pos : Pos} {T : List (Addr × Str)} (F : TryFn X.prog X.w X.K X.mg X.base x told CS nn k) (M : MkOk X T) (hg : Gl X x) (hdb : (x == ("__debug__" : Str)) = false) (hr : Room (k + 2) X.A)
    (L : LamS X.env.scope scope) (hdef : defaultsOf params X.env = ([], [])) (hbind : ∀ (q : Str) (cl : List (Str × Addr)) (pm cv ctv : Value), bindArgs (PySem.W.kla_fn "<lambda>" q params body scope cl pm cv ctv) ⟨[], []⟩ = pure [])
    (hbody : ∀ (A : Around) (outer : List Env) (s : Shared) (H : Hp) (E : XK) (f c' : Addr), Room k (A.deeper (lamEnv X scope s.heap.objs.size f c')) → PE (lamCxN X A outer s H E scope f c') body (t E))
    (mono : ∀ (σ : L2.St) (H : Hp) (E E' : XK) (Q' Q'' : VK), (∀ cls d H', E cls d H' → E' cls d H') → (∀ v H', Q' v H' → Q'' v H') → t E σ H Q' → t E' σ H Q'') :
    PE X (.Call (.Name x p1) [.Lambda params body scope lpos] [] pos) (fun σ H Q => Tabs T H ∧ ∀ H1, Tb H H1 → Tabs T H1 →
      (told = false → t (fun cls d H' => ∃ C bs r, cls = .ref C ∧ d = none ∧ Lab X.K X.mg CS C bs r ∧ ∀ H'', Gw H' H'' → Q (.str r) H'') σ H1 (fun _ H' => Q (.str "") H')) ∧
      (told = true → t (fun cls d H' => ∃ C bs r, cls = .ref C ∧ d = none ∧ Lab X.K X.mg CS C bs r ∧ ∀ H'', Gw H' H'' → ∀ p, H'' p = none → Q (.ref p) (upd H'' p (.tup [.non, .str r]))) σ H1 (fun v H' => ∀ p, H' p = none → Q (.ref p) (upd H' p (.tup [v, .str ""]))))) := by
  obtain ⟨⟨g, fd, pg, bg, sg, FD, hmg, hbg, Sg, le, lc, li, lv, lL, ln, hA, hB⟩, mi, mv, mL, ne⟩ := F
  obtain ⟨c, P, hcode, TB, hmT, hu⟩ := M.ex
  obtain ⟨oc, od, dV, kV, doc, pm0, an, cdv, ct, osl, rfl, lk, hcg, _, _⟩ := FD.ex
  refine ⟨fun pins s σ H Q I ⟨hT, h⟩ => ?_⟩
  refine wpAny_Call_Name_kw (ld_glob I hg hmg ?_ hdb)
  refine PySem.W.callWith_K (h₀ := X.base) I.ok.mod.kin FD.kp ?_ (by rfl) (by rfl)
  show wpAny _ _ (spliced ((false, eval (.Lambda params body scope lpos) X.env) :: backTo pos (starEach [] X.env))) _ _ s
  refine Calls.spliced_cons (lam_new I TB hcode hmT hu hT hdef (L.has I.ok) fun f c' pm' ctv H1 s' I1 eN T1 hf hfn hfr hco => Calls.spliced_nil ⟨I1.kIn, ?_⟩)
  have rc : codeAny (model X.prog X.w) X.A (.call (.ref g) ⟨[.ref f], []⟩) (CR CX0 X.stack X.prog X.w H1 s' Q E0) s' := by
    have b := hbg s' [.ref f] I1.kIn rfl
    rw [List.append_nil] at b
    refine run_ofS (N := ["call", "e"]) (ps := ["call"]) (us := [.ref f]) (vs := [.ref f]) lk hcg Sg hr I1.env0 b (.cons rfl .nil) rfl fun hr' => ?_
    have O : SuOk (cxOf CX0 X.prog X.w X.K X.mg X.base ["call", "e"] x sg g cdv X.A X.stack s' H1 E0) CS nn k (!told) := ⟨rfl, Sg.nd, le, fun h => li (by cases told <;> first | rfl | cases h), mi, fun h => lv (by cases told <;> first | rfl | cases h), mv, lL, mL, ln, ne, (roomH_of (hr'.mono (Nat.le_succ k)))⟩
    have act : ∀ (q1 q2 : Pos) (W : WX) (pn : List (Addr × Obj)) (xe : Value → Shared → Prop), L2N.Takes ((cxOf CX0 X.prog X.w X.K X.mg X.base ["call", "e"] x sg g cdv X.A X.stack s' H1 E0).tr pn xe) W →
        PE ((cxOf CX0 X.prog X.w X.K X.mg X.base ["call", "e"] x sg g cdv X.A X.stack s' H1 E0).tr pn xe) (.Call (.Name "call" q1) [] [] q2) (fun σZ HZ Q => σZ[0]? = some (some (.ref f)) ∧ HZ c' = some (CodeO c' (X.env.qual ++ "<lambda>")) ∧ t (fun cls d H' => W cls d σZ H') σ HZ Q) := fun q1 q2 W pn xe tk =>
      pe_actN (i := 0) I1 L hf hfn hfr (hbind _ _ _ _ _) tk hr' (fun A outer s H E hr2 => hbody A outer s H E f c' hr2) rfl (.inl lc) (by decide) (by decide)
    cases told with
    | false =>
      obtain ⟨j1, j2, q1, q2, q3, q4, q5, q6, q7, q8, q9, q10, q11, q12, q13, q14, q15, q16, q17, q18, rfl⟩ := hA rfl
      obtain ⟨t', ht', hq'⟩ := terr_body (j1 := j1) (j2 := j2) (q1 := q1) (q2 := q2) (q3 := q3) (q4 := q4) (q5 := q5) (q6 := q6) (q7 := q7) (q8 := q8) (q9 := q9) (q10 := q10) (q11 := q11) (q12 := q12) (q13 := q13) (q14 := q14) (q15 := q15) (q16 := q16) (q17 := q17) (q18 := q18) (tl := fun E H' Q' => t E σ H' Q') rfl rfl O (act q1 q2)
      exact ⟨t', ht', hq' H1 Q hco (fun E E' Q' Q'' => mono σ H1 E E' Q' Q'') ((h H1 eN T1).1 rfl)⟩
    | true =>
      obtain ⟨j1, j2, k1, k2, q1, q2, q3, q4, q5, q6, q7, q8, q9, q10, q11, q12, q13, q14, rfl⟩ := hB rfl
      obtain ⟨t', ht', hq'⟩ := told_body (j1 := j1) (j2 := j2) (k1 := k1) (k2 := k2) (q1 := q1) (q2 := q2) (q3 := q3) (q4 := q4) (q5 := q5) (q6 := q6) (q7 := q7) (q8 := q8) (q9 := q9) (q10 := q10) (q11 := q11) (q12 := q12) (q13 := q13) (q14 := q14) (tl := fun E H' Q' => t E σ H' Q') rfl rfl O (act q1 q2)
      exact ⟨t', ht', hq' H1 Q hco (fun E E' Q' Q'' => mono σ H1 E E' Q' Q'') ((h H1 eN T1).2 rfl)⟩
  refine wpAny_call (codeAny_mono rc fun r s2 hq => ?_)
  cases r with
  | error e => exact (show False from hq).elim
  | ok fl =>
    cases fl with
    | ret u => exact I1.after hq
    | next => exact (show False from hq).elim
    | brk => exact (show False from hq).elim
    | cont => exact (show False from hq).elim
theorem tG_mono2 {B : Bas} {f : S → Res R} {σ : List (Option V)} {H : Hp} {E E' : XK} {Q' Q'' : VK} (hE : ∀ cls d H', E cls d H' → E' cls d H') (hQ : ∀ v H', Q' v H' → Q'' v H') (h : tG B (fun cls d _ H => E cls d H) (relR B) f σ H Q') : tG B (fun cls d _ H => E' cls d H) (relR B) f σ H Q'' := by
  obtain ⟨s, I, q⟩ := h
  refine ⟨s, I, ?_⟩
  cases e : f s with
  | ok r s' => rw [e] at q; exact fun v H' r l => hQ _ _ (q v H' r l)
  | exc c s' => rw [e] at q; exact fun H' I' l C hC => hE _ _ _ (q H' I' l C hC)
  | bad => rw [e] at q; exact q
theorem relR_drop {B : Bas} {σ : List (Option V)} {s : S} {H : Hp} {r : R} {v : V} (h : relR B σ s H r v) : Rel B σ s none H ∧ Ext (hid B σ s (xR r v) H) (hid B σ s none H) := by
  cases r with
  | sh d => exact ⟨h.1, Ext.refl _⟩
  | ob i => exact ⟨h.1, Ext.refl _⟩
  | fr d => obtain ⟨a, rfl, I, c⟩ := h; exact ⟨I.dropX, hid_x⟩
theorem relR_hold {B : Bas} {σ : List (Option V)} {s s1 : S} {H : Hp} {r r1 : R} {v : V} (h : relR B σ s H r v) (e : hold r s = .ok r1 s1) : s1 = s ∧ relH B σ s H r1 v := by
  cases r with
  | sh d => cases e; exact ⟨rfl, h⟩
  | ob i => cases e; exact ⟨rfl, h⟩
  | fr d =>
    obtain ⟨a, rfl, I, c⟩ := h
    unfold hold at e
    dsimp only at e
    split at e
    · cases e
    · rename_i ho
      cases e
      obtain ⟨I2, dv⟩ := I.freeX c fun c ns vs z => ho (by rw [z]; rfl)
      exact ⟨rfl, I2, dv⟩
variable {told : Bool} {CS : Addr} {nn x : Str} {k : Nat} {params : Arguments} {body : Expr} {scope : Scope} {p1 lpos pos : Pos} {g : S → Res R} {lab : Str → Option Str}
theorem de_terr (F : TryFn X.prog X.w X.K X.mg X.base x false CS nn k) (M : MkOk X p.T) (hl : LabOk X.K X.mg CS lab) (hg : Gl X x) (hdb : (x == ("__debug__" : Str)) = false) (hr : Room (k + 2) X.A)
    (L : LamS X.env.scope scope) (hdef : defaultsOf params X.env = ([], [])) (hbind : ∀ (q : Str) (cl : List (Str × Addr)) (pm cv ctv : Value), bindArgs (PySem.W.kla_fn "<lambda>" q params body scope cl pm cv ctv) ⟨[], []⟩ = pure [])
    (hbody : ∀ (A : Around) (outer : List Env) (s : Shared) (H : Hp) (E : XK) (f c' : Addr), Room k (A.deeper (lamEnv X scope s.heap.objs.size f c')) → DE (lamCxN X A outer s H E scope f c') p (fun cls d _ H => E cls d H) body g) :
    DE X p W (.Call (.Name x p1) [.Lambda params body scope lpos] [] pos) (fun s => terrD lab (g s)) := by
  refine PE.imp (pe_lamN (t := fun E => tG (bs X p) (fun cls d _ H => E cls d H) (relR (bs X p)) g) F M hg hdb hr L hdef hbind hbody fun σ H E E' Q' Q'' hE hQ => tG_mono2 hE hQ) fun σ H Q ⟨s, I, q⟩ => ⟨I.tabs, fun H1 tb T1 => ⟨fun _ => ?_, fun z => Bool.noConfusion z⟩⟩
  obtain ⟨I1, l1⟩ := rel_tb I tb T1
  refine ⟨s, I1, ?_⟩
  dsimp only at q
  cases e : g s with
  | bad => rw [e] at q; exact q
  | ok r s1 =>
    rw [e] at q
    intro v H' hr' l
    obtain ⟨J, lx⟩ := relR_drop hr'
    exact tR_ok (v := V.str "") q (show relR (bs X p) σ s1 H' (.sh (.str "")) (.str "") from ⟨J, Dv.str _⟩) ((Ext.trans l1 l).trans lx)
  | exc c s1 =>
    rw [e] at q
    unfold terrD at q
    dsimp only at q
    split at q
    · rename_i r hr2
      intro H' J l C hC
      obtain ⟨C', bs', e1, e2⟩ := hl c r hr2
      have hC : X.mg c = some (.ref C) := hC
      rw [hC] at e1; cases e1
      refine ⟨C, bs', r, rfl, rfl, e2, fun H'' gw => ?_⟩
      obtain ⟨J2, l2, _⟩ := J.grow gw
      exact tR_ok (v := V.str r) q (show relR (bs X p) σ s1 H'' (.sh (.str r)) (.str r) from ⟨J2, Dv.str _⟩) ((Ext.trans l1 l).trans l2)
    · exact q.elim
theorem de_told (F : TryFn X.prog X.w X.K X.mg X.base x true CS nn k) (M : MkOk X p.T) (hl : LabOk X.K X.mg CS lab) (hg : Gl X x) (hdb : (x == ("__debug__" : Str)) = false) (hr : Room (k + 2) X.A)
    (L : LamS X.env.scope scope) (hdef : defaultsOf params X.env = ([], [])) (hbind : ∀ (q : Str) (cl : List (Str × Addr)) (pm cv ctv : Value), bindArgs (PySem.W.kla_fn "<lambda>" q params body scope cl pm cv ctv) ⟨[], []⟩ = pure [])
    (hbody : ∀ (A : Around) (outer : List Env) (s : Shared) (H : Hp) (E : XK) (f c' : Addr), Room k (A.deeper (lamEnv X scope s.heap.objs.size f c')) → DE (lamCxN X A outer s H E scope f c') p (fun cls d _ H => E cls d H) body g) :
    DE X p W (.Call (.Name x p1) [.Lambda params body scope lpos] [] pos) (fun s => toldD lab (g s)) := by
  refine PE.imp (pe_lamN (t := fun E => tG (bs X p) (fun cls d _ H => E cls d H) (relR (bs X p)) g) F M hg hdb hr L hdef hbind hbody fun σ H E E' Q' Q'' hE hQ => tG_mono2 hE hQ) fun σ H Q ⟨s, I, q⟩ => ⟨I.tabs, fun H1 tb T1 => ⟨fun z => Bool.noConfusion z, fun _ => ?_⟩⟩
  obtain ⟨I1, l1⟩ := rel_tb I tb T1
  refine ⟨s, I1, ?_⟩
  dsimp only at q
  cases e : g s with
  | bad => rw [e] at q; exact q
  | ok r s1 =>
    rw [e] at q
    intro v H' hr' l
    unfold toldD at q
    dsimp only at q
    cases e1 : hold r s1 with
    | bad => rw [e1] at q; exact q.elim
    | exc c s2 =>
      unfold hold at e1
      cases r with
      | fr d => dsimp only at e1; split at e1 <;> cases e1
      | sh d => cases e1
      | ob i => cases e1
    | ok r1 s2 =>
      rw [e1, bind_ok] at q
      obtain ⟨rfl, hh⟩ := relR_hold hr' e1
      cases e2 : esc r1 s2 with
      | bad => rw [e2] at q; exact q.elim
      | exc c s3 => exact absurd e2 esc_nexc
      | ok d s3 =>
        rw [e2, bind_ok] at q
        obtain ⟨J, l3, dv⟩ := esc_ok hh.1 hh.2 e2
        have lx := (relR_drop hr').2
        exact tup_ok J (.cons dv (.cons (Dv.str "") .nil)) (tR_le (((Ext.trans l1 l).trans lx).trans l3) q)
  | exc c s1 =>
    rw [e] at q
    unfold toldD at q
    dsimp only at q
    split at q
    · rename_i r hr2
      intro H' J l C hC
      obtain ⟨C', bs', e1, e2⟩ := hl c r hr2
      have hC : X.mg c = some (.ref C) := hC
      rw [hC] at e1; cases e1
      refine ⟨C, bs', r, rfl, rfl, e2, fun H'' gw => ?_⟩
      obtain ⟨J2, l2, _⟩ := J.grow gw
      exact tup_ok J2 (.cons Dv.non (.cons (Dv.str r) .nil)) (tR_le ((Ext.trans l1 l).trans l2) q)
    · exact q.elim
end
end HX


set_option Elab.async false
set_option linter.all false
set_option maxRecDepth 100000
set_option maxHeartbeats 4000000
/-! HX10: a call of what a name holds; levels of the try defs. -/
namespace HX
open PySem PySem.Spec PyProof.Rows L2 LamX L2H AL
theorem NeCall.mono {P : Program} {w : World} {K : PySem.W.Frag} {mg : Str → Option Value} {base : Heap} {CS : Addr} {nn : Str} {j k : Nat} (h : NeCall P w K mg base CS nn j) (l : j ≤ k) : NeCall P w K mg base CS nn k :=
  fun Y a C oe bs r e i q1 q2 q3 h1 h2 h3 h4 h5 h6 h7 h8 h9 => h Y a C oe bs r e i q1 q2 q3 h1 h2 h3 h4 h5 h6 h7 h8 (h9.mono l)
theorem TryFn.mono {P : Program} {w : World} {K : PySem.W.Frag} {mg : Str → Option Value} {base : Heap} {x : Str} {told : Bool} {CS : Addr} {nn : Str} {j k : Nat} (h : TryFn P w K mg base x told CS nn j) (l : j ≤ k) : TryFn P w K mg base x told CS nn k :=
  ⟨h.fn, h.mi, h.mv, h.mL, h.ne.mono l⟩
/-- what the name at i holds is called -/
def callVD (tab : Str → Option Fs) (i : Nat) (f : S → Res (List R)) (s : S) : Res R := match s[i]? with
  | some (some (.sh (.fn z))) => (match tab z with
    | some F => (f s).bind fun rs s2 => callD F rs s2
    | none => .bad)
  | _ => .bad
section
variable {X : Cx} {p : P0} {W : WX} {e : Expr} {es : List Expr} {pos pos' : Pos} {f : S → Res (List R)} {k i : Nat} {y : Str}
theorem de_callV {tab : Str → Option Fs} (G : ∀ z F, tab z = some F → Has X.prog X.w X.K X.mg X.base p.T k z F) (hr : Room k X.A) (tk : L2N.Takes X W) (hN : X.N[i]? = some y) (hv : Vis X.env.scope y) (hd : (y == ("__debug__" : Str)) = false) (hcd : (y == ("__classdict__" : Str)) = false) (ha : DA X p W (e :: es) f)
    (he : starEach (e :: es) X.env = (false, eval e X.env) :: starEach es X.env) (hpl : (starEach es X.env).any (·.1) = false) : DE X p W (.Call (.Name y pos') (e :: es) [] pos) (callVD tab i f) := by
  refine ⟨fun pins s' σ H Q Iv ⟨s, J, q⟩ => ?_⟩
  unfold callVD at q
  split at q
  · rename_i z hz
    split at q
    · rename_i F hF
      obtain ⟨fa, fd, ps, h1, h2, h3, h4⟩ := (G z F hF).ex
      obtain ⟨v, e1, e2⟩ := J.sh i _ hz
      obtain rfl : v = .ref fa := by
        cases e2 with
        | fn hm => have hm : X.mg z = some (.ref _) := hm; rw [h2] at hm; cases hm; rfl
      refine wpAny_Call_Name_kw (thn ((pe_var hN hv hd hcd).run pins s' σ H (fun v H1 => v = .ref fa ∧ H1 = H) Iv ⟨.ref fa, e1, rfl, rfl⟩) fun u s1 ⟨v, H1, I1, rr1, ev, eH⟩ => ?_)
      subst ev
      rw [eH] at I1
      obtain rfl : u = Value.ref fa := rr1
      refine PySem.W.callWith_K (h₀ := X.base) I1.ok.mod.kin h3 (thn (ha.run pos pins s1 σ H _ I1 ⟨s, J, tR_mono (tR_bind (rel := relL (bs X p)) q) fun vs H1 ⟨rs, s1, ⟨J1, hd⟩, l1, q1⟩ => (spF_of J1 hd q1 : spF X.K X.mg p.T F vs H1 Q (WE W σ))⟩) fun us s2 ⟨vs, H2, I2, r, q2⟩ => ⟨I2.kIn, ?_⟩) he (by rw [backTo_any]; exact hpl)
      exact run_fnSD (E := fun σ => WE W σ) (dvs := []) h1 hr h4 .nil (L2N.passAt tk σ) I2 r (by rw [List.append_nil]; exact q2)
    · exact q.elim
  · exact q.elim
end
end HX


set_option Elab.async false
set_option linter.all false
set_option maxRecDepth 100000
set_option maxHeartbeats 1000000
/-! AL15: code as data: its shape, its check against the text, its reading. -/
namespace AL
open PySem PySem.Spec PyProof.Rows L2
inductive Bi where
  | len | int_ | bool_ | str_ | tuple_ | list_ | sum_ | max_ | min_ | all_ | any_
  deriving DecidableEq
def Bi.name : Bi → Str
  | .len => "len" | .int_ => "int" | .bool_ => "bool" | .str_ => "str" | .tuple_ => "tuple" | .list_ => "list" | .sum_ => "sum" | .max_ => "max" | .min_ => "min" | .all_ => "all" | .any_ => "any"
def Bi.fn : Bi → Bf
  | .len => bLen | .int_ => bInt | .bool_ => bBool | .str_ => bStr | .tuple_ => bTuple | .list_ => bList | .sum_ => bSum | .max_ => bMax | .min_ => bMin | .all_ => bAll | .any_ => bAny
/-- code -/
inductive I where
  | nil
  | cons (a r : I)
  | var (i : Nat)
  | cst (d : D)
  | glo (x : Str) (d : D)
  | tup (a : I)
  | lst (a : I)
  | bin (op : Operator) (a b : I)
  | neg (a : I)
  | cmp (op : CmpOp) (a b : I)
  | chn (o1 o2 : CmpOp) (a b c : I)
  | and_ (a : I)
  | or_ (a : I)
  | not_ (a : I)
  | tru (a : I)
  | ite (t a b : I)
  | ix (a b : I)
  | slc (a lo hi : I)
  | call (x : Str) (F : Fs) (a : I)
  | bi (b : Bi) (a : I)
  | isi (T : String) (a : I)
  | comp (g it ts e : I) (own : List (Str × Nat))
  | app (o a : I)
  | popAt (o a : I)
  | pop (o : I)
  | split (o a : I)
  | join (o a : I)
  | fstr (a : I)
  | fmt (a : I)
  | rev (a : I)
  | repl (a : I) (y z : Str)
  | terr (x : Str) (b : I)
  | told (x : Str) (b : I)
  | callV (i : Nat) (tab : Str → Option Fs) (a : I)
  | seq (a : I)
  | rng1 (a : I)
  | rng2 (a b : I)
  | pass
  | brk
  | cnt
  | expr (a : I)
  | ret (a : I)
  | ret0
  | sif (t a b : I)
  | set (i : Nat) (a : I)
  | setLc (i : Nat) (g it ts e : I) (own : List (Str × Nat))
  | asg (g a : I)
  | par (i j : Nat) (a b : I)
  | for_ (g it body : I)
  | whl (t body : I)
  | raise (x : Str)
  | tok (i : Nat) (y : Str) (a r : I)

/-! ### the reading -/
/-- a test's first value ends it -/
def stepAnd (c : Bool) (g : S → Res Bool) (s : S) : Res Bool := if c = true then g s else .ok false s
def stepOr (c : Bool) (g : S → Res Bool) (s : S) : Res Bool := if c = true then .ok true s else g s
def stepAndV (r : R) (c : Bool) (g : S → Res R) (s : S) : Res R := if c = true then g s else .ok r s
def stepOrV (r : R) (c : Bool) (g : S → Res R) (s : S) : Res R := if c = true then .ok r s else g s
def cho {τ : Type} (b : Bool) (f g : S → Res τ) (s : S) : Res τ := if b = true then f s else g s
def tupR (rs : List R) (s : S) : Res R := (escs rs s).bind fun ds s1 => if lineOk ds.length = true then .ok (.sh (.tup ds)) s1 else .bad
def lstR (rs : List R) (s : S) : Res R := (escs rs s).bind fun ds s1 => if lineOk ds.length = true then newLst ds s1 else .bad
def lstR1 (y : Str) (rs : List R) (s : S) : Res R := lstR (.sh (.str y) :: rs) s
def rng1R (rs : List R) (s : S) : Res (List D) := match rs with
  | [_] => itRng rs s
  | _ => .bad
def rng2R (rs : List R) (s : S) : Res (List D) := match rs with
  | [_, _] => itRng rs s
  | _ => .bad
def exprR (r : R) (s : S) : Res Fl := match r with
  | .fr d => if isObjD d = true then .bad else .ok .nx s
  | _ => .ok .nx s
def asgR (tf : D → S → Option S) (r : R) (s : S) : Res Fl := (esc r s).bind fun d s2 => match tf d s2 with
  | some s3 => .ok .nx s3
  | none => .bad
def bnd {τ υ : Type} (f : S → Res τ) (k : τ → S → Res υ) (s : S) : Res υ := (f s).bind k
def ret1 {τ : Type} (a : τ) (s : S) : Res τ := .ok a s
def gL (r : R) (g : S → Res R) (s : S) : Res R := if isLst r s = true then g s else .bad
def gS (r : R) (g : S → Res R) (s : S) : Res R := if isStr r = true then g s else .bad
/-- what is told of the own errors -/
def labN (c : Str) : Option Str := (HX.neC.zip (Txt.split HX.neL " ")).lookup c
def aft {τ υ : Type} (k : Res τ → Res υ) (f : S → Res τ) (s : S) : Res υ := k (f s)
/-- how many targets -/
def cntI : I → Nat
  | .cons _ r => cntI r + 1
  | _ => 0
mutual
noncomputable def evE : I → S → Res R
  | .var i => evVar i
  | .cst d => ret1 (.sh d)
  | .glo _ d => ret1 (.sh d)
  | .tup a => bnd (evA a) tupR
  | .lst a => bnd (evA a) lstR
  | .bin op a b => bnd (bnd (evE a) hold) fun x => bnd (bnd (evE b) hold) fun y => binD op x y
  | .neg a => bnd (bnd (evE a) hold) negR
  | .cmp op a b => bnd (bnd (evE a) hold) fun x => bnd (bnd (evE b) hold) fun y => cmpD op x y
  | .chn o1 o2 a b c => bnd (bnd (evE a) hold) fun x => bnd (bnd (evE b) hold) fun y => chD o1 o2 x y (bnd (evE c) hold)
  | .and_ a => evAndV a
  | .or_ a => evOrV a
  | .not_ a => bnd (bnd (evE a) hold) fun r => bnd (truR r) fun c => ret1 (.sh (.bl (!c)))
  | .ite t a b => bnd (evT t) fun c => cho c (evE a) (evE b)
  | .ix a b => bnd (bnd (evE a) hold) fun x => bnd (bnd (evE b) hold) fun y => ixD x y
  | .slc a lo hi => bnd (bnd (evE a) hold) fun x => bnd (evO lo) fun l => bnd (evO hi) fun h => slD x l h
  | .call _ F a => bnd (evA a) (callD F)
  | .bi b a => bnd (evA a) b.fn
  | .isi T a => bnd (bnd (evE a) hold) (isiD T)
  | .comp g it ts e own => compD (evI it) (evG g) (evTs ts) (bnd (evE e) hold) (own.map (·.2))
  | .app o a => bnd (bnd (evE o) hold) fun x => gL x (bnd (bnd (evE a) hold) fun y => mAppend x y)
  | .popAt o a => bnd (bnd (evE o) hold) fun x => gL x (bnd (bnd (evE a) hold) fun y => mPopAt x y)
  | .pop o => bnd (bnd (evE o) hold) mPop
  | .split o a => bnd (bnd (evE o) hold) fun x => gS x (bnd (bnd (evE a) hold) fun y => mSplit x y)
  | .join o a => bnd (bnd (evE o) hold) fun x => gS x (bnd (bnd (evE a) hold) fun y => mJoin x y)
  | .fstr a => bnd (jsD (evJ a) Str.empty) fun z => ret1 (.sh (.str z))
  | .fmt a => bnd (bnd (evE a) hold) fmtR
  | .rev a => bnd (bnd (evE a) hold) revR
  | .repl a y z => bnd (bnd (evE a) hold) (replR y z)
  | .terr _ b => aft (HX.terrD labN) (evE b)
  | .told _ b => aft (HX.toldD labN) (evE b)
  | .callV i tab a => HX.callVD tab i (evA a)
  | _ => fun _ => .bad
noncomputable def evA : I → S → Res (List R)
  | .nil => ret1 []
  | .cons a r => bnd (bnd (evE a) hold) fun x => bnd (evA r) fun xs => ret1 (x :: xs)
  | _ => fun _ => .bad
noncomputable def evJ : I → List (S → Res R)
  | .cons a r => bnd (evE a) hold :: evJ r
  | _ => []
noncomputable def evT : I → S → Res Bool
  | .tru a => bnd (bnd (evE a) hold) truR
  | .not_ a => bnd (evT a) fun c => ret1 (!c)
  | .cmp op a b => bnd (bnd (evE a) hold) fun x => bnd (bnd (evE b) hold) fun y => bnd (cmpD op x y) asB
  | .chn o1 o2 a b c => bnd (bnd (evE a) hold) fun x => bnd (bnd (evE b) hold) fun y => bnd (chD o1 o2 x y (bnd (evE c) hold)) asB
  | .and_ a => evAnd a
  | .or_ a => evOr a
  | _ => fun _ => .bad
noncomputable def evAnd : I → S → Res Bool
  | .cons a .nil => evT a
  | .cons a (.cons b r) => bnd (evT a) fun c => stepAnd c (evAnd (.cons b r))
  | _ => fun _ => .bad
noncomputable def evOr : I → S → Res Bool
  | .cons a .nil => evT a
  | .cons a (.cons b r) => bnd (evT a) fun c => stepOr c (evOr (.cons b r))
  | _ => fun _ => .bad
noncomputable def evAndV : I → S → Res R
  | .cons a .nil => evE a
  | .cons a (.cons b r) => bnd (bnd (evE a) hold) fun x => bnd (truR x) fun c => stepAndV x c (evAndV (.cons b r))
  | _ => fun _ => .bad
noncomputable def evOrV : I → S → Res R
  | .cons a .nil => evE a
  | .cons a (.cons b r) => bnd (bnd (evE a) hold) fun x => bnd (truR x) fun c => stepOrV x c (evOrV (.cons b r))
  | _ => fun _ => .bad
noncomputable def evO : I → S → Res (Option Int)
  | .nil => ret1 none
  | .cons a .nil => bnd (bnd (evE a) hold) intR
  | _ => fun _ => .bad
noncomputable def evG : I → D → S → Option S
  | .var i => setV i
  | .tup a => tgTup (cntI a) (evGs a)
  | _ => fun _ _ => none
noncomputable def evGs : I → List D → S → Option S
  | .nil => tgNil
  | .cons a r => tgCons (evG a) (evGs r)
  | _ => fun _ _ => none
noncomputable def evI : I → S → Res (List D)
  | .seq a => bnd (bnd (evE a) hold) itSeq
  | .rng1 a => bnd (evA a) rng1R
  | .rng2 a _ => bnd (evA a) rng2R
  | _ => fun _ => .bad
noncomputable def evTs : I → S → Res Bool
  | .nil => ret1 true
  | .cons a .nil => evT a
  | _ => fun _ => .bad
noncomputable def evS : I → S → Res Fl
  | .pass => ret1 .nx
  | .brk => ret1 .bk
  | .cnt => ret1 .ct
  | .expr a => bnd (evE a) exprR
  | .ret a => bnd (evE a) fun r => ret1 (.rt r)
  | .ret0 => ret1 (.rt (.sh .non))
  | .sif t a b => bnd (evT t) fun c => cho c (evB a) (evB b)
  | .set i a => bnd (evE a) (setR i)
  | .setLc i g it ts e own => bnd (compD (evI it) (evG g) (evTs ts) (bnd (evE e) hold) (own.map (·.2))) (setR i)
  | .asg g a => bnd (bnd (evE a) hold) (asgR (evG g))
  | .par i j a b => parD i j (evE a) (evE b)
  | .for_ g it body => forD (evI it) (evG g) (evB body)
  | .whl t body => whileD (evT t) (evB body)
  | .raise x => fun s => .exc x s
  | _ => fun _ => .bad
noncomputable def evB : I → S → Res Fl
  | .nil => ret1 .nx
  | .cons a r => seqD (evS a) (evB r)
  | .tok i y a r => seqD (bnd (bnd (evA a) (lstR1 y)) (setR i)) (evB r)
  | _ => fun _ => .bad
end

/-! ### the check -/
structure Md where
  free : List Str
  vals : List (Str × D)
  excs : List Str
structure Ct where
  md : Md
  N : List Str
  sc : Scope
  fs : Option Scope
  lm : Bool
/-- whose cells stood at the entry -/
def fnB (c : Ct) (x : Str) : Bool := match c.fs with
  | none => true
  | some w => w.names.lookup x == some .cell
def dbg (x : Str) : Bool := decide (x = "__debug__")
def visB (sc : Scope) (x : Str) : Bool := decide (sc.names.lookup x = some .local) || decide (sc.names.lookup x = some .cell) || decide (sc.names.lookup x = some .free)
def locB (sc : Scope) (x : Str) : Bool := decide (sc.names.lookup x = some .local) || decide (sc.names.lookup x = some .cell)
def glB (sc : Scope) (x : Str) : Bool := decide (sc.names.lookup x = some .globalImplicit)
def lcB (sc : Scope) (x : Str) : Bool := decide (sc.names.lookup x = some .local)
def nonStar : Expr → Bool
  | .Starred _ _ => false
  | _ => true
def nonComp : Expr → Bool
  | .ListComp _ _ _ _ => false
  | .SetComp _ _ _ _ => false
  | .DictComp _ _ _ _ _ => false
  | _ => true
def nonSet : Expr → Bool
  | .Set _ _ _ => false
  | _ => true
def ixB : Expr → Bool
  | .Name _ _ => true
  | .Constant (.int _) _ _ => true
  | .Constant (.str _) _ _ => true
  | .BinOp _ _ _ _ => true
  | .Call _ _ _ _ => true
  | .Subscript _ _ _ => true
  | .UnaryOp _ _ _ => true
  | _ => false
def truB : Expr → Bool
  | .Name _ _ => true
  | .Call _ _ _ _ => true
  | .Subscript _ _ _ => true
  | .ListComp _ _ _ _ => true
  | .BinOp _ _ _ _ => true
  | _ => false
def blkB (N : List Str) (sc scope : Scope) (own : List (Str × Nat)) : Bool :=
  decide (scope.kind = .function) && scope.names.all (fun y => decide (scope.names.lookup y.1 = some y.2)) && own.all (fun p => decide (N[p.2]? = some p.1)) &&
  scope.names.all (fun y => !decide (y.2 = .free) || (decide (sc.names.lookup y.1 = some .cell) || decide (sc.names.lookup y.1 = some .free))) &&
  scope.names.all (fun y => !(decide (y.2 = .local) || decide (y.2 = .cell)) || ((own.map (·.1)).contains y.1 || !N.contains y.1))
/-- a value that is stored through its targets -/
def foldB : Expr → Bool
  | .Tuple vs _ _ => vs.all (foldedForSure 8)
  | _ => true
def cstB : D → Const → Bool
  | .non, .none => true
  | .bl a, .bool b => a == b
  | .int a, .int b => decide (a = b)
  | .str a, .str b => decide (a = b)
  | _, _ => false
def valB (m : Md) (x : Str) (d : D) : Bool := match m.vals.lookup x, d with
  | some (.int i), .int j => decide (i = j)
  | some (.fn a), .fn b => decide (a = b)
  | _, _ => false
/-- the places that a target sets -/
def slots : I → List Nat
  | .var i => [i]
  | .tup a => slots a
  | .cons a r => slots a ++ slots r
  | _ => []
def emptySc : Scope := { kind := .function, names := [], isGenerator := false, isCoroutine := false }
def lamC (c : Ct) (scope : Scope) : Ct := { c with sc := scope, fs := some emptySc, lm := false }
def noArgs : Arguments → Bool
  | ⟨[], [], none, [], [], none, []⟩ => true
  | _ => false
def blkC (c : Ct) (scope : Scope) : Ct := { c with sc := relS scope c.sc, fs := some scope }
mutual
def ckE (c : Ct) : I → Expr → Bool
  | .var i, .Name x _ => decide (c.N[i]? = some x) && visB c.sc x && !dbg x && !decide (x = "__classdict__")
  | .cst d, .Constant k _ _ => cstB d k
  | .glo y d, .Name x _ => decide (x = y) && glB c.sc x && valB c.md x d && !dbg x
  | .tup a, .Tuple es _ _ => ckA c a es
  | .lst a, .List es _ => ckA c a es
  | .bin op a b, .BinOp e1 op' e2 _ => decide (op = op') && ckE c a e1 && ckE c b e2
  | .neg a, .UnaryOp .USub e _ => ckE c a e
  | .cmp op a b, .Compare e1 [op'] [e2] _ => decide (op = op') && nonSet e2 && ckE c a e1 && ckE c b e2
  | .chn o1 o2 a b d, .Compare e1 [p1, p2] [e2, e3] _ => decide (o1 = p1) && decide (o2 = p2) && !lastMarks [p1, p2] [e2, e3] && ckE c a e1 && ckE c b e2 && ckE c d e3
  | .and_ a, .BoolOp .And es _ => ckV c a es
  | .or_ a, .BoolOp .Or es _ => ckV c a es
  | .not_ a, .UnaryOp .Not e _ => ckE c a e
  | .ite t a b, .IfExp e1 e2 e3 _ => ckT c t e1 && ckE c a e2 && ckE c b e3
  | .ix a b, .Subscript e1 e2 _ => ixB e2 && ckE c a e1 && ckE c b e2
  | .slc a lo hi, .Subscript e1 (.Slice l h none _) _ => ckE c a e1 && ckO c lo l && ckO c hi h
  | .call x _ a, .Call (.Name y _) es [] _ => decide (x = y) && glB c.sc y && !dbg y && es.all nonStar && ckA c a es
  | .bi b a, .Call (.Name y _) es [] _ => decide (b.name = y) && glB c.sc y && c.md.free.contains y && !es.isEmpty && es.all nonStar && ckA c a es
  | .isi T a, .Call (.Name y _) [e, .Name z _] [] _ => decide (y = "isinstance") && decide (Str.ofString T = z) && clsC.contains T && glB c.sc y && c.md.free.contains y && glB c.sc z && c.md.free.contains z && nonStar e && ckE c a e
  | .comp g it ts e own, .ListComp elt [⟨tg, iter, ifs, 0⟩] scope _ => blkB c.N c.sc scope own && nonSet iter && ckI c it iter && ckG (blkC c scope) g tg && (slots g).all (own.map (·.2)).contains && ckTs (blkC c scope) ts ifs && ckE (blkC c scope) e elt
  | .app o a, .Call (.Attribute e1 m apos) [e2] [] pos => decide (m = "append") && baseOk e1 && (apos.endLine == pos.line) && nonStar e2 && ckE c o e1 && ckE c a e2
  | .popAt o a, .Call (.Attribute e1 m apos) [e2] [] pos => decide (m = "pop") && baseOk e1 && (apos.endLine == pos.line) && nonStar e2 && ckE c o e1 && ckE c a e2
  | .pop o, .Call (.Attribute e1 m apos) [] [] pos => decide (m = "pop") && baseOk e1 && (apos.endLine == pos.line) && ckE c o e1
  | .split o a, .Call (.Attribute e1 m apos) [e2] [] pos => decide (m = "split") && baseOk e1 && (apos.endLine == pos.line) && nonStar e2 && ckE c o e1 && ckE c a e2
  | .join o a, .Call (.Attribute e1 m apos) [e2] [] pos => decide (m = "join") && baseOk e1 && (apos.endLine == pos.line) && nonStar e2 && ckE c o e1 && ckE c a e2
  | .fstr a, .JoinedStr (e1 :: e2 :: es) _ => ckJ c a (e1 :: e2 :: es)
  | .fmt a, .FormattedValue e cv none _ => decide (cv = -1) && ckE c a e
  | .rev a, .Subscript e (.Slice none none (some (.UnaryOp .USub (.Constant (.int i) _ _) _)) _) _ => decide (i = 1) && ckE c a e
  | .terr x b, .Call (.Name y _) [.Lambda ar body scope _] [] _ => decide (x = y) && glB c.sc y && !dbg y && c.lm && noArgs ar && LamX.lamSB c.sc scope && ckE (lamC c scope) b body
  | .told x b, .Call (.Name y _) [.Lambda ar body scope _] [] _ => decide (x = y) && glB c.sc y && !dbg y && c.lm && noArgs ar && LamX.lamSB c.sc scope && ckE (lamC c scope) b body
  | .callV i _ a, .Call (.Name x _) es [] _ => decide (c.N[i]? = some x) && visB c.sc x && !dbg x && !decide (x = "__classdict__") && !es.isEmpty && es.all nonStar && ckA c a es
  | _, _ => false
def ckA (c : Ct) : I → List Expr → Bool
  | .nil, [] => true
  | .cons a r, e :: es => nonStar e && ckE c a e && ckA c r es
  | _, _ => false
def ckJ (c : Ct) : I → List Expr → Bool
  | .nil, [] => true
  | .cons a r, e :: es => ckE c a e && ckJ c r es
  | _, _ => false
def ckT (c : Ct) : I → Expr → Bool
  | .tru a, e => truB e && ckE c a e
  | .not_ a, .UnaryOp .Not e _ => ckT c a e
  | .cmp op a b, .Compare e1 [op'] [e2] _ => decide (op = op') && nonSet e2 && ckE c a e1 && ckE c b e2
  | .chn o1 o2 a b d, .Compare e1 [p1, p2] [e2, e3] _ => decide (o1 = p1) && decide (o2 = p2) && !lastMarks [p1, p2] [e2, e3] && ckE c a e1 && ckE c b e2 && ckE c d e3
  | .and_ a, .BoolOp .And es _ => ckW c a es
  | .or_ a, .BoolOp .Or es _ => ckW c a es
  | _, _ => false
def ckW (c : Ct) : I → List Expr → Bool
  | .cons a .nil, [e] => ckT c a e
  | .cons a (.cons b r), e :: e2 :: es => ckT c a e && ckW c (.cons b r) (e2 :: es)
  | _, _ => false
def ckV (c : Ct) : I → List Expr → Bool
  | .cons a .nil, [e] => ckE c a e
  | .cons a (.cons b r), e :: e2 :: es => ckE c a e && ckV c (.cons b r) (e2 :: es)
  | _, _ => false
def ckO (c : Ct) : I → Option Expr → Bool
  | .nil, none => true
  | .cons a .nil, some e => ckE c a e
  | _, _ => false
def ckG (c : Ct) : I → Expr → Bool
  | .var i, .Name x _ => decide (c.N[i]? = some x) && locB c.sc x && (fnB c x || lcB c.sc x)
  | .tup a, .Tuple es _ _ => decide (es.length = cntI a) && es.all nonStar && ckGs c a es
  | _, _ => false
def ckGs (c : Ct) : I → List Expr → Bool
  | .nil, [] => true
  | .cons a r, e :: es => nonStar e && ckG c a e && ckGs c r es
  | _, _ => false
def ckI (c : Ct) : I → Expr → Bool
  | .seq a, e => ckE c a e
  | .rng1 a, .Call (.Name x _) [e] [] _ => decide (x = "range") && glB c.sc x && c.md.free.contains x && nonStar e && ckA c a [e]
  | .rng2 a _, .Call (.Name x _) [e, e2] [] _ => decide (x = "range") && glB c.sc x && c.md.free.contains x && nonStar e && nonStar e2 && ckA c a [e, e2]
  | _, _ => false
def ckTs (c : Ct) : I → List Expr → Bool
  | .nil, [] => true
  | .cons a .nil, [e] => ckT c a e
  | _, _ => false
end
mutual
def ckS (c : Ct) : I → Stmt → Bool
  | .pass, .Pass _ => true
  | .brk, .Break _ => true
  | .cnt, .Continue _ => true
  | .expr a, .Expr e _ => nonComp e && ckE c a e
  | .ret a, .Return (some e) _ => ckE c a e
  | .ret0, .Return none _ => true
  | .sif t a b, .If e p q _ => ckT c t e && ckB c a p && ckB c b q
  | .set i a, .Assign [.Name x _] e _ => nonComp e && decide (c.N[i]? = some x) && locB c.sc x && (fnB c x || lcB c.sc x) && ckE c a e
  | .setLc i g it ts e own, .Assign [.Name x py] (.ListComp elt [⟨tg, iter, ifs, 0⟩] scope pos) _ => decide (c.N[i]? = some x) && lcB c.sc x && (py.line == pos.line) && !(scope.names.any fun y => y.1 == x && (y.2 == .local || y.2 == .cell)) && decide (c.sc.kind = .function) &&
      blkB c.N c.sc scope own && nonSet iter && ckI c it iter && ckG (blkC c scope) g tg && (slots g).all (own.map (·.2)).contains && ckTs (blkC c scope) ts ifs && ckE (blkC c scope) e elt
  | .asg g a, .Assign [.Tuple es k p] e _ => nonComp e && foldB e && ckG c g (.Tuple es k p) && ckE c a e
  | .par i j a b, .Assign [.Tuple [.Name x px, .Name y py] _ _] (.Tuple [e1, e2] _ _) _ => decide (c.N[i]? = some x) && decide (c.N[j]? = some y) && decide (i ≠ j) && decide (x ≠ y) && lcB c.sc x && lcB c.sc y && (px.line == py.line) && decide (c.sc.kind = .function) && nonStar e1 && nonStar e2 &&
      !([e1, e2].all (foldedForSure 8)) && !([e1, e2].all (constantsAlone 8)) && ckE c a e1 && ckE c b e2
  | .for_ g it body, .For tg iter p [] _ => nonSet iter && ckI c it iter && ckG c g tg && ckB c body p
  | .whl t body, .While e p [] _ => ckT c t e && ckB c body p
  | .raise x, .Raise (some (.Call (.Name y _) [.Constant (.str _) _ _] [] _)) none _ => decide (x = y) && glB c.sc y && !dbg y && c.md.excs.contains y
  | _, _ => false
def ckB (c : Ct) : I → List Stmt → Bool
  | .nil, [] => true
  | .cons a r, e :: es => ckS c a e && ckB c r es
  | .tok i y a r, .Assign [.Name x _] (.List (.Constant (.str z) _ _ :: es) _) _ :: ss => decide (y = z) && decide (c.N[i]? = some x) && locB c.sc x && (fnB c x || lcB c.sc x) && ckA c a es && ckBT c r ss
  | _, _ => false
def ckST (c : Ct) : I → Stmt → Bool
  | .ret (.repl a y z), .Return (some (.Call (.Attribute o m apos) [.Constant (.str y2) _ _, .Constant (.str z2) _ _] [] pos)) _ => decide (m = "replace") && decide (y = y2) && decide (z = z2) && !(y == z) && baseOk o && (apos.endLine == pos.line) && ckE c a o
  | .sif t a b, .If e p q _ => ckT c t e && ckBT c a p && ckBT c b q
  | _, _ => false
def ckBT (c : Ct) : I → List Stmt → Bool
  | .nil, [] => true
  | .cons a r, e :: es => (ckS c a e || ckST c a e) && ckBT c r es
  | _, _ => false
end
/-- the defs that are called keep their promises -/
def Nd (Q : Nat → Str → Fs → Prop) (Q2 : Nat → Str → Bool → Prop) : Nat → I → Prop
  | k, .call x F a => Q k x F ∧ Nd Q Q2 k a
  | k, .callV _ tab a => (∀ z F, tab z = some F → Q k z F) ∧ Nd Q Q2 k a
  | k, .terr x b => 2 ≤ k ∧ Q2 (k - 2) x false ∧ Nd Q Q2 (k - 2) b
  | k, .told x b => 2 ≤ k ∧ Q2 (k - 2) x true ∧ Nd Q Q2 (k - 2) b
  | k, .cons a r => Nd Q Q2 k a ∧ Nd Q Q2 k r
  | k, .tup a | k, .lst a | k, .neg a | k, .and_ a | k, .or_ a | k, .not_ a | k, .tru a | k, .bi _ a | k, .isi _ a | k, .pop a | k, .fstr a | k, .fmt a | k, .rev a | k, .repl a _ _ | k, .seq a | k, .rng1 a | k, .expr a | k, .ret a | k, .set _ a => Nd Q Q2 k a
  | k, .bin _ a b | k, .cmp _ a b | k, .ix a b | k, .app a b | k, .popAt a b | k, .split a b | k, .join a b | k, .rng2 a b | k, .asg a b | k, .par _ _ a b | k, .whl a b | k, .tok _ _ a b => Nd Q Q2 k a ∧ Nd Q Q2 k b
  | k, .chn _ _ a b d | k, .ite a b d | k, .slc a b d | k, .sif a b d | k, .for_ a b d => Nd Q Q2 k a ∧ Nd Q Q2 k b ∧ Nd Q Q2 k d
  | k, .comp g it ts e _ | k, .setLc _ g it ts e _ => Nd Q Q2 k g ∧ Nd Q Q2 k it ∧ Nd Q Q2 k ts ∧ Nd Q Q2 k e
  | _, _ => True
end AL


set_option Elab.async false
set_option linter.all false
set_option maxRecDepth 100000
set_option maxHeartbeats 4000000
/-! AL16: the check is sound. -/
namespace AL
open PySem PySem.Spec PyProof.Rows L2
abbrev HasX (X : Cx) (T : List (Addr × Str)) : Nat → Str → Fs → Prop := fun k x F => Has X.prog X.w X.K X.mg X.base T k x F
abbrev TryX (X : Cx) : Nat → Str → Bool → Prop := fun k x t => ∃ CS nn, HX.TryFn X.prog X.w X.K X.mg X.base x t CS nn k ∧ HX.LabOk X.K X.mg CS labN
/-- what a context bears -/
structure Ok (X : Cx) (c : Ct) (k : Nat) (T : List (Addr × Str)) : Prop where
  N : X.N = c.N
  nd : c.N.Nodup
  sc : X.env.scope = c.sc
  fn : ∀ x, X.fn x = fnB c x
  calm : X.calm = true
  room : Room k X.A
  free : ∀ x ∈ c.md.free, X.mg x = none
  vals : ∀ x d, c.md.vals.lookup x = some d → ∃ (v : V) (u : Value), X.mg x = some u ∧ RelV v u ∧ ∀ Hv, Dv X.K X.mg Hv v d
  excs : ∀ x ∈ c.md.excs, ∃ C, PySem.W.excIn X.K C He.veBase "ValueError.__new__" = true ∧ X.mg x = some (.ref C) ∧ PySem.W.keepIn X.K (.ref C) = true ∧ Raises X (.ref C)
  lm : c.lm = true → HX.MkOk X T
section
variable {X : Cx} {c : Ct} {k : Nat} {T : List (Addr × Str)} {p : P0} {W : WX}
theorem Ok.hu (O : Ok X c k T) : X.A.units + 65 < cLine := by have := O.room.un; omega
theorem Ok.gl (O : Ok X c k T) {x : Str} (h : glB c.sc x = true) : Gl X x := by
  show X.env.scope.names.lookup x = _
  rw [O.sc]; exact of_decide_eq_true h
theorem Ok.vis (O : Ok X c k T) {x : Str} (h : visB c.sc x = true) : Vis X.env.scope x := by
  rw [O.sc]
  unfold visB at h
  simp only [Bool.or_eq_true, decide_eq_true_eq] at h
  rcases h with (h | h) | h
  · exact .inl h
  · exact .inr (.inl h)
  · exact .inr (.inr h)
theorem Ok.loc (O : Ok X c k T) {x : Str} (h : locB c.sc x = true) : Loc X.env.scope x := by
  rw [O.sc]
  unfold locB at h
  simp only [Bool.or_eq_true, decide_eq_true_eq] at h
  exact h
theorem dbg_of {x : Str} (h : (!dbg x) = true) : (x == ("__debug__" : Str)) = false := by
  unfold dbg at h
  simp only [Bool.not_eq_true', decide_eq_false_iff_not] at h
  exact beq_eq_false_iff_ne.mpr h
theorem star_of {e : Expr} {es : List Expr} {env : Env} (h : nonStar e = true) : starEach (e :: es) env = (false, eval e env) :: starEach es env := by
  cases e <;> first | rfl | cases h
theorem stars_of {es : List Expr} {env : Env} (h : es.all nonStar = true) : (starEach es env).any (·.1) = false := by
  refine starEach_nostar ?_
  rw [List.all_eq_true] at h ⊢
  intro e he
  have := h e he
  cases e <;> first | rfl | cases this
theorem fold_of {e : Expr} {env : Env} (h : nonSet e = true) : ∀ x, foldedSetIterable e env x = pure x := fun x => by
  cases e <;> first | rfl | cases h
theorem nset_of {e : Expr} (h : nonSet e = true) : ∀ es k ps, e ≠ .Set es k ps := fun es k ps z => by subst z; cases h
theorem ix_of {e : Expr} (h : ixB e = true) : PlainIx e := fun o i => by
  cases e <;> first | rfl | cases h
theorem plainT_of {e : Expr} {env : Env} (h : truB e = true) : PlainT e env := fun whole => by
  cases e <;> first | rfl | cases h
theorem blk_of {N : List Str} {sc scope : Scope} {own : List (Str × Nat)} (h : blkB N sc scope own = true) : BlkOk N sc scope own := by
  unfold blkB at h
  simp only [Bool.and_eq_true, decide_eq_true_eq, List.all_eq_true, Bool.or_eq_true, Bool.not_eq_true', decide_eq_false_iff_not] at h
  obtain ⟨⟨⟨⟨h1, h2⟩, h3⟩, h4⟩, h5⟩ := h
  refine ⟨h1, h2, h3, fun y hy e => (h4 y hy).resolve_left (fun z => z e), fun y hy e => ?_⟩
  rcases h5 y hy with z | z
  · exfalso
    rcases e with e | e
    · rw [e] at z; simp at z
    · rw [e] at z; simp at z
  · rcases z with z | z
    · exact .inl (List.contains_iff_mem.mp z)
    · exact .inr (fun m => by rw [List.contains_iff_mem.mpr m] at z; cases z)
theorem Ok.blk (O : Ok X c k T) {s : Shared} {H : Hp} {scope : Scope} {C : Addr} {cl : List (Str × Addr)} {fp : List Addr} : Ok (X.blk s H scope (compEnvC scope cl C X.env) fp) (blkC c scope) k T := by
  refine ⟨O.N, O.nd, ?_, fun _ => rfl, O.calm, O.room, O.free, O.vals, O.excs, fun h => ⟨(O.lm h).ex⟩⟩
  show relS scope X.env.scope = relS scope c.sc
  rw [O.sc]
theorem Ok.fnl (O : Ok X c k T) {x : Str} (h : (fnB c x || lcB c.sc x) = true) : X.fn x = true ∨ X.env.scope.names.lookup x = some .local := by
  rw [O.fn, O.sc]
  rw [Bool.or_eq_true] at h
  exact h.imp id fun h => of_decide_eq_true h
theorem Ok.mgn (O : Ok X c k T) {x : Str} (h : c.md.free.contains x = true) : X.mg x = none := O.free x (List.contains_iff_mem.mp h)
theorem Ok.lam (O : Ok X c k T) {A : Around} {outer : List Env} {s : Shared} {H : Hp} {E : XK} {scope : Scope} {f c' : Addr} {j : Nat} (hr : Room j (A.deeper (LamX.lamEnv X scope s.heap.objs.size f c'))) : Ok (HX.lamCxN X A outer s H E scope f c') (lamC c scope) j T :=
  ⟨O.N, O.nd, rfl, fun _ => rfl, rfl, hr, O.free, O.vals, O.excs, fun h => by cases h⟩
theorem noArgs_of {ar : Arguments} (h : noArgs ar = true) : ar = ⟨[], [], none, [], [], none, []⟩ := by
  unfold noArgs at h
  split at h
  · rfl
  · cases h
/-! ### targets -/
theorem assign_len {env : Env} : ∀ (es : List Expr), es.all nonStar = true → (assignEach es env).length = es.length ∧ (assignEach es env).findIdx? (·.1) = none
  | [], _ => ⟨rfl, rfl⟩
  | e :: es, h => by
    rw [List.all_cons, Bool.and_eq_true] at h
    obtain ⟨i1, i2⟩ := assign_len (env := env) es h.2
    have z : assignEach (e :: es) env = (false, assign e env) :: assignEach es env := by
      cases e <;> first | rfl | (have := h.1; cases this)
    rw [z]
    refine ⟨by simp [i1], ?_⟩
    rw [List.findIdx?_cons, i2]; rfl
mutual
theorem sG : ∀ (i : I) (e : Expr) {X : Cx} {c : Ct} {k : Nat} {T : List (Addr × Str)}, ckG c i e = true → Ok X c k T → DG X e (evG i) (slots i)
  | .var i, e, X, c, k, T, h, O => by
    cases e with
    | Name x pos =>
      have h : (decide (c.N[i]? = some x) && locB c.sc x && (fnB c x || lcB c.sc x)) = true := h
      simp only [Bool.and_eq_true, decide_eq_true_eq] at h
      obtain ⟨⟨h1, h2⟩, h3⟩ := h
      exact dg_name (by rw [O.N]; exact O.nd) (by rw [O.N]; exact h1) (O.loc h2) (O.fnl h3)
    | _ => exact absurd (show false = true from h) (by decide)
  | .tup a, e, X, c, k, T, h, O => by
    cases e with
    | Tuple es kk pos =>
      have h : (decide (es.length = cntI a) && es.all nonStar && ckGs c a es) = true := h
      simp only [Bool.and_eq_true, decide_eq_true_eq] at h
      obtain ⟨⟨h1, h2⟩, h3⟩ := h
      obtain ⟨l1, l2⟩ := assign_len (env := X.env) es h2
      exact dg_tup O.calm (sGs a es h3 O) (l1.trans h1) l2
    | _ => exact absurd (show false = true from h) (by decide)
  | .nil, e, X, c, k, T, h, O => absurd (show false = true from h) (by decide)
  | .cons _ _, e, X, c, k, T, h, O => absurd (show false = true from h) (by decide)
  | .cst _, e, X, c, k, T, h, O => absurd (show false = true from h) (by decide)
  | .glo _ _, e, X, c, k, T, h, O => absurd (show false = true from h) (by decide)
  | .lst _, e, X, c, k, T, h, O => absurd (show false = true from h) (by decide)
  | .bin _ _ _, e, X, c, k, T, h, O => absurd (show false = true from h) (by decide)
  | .neg _, e, X, c, k, T, h, O => absurd (show false = true from h) (by decide)
  | .cmp _ _ _, e, X, c, k, T, h, O => absurd (show false = true from h) (by decide)
  | .chn _ _ _ _ _, e, X, c, k, T, h, O => absurd (show false = true from h) (by decide)
  | .and_ _, e, X, c, k, T, h, O => absurd (show false = true from h) (by decide)
  | .or_ _, e, X, c, k, T, h, O => absurd (show false = true from h) (by decide)
  | .not_ _, e, X, c, k, T, h, O => absurd (show false = true from h) (by decide)
  | .tru _, e, X, c, k, T, h, O => absurd (show false = true from h) (by decide)
  | .ite _ _ _, e, X, c, k, T, h, O => absurd (show false = true from h) (by decide)
  | .ix _ _, e, X, c, k, T, h, O => absurd (show false = true from h) (by decide)
  | .slc _ _ _, e, X, c, k, T, h, O => absurd (show false = true from h) (by decide)
  | .call _ _ _, e, X, c, k, T, h, O => absurd (show false = true from h) (by decide)
  | .bi _ _, e, X, c, k, T, h, O => absurd (show false = true from h) (by decide)
  | .isi _ _, e, X, c, k, T, h, O => absurd (show false = true from h) (by decide)
  | .comp _ _ _ _ _, e, X, c, k, T, h, O => absurd (show false = true from h) (by decide)
  | .app _ _, e, X, c, k, T, h, O => absurd (show false = true from h) (by decide)
  | .popAt _ _, e, X, c, k, T, h, O => absurd (show false = true from h) (by decide)
  | .pop _, e, X, c, k, T, h, O => absurd (show false = true from h) (by decide)
  | .split _ _, e, X, c, k, T, h, O => absurd (show false = true from h) (by decide)
  | .join _ _, e, X, c, k, T, h, O => absurd (show false = true from h) (by decide)
  | .fstr _, e, X, c, k, T, h, O => absurd (show false = true from h) (by decide)
  | .rev _, e, X, c, k, T, h, O => absurd (show false = true from h) (by decide)
  | .repl _ _ _, e, X, c, k, T, h, O => absurd (show false = true from h) (by decide)
  | .tok _ _ _ _, e, X, c, k, T, h, O => absurd (show false = true from h) (by decide)
  | .terr _ _, e, X, c, k, T, h, O => absurd (show false = true from h) (by decide)
  | .told _ _, e, X, c, k, T, h, O => absurd (show false = true from h) (by decide)
  | .callV _ _ _, e, X, c, k, T, h, O => absurd (show false = true from h) (by decide)
  | .fmt _, e, X, c, k, T, h, O => absurd (show false = true from h) (by decide)
  | .seq _, e, X, c, k, T, h, O => absurd (show false = true from h) (by decide)
  | .rng1 _, e, X, c, k, T, h, O => absurd (show false = true from h) (by decide)
  | .rng2 _ _, e, X, c, k, T, h, O => absurd (show false = true from h) (by decide)
  | .pass, e, X, c, k, T, h, O => absurd (show false = true from h) (by decide)
  | .brk, e, X, c, k, T, h, O => absurd (show false = true from h) (by decide)
  | .cnt, e, X, c, k, T, h, O => absurd (show false = true from h) (by decide)
  | .expr _, e, X, c, k, T, h, O => absurd (show false = true from h) (by decide)
  | .ret _, e, X, c, k, T, h, O => absurd (show false = true from h) (by decide)
  | .ret0, e, X, c, k, T, h, O => absurd (show false = true from h) (by decide)
  | .sif _ _ _, e, X, c, k, T, h, O => absurd (show false = true from h) (by decide)
  | .set _ _, e, X, c, k, T, h, O => absurd (show false = true from h) (by decide)
  | .setLc _ _ _ _ _ _, e, X, c, k, T, h, O => absurd (show false = true from h) (by decide)
  | .asg _ _, e, X, c, k, T, h, O => absurd (show false = true from h) (by decide)
  | .par _ _ _ _, e, X, c, k, T, h, O => absurd (show false = true from h) (by decide)
  | .for_ _ _ _, e, X, c, k, T, h, O => absurd (show false = true from h) (by decide)
  | .whl _ _, e, X, c, k, T, h, O => absurd (show false = true from h) (by decide)
  | .raise _, e, X, c, k, T, h, O => absurd (show false = true from h) (by decide)
theorem sGs : ∀ (i : I) (es : List Expr) {X : Cx} {c : Ct} {k : Nat} {T : List (Addr × Str)}, ckGs c i es = true → Ok X c k T → DGs X es (evGs i) (slots i)
  | .nil, [], X, c, k, T, h, O => dgs_nil
  | .cons a r, e :: es, X, c, k, T, h, O => by
    have h : (nonStar e && ckG c a e && ckGs c r es) = true := h
    simp only [Bool.and_eq_true] at h
    obtain ⟨⟨h1, h2⟩, h3⟩ := h
    refine dgs_cons (sG a e h2 O) (sGs r es h3 O) ?_
    cases e <;> first | rfl | cases h1
  | .nil, _ :: _, X, c, k, T, h, O => absurd (show false = true from h) (by decide)
  | .cons _ _, [], X, c, k, T, h, O => absurd (show false = true from h) (by decide)
  | .var _, _, X, c, k, T, h, O => absurd (show false = true from h) (by decide)
  | .cst _, _, X, c, k, T, h, O => absurd (show false = true from h) (by decide)
  | .glo _ _, _, X, c, k, T, h, O => absurd (show false = true from h) (by decide)
  | .tup _, _, X, c, k, T, h, O => absurd (show false = true from h) (by decide)
  | .lst _, _, X, c, k, T, h, O => absurd (show false = true from h) (by decide)
  | .bin _ _ _, _, X, c, k, T, h, O => absurd (show false = true from h) (by decide)
  | .neg _, _, X, c, k, T, h, O => absurd (show false = true from h) (by decide)
  | .cmp _ _ _, _, X, c, k, T, h, O => absurd (show false = true from h) (by decide)
  | .chn _ _ _ _ _, _, X, c, k, T, h, O => absurd (show false = true from h) (by decide)
  | .and_ _, _, X, c, k, T, h, O => absurd (show false = true from h) (by decide)
  | .or_ _, _, X, c, k, T, h, O => absurd (show false = true from h) (by decide)
  | .not_ _, _, X, c, k, T, h, O => absurd (show false = true from h) (by decide)
  | .tru _, _, X, c, k, T, h, O => absurd (show false = true from h) (by decide)
  | .ite _ _ _, _, X, c, k, T, h, O => absurd (show false = true from h) (by decide)
  | .ix _ _, _, X, c, k, T, h, O => absurd (show false = true from h) (by decide)
  | .slc _ _ _, _, X, c, k, T, h, O => absurd (show false = true from h) (by decide)
  | .call _ _ _, _, X, c, k, T, h, O => absurd (show false = true from h) (by decide)
  | .bi _ _, _, X, c, k, T, h, O => absurd (show false = true from h) (by decide)
  | .isi _ _, _, X, c, k, T, h, O => absurd (show false = true from h) (by decide)
  | .comp _ _ _ _ _, _, X, c, k, T, h, O => absurd (show false = true from h) (by decide)
  | .app _ _, _, X, c, k, T, h, O => absurd (show false = true from h) (by decide)
  | .popAt _ _, _, X, c, k, T, h, O => absurd (show false = true from h) (by decide)
  | .pop _, _, X, c, k, T, h, O => absurd (show false = true from h) (by decide)
  | .split _ _, _, X, c, k, T, h, O => absurd (show false = true from h) (by decide)
  | .join _ _, _, X, c, k, T, h, O => absurd (show false = true from h) (by decide)
  | .fstr _, _, X, c, k, T, h, O => absurd (show false = true from h) (by decide)
  | .rev _, _, X, c, k, T, h, O => absurd (show false = true from h) (by decide)
  | .repl _ _ _, _, X, c, k, T, h, O => absurd (show false = true from h) (by decide)
  | .tok _ _ _ _, _, X, c, k, T, h, O => absurd (show false = true from h) (by decide)
  | .terr _ _, _, X, c, k, T, h, O => absurd (show false = true from h) (by decide)
  | .told _ _, _, X, c, k, T, h, O => absurd (show false = true from h) (by decide)
  | .callV _ _ _, _, X, c, k, T, h, O => absurd (show false = true from h) (by decide)
  | .fmt _, _, X, c, k, T, h, O => absurd (show false = true from h) (by decide)
  | .seq _, _, X, c, k, T, h, O => absurd (show false = true from h) (by decide)
  | .rng1 _, _, X, c, k, T, h, O => absurd (show false = true from h) (by decide)
  | .rng2 _ _, _, X, c, k, T, h, O => absurd (show false = true from h) (by decide)
  | .pass, _, X, c, k, T, h, O => absurd (show false = true from h) (by decide)
  | .brk, _, X, c, k, T, h, O => absurd (show false = true from h) (by decide)
  | .cnt, _, X, c, k, T, h, O => absurd (show false = true from h) (by decide)
  | .expr _, _, X, c, k, T, h, O => absurd (show false = true from h) (by decide)
  | .ret _, _, X, c, k, T, h, O => absurd (show false = true from h) (by decide)
  | .ret0, _, X, c, k, T, h, O => absurd (show false = true from h) (by decide)
  | .sif _ _ _, _, X, c, k, T, h, O => absurd (show false = true from h) (by decide)
  | .set _ _, _, X, c, k, T, h, O => absurd (show false = true from h) (by decide)
  | .setLc _ _ _ _ _ _, _, X, c, k, T, h, O => absurd (show false = true from h) (by decide)
  | .asg _ _, _, X, c, k, T, h, O => absurd (show false = true from h) (by decide)
  | .par _ _ _ _, _, X, c, k, T, h, O => absurd (show false = true from h) (by decide)
  | .for_ _ _ _, _, X, c, k, T, h, O => absurd (show false = true from h) (by decide)
  | .whl _ _, _, X, c, k, T, h, O => absurd (show false = true from h) (by decide)
  | .raise _, _, X, c, k, T, h, O => absurd (show false = true from h) (by decide)
end
end
end AL


set_option Elab.async false
set_option linter.all false
set_option maxRecDepth 100000
set_option maxHeartbeats 4000000
/-! AL17: the check is sound: expressions. -/
namespace AL
open PySem PySem.Spec PyProof.Rows L2
section
variable {X : Cx} {c : Ct} {k : Nat} {T : List (Addr × Str)} {p : P0} {W : WX}
theorem dh {e : Expr} {f : S → Res R} (h : DE X p W e f) : DH X p W e (bnd f hold) := dh_of h
theorem pe_glob {x : Str} {v : V} {u : Value} {pos : Pos} (hg : Gl X x) (hm : X.mg x = some u) (r : RelV v u) (hd : (x == ("__debug__" : Str)) = false) : PE X (.Name x pos) (tC v) :=
  ⟨fun pins s σ H Q I h => ld_glob I hg hm ⟨v, H, I, r, h⟩ hd⟩
theorem cst_of {d : AL.D} {q : Const} {j : Nat} {pos : Pos} (h : cstB d q = true) : DE X p W (.Constant q j pos) (ret1 (.sh d)) := by
  cases d <;> cases q <;> first | cases h | skip
  · exact de_ofh (de_c pe_non fun _ => .non)
  · rename_i a b
    obtain rfl : a = b := beq_iff_eq.mp h
    exact de_ofh (de_c pe_bl fun _ => .bl _)
  · rename_i a b
    obtain rfl : a = b := of_decide_eq_true h
    exact de_ofh (de_c pe_int fun _ => .int _)
  · rename_i a b
    obtain rfl : a = b := of_decide_eq_true h
    exact de_ofh (de_c pe_str fun _ => .str _)
theorem glo_of {x : Str} {d : AL.D} {pos : Pos} (O : Ok X c k T) (hg : glB c.sc x = true) (hv : valB c.md x d = true) (hd : (!dbg x) = true) : DE X p W (.Name x pos) (ret1 (.sh d)) := by
  unfold valB at hv
  have key : ∀ d', c.md.vals.lookup x = some d' → DE X p W (.Name x pos) (ret1 (.sh d')) := fun d' h => by
    obtain ⟨v, u, h1, h2, h3⟩ := O.vals x d' h
    exact de_ofh (de_c (pe_glob (O.gl hg) h1 h2 (dbg_of hd)) h3)
  split at hv
  · rename_i i j e
    obtain rfl := of_decide_eq_true hv
    exact key _ e
  · rename_i a b e
    obtain rfl := of_decide_eq_true hv
    exact key _ e
  · cases hv
theorem boot_len' : bootBuiltins (Bi.name .len) = some (.builtin "len") := by decide +kernel
theorem bi_of {b : Bi} {pos pos' : Pos} {e : Expr} {es : List Expr} {f : S → Res (List R)} (O : Ok X c k T) (hg : glB c.sc b.name = true) (hm : c.md.free.contains b.name = true) (ha : DA X p W (e :: es) f) (h1 : (e :: es).all nonStar = true) :
    DE X p W (.Call (.Name b.name pos') (e :: es) [] pos) (bnd f b.fn) := by
  have g := O.gl hg
  have m := O.mgn hm
  rw [List.all_cons, Bool.and_eq_true] at h1
  cases b
  · exact de_callB cr_len g m (by decide +kernel) ha (by decide) (by decide) (star_of h1.1) (stars_of h1.2)
  · exact de_callTy cr_int g m (by decide +kernel) ha (by decide) (by decide) (star_of h1.1) (stars_of h1.2)
  · exact de_callTy cr_bool g m (by decide +kernel) ha (by decide) (by decide) (star_of h1.1) (stars_of h1.2)
  · exact de_callTy cr_str g m (by decide +kernel) ha (by decide) (by decide) (star_of h1.1) (stars_of h1.2)
  · exact de_callTy cr_tuple g m (by decide +kernel) ha (by decide) (by decide) (star_of h1.1) (stars_of h1.2)
  · exact de_callTy cr_list g m (by decide +kernel) ha (by decide) (by decide) (star_of h1.1) (stars_of h1.2)
  · exact de_callB (cr_sumD O.calm) g m (by decide +kernel) ha (by decide) (by decide) (star_of h1.1) (stars_of h1.2)
  · exact de_callB (cr_maxD O.calm) g m (by decide +kernel) ha (by decide) (by decide) (star_of h1.1) (stars_of h1.2)
  · exact de_callB (cr_minD O.calm) g m (by decide +kernel) ha (by decide) (by decide) (star_of h1.1) (stars_of h1.2)
  · exact de_callB (cr_allD O.calm) g m (by decide +kernel) ha (by decide) (by decide) (star_of h1.1) (stars_of h1.2)
  · exact de_callB (cr_anyD O.calm) g m (by decide +kernel) ha (by decide) (by decide) (star_of h1.1) (stars_of h1.2)
theorem isi_of {T : String} {a : Expr} {p1 p2 pos : Pos} {f : S → Res R} {T' : List (Addr × Str)} (O : Ok X c k T') (hT : clsC.contains T = true) (h1 : glB c.sc "isinstance" = true) (h2 : c.md.free.contains "isinstance" = true) (h3 : glB c.sc (Str.ofString T) = true) (h4 : c.md.free.contains (Str.ofString T) = true) (h5 : nonStar a = true)
    (ha : DH X p W a f) : DE X p W (.Call (.Name "isinstance" p1) [a, .Name (Str.ofString T) p2] [] pos) (bnd f (isiD T)) := by
  have hm : T ∈ clsC := List.contains_iff_mem.mp hT
  have hv : bootBuiltins (Str.ofString T) = some (.type T) ∧ Str.ofString T ≠ "__name__" ∧ (Str.ofString T == ("__debug__" : Str)) = false := by
    have z : (clsC.all fun T => decide (bootBuiltins (Str.ofString T) = some (.type T)) && (decide (Str.ofString T ≠ "__name__") && !(Str.ofString T == ("__debug__" : Str)))) = true := by decide +kernel
    have z := List.all_eq_true.mp z T hm
    simp only [Bool.and_eq_true, decide_eq_true_eq, Bool.not_eq_true'] at z
    exact ⟨z.1, z.2.1, z.2.2⟩
  exact de_isi hm (O.gl h1) (O.mgn h2) (O.gl h3) (O.mgn h4) hv.1 hv.2.1 hv.2.2 ha (star_of h5) (stars_of (by rfl))
mutual
theorem sE : ∀ (i : I) (e : Expr) {X : Cx} {c : Ct} {k : Nat} {p : P0} {W : WX}, ckE c i e = true → Ok X c k p.T → L2N.Takes X W → Nd (HasX X p.T) (TryX X) k i → DE X p W e (evE i)
  | .var i, e, X, c, k, p, W, h, O, tk, n => by
    cases e with
    | Name x pos =>
      have h : (decide (c.N[i]? = some x) && visB c.sc x && !dbg x && !decide (x = "__classdict__")) = true := h
      simp only [Bool.and_eq_true, decide_eq_true_eq, Bool.not_eq_true'] at h
      obtain ⟨⟨⟨h1, h2⟩, h3⟩, h4⟩ := h
      exact de_ofh (de_var (by rw [O.N]; exact h1) (O.vis h2) (dbg_of (by rw [h3]; rfl)) (beq_eq_false_iff_ne.mpr (of_decide_eq_false h4)))
    | _ => exact absurd (show false = true from h) (by decide)
  | .cst d, e, X, c, k, p, W, h, O, tk, n => by
    cases e with
    | Constant q j pos =>
      exact cst_of h
    | _ => exact absurd (show false = true from h) (by decide)
  | .glo y d, e, X, c, k, p, W, h, O, tk, n => by
    cases e with
    | Name x pos =>
      have h : (decide (x = y) && glB c.sc x && valB c.md x d && !dbg x) = true := h
      simp only [Bool.and_eq_true, decide_eq_true_eq, Bool.not_eq_true'] at h
      obtain ⟨⟨⟨h1, h2⟩, h3⟩, h4⟩ := h
      exact glo_of O h2 h3 (by rw [h4]; rfl)
    | _ => exact absurd (show false = true from h) (by decide)
  | .tup a, e, X, c, k, p, W, h, O, tk, n => by
    cases e with
    | Tuple es kk pos =>
      exact de_tup (sA a es h O tk n)
    | _ => exact absurd (show false = true from h) (by decide)
  | .lst a, e, X, c, k, p, W, h, O, tk, n => by
    cases e with
    | List es pos =>
      exact de_lst (sA a es h O tk n)
    | _ => exact absurd (show false = true from h) (by decide)
  | .bin op a b, e, X, c, k, p, W, h, O, tk, n => by
    cases e with
    | BinOp e1 op' e2 pos =>
      have h : (decide (op = op') && ckE c a e1 && ckE c b e2) = true := h
      simp only [Bool.and_eq_true, decide_eq_true_eq, Bool.not_eq_true'] at h
      obtain ⟨⟨rfl, h2⟩, h3⟩ := h
      exact de_bin (dh (sE a e1 h2 O tk n.1)) (dh (sE b e2 h3 O tk n.2))
    | _ => exact absurd (show false = true from h) (by decide)
  | .neg a, e, X, c, k, p, W, h, O, tk, n => by
    cases e with
    | UnaryOp op e1 pos =>
      cases op with
      | USub => exact de_neg (dh (sE a e1 h O tk n))
      | _ => exact absurd (show false = true from h) (by decide)
    | _ => exact absurd (show false = true from h) (by decide)
  | .cmp op a b, e, X, c, k, p, W, h, O, tk, n => by
    cases e with
    | Compare e1 ops es pos =>
      rcases ops with _ | ⟨op', _ | ⟨_, _⟩⟩
      · exact absurd (show false = true from h) (by decide)
      · rcases es with _ | ⟨e2, _ | ⟨_, _⟩⟩
        · exact absurd (show false = true from h) (by decide)
        · have h : (decide (op = op') && nonSet e2 && ckE c a e1 && ckE c b e2) = true := h
          simp only [Bool.and_eq_true, decide_eq_true_eq, Bool.not_eq_true'] at h
          obtain ⟨⟨⟨rfl, h1⟩, h2⟩, h3⟩ := h
          exact de_cmp O.hu (nset_of h1) (dh (sE a e1 h2 O tk n.1)) (dh (sE b e2 h3 O tk n.2))
        · exact absurd (show false = true from h) (by decide)
      · exact absurd (show false = true from h) (by decide)
    | _ => exact absurd (show false = true from h) (by decide)
  | .chn o1 o2 a b d, e, X, c, k, p, W, h, O, tk, n => by
    cases e with
    | Compare e1 ops es pos =>
      rcases ops with _ | ⟨q1, _ | ⟨q2, _ | ⟨_, _⟩⟩⟩
      · exact absurd (show false = true from h) (by decide)
      · exact absurd (show false = true from h) (by decide)
      · rcases es with _ | ⟨e2, _ | ⟨e3, _ | ⟨_, _⟩⟩⟩
        · exact absurd (show false = true from h) (by decide)
        · exact absurd (show false = true from h) (by decide)
        · have h : (decide (o1 = q1) && decide (o2 = q2) && !lastMarks [q1, q2] [e2, e3] && ckE c a e1 && ckE c b e2 && ckE c d e3) = true := h
          simp only [Bool.and_eq_true, decide_eq_true_eq, Bool.not_eq_true'] at h
          obtain ⟨⟨⟨⟨⟨rfl, rfl⟩, h1⟩, h2⟩, h3⟩, h4⟩ := h
          exact de_chain O.hu (dh (sE a e1 h2 O tk n.1)) (dh (sE b e2 h3 O tk n.2.1)) (dh (sE d e3 h4 O tk n.2.2)) h1
        · exact absurd (show false = true from h) (by decide)
      · exact absurd (show false = true from h) (by decide)
    | _ => exact absurd (show false = true from h) (by decide)
  | .and_ a, e, X, c, k, p, W, h, O, tk, n => by
    cases e with
    | BoolOp op es pos =>
      cases op with
      | And => exact sVa a es h O tk n
      | Or => exact absurd (show false = true from h) (by decide)
    | _ => exact absurd (show false = true from h) (by decide)
  | .or_ a, e, X, c, k, p, W, h, O, tk, n => by
    cases e with
    | BoolOp op es pos =>
      cases op with
      | Or => exact sVo a es h O tk n
      | And => exact absurd (show false = true from h) (by decide)
    | _ => exact absurd (show false = true from h) (by decide)
  | .not_ a, e, X, c, k, p, W, h, O, tk, n => by
    cases e with
    | UnaryOp op e1 pos =>
      cases op with
      | Not => exact de_not (dh (sE a e1 h O tk n))
      | _ => exact absurd (show false = true from h) (by decide)
    | _ => exact absurd (show false = true from h) (by decide)
  | .ite t a b, e, X, c, k, p, W, h, O, tk, n => by
    cases e with
    | IfExp e1 e2 e3 pos =>
      have h : (ckT c t e1 && ckE c a e2 && ckE c b e3) = true := h
      simp only [Bool.and_eq_true, decide_eq_true_eq, Bool.not_eq_true'] at h
      obtain ⟨⟨h1, h2⟩, h3⟩ := h
      exact de_if (sT t e1 h1 O tk n.1) (sE a e2 h2 O tk n.2.1) (sE b e3 h3 O tk n.2.2)
    | _ => exact absurd (show false = true from h) (by decide)
  | .ix a b, e, X, c, k, p, W, h, O, tk, n => by
    cases e with
    | Subscript e1 e2 pos =>
      have h : (ixB e2 && ckE c a e1 && ckE c b e2) = true := h
      simp only [Bool.and_eq_true] at h
      obtain ⟨⟨h1, h2⟩, h3⟩ := h
      exact de_ix (dh (sE a e1 h2 O tk n.1)) (dh (sE b e2 h3 O tk n.2)) (ix_of h1)
    | _ => exact absurd (show false = true from h) (by decide)
  | .slc a lo hi, e, X, c, k, p, W, h, O, tk, n => by
    cases e with
    | Subscript e1 e2 pos =>
      cases e2 with
      | Slice l u st p2 =>
        cases st with
        | some _ => exact absurd (show false = true from h) (by decide)
        | none =>
          have h : (ckE c a e1 && ckO c lo l && ckO c hi u) = true := h
          simp only [Bool.and_eq_true] at h
          obtain ⟨⟨h1, h2⟩, h3⟩ := h
          exact de_slice (dh (sE a e1 h1 O tk n.1)) (sO lo l h2 O tk n.2.1) (sO hi u h3 O tk n.2.2)
      | _ => exact absurd (show false = true from h) (by decide)
    | _ => exact absurd (show false = true from h) (by decide)
  | .call x F a, e, X, c, k, p, W, h, O, tk, n => by
    cases e with
    | Call fe es kws pos =>
      cases fe with
      | Name y p1 =>
        cases kws with
        | cons _ _ => exact absurd (show false = true from h) (by decide)
        | nil =>
          have h : (decide (x = y) && glB c.sc y && !dbg y && es.all nonStar && ckA c a es) = true := h
          simp only [Bool.and_eq_true, decide_eq_true_eq] at h
          obtain ⟨⟨⟨⟨rfl, h1⟩, h2⟩, h3⟩, h4⟩ := h
          cases es with
          | nil =>
            have ha := sA a [] h4 O tk n.2
            cases a with
            | nil => exact de_call0 n.1 O.room tk (O.gl h1) (dbg_of h2)
            | _ => exact absurd (show false = true from h4) (by decide)
          | cons e1 es =>
            rw [List.all_cons, Bool.and_eq_true] at h3
            exact de_call n.1 O.room tk (O.gl h1) (sA a (e1 :: es) h4 O tk n.2) (dbg_of h2) (star_of h3.1) (stars_of h3.2)
      | _ => exact absurd (show false = true from h) (by decide)
    | _ => exact absurd (show false = true from h) (by decide)
  | .bi b a, e, X, c, k, p, W, h, O, tk, n => by
    cases e with
    | Call fe es kws pos =>
      cases fe with
      | Name y p1 =>
        cases kws with
        | cons _ _ => exact absurd (show false = true from h) (by decide)
        | nil =>
          have h : (decide (b.name = y) && glB c.sc y && c.md.free.contains y && !es.isEmpty && es.all nonStar && ckA c a es) = true := h
          simp only [Bool.and_eq_true, decide_eq_true_eq] at h
          obtain ⟨⟨⟨⟨⟨rfl, h1⟩, h2⟩, h3⟩, h4⟩, h5⟩ := h
          cases es with
          | nil => cases h3
          | cons e1 es => exact bi_of O h1 h2 (sA a (e1 :: es) h5 O tk n) h4
      | _ => exact absurd (show false = true from h) (by decide)
    | _ => exact absurd (show false = true from h) (by decide)
  | .isi T a, e, X, c, k, p, W, h, O, tk, n => by
    cases e with
    | Call fe es kws pos =>
      cases fe with
      | Name y p1 =>
        cases kws with
        | cons _ _ => rcases es with _ | ⟨e1, _ | ⟨e2, _ | ⟨_, _⟩⟩⟩ <;> first | exact absurd (show false = true from h) (by decide) | (cases e2 <;> exact absurd (show false = true from h) (by decide))
        | nil =>
          rcases es with _ | ⟨e1, _ | ⟨e2, _ | ⟨_, _⟩⟩⟩
          · exact absurd (show false = true from h) (by decide)
          · exact absurd (show false = true from h) (by decide)
          · cases e2 with
            | Name z p2 =>
              have h : (decide (y = "isinstance") && decide (Str.ofString T = z) && clsC.contains T && glB c.sc y && c.md.free.contains y && glB c.sc z && c.md.free.contains z && nonStar e1 && ckE c a e1) = true := h
              simp only [Bool.and_eq_true, decide_eq_true_eq] at h
              obtain ⟨⟨⟨⟨⟨⟨⟨⟨rfl, rfl⟩, h1⟩, h2⟩, h3⟩, h4⟩, h5⟩, h6⟩, h7⟩ := h
              exact isi_of O h1 h2 h3 h4 h5 h6 (dh (sE a e1 h7 O tk n))
            | _ => exact absurd (show false = true from h) (by decide)
          · cases e2 <;> exact absurd (show false = true from h) (by decide)
      | _ => exact absurd (show false = true from h) (by decide)
    | _ => exact absurd (show false = true from h) (by decide)
  | .comp g it ts el own, e, X, c, k, p, W, h, O, tk, n => by
    cases e with
    | ListComp elt gs scope pos =>
      rcases gs with _ | ⟨⟨tg, iter, ifs, (_ | as) | as⟩, _ | ⟨_, _⟩⟩
      · exact absurd (show false = true from h) (by decide)
      · have h : (blkB c.N c.sc scope own && nonSet iter && ckI c it iter && ckG (blkC c scope) g tg && (slots g).all (own.map (·.2)).contains && ckTs (blkC c scope) ts ifs && ckE (blkC c scope) el elt) = true := h
        simp only [Bool.and_eq_true, Bool.not_eq_true'] at h
        obtain ⟨⟨⟨⟨⟨⟨h1, h2⟩, h3⟩, h4⟩, h5⟩, h6⟩, h7⟩ := h
        have hsl : ∀ i ∈ slots g, i ∈ own.map (·.2) := fun i hi => List.contains_iff_mem.mp (List.all_eq_true.mp h5 i hi)
        exact de_comp (sl := slots g) O.calm (by rw [O.N]; exact O.nd) (by rw [O.N, O.sc]; exact blk_of h1) (sI it iter h3 O tk n.2.1) (fun s H C cl fp => sG g tg h4 O.blk) hsl
          (fun s H C cl fp q => sTs ts ifs h6 (by rw [q.2]; exact O.blk) takesN0 (by rw [q.2]; exact n.2.2.1)) (fun s H C cl fp q => dh (sE el elt h7 (by rw [q.2]; exact O.blk) takesN0 (by rw [q.2]; exact n.2.2.2))) (fold_of h2)
      · exact absurd (show false = true from h) (by decide)
      · exact absurd (show false = true from h) (by decide)
      · exact absurd (show false = true from h) (by decide)
      · exact absurd (show false = true from h) (by decide)
      · exact absurd (show false = true from h) (by decide)
    | _ => exact absurd (show false = true from h) (by decide)
  | .app o a, e, X, c, k, p, W, h, O, tk, n => by
    cases e with
    | Call fe es kws pos =>
      cases fe with
      | Attribute e1 mm apos =>
        cases kws with
        | cons _ _ => rcases es with _ | ⟨e2, _ | ⟨_, _⟩⟩ <;> exact absurd (show false = true from h) (by decide)
        | nil =>
          rcases es with _ | ⟨e2, _ | ⟨_, _⟩⟩
          · exact absurd (show false = true from h) (by decide)
          · have h : (decide (mm = "append") && baseOk e1 && (apos.endLine == pos.line) && nonStar e2 && ckE c o e1 && ckE c a e2) = true := h
            simp only [Bool.and_eq_true, decide_eq_true_eq] at h
            obtain ⟨⟨⟨⟨⟨rfl, h1⟩, h2⟩, h3⟩, h4⟩, h5⟩ := h
            exact de_append (dh (sE o e1 h4 O tk n.1)) (dh (sE a e2 h5 O tk n.2)) h1 h2 (star_of h3)
          · exact absurd (show false = true from h) (by decide)
      | _ => exact absurd (show false = true from h) (by decide)
    | _ => exact absurd (show false = true from h) (by decide)
  | .popAt o a, e, X, c, k, p, W, h, O, tk, n => by
    cases e with
    | Call fe es kws pos =>
      cases fe with
      | Attribute e1 mm apos =>
        cases kws with
        | cons _ _ => rcases es with _ | ⟨e2, _ | ⟨_, _⟩⟩ <;> exact absurd (show false = true from h) (by decide)
        | nil =>
          rcases es with _ | ⟨e2, _ | ⟨_, _⟩⟩
          · exact absurd (show false = true from h) (by decide)
          · have h : (decide (mm = "pop") && baseOk e1 && (apos.endLine == pos.line) && nonStar e2 && ckE c o e1 && ckE c a e2) = true := h
            simp only [Bool.and_eq_true, decide_eq_true_eq] at h
            obtain ⟨⟨⟨⟨⟨rfl, h1⟩, h2⟩, h3⟩, h4⟩, h5⟩ := h
            exact de_popAt (dh (sE o e1 h4 O tk n.1)) (dh (sE a e2 h5 O tk n.2)) h1 h2 (star_of h3)
          · exact absurd (show false = true from h) (by decide)
      | _ => exact absurd (show false = true from h) (by decide)
    | _ => exact absurd (show false = true from h) (by decide)
  | .pop o, e, X, c, k, p, W, h, O, tk, n => by
    cases e with
    | Call fe es kws pos =>
      cases fe with
      | Attribute e1 mm apos =>
        cases kws with
        | cons _ _ => cases es <;> exact absurd (show false = true from h) (by decide)
        | nil =>
          cases es with
          | cons _ _ => exact absurd (show false = true from h) (by decide)
          | nil =>
            have h : (decide (mm = "pop") && baseOk e1 && (apos.endLine == pos.line) && ckE c o e1) = true := h
            simp only [Bool.and_eq_true, decide_eq_true_eq] at h
            obtain ⟨⟨⟨rfl, h1⟩, h2⟩, h3⟩ := h
            exact de_pop (dh (sE o e1 h3 O tk n)) h1 h2
      | _ => exact absurd (show false = true from h) (by decide)
    | _ => exact absurd (show false = true from h) (by decide)
  | .split o a, e, X, c, k, p, W, h, O, tk, n => by
    cases e with
    | Call fe es kws pos =>
      cases fe with
      | Attribute e1 mm apos =>
        cases kws with
        | cons _ _ => rcases es with _ | ⟨e2, _ | ⟨_, _⟩⟩ <;> exact absurd (show false = true from h) (by decide)
        | nil =>
          rcases es with _ | ⟨e2, _ | ⟨_, _⟩⟩
          · exact absurd (show false = true from h) (by decide)
          · have h : (decide (mm = "split") && baseOk e1 && (apos.endLine == pos.line) && nonStar e2 && ckE c o e1 && ckE c a e2) = true := h
            simp only [Bool.and_eq_true, decide_eq_true_eq] at h
            obtain ⟨⟨⟨⟨⟨rfl, h1⟩, h2⟩, h3⟩, h4⟩, h5⟩ := h
            exact de_split (dh (sE o e1 h4 O tk n.1)) (dh (sE a e2 h5 O tk n.2)) h1 h2 (star_of h3)
          · exact absurd (show false = true from h) (by decide)
      | _ => exact absurd (show false = true from h) (by decide)
    | _ => exact absurd (show false = true from h) (by decide)
  | .join o a, e, X, c, k, p, W, h, O, tk, n => by
    cases e with
    | Call fe es kws pos =>
      cases fe with
      | Attribute e1 mm apos =>
        cases kws with
        | cons _ _ => rcases es with _ | ⟨e2, _ | ⟨_, _⟩⟩ <;> exact absurd (show false = true from h) (by decide)
        | nil =>
          rcases es with _ | ⟨e2, _ | ⟨_, _⟩⟩
          · exact absurd (show false = true from h) (by decide)
          · have h : (decide (mm = "join") && baseOk e1 && (apos.endLine == pos.line) && nonStar e2 && ckE c o e1 && ckE c a e2) = true := h
            simp only [Bool.and_eq_true, decide_eq_true_eq] at h
            obtain ⟨⟨⟨⟨⟨rfl, h1⟩, h2⟩, h3⟩, h4⟩, h5⟩ := h
            exact de_join (dh (sE o e1 h4 O tk n.1)) (dh (sE a e2 h5 O tk n.2)) h1 h2 (star_of h3)
          · exact absurd (show false = true from h) (by decide)
      | _ => exact absurd (show false = true from h) (by decide)
    | _ => exact absurd (show false = true from h) (by decide)
  | .fstr a, e, X, c, k, p, W, h, O, tk, n => by
    cases e with
    | JoinedStr es pos =>
      rcases es with _ | ⟨e1, _ | ⟨e2, es⟩⟩
      · exact absurd (show false = true from h) (by decide)
      · exact absurd (show false = true from h) (by decide)
      · exact de_joined (sJ a (e1 :: e2 :: es) h O tk n)
    | _ => exact absurd (show false = true from h) (by decide)
  | .fmt a, e, X, c, k, p, W, h, O, tk, n => by
    cases e with
    | FormattedValue e1 cv sp pos =>
      cases sp with
      | some _ => exact absurd (show false = true from h) (by decide)
      | none =>
        have h : (decide (cv = -1) && ckE c a e1) = true := h
        simp only [Bool.and_eq_true, decide_eq_true_eq] at h
        obtain ⟨rfl, h1⟩ := h
        exact de_fmt (dh (sE a e1 h1 O tk n))
    | _ => exact absurd (show false = true from h) (by decide)
  | .callV i tab a, e, X, c, k, p, W, h, O, tk, n => by
    cases e with
    | Call fe es kws pos =>
      cases fe with
      | Name y p1 =>
        cases kws with
        | cons _ _ => exact absurd (show false = true from h) (by decide)
        | nil =>
          have h : (decide (c.N[i]? = some y) && visB c.sc y && !dbg y && !decide (y = "__classdict__") && !es.isEmpty && es.all nonStar && ckA c a es) = true := h
          simp only [Bool.and_eq_true, decide_eq_true_eq, Bool.not_eq_true'] at h
          obtain ⟨⟨⟨⟨⟨⟨h1, h2⟩, h3⟩, h4⟩, h5⟩, h6⟩, h7⟩ := h
          cases es with
          | nil => cases h5
          | cons e1 es =>
            rw [List.all_cons, Bool.and_eq_true] at h6
            exact HX.de_callV n.1 O.room tk (by rw [O.N]; exact h1) (O.vis h2) (dbg_of (by rw [h3]; rfl)) (beq_eq_false_iff_ne.mpr (of_decide_eq_false h4)) (sA a (e1 :: es) h7 O tk n.2) (star_of h6.1) (stars_of h6.2)
      | _ => exact absurd (show false = true from h) (by decide)
    | _ => exact absurd (show false = true from h) (by decide)
  | .terr x b, e, X, c, k, p, W, h, O, tk, n => by
    cases e with
    | Call fe es kws pos =>
      cases fe with
      | Name y p1 =>
        cases kws with
        | cons _ _ => rcases es with _ | ⟨e1, _ | ⟨_, _⟩⟩ <;> first | exact absurd (show false = true from h) (by decide) | (cases e1 <;> exact absurd (show false = true from h) (by decide))
        | nil =>
          rcases es with _ | ⟨e1, _ | ⟨_, _⟩⟩
          · exact absurd (show false = true from h) (by decide)
          · cases e1 with
            | Lambda ar body scope lp =>
              have h : (decide (x = y) && glB c.sc y && !dbg y && c.lm && noArgs ar && LamX.lamSB c.sc scope && ckE (lamC c scope) b body) = true := h
              simp only [Bool.and_eq_true, decide_eq_true_eq] at h
              obtain ⟨⟨⟨⟨⟨⟨rfl, h1⟩, h2⟩, h3⟩, h4⟩, h5⟩, h6⟩ := h
              obtain ⟨n1, ⟨CS, nn, n2, n3⟩, n4⟩ := n
              obtain ⟨j, rfl⟩ : ∃ j, k = j + 2 := ⟨k - 2, by omega⟩
              have ej : j + 2 - 2 = j := by omega
              rw [ej] at n2 n4
              have ea := noArgs_of h4
              subst ea
              exact HX.de_terr n2 (O.lm h3) n3 (O.gl h1) (dbg_of h2) O.room (by rw [O.sc]; exact LamX.lamS_by h5) rfl (fun _ _ _ _ _ => rfl) fun A outer s H E f c' hr => sE b body h6 (O.lam hr) HX.lam_takes n4
            | _ => exact absurd (show false = true from h) (by decide)
          · cases e1 <;> exact absurd (show false = true from h) (by decide)
      | _ => exact absurd (show false = true from h) (by decide)
    | _ => exact absurd (show false = true from h) (by decide)
  | .told x b, e, X, c, k, p, W, h, O, tk, n => by
    cases e with
    | Call fe es kws pos =>
      cases fe with
      | Name y p1 =>
        cases kws with
        | cons _ _ => rcases es with _ | ⟨e1, _ | ⟨_, _⟩⟩ <;> first | exact absurd (show false = true from h) (by decide) | (cases e1 <;> exact absurd (show false = true from h) (by decide))
        | nil =>
          rcases es with _ | ⟨e1, _ | ⟨_, _⟩⟩
          · exact absurd (show false = true from h) (by decide)
          · cases e1 with
            | Lambda ar body scope lp =>
              have h : (decide (x = y) && glB c.sc y && !dbg y && c.lm && noArgs ar && LamX.lamSB c.sc scope && ckE (lamC c scope) b body) = true := h
              simp only [Bool.and_eq_true, decide_eq_true_eq] at h
              obtain ⟨⟨⟨⟨⟨⟨rfl, h1⟩, h2⟩, h3⟩, h4⟩, h5⟩, h6⟩ := h
              obtain ⟨n1, ⟨CS, nn, n2, n3⟩, n4⟩ := n
              obtain ⟨j, rfl⟩ : ∃ j, k = j + 2 := ⟨k - 2, by omega⟩
              have ej : j + 2 - 2 = j := by omega
              rw [ej] at n2 n4
              have ea := noArgs_of h4
              subst ea
              exact HX.de_told n2 (O.lm h3) n3 (O.gl h1) (dbg_of h2) O.room (by rw [O.sc]; exact LamX.lamS_by h5) rfl (fun _ _ _ _ _ => rfl) fun A outer s H E f c' hr => sE b body h6 (O.lam hr) HX.lam_takes n4
            | _ => exact absurd (show false = true from h) (by decide)
          · cases e1 <;> exact absurd (show false = true from h) (by decide)
      | _ => exact absurd (show false = true from h) (by decide)
    | _ => exact absurd (show false = true from h) (by decide)
  | .rev a, e, X, c, k, p, W, h, O, tk, n => by
    cases e with
    | Subscript e1 e2 pos =>
      cases e2 with
      | Slice l u st p2 =>
        cases l with
        | some _ => exact absurd (show false = true from h) (by decide)
        | none =>
          cases u with
          | some _ => exact absurd (show false = true from h) (by decide)
          | none =>
            cases st with
            | none => exact absurd (show false = true from h) (by decide)
            | some e3 =>
              cases e3 with
              | UnaryOp op e4 p3 =>
                cases op with
                | USub =>
                  cases e4 with
                  | Constant q j p4 =>
                    cases q with
                    | int i =>
                      have h : (decide (i = 1) && ckE c a e1) = true := h
                      simp only [Bool.and_eq_true, decide_eq_true_eq] at h
                      obtain ⟨rfl, h1⟩ := h
                      exact de_rev (dh (sE a e1 h1 O tk n))
                    | _ => exact absurd (show false = true from h) (by decide)
                  | _ => exact absurd (show false = true from h) (by decide)
                | _ => exact absurd (show false = true from h) (by decide)
              | _ => exact absurd (show false = true from h) (by decide)
      | _ => exact absurd (show false = true from h) (by decide)
    | _ => exact absurd (show false = true from h) (by decide)
  | .nil, e, X, c, k, p, W, h, O, tk, n => absurd (show false = true from h) (by decide)
  | .cons _ _, e, X, c, k, p, W, h, O, tk, n => absurd (show false = true from h) (by decide)
  | .tru _, e, X, c, k, p, W, h, O, tk, n => absurd (show false = true from h) (by decide)
  | .repl _ _ _, e, X, c, k, p, W, h, O, tk, n => absurd (show false = true from h) (by decide)
  | .seq _, e, X, c, k, p, W, h, O, tk, n => absurd (show false = true from h) (by decide)
  | .rng1 _, e, X, c, k, p, W, h, O, tk, n => absurd (show false = true from h) (by decide)
  | .rng2 _ _, e, X, c, k, p, W, h, O, tk, n => absurd (show false = true from h) (by decide)
  | .pass, e, X, c, k, p, W, h, O, tk, n => absurd (show false = true from h) (by decide)
  | .brk, e, X, c, k, p, W, h, O, tk, n => absurd (show false = true from h) (by decide)
  | .cnt, e, X, c, k, p, W, h, O, tk, n => absurd (show false = true from h) (by decide)
  | .expr _, e, X, c, k, p, W, h, O, tk, n => absurd (show false = true from h) (by decide)
  | .ret _, e, X, c, k, p, W, h, O, tk, n => absurd (show false = true from h) (by decide)
  | .ret0, e, X, c, k, p, W, h, O, tk, n => absurd (show false = true from h) (by decide)
  | .sif _ _ _, e, X, c, k, p, W, h, O, tk, n => absurd (show false = true from h) (by decide)
  | .set _ _, e, X, c, k, p, W, h, O, tk, n => absurd (show false = true from h) (by decide)
  | .setLc _ _ _ _ _ _, e, X, c, k, p, W, h, O, tk, n => absurd (show false = true from h) (by decide)
  | .asg _ _, e, X, c, k, p, W, h, O, tk, n => absurd (show false = true from h) (by decide)
  | .par _ _ _ _, e, X, c, k, p, W, h, O, tk, n => absurd (show false = true from h) (by decide)
  | .for_ _ _ _, e, X, c, k, p, W, h, O, tk, n => absurd (show false = true from h) (by decide)
  | .whl _ _, e, X, c, k, p, W, h, O, tk, n => absurd (show false = true from h) (by decide)
  | .raise _, e, X, c, k, p, W, h, O, tk, n => absurd (show false = true from h) (by decide)
  | .tok _ _ _ _, e, X, c, k, p, W, h, O, tk, n => absurd (show false = true from h) (by decide)
theorem sA : ∀ (i : I) (e : List Expr) {X : Cx} {c : Ct} {k : Nat} {p : P0} {W : WX}, ckA c i e = true → Ok X c k p.T → L2N.Takes X W → Nd (HasX X p.T) (TryX X) k i → DA X p W e (evA i)
  | .nil, [], X, c, k, p, W, h, O, tk, n => da_nil
  | .cons a r, e1 :: es, X, c, k, p, W, h, O, tk, n => by
    have h : (nonStar e1 && ckE c a e1 && ckA c r es) = true := h
    simp only [Bool.and_eq_true] at h
    obtain ⟨⟨h1, h2⟩, h3⟩ := h
    exact da_cons (dh (sE a e1 h2 O tk n.1)) (sA r es h3 O tk n.2) (star_of h1)
  | .nil, _ :: _, X, c, k, p, W, h, O, tk, n => absurd (show false = true from h) (by decide)
  | .cons _ _, [], X, c, k, p, W, h, O, tk, n => absurd (show false = true from h) (by decide)
  | .var _, e, X, c, k, p, W, h, O, tk, n => absurd (show false = true from h) (by decide)
  | .cst _, e, X, c, k, p, W, h, O, tk, n => absurd (show false = true from h) (by decide)
  | .glo _ _, e, X, c, k, p, W, h, O, tk, n => absurd (show false = true from h) (by decide)
  | .tup _, e, X, c, k, p, W, h, O, tk, n => absurd (show false = true from h) (by decide)
  | .lst _, e, X, c, k, p, W, h, O, tk, n => absurd (show false = true from h) (by decide)
  | .bin _ _ _, e, X, c, k, p, W, h, O, tk, n => absurd (show false = true from h) (by decide)
  | .neg _, e, X, c, k, p, W, h, O, tk, n => absurd (show false = true from h) (by decide)
  | .cmp _ _ _, e, X, c, k, p, W, h, O, tk, n => absurd (show false = true from h) (by decide)
  | .chn _ _ _ _ _, e, X, c, k, p, W, h, O, tk, n => absurd (show false = true from h) (by decide)
  | .and_ _, e, X, c, k, p, W, h, O, tk, n => absurd (show false = true from h) (by decide)
  | .or_ _, e, X, c, k, p, W, h, O, tk, n => absurd (show false = true from h) (by decide)
  | .not_ _, e, X, c, k, p, W, h, O, tk, n => absurd (show false = true from h) (by decide)
  | .tru _, e, X, c, k, p, W, h, O, tk, n => absurd (show false = true from h) (by decide)
  | .ite _ _ _, e, X, c, k, p, W, h, O, tk, n => absurd (show false = true from h) (by decide)
  | .ix _ _, e, X, c, k, p, W, h, O, tk, n => absurd (show false = true from h) (by decide)
  | .slc _ _ _, e, X, c, k, p, W, h, O, tk, n => absurd (show false = true from h) (by decide)
  | .call _ _ _, e, X, c, k, p, W, h, O, tk, n => absurd (show false = true from h) (by decide)
  | .bi _ _, e, X, c, k, p, W, h, O, tk, n => absurd (show false = true from h) (by decide)
  | .isi _ _, e, X, c, k, p, W, h, O, tk, n => absurd (show false = true from h) (by decide)
  | .comp _ _ _ _ _, e, X, c, k, p, W, h, O, tk, n => absurd (show false = true from h) (by decide)
  | .app _ _, e, X, c, k, p, W, h, O, tk, n => absurd (show false = true from h) (by decide)
  | .popAt _ _, e, X, c, k, p, W, h, O, tk, n => absurd (show false = true from h) (by decide)
  | .pop _, e, X, c, k, p, W, h, O, tk, n => absurd (show false = true from h) (by decide)
  | .split _ _, e, X, c, k, p, W, h, O, tk, n => absurd (show false = true from h) (by decide)
  | .join _ _, e, X, c, k, p, W, h, O, tk, n => absurd (show false = true from h) (by decide)
  | .fstr _, e, X, c, k, p, W, h, O, tk, n => absurd (show false = true from h) (by decide)
  | .fmt _, e, X, c, k, p, W, h, O, tk, n => absurd (show false = true from h) (by decide)
  | .rev _, e, X, c, k, p, W, h, O, tk, n => absurd (show false = true from h) (by decide)
  | .repl _ _ _, e, X, c, k, p, W, h, O, tk, n => absurd (show false = true from h) (by decide)
  | .terr _ _, e, X, c, k, p, W, h, O, tk, n => absurd (show false = true from h) (by decide)
  | .told _ _, e, X, c, k, p, W, h, O, tk, n => absurd (show false = true from h) (by decide)
  | .callV _ _ _, e, X, c, k, p, W, h, O, tk, n => absurd (show false = true from h) (by decide)
  | .seq _, e, X, c, k, p, W, h, O, tk, n => absurd (show false = true from h) (by decide)
  | .rng1 _, e, X, c, k, p, W, h, O, tk, n => absurd (show false = true from h) (by decide)
  | .rng2 _ _, e, X, c, k, p, W, h, O, tk, n => absurd (show false = true from h) (by decide)
  | .pass, e, X, c, k, p, W, h, O, tk, n => absurd (show false = true from h) (by decide)
  | .brk, e, X, c, k, p, W, h, O, tk, n => absurd (show false = true from h) (by decide)
  | .cnt, e, X, c, k, p, W, h, O, tk, n => absurd (show false = true from h) (by decide)
  | .expr _, e, X, c, k, p, W, h, O, tk, n => absurd (show false = true from h) (by decide)
  | .ret _, e, X, c, k, p, W, h, O, tk, n => absurd (show false = true from h) (by decide)
  | .ret0, e, X, c, k, p, W, h, O, tk, n => absurd (show false = true from h) (by decide)
  | .sif _ _ _, e, X, c, k, p, W, h, O, tk, n => absurd (show false = true from h) (by decide)
  | .set _ _, e, X, c, k, p, W, h, O, tk, n => absurd (show false = true from h) (by decide)
  | .setLc _ _ _ _ _ _, e, X, c, k, p, W, h, O, tk, n => absurd (show false = true from h) (by decide)
  | .asg _ _, e, X, c, k, p, W, h, O, tk, n => absurd (show false = true from h) (by decide)
  | .par _ _ _ _, e, X, c, k, p, W, h, O, tk, n => absurd (show false = true from h) (by decide)
  | .for_ _ _ _, e, X, c, k, p, W, h, O, tk, n => absurd (show false = true from h) (by decide)
  | .whl _ _, e, X, c, k, p, W, h, O, tk, n => absurd (show false = true from h) (by decide)
  | .raise _, e, X, c, k, p, W, h, O, tk, n => absurd (show false = true from h) (by decide)
  | .tok _ _ _ _, e, X, c, k, p, W, h, O, tk, n => absurd (show false = true from h) (by decide)
theorem sJ : ∀ (i : I) (e : List Expr) {X : Cx} {c : Ct} {k : Nat} {p : P0} {W : WX}, ckJ c i e = true → Ok X c k p.T → L2N.Takes X W → Nd (HasX X p.T) (TryX X) k i → DJ X p W e (evJ i)
  | .nil, [], X, c, k, p, W, h, O, tk, n => .nil
  | .cons a r, e1 :: es, X, c, k, p, W, h, O, tk, n => by
    have h : (ckE c a e1 && ckJ c r es) = true := h
    simp only [Bool.and_eq_true] at h
    exact .cons (dh (sE a e1 h.1 O tk n.1)) (sJ r es h.2 O tk n.2)
  | .nil, _ :: _, X, c, k, p, W, h, O, tk, n => absurd (show false = true from h) (by decide)
  | .cons _ _, [], X, c, k, p, W, h, O, tk, n => absurd (show false = true from h) (by decide)
  | .var _, e, X, c, k, p, W, h, O, tk, n => absurd (show false = true from h) (by decide)
  | .cst _, e, X, c, k, p, W, h, O, tk, n => absurd (show false = true from h) (by decide)
  | .glo _ _, e, X, c, k, p, W, h, O, tk, n => absurd (show false = true from h) (by decide)
  | .tup _, e, X, c, k, p, W, h, O, tk, n => absurd (show false = true from h) (by decide)
  | .lst _, e, X, c, k, p, W, h, O, tk, n => absurd (show false = true from h) (by decide)
  | .bin _ _ _, e, X, c, k, p, W, h, O, tk, n => absurd (show false = true from h) (by decide)
  | .neg _, e, X, c, k, p, W, h, O, tk, n => absurd (show false = true from h) (by decide)
  | .cmp _ _ _, e, X, c, k, p, W, h, O, tk, n => absurd (show false = true from h) (by decide)
  | .chn _ _ _ _ _, e, X, c, k, p, W, h, O, tk, n => absurd (show false = true from h) (by decide)
  | .and_ _, e, X, c, k, p, W, h, O, tk, n => absurd (show false = true from h) (by decide)
  | .or_ _, e, X, c, k, p, W, h, O, tk, n => absurd (show false = true from h) (by decide)
  | .not_ _, e, X, c, k, p, W, h, O, tk, n => absurd (show false = true from h) (by decide)
  | .tru _, e, X, c, k, p, W, h, O, tk, n => absurd (show false = true from h) (by decide)
  | .ite _ _ _, e, X, c, k, p, W, h, O, tk, n => absurd (show false = true from h) (by decide)
  | .ix _ _, e, X, c, k, p, W, h, O, tk, n => absurd (show false = true from h) (by decide)
  | .slc _ _ _, e, X, c, k, p, W, h, O, tk, n => absurd (show false = true from h) (by decide)
  | .call _ _ _, e, X, c, k, p, W, h, O, tk, n => absurd (show false = true from h) (by decide)
  | .bi _ _, e, X, c, k, p, W, h, O, tk, n => absurd (show false = true from h) (by decide)
  | .isi _ _, e, X, c, k, p, W, h, O, tk, n => absurd (show false = true from h) (by decide)
  | .comp _ _ _ _ _, e, X, c, k, p, W, h, O, tk, n => absurd (show false = true from h) (by decide)
  | .app _ _, e, X, c, k, p, W, h, O, tk, n => absurd (show false = true from h) (by decide)
  | .popAt _ _, e, X, c, k, p, W, h, O, tk, n => absurd (show false = true from h) (by decide)
  | .pop _, e, X, c, k, p, W, h, O, tk, n => absurd (show false = true from h) (by decide)
  | .split _ _, e, X, c, k, p, W, h, O, tk, n => absurd (show false = true from h) (by decide)
  | .join _ _, e, X, c, k, p, W, h, O, tk, n => absurd (show false = true from h) (by decide)
  | .fstr _, e, X, c, k, p, W, h, O, tk, n => absurd (show false = true from h) (by decide)
  | .fmt _, e, X, c, k, p, W, h, O, tk, n => absurd (show false = true from h) (by decide)
  | .rev _, e, X, c, k, p, W, h, O, tk, n => absurd (show false = true from h) (by decide)
  | .repl _ _ _, e, X, c, k, p, W, h, O, tk, n => absurd (show false = true from h) (by decide)
  | .terr _ _, e, X, c, k, p, W, h, O, tk, n => absurd (show false = true from h) (by decide)
  | .told _ _, e, X, c, k, p, W, h, O, tk, n => absurd (show false = true from h) (by decide)
  | .callV _ _ _, e, X, c, k, p, W, h, O, tk, n => absurd (show false = true from h) (by decide)
  | .seq _, e, X, c, k, p, W, h, O, tk, n => absurd (show false = true from h) (by decide)
  | .rng1 _, e, X, c, k, p, W, h, O, tk, n => absurd (show false = true from h) (by decide)
  | .rng2 _ _, e, X, c, k, p, W, h, O, tk, n => absurd (show false = true from h) (by decide)
  | .pass, e, X, c, k, p, W, h, O, tk, n => absurd (show false = true from h) (by decide)
  | .brk, e, X, c, k, p, W, h, O, tk, n => absurd (show false = true from h) (by decide)
  | .cnt, e, X, c, k, p, W, h, O, tk, n => absurd (show false = true from h) (by decide)
  | .expr _, e, X, c, k, p, W, h, O, tk, n => absurd (show false = true from h) (by decide)
  | .ret _, e, X, c, k, p, W, h, O, tk, n => absurd (show false = true from h) (by decide)
  | .ret0, e, X, c, k, p, W, h, O, tk, n => absurd (show false = true from h) (by decide)
  | .sif _ _ _, e, X, c, k, p, W, h, O, tk, n => absurd (show false = true from h) (by decide)
  | .set _ _, e, X, c, k, p, W, h, O, tk, n => absurd (show false = true from h) (by decide)
  | .setLc _ _ _ _ _ _, e, X, c, k, p, W, h, O, tk, n => absurd (show false = true from h) (by decide)
  | .asg _ _, e, X, c, k, p, W, h, O, tk, n => absurd (show false = true from h) (by decide)
  | .par _ _ _ _, e, X, c, k, p, W, h, O, tk, n => absurd (show false = true from h) (by decide)
  | .for_ _ _ _, e, X, c, k, p, W, h, O, tk, n => absurd (show false = true from h) (by decide)
  | .whl _ _, e, X, c, k, p, W, h, O, tk, n => absurd (show false = true from h) (by decide)
  | .raise _, e, X, c, k, p, W, h, O, tk, n => absurd (show false = true from h) (by decide)
  | .tok _ _ _ _, e, X, c, k, p, W, h, O, tk, n => absurd (show false = true from h) (by decide)
theorem sT : ∀ (i : I) (e : Expr) {X : Cx} {c : Ct} {k : Nat} {p : P0} {W : WX}, ckT c i e = true → Ok X c k p.T → L2N.Takes X W → Nd (HasX X p.T) (TryX X) k i → DT X p W e (evT i)
  | .tru a, e, X, c, k, p, W, h, O, tk, n => by
    have h : (truB e && ckE c a e) = true := h
    simp only [Bool.and_eq_true] at h
    exact dt_of (plainT_of h.1) (dh (sE a e h.2 O tk n))
  | .not_ a, e, X, c, k, p, W, h, O, tk, n => by
    cases e with
    | UnaryOp op e1 pos =>
      cases op with
      | Not => exact dt_not (sT a e1 h O tk n)
      | _ => exact absurd (show false = true from h) (by decide)
    | _ => exact absurd (show false = true from h) (by decide)
  | .cmp op a b, e, X, c, k, p, W, h, O, tk, n => by
    cases e with
    | Compare e1 ops es pos =>
      rcases ops with _ | ⟨op', _ | ⟨_, _⟩⟩
      · exact absurd (show false = true from h) (by decide)
      · rcases es with _ | ⟨e2, _ | ⟨_, _⟩⟩
        · exact absurd (show false = true from h) (by decide)
        · have h : (decide (op = op') && nonSet e2 && ckE c a e1 && ckE c b e2) = true := h
          simp only [Bool.and_eq_true, decide_eq_true_eq, Bool.not_eq_true'] at h
          obtain ⟨⟨⟨rfl, h1⟩, h2⟩, h3⟩ := h
          exact dt_cmp O.hu (nset_of h1) (dh (sE a e1 h2 O tk n.1)) (dh (sE b e2 h3 O tk n.2))
        · exact absurd (show false = true from h) (by decide)
      · exact absurd (show false = true from h) (by decide)
    | _ => exact absurd (show false = true from h) (by decide)
  | .chn o1 o2 a b d, e, X, c, k, p, W, h, O, tk, n => by
    cases e with
    | Compare e1 ops es pos =>
      rcases ops with _ | ⟨q1, _ | ⟨q2, _ | ⟨_, _⟩⟩⟩
      · exact absurd (show false = true from h) (by decide)
      · exact absurd (show false = true from h) (by decide)
      · rcases es with _ | ⟨e2, _ | ⟨e3, _ | ⟨_, _⟩⟩⟩
        · exact absurd (show false = true from h) (by decide)
        · exact absurd (show false = true from h) (by decide)
        · have h : (decide (o1 = q1) && decide (o2 = q2) && !lastMarks [q1, q2] [e2, e3] && ckE c a e1 && ckE c b e2 && ckE c d e3) = true := h
          simp only [Bool.and_eq_true, decide_eq_true_eq, Bool.not_eq_true'] at h
          obtain ⟨⟨⟨⟨⟨rfl, rfl⟩, h1⟩, h2⟩, h3⟩, h4⟩ := h
          exact dt_chain O.hu (dh (sE a e1 h2 O tk n.1)) (dh (sE b e2 h3 O tk n.2.1)) (dh (sE d e3 h4 O tk n.2.2)) h1
        · exact absurd (show false = true from h) (by decide)
      · exact absurd (show false = true from h) (by decide)
    | _ => exact absurd (show false = true from h) (by decide)
  | .and_ a, e, X, c, k, p, W, h, O, tk, n => by
    cases e with
    | BoolOp op es pos =>
      cases op with
      | And => exact (sWa a es h O tk n).pt
      | Or => exact absurd (show false = true from h) (by decide)
    | _ => exact absurd (show false = true from h) (by decide)
  | .or_ a, e, X, c, k, p, W, h, O, tk, n => by
    cases e with
    | BoolOp op es pos =>
      cases op with
      | Or => exact (sWo a es h O tk n).pt
      | And => exact absurd (show false = true from h) (by decide)
    | _ => exact absurd (show false = true from h) (by decide)
  | .nil, e, X, c, k, p, W, h, O, tk, n => absurd (show false = true from h) (by decide)
  | .cons _ _, e, X, c, k, p, W, h, O, tk, n => absurd (show false = true from h) (by decide)
  | .var _, e, X, c, k, p, W, h, O, tk, n => absurd (show false = true from h) (by decide)
  | .cst _, e, X, c, k, p, W, h, O, tk, n => absurd (show false = true from h) (by decide)
  | .glo _ _, e, X, c, k, p, W, h, O, tk, n => absurd (show false = true from h) (by decide)
  | .tup _, e, X, c, k, p, W, h, O, tk, n => absurd (show false = true from h) (by decide)
  | .lst _, e, X, c, k, p, W, h, O, tk, n => absurd (show false = true from h) (by decide)
  | .bin _ _ _, e, X, c, k, p, W, h, O, tk, n => absurd (show false = true from h) (by decide)
  | .neg _, e, X, c, k, p, W, h, O, tk, n => absurd (show false = true from h) (by decide)
  | .ite _ _ _, e, X, c, k, p, W, h, O, tk, n => absurd (show false = true from h) (by decide)
  | .ix _ _, e, X, c, k, p, W, h, O, tk, n => absurd (show false = true from h) (by decide)
  | .slc _ _ _, e, X, c, k, p, W, h, O, tk, n => absurd (show false = true from h) (by decide)
  | .call _ _ _, e, X, c, k, p, W, h, O, tk, n => absurd (show false = true from h) (by decide)
  | .bi _ _, e, X, c, k, p, W, h, O, tk, n => absurd (show false = true from h) (by decide)
  | .isi _ _, e, X, c, k, p, W, h, O, tk, n => absurd (show false = true from h) (by decide)
  | .comp _ _ _ _ _, e, X, c, k, p, W, h, O, tk, n => absurd (show false = true from h) (by decide)
  | .app _ _, e, X, c, k, p, W, h, O, tk, n => absurd (show false = true from h) (by decide)
  | .popAt _ _, e, X, c, k, p, W, h, O, tk, n => absurd (show false = true from h) (by decide)
  | .pop _, e, X, c, k, p, W, h, O, tk, n => absurd (show false = true from h) (by decide)
  | .split _ _, e, X, c, k, p, W, h, O, tk, n => absurd (show false = true from h) (by decide)
  | .join _ _, e, X, c, k, p, W, h, O, tk, n => absurd (show false = true from h) (by decide)
  | .fstr _, e, X, c, k, p, W, h, O, tk, n => absurd (show false = true from h) (by decide)
  | .fmt _, e, X, c, k, p, W, h, O, tk, n => absurd (show false = true from h) (by decide)
  | .rev _, e, X, c, k, p, W, h, O, tk, n => absurd (show false = true from h) (by decide)
  | .repl _ _ _, e, X, c, k, p, W, h, O, tk, n => absurd (show false = true from h) (by decide)
  | .terr _ _, e, X, c, k, p, W, h, O, tk, n => absurd (show false = true from h) (by decide)
  | .told _ _, e, X, c, k, p, W, h, O, tk, n => absurd (show false = true from h) (by decide)
  | .callV _ _ _, e, X, c, k, p, W, h, O, tk, n => absurd (show false = true from h) (by decide)
  | .seq _, e, X, c, k, p, W, h, O, tk, n => absurd (show false = true from h) (by decide)
  | .rng1 _, e, X, c, k, p, W, h, O, tk, n => absurd (show false = true from h) (by decide)
  | .rng2 _ _, e, X, c, k, p, W, h, O, tk, n => absurd (show false = true from h) (by decide)
  | .pass, e, X, c, k, p, W, h, O, tk, n => absurd (show false = true from h) (by decide)
  | .brk, e, X, c, k, p, W, h, O, tk, n => absurd (show false = true from h) (by decide)
  | .cnt, e, X, c, k, p, W, h, O, tk, n => absurd (show false = true from h) (by decide)
  | .expr _, e, X, c, k, p, W, h, O, tk, n => absurd (show false = true from h) (by decide)
  | .ret _, e, X, c, k, p, W, h, O, tk, n => absurd (show false = true from h) (by decide)
  | .ret0, e, X, c, k, p, W, h, O, tk, n => absurd (show false = true from h) (by decide)
  | .sif _ _ _, e, X, c, k, p, W, h, O, tk, n => absurd (show false = true from h) (by decide)
  | .set _ _, e, X, c, k, p, W, h, O, tk, n => absurd (show false = true from h) (by decide)
  | .setLc _ _ _ _ _ _, e, X, c, k, p, W, h, O, tk, n => absurd (show false = true from h) (by decide)
  | .asg _ _, e, X, c, k, p, W, h, O, tk, n => absurd (show false = true from h) (by decide)
  | .par _ _ _ _, e, X, c, k, p, W, h, O, tk, n => absurd (show false = true from h) (by decide)
  | .for_ _ _ _, e, X, c, k, p, W, h, O, tk, n => absurd (show false = true from h) (by decide)
  | .whl _ _, e, X, c, k, p, W, h, O, tk, n => absurd (show false = true from h) (by decide)
  | .raise _, e, X, c, k, p, W, h, O, tk, n => absurd (show false = true from h) (by decide)
  | .tok _ _ _ _, e, X, c, k, p, W, h, O, tk, n => absurd (show false = true from h) (by decide)
theorem sWa : ∀ (i : I) (e : List Expr) {pos : Pos} {X : Cx} {c : Ct} {k : Nat} {p : P0} {W : WX}, ckW c i e = true → Ok X c k p.T → L2N.Takes X W → Nd (HasX X p.T) (TryX X) k i → DWt X p W (.BoolOp .And e pos) (evAnd i)
  | .cons a .nil, [e1], pos, X, c, k, p, W, h, O, tk, n => dw_and1 (sT a e1 h O tk n.1)
  | .cons a (.cons b r), e1 :: e2 :: es, pos, X, c, k, p, W, h, O, tk, n => by
    have h : (ckT c a e1 && ckW c (.cons b r) (e2 :: es)) = true := h
    simp only [Bool.and_eq_true] at h
    exact dw_and (sT a e1 h.1 O tk n.1) (sWa (.cons b r) (e2 :: es) h.2 O tk n.2)
  | .cons a .nil, [], pos, X, c, k, p, W, h, O, tk, n => absurd (show false = true from h) (by decide)
  | .cons a .nil, _ :: _ :: _, pos, X, c, k, p, W, h, O, tk, n => absurd (show false = true from h) (by decide)
  | .cons a (.cons _ _), [], pos, X, c, k, p, W, h, O, tk, n => absurd (show false = true from h) (by decide)
  | .cons a (.cons _ _), [_], pos, X, c, k, p, W, h, O, tk, n => absurd (show false = true from h) (by decide)
  | .cons _ (.var _), e, pos, X, c, k, p, W, h, O, tk, n => by rcases e with _ | ⟨e1, _ | ⟨_, _⟩⟩ <;> exact absurd (show false = true from h) (by decide)
  | .cons _ (.cst _), e, pos, X, c, k, p, W, h, O, tk, n => by rcases e with _ | ⟨e1, _ | ⟨_, _⟩⟩ <;> exact absurd (show false = true from h) (by decide)
  | .cons _ (.glo _ _), e, pos, X, c, k, p, W, h, O, tk, n => by rcases e with _ | ⟨e1, _ | ⟨_, _⟩⟩ <;> exact absurd (show false = true from h) (by decide)
  | .cons _ (.tup _), e, pos, X, c, k, p, W, h, O, tk, n => by rcases e with _ | ⟨e1, _ | ⟨_, _⟩⟩ <;> exact absurd (show false = true from h) (by decide)
  | .cons _ (.lst _), e, pos, X, c, k, p, W, h, O, tk, n => by rcases e with _ | ⟨e1, _ | ⟨_, _⟩⟩ <;> exact absurd (show false = true from h) (by decide)
  | .cons _ (.bin _ _ _), e, pos, X, c, k, p, W, h, O, tk, n => by rcases e with _ | ⟨e1, _ | ⟨_, _⟩⟩ <;> exact absurd (show false = true from h) (by decide)
  | .cons _ (.neg _), e, pos, X, c, k, p, W, h, O, tk, n => by rcases e with _ | ⟨e1, _ | ⟨_, _⟩⟩ <;> exact absurd (show false = true from h) (by decide)
  | .cons _ (.cmp _ _ _), e, pos, X, c, k, p, W, h, O, tk, n => by rcases e with _ | ⟨e1, _ | ⟨_, _⟩⟩ <;> exact absurd (show false = true from h) (by decide)
  | .cons _ (.chn _ _ _ _ _), e, pos, X, c, k, p, W, h, O, tk, n => by rcases e with _ | ⟨e1, _ | ⟨_, _⟩⟩ <;> exact absurd (show false = true from h) (by decide)
  | .cons _ (.and_ _), e, pos, X, c, k, p, W, h, O, tk, n => by rcases e with _ | ⟨e1, _ | ⟨_, _⟩⟩ <;> exact absurd (show false = true from h) (by decide)
  | .cons _ (.or_ _), e, pos, X, c, k, p, W, h, O, tk, n => by rcases e with _ | ⟨e1, _ | ⟨_, _⟩⟩ <;> exact absurd (show false = true from h) (by decide)
  | .cons _ (.not_ _), e, pos, X, c, k, p, W, h, O, tk, n => by rcases e with _ | ⟨e1, _ | ⟨_, _⟩⟩ <;> exact absurd (show false = true from h) (by decide)
  | .cons _ (.tru _), e, pos, X, c, k, p, W, h, O, tk, n => by rcases e with _ | ⟨e1, _ | ⟨_, _⟩⟩ <;> exact absurd (show false = true from h) (by decide)
  | .cons _ (.ite _ _ _), e, pos, X, c, k, p, W, h, O, tk, n => by rcases e with _ | ⟨e1, _ | ⟨_, _⟩⟩ <;> exact absurd (show false = true from h) (by decide)
  | .cons _ (.ix _ _), e, pos, X, c, k, p, W, h, O, tk, n => by rcases e with _ | ⟨e1, _ | ⟨_, _⟩⟩ <;> exact absurd (show false = true from h) (by decide)
  | .cons _ (.slc _ _ _), e, pos, X, c, k, p, W, h, O, tk, n => by rcases e with _ | ⟨e1, _ | ⟨_, _⟩⟩ <;> exact absurd (show false = true from h) (by decide)
  | .cons _ (.call _ _ _), e, pos, X, c, k, p, W, h, O, tk, n => by rcases e with _ | ⟨e1, _ | ⟨_, _⟩⟩ <;> exact absurd (show false = true from h) (by decide)
  | .cons _ (.bi _ _), e, pos, X, c, k, p, W, h, O, tk, n => by rcases e with _ | ⟨e1, _ | ⟨_, _⟩⟩ <;> exact absurd (show false = true from h) (by decide)
  | .cons _ (.isi _ _), e, pos, X, c, k, p, W, h, O, tk, n => by rcases e with _ | ⟨e1, _ | ⟨_, _⟩⟩ <;> exact absurd (show false = true from h) (by decide)
  | .cons _ (.comp _ _ _ _ _), e, pos, X, c, k, p, W, h, O, tk, n => by rcases e with _ | ⟨e1, _ | ⟨_, _⟩⟩ <;> exact absurd (show false = true from h) (by decide)
  | .cons _ (.app _ _), e, pos, X, c, k, p, W, h, O, tk, n => by rcases e with _ | ⟨e1, _ | ⟨_, _⟩⟩ <;> exact absurd (show false = true from h) (by decide)
  | .cons _ (.popAt _ _), e, pos, X, c, k, p, W, h, O, tk, n => by rcases e with _ | ⟨e1, _ | ⟨_, _⟩⟩ <;> exact absurd (show false = true from h) (by decide)
  | .cons _ (.pop _), e, pos, X, c, k, p, W, h, O, tk, n => by rcases e with _ | ⟨e1, _ | ⟨_, _⟩⟩ <;> exact absurd (show false = true from h) (by decide)
  | .cons _ (.split _ _), e, pos, X, c, k, p, W, h, O, tk, n => by rcases e with _ | ⟨e1, _ | ⟨_, _⟩⟩ <;> exact absurd (show false = true from h) (by decide)
  | .cons _ (.join _ _), e, pos, X, c, k, p, W, h, O, tk, n => by rcases e with _ | ⟨e1, _ | ⟨_, _⟩⟩ <;> exact absurd (show false = true from h) (by decide)
  | .cons _ (.fstr _), e, pos, X, c, k, p, W, h, O, tk, n => by rcases e with _ | ⟨e1, _ | ⟨_, _⟩⟩ <;> exact absurd (show false = true from h) (by decide)
  | .cons _ (.fmt _), e, pos, X, c, k, p, W, h, O, tk, n => by rcases e with _ | ⟨e1, _ | ⟨_, _⟩⟩ <;> exact absurd (show false = true from h) (by decide)
  | .cons _ (.rev _), e, pos, X, c, k, p, W, h, O, tk, n => by rcases e with _ | ⟨e1, _ | ⟨_, _⟩⟩ <;> exact absurd (show false = true from h) (by decide)
  | .cons _ (.repl _ _ _), e, pos, X, c, k, p, W, h, O, tk, n => by rcases e with _ | ⟨e1, _ | ⟨_, _⟩⟩ <;> exact absurd (show false = true from h) (by decide)
  | .cons _ (.terr _ _), e, pos, X, c, k, p, W, h, O, tk, n => by rcases e with _ | ⟨e1, _ | ⟨_, _⟩⟩ <;> exact absurd (show false = true from h) (by decide)
  | .cons _ (.told _ _), e, pos, X, c, k, p, W, h, O, tk, n => by rcases e with _ | ⟨e1, _ | ⟨_, _⟩⟩ <;> exact absurd (show false = true from h) (by decide)
  | .cons _ (.callV _ _ _), e, pos, X, c, k, p, W, h, O, tk, n => by rcases e with _ | ⟨e1, _ | ⟨_, _⟩⟩ <;> exact absurd (show false = true from h) (by decide)
  | .cons _ (.seq _), e, pos, X, c, k, p, W, h, O, tk, n => by rcases e with _ | ⟨e1, _ | ⟨_, _⟩⟩ <;> exact absurd (show false = true from h) (by decide)
  | .cons _ (.rng1 _), e, pos, X, c, k, p, W, h, O, tk, n => by rcases e with _ | ⟨e1, _ | ⟨_, _⟩⟩ <;> exact absurd (show false = true from h) (by decide)
  | .cons _ (.rng2 _ _), e, pos, X, c, k, p, W, h, O, tk, n => by rcases e with _ | ⟨e1, _ | ⟨_, _⟩⟩ <;> exact absurd (show false = true from h) (by decide)
  | .cons _ (.pass), e, pos, X, c, k, p, W, h, O, tk, n => by rcases e with _ | ⟨e1, _ | ⟨_, _⟩⟩ <;> exact absurd (show false = true from h) (by decide)
  | .cons _ (.brk), e, pos, X, c, k, p, W, h, O, tk, n => by rcases e with _ | ⟨e1, _ | ⟨_, _⟩⟩ <;> exact absurd (show false = true from h) (by decide)
  | .cons _ (.cnt), e, pos, X, c, k, p, W, h, O, tk, n => by rcases e with _ | ⟨e1, _ | ⟨_, _⟩⟩ <;> exact absurd (show false = true from h) (by decide)
  | .cons _ (.expr _), e, pos, X, c, k, p, W, h, O, tk, n => by rcases e with _ | ⟨e1, _ | ⟨_, _⟩⟩ <;> exact absurd (show false = true from h) (by decide)
  | .cons _ (.ret _), e, pos, X, c, k, p, W, h, O, tk, n => by rcases e with _ | ⟨e1, _ | ⟨_, _⟩⟩ <;> exact absurd (show false = true from h) (by decide)
  | .cons _ (.ret0), e, pos, X, c, k, p, W, h, O, tk, n => by rcases e with _ | ⟨e1, _ | ⟨_, _⟩⟩ <;> exact absurd (show false = true from h) (by decide)
  | .cons _ (.sif _ _ _), e, pos, X, c, k, p, W, h, O, tk, n => by rcases e with _ | ⟨e1, _ | ⟨_, _⟩⟩ <;> exact absurd (show false = true from h) (by decide)
  | .cons _ (.set _ _), e, pos, X, c, k, p, W, h, O, tk, n => by rcases e with _ | ⟨e1, _ | ⟨_, _⟩⟩ <;> exact absurd (show false = true from h) (by decide)
  | .cons _ (.setLc _ _ _ _ _ _), e, pos, X, c, k, p, W, h, O, tk, n => by rcases e with _ | ⟨e1, _ | ⟨_, _⟩⟩ <;> exact absurd (show false = true from h) (by decide)
  | .cons _ (.asg _ _), e, pos, X, c, k, p, W, h, O, tk, n => by rcases e with _ | ⟨e1, _ | ⟨_, _⟩⟩ <;> exact absurd (show false = true from h) (by decide)
  | .cons _ (.par _ _ _ _), e, pos, X, c, k, p, W, h, O, tk, n => by rcases e with _ | ⟨e1, _ | ⟨_, _⟩⟩ <;> exact absurd (show false = true from h) (by decide)
  | .cons _ (.for_ _ _ _), e, pos, X, c, k, p, W, h, O, tk, n => by rcases e with _ | ⟨e1, _ | ⟨_, _⟩⟩ <;> exact absurd (show false = true from h) (by decide)
  | .cons _ (.whl _ _), e, pos, X, c, k, p, W, h, O, tk, n => by rcases e with _ | ⟨e1, _ | ⟨_, _⟩⟩ <;> exact absurd (show false = true from h) (by decide)
  | .cons _ (.raise _), e, pos, X, c, k, p, W, h, O, tk, n => by rcases e with _ | ⟨e1, _ | ⟨_, _⟩⟩ <;> exact absurd (show false = true from h) (by decide)
  | .cons _ (.tok _ _ _ _), e, pos, X, c, k, p, W, h, O, tk, n => by rcases e with _ | ⟨e1, _ | ⟨_, _⟩⟩ <;> exact absurd (show false = true from h) (by decide)
  | .nil, e, pos, X, c, k, p, W, h, O, tk, n => absurd (show false = true from h) (by decide)
  | .var _, e, pos, X, c, k, p, W, h, O, tk, n => absurd (show false = true from h) (by decide)
  | .cst _, e, pos, X, c, k, p, W, h, O, tk, n => absurd (show false = true from h) (by decide)
  | .glo _ _, e, pos, X, c, k, p, W, h, O, tk, n => absurd (show false = true from h) (by decide)
  | .tup _, e, pos, X, c, k, p, W, h, O, tk, n => absurd (show false = true from h) (by decide)
  | .lst _, e, pos, X, c, k, p, W, h, O, tk, n => absurd (show false = true from h) (by decide)
  | .bin _ _ _, e, pos, X, c, k, p, W, h, O, tk, n => absurd (show false = true from h) (by decide)
  | .neg _, e, pos, X, c, k, p, W, h, O, tk, n => absurd (show false = true from h) (by decide)
  | .cmp _ _ _, e, pos, X, c, k, p, W, h, O, tk, n => absurd (show false = true from h) (by decide)
  | .chn _ _ _ _ _, e, pos, X, c, k, p, W, h, O, tk, n => absurd (show false = true from h) (by decide)
  | .and_ _, e, pos, X, c, k, p, W, h, O, tk, n => absurd (show false = true from h) (by decide)
  | .or_ _, e, pos, X, c, k, p, W, h, O, tk, n => absurd (show false = true from h) (by decide)
  | .not_ _, e, pos, X, c, k, p, W, h, O, tk, n => absurd (show false = true from h) (by decide)
  | .tru _, e, pos, X, c, k, p, W, h, O, tk, n => absurd (show false = true from h) (by decide)
  | .ite _ _ _, e, pos, X, c, k, p, W, h, O, tk, n => absurd (show false = true from h) (by decide)
  | .ix _ _, e, pos, X, c, k, p, W, h, O, tk, n => absurd (show false = true from h) (by decide)
  | .slc _ _ _, e, pos, X, c, k, p, W, h, O, tk, n => absurd (show false = true from h) (by decide)
  | .call _ _ _, e, pos, X, c, k, p, W, h, O, tk, n => absurd (show false = true from h) (by decide)
  | .bi _ _, e, pos, X, c, k, p, W, h, O, tk, n => absurd (show false = true from h) (by decide)
  | .isi _ _, e, pos, X, c, k, p, W, h, O, tk, n => absurd (show false = true from h) (by decide)
  | .comp _ _ _ _ _, e, pos, X, c, k, p, W, h, O, tk, n => absurd (show false = true from h) (by decide)
  | .app _ _, e, pos, X, c, k, p, W, h, O, tk, n => absurd (show false = true from h) (by decide)
  | .popAt _ _, e, pos, X, c, k, p, W, h, O, tk, n => absurd (show false = true from h) (by decide)
  | .pop _, e, pos, X, c, k, p, W, h, O, tk, n => absurd (show false = true from h) (by decide)
  | .split _ _, e, pos, X, c, k, p, W, h, O, tk, n => absurd (show false = true from h) (by decide)
  | .join _ _, e, pos, X, c, k, p, W, h, O, tk, n => absurd (show false = true from h) (by decide)
  | .fstr _, e, pos, X, c, k, p, W, h, O, tk, n => absurd (show false = true from h) (by decide)
  | .fmt _, e, pos, X, c, k, p, W, h, O, tk, n => absurd (show false = true from h) (by decide)
  | .rev _, e, pos, X, c, k, p, W, h, O, tk, n => absurd (show false = true from h) (by decide)
  | .repl _ _ _, e, pos, X, c, k, p, W, h, O, tk, n => absurd (show false = true from h) (by decide)
  | .terr _ _, e, pos, X, c, k, p, W, h, O, tk, n => absurd (show false = true from h) (by decide)
  | .told _ _, e, pos, X, c, k, p, W, h, O, tk, n => absurd (show false = true from h) (by decide)
  | .callV _ _ _, e, pos, X, c, k, p, W, h, O, tk, n => absurd (show false = true from h) (by decide)
  | .seq _, e, pos, X, c, k, p, W, h, O, tk, n => absurd (show false = true from h) (by decide)
  | .rng1 _, e, pos, X, c, k, p, W, h, O, tk, n => absurd (show false = true from h) (by decide)
  | .rng2 _ _, e, pos, X, c, k, p, W, h, O, tk, n => absurd (show false = true from h) (by decide)
  | .pass, e, pos, X, c, k, p, W, h, O, tk, n => absurd (show false = true from h) (by decide)
  | .brk, e, pos, X, c, k, p, W, h, O, tk, n => absurd (show false = true from h) (by decide)
  | .cnt, e, pos, X, c, k, p, W, h, O, tk, n => absurd (show false = true from h) (by decide)
  | .expr _, e, pos, X, c, k, p, W, h, O, tk, n => absurd (show false = true from h) (by decide)
  | .ret _, e, pos, X, c, k, p, W, h, O, tk, n => absurd (show false = true from h) (by decide)
  | .ret0, e, pos, X, c, k, p, W, h, O, tk, n => absurd (show false = true from h) (by decide)
  | .sif _ _ _, e, pos, X, c, k, p, W, h, O, tk, n => absurd (show false = true from h) (by decide)
  | .set _ _, e, pos, X, c, k, p, W, h, O, tk, n => absurd (show false = true from h) (by decide)
  | .setLc _ _ _ _ _ _, e, pos, X, c, k, p, W, h, O, tk, n => absurd (show false = true from h) (by decide)
  | .asg _ _, e, pos, X, c, k, p, W, h, O, tk, n => absurd (show false = true from h) (by decide)
  | .par _ _ _ _, e, pos, X, c, k, p, W, h, O, tk, n => absurd (show false = true from h) (by decide)
  | .for_ _ _ _, e, pos, X, c, k, p, W, h, O, tk, n => absurd (show false = true from h) (by decide)
  | .whl _ _, e, pos, X, c, k, p, W, h, O, tk, n => absurd (show false = true from h) (by decide)
  | .raise _, e, pos, X, c, k, p, W, h, O, tk, n => absurd (show false = true from h) (by decide)
  | .tok _ _ _ _, e, pos, X, c, k, p, W, h, O, tk, n => absurd (show false = true from h) (by decide)
theorem sWo : ∀ (i : I) (e : List Expr) {pos : Pos} {X : Cx} {c : Ct} {k : Nat} {p : P0} {W : WX}, ckW c i e = true → Ok X c k p.T → L2N.Takes X W → Nd (HasX X p.T) (TryX X) k i → DWt X p W (.BoolOp .Or e pos) (evOr i)
  | .cons a .nil, [e1], pos, X, c, k, p, W, h, O, tk, n => dw_or1 (sT a e1 h O tk n.1)
  | .cons a (.cons b r), e1 :: e2 :: es, pos, X, c, k, p, W, h, O, tk, n => by
    have h : (ckT c a e1 && ckW c (.cons b r) (e2 :: es)) = true := h
    simp only [Bool.and_eq_true] at h
    exact dw_or (sT a e1 h.1 O tk n.1) (sWo (.cons b r) (e2 :: es) h.2 O tk n.2)
  | .cons a .nil, [], pos, X, c, k, p, W, h, O, tk, n => absurd (show false = true from h) (by decide)
  | .cons a .nil, _ :: _ :: _, pos, X, c, k, p, W, h, O, tk, n => absurd (show false = true from h) (by decide)
  | .cons a (.cons _ _), [], pos, X, c, k, p, W, h, O, tk, n => absurd (show false = true from h) (by decide)
  | .cons a (.cons _ _), [_], pos, X, c, k, p, W, h, O, tk, n => absurd (show false = true from h) (by decide)
  | .cons _ (.var _), e, pos, X, c, k, p, W, h, O, tk, n => by rcases e with _ | ⟨e1, _ | ⟨_, _⟩⟩ <;> exact absurd (show false = true from h) (by decide)
  | .cons _ (.cst _), e, pos, X, c, k, p, W, h, O, tk, n => by rcases e with _ | ⟨e1, _ | ⟨_, _⟩⟩ <;> exact absurd (show false = true from h) (by decide)
  | .cons _ (.glo _ _), e, pos, X, c, k, p, W, h, O, tk, n => by rcases e with _ | ⟨e1, _ | ⟨_, _⟩⟩ <;> exact absurd (show false = true from h) (by decide)
  | .cons _ (.tup _), e, pos, X, c, k, p, W, h, O, tk, n => by rcases e with _ | ⟨e1, _ | ⟨_, _⟩⟩ <;> exact absurd (show false = true from h) (by decide)
  | .cons _ (.lst _), e, pos, X, c, k, p, W, h, O, tk, n => by rcases e with _ | ⟨e1, _ | ⟨_, _⟩⟩ <;> exact absurd (show false = true from h) (by decide)
  | .cons _ (.bin _ _ _), e, pos, X, c, k, p, W, h, O, tk, n => by rcases e with _ | ⟨e1, _ | ⟨_, _⟩⟩ <;> exact absurd (show false = true from h) (by decide)
  | .cons _ (.neg _), e, pos, X, c, k, p, W, h, O, tk, n => by rcases e with _ | ⟨e1, _ | ⟨_, _⟩⟩ <;> exact absurd (show false = true from h) (by decide)
  | .cons _ (.cmp _ _ _), e, pos, X, c, k, p, W, h, O, tk, n => by rcases e with _ | ⟨e1, _ | ⟨_, _⟩⟩ <;> exact absurd (show false = true from h) (by decide)
  | .cons _ (.chn _ _ _ _ _), e, pos, X, c, k, p, W, h, O, tk, n => by rcases e with _ | ⟨e1, _ | ⟨_, _⟩⟩ <;> exact absurd (show false = true from h) (by decide)
  | .cons _ (.and_ _), e, pos, X, c, k, p, W, h, O, tk, n => by rcases e with _ | ⟨e1, _ | ⟨_, _⟩⟩ <;> exact absurd (show false = true from h) (by decide)
  | .cons _ (.or_ _), e, pos, X, c, k, p, W, h, O, tk, n => by rcases e with _ | ⟨e1, _ | ⟨_, _⟩⟩ <;> exact absurd (show false = true from h) (by decide)
  | .cons _ (.not_ _), e, pos, X, c, k, p, W, h, O, tk, n => by rcases e with _ | ⟨e1, _ | ⟨_, _⟩⟩ <;> exact absurd (show false = true from h) (by decide)
  | .cons _ (.tru _), e, pos, X, c, k, p, W, h, O, tk, n => by rcases e with _ | ⟨e1, _ | ⟨_, _⟩⟩ <;> exact absurd (show false = true from h) (by decide)
  | .cons _ (.ite _ _ _), e, pos, X, c, k, p, W, h, O, tk, n => by rcases e with _ | ⟨e1, _ | ⟨_, _⟩⟩ <;> exact absurd (show false = true from h) (by decide)
  | .cons _ (.ix _ _), e, pos, X, c, k, p, W, h, O, tk, n => by rcases e with _ | ⟨e1, _ | ⟨_, _⟩⟩ <;> exact absurd (show false = true from h) (by decide)
  | .cons _ (.slc _ _ _), e, pos, X, c, k, p, W, h, O, tk, n => by rcases e with _ | ⟨e1, _ | ⟨_, _⟩⟩ <;> exact absurd (show false = true from h) (by decide)
  | .cons _ (.call _ _ _), e, pos, X, c, k, p, W, h, O, tk, n => by rcases e with _ | ⟨e1, _ | ⟨_, _⟩⟩ <;> exact absurd (show false = true from h) (by decide)
  | .cons _ (.bi _ _), e, pos, X, c, k, p, W, h, O, tk, n => by rcases e with _ | ⟨e1, _ | ⟨_, _⟩⟩ <;> exact absurd (show false = true from h) (by decide)
  | .cons _ (.isi _ _), e, pos, X, c, k, p, W, h, O, tk, n => by rcases e with _ | ⟨e1, _ | ⟨_, _⟩⟩ <;> exact absurd (show false = true from h) (by decide)
  | .cons _ (.comp _ _ _ _ _), e, pos, X, c, k, p, W, h, O, tk, n => by rcases e with _ | ⟨e1, _ | ⟨_, _⟩⟩ <;> exact absurd (show false = true from h) (by decide)
  | .cons _ (.app _ _), e, pos, X, c, k, p, W, h, O, tk, n => by rcases e with _ | ⟨e1, _ | ⟨_, _⟩⟩ <;> exact absurd (show false = true from h) (by decide)
  | .cons _ (.popAt _ _), e, pos, X, c, k, p, W, h, O, tk, n => by rcases e with _ | ⟨e1, _ | ⟨_, _⟩⟩ <;> exact absurd (show false = true from h) (by decide)
  | .cons _ (.pop _), e, pos, X, c, k, p, W, h, O, tk, n => by rcases e with _ | ⟨e1, _ | ⟨_, _⟩⟩ <;> exact absurd (show false = true from h) (by decide)
  | .cons _ (.split _ _), e, pos, X, c, k, p, W, h, O, tk, n => by rcases e with _ | ⟨e1, _ | ⟨_, _⟩⟩ <;> exact absurd (show false = true from h) (by decide)
  | .cons _ (.join _ _), e, pos, X, c, k, p, W, h, O, tk, n => by rcases e with _ | ⟨e1, _ | ⟨_, _⟩⟩ <;> exact absurd (show false = true from h) (by decide)
  | .cons _ (.fstr _), e, pos, X, c, k, p, W, h, O, tk, n => by rcases e with _ | ⟨e1, _ | ⟨_, _⟩⟩ <;> exact absurd (show false = true from h) (by decide)
  | .cons _ (.fmt _), e, pos, X, c, k, p, W, h, O, tk, n => by rcases e with _ | ⟨e1, _ | ⟨_, _⟩⟩ <;> exact absurd (show false = true from h) (by decide)
  | .cons _ (.rev _), e, pos, X, c, k, p, W, h, O, tk, n => by rcases e with _ | ⟨e1, _ | ⟨_, _⟩⟩ <;> exact absurd (show false = true from h) (by decide)
  | .cons _ (.repl _ _ _), e, pos, X, c, k, p, W, h, O, tk, n => by rcases e with _ | ⟨e1, _ | ⟨_, _⟩⟩ <;> exact absurd (show false = true from h) (by decide)
  | .cons _ (.terr _ _), e, pos, X, c, k, p, W, h, O, tk, n => by rcases e with _ | ⟨e1, _ | ⟨_, _⟩⟩ <;> exact absurd (show false = true from h) (by decide)
  | .cons _ (.told _ _), e, pos, X, c, k, p, W, h, O, tk, n => by rcases e with _ | ⟨e1, _ | ⟨_, _⟩⟩ <;> exact absurd (show false = true from h) (by decide)
  | .cons _ (.callV _ _ _), e, pos, X, c, k, p, W, h, O, tk, n => by rcases e with _ | ⟨e1, _ | ⟨_, _⟩⟩ <;> exact absurd (show false = true from h) (by decide)
  | .cons _ (.seq _), e, pos, X, c, k, p, W, h, O, tk, n => by rcases e with _ | ⟨e1, _ | ⟨_, _⟩⟩ <;> exact absurd (show false = true from h) (by decide)
  | .cons _ (.rng1 _), e, pos, X, c, k, p, W, h, O, tk, n => by rcases e with _ | ⟨e1, _ | ⟨_, _⟩⟩ <;> exact absurd (show false = true from h) (by decide)
  | .cons _ (.rng2 _ _), e, pos, X, c, k, p, W, h, O, tk, n => by rcases e with _ | ⟨e1, _ | ⟨_, _⟩⟩ <;> exact absurd (show false = true from h) (by decide)
  | .cons _ (.pass), e, pos, X, c, k, p, W, h, O, tk, n => by rcases e with _ | ⟨e1, _ | ⟨_, _⟩⟩ <;> exact absurd (show false = true from h) (by decide)
  | .cons _ (.brk), e, pos, X, c, k, p, W, h, O, tk, n => by rcases e with _ | ⟨e1, _ | ⟨_, _⟩⟩ <;> exact absurd (show false = true from h) (by decide)
  | .cons _ (.cnt), e, pos, X, c, k, p, W, h, O, tk, n => by rcases e with _ | ⟨e1, _ | ⟨_, _⟩⟩ <;> exact absurd (show false = true from h) (by decide)
  | .cons _ (.expr _), e, pos, X, c, k, p, W, h, O, tk, n => by rcases e with _ | ⟨e1, _ | ⟨_, _⟩⟩ <;> exact absurd (show false = true from h) (by decide)
  | .cons _ (.ret _), e, pos, X, c, k, p, W, h, O, tk, n => by rcases e with _ | ⟨e1, _ | ⟨_, _⟩⟩ <;> exact absurd (show false = true from h) (by decide)
  | .cons _ (.ret0), e, pos, X, c, k, p, W, h, O, tk, n => by rcases e with _ | ⟨e1, _ | ⟨_, _⟩⟩ <;> exact absurd (show false = true from h) (by decide)
  | .cons _ (.sif _ _ _), e, pos, X, c, k, p, W, h, O, tk, n => by rcases e with _ | ⟨e1, _ | ⟨_, _⟩⟩ <;> exact absurd (show false = true from h) (by decide)
  | .cons _ (.set _ _), e, pos, X, c, k, p, W, h, O, tk, n => by rcases e with _ | ⟨e1, _ | ⟨_, _⟩⟩ <;> exact absurd (show false = true from h) (by decide)
  | .cons _ (.setLc _ _ _ _ _ _), e, pos, X, c, k, p, W, h, O, tk, n => by rcases e with _ | ⟨e1, _ | ⟨_, _⟩⟩ <;> exact absurd (show false = true from h) (by decide)
  | .cons _ (.asg _ _), e, pos, X, c, k, p, W, h, O, tk, n => by rcases e with _ | ⟨e1, _ | ⟨_, _⟩⟩ <;> exact absurd (show false = true from h) (by decide)
  | .cons _ (.par _ _ _ _), e, pos, X, c, k, p, W, h, O, tk, n => by rcases e with _ | ⟨e1, _ | ⟨_, _⟩⟩ <;> exact absurd (show false = true from h) (by decide)
  | .cons _ (.for_ _ _ _), e, pos, X, c, k, p, W, h, O, tk, n => by rcases e with _ | ⟨e1, _ | ⟨_, _⟩⟩ <;> exact absurd (show false = true from h) (by decide)
  | .cons _ (.whl _ _), e, pos, X, c, k, p, W, h, O, tk, n => by rcases e with _ | ⟨e1, _ | ⟨_, _⟩⟩ <;> exact absurd (show false = true from h) (by decide)
  | .cons _ (.raise _), e, pos, X, c, k, p, W, h, O, tk, n => by rcases e with _ | ⟨e1, _ | ⟨_, _⟩⟩ <;> exact absurd (show false = true from h) (by decide)
  | .cons _ (.tok _ _ _ _), e, pos, X, c, k, p, W, h, O, tk, n => by rcases e with _ | ⟨e1, _ | ⟨_, _⟩⟩ <;> exact absurd (show false = true from h) (by decide)
  | .nil, e, pos, X, c, k, p, W, h, O, tk, n => absurd (show false = true from h) (by decide)
  | .var _, e, pos, X, c, k, p, W, h, O, tk, n => absurd (show false = true from h) (by decide)
  | .cst _, e, pos, X, c, k, p, W, h, O, tk, n => absurd (show false = true from h) (by decide)
  | .glo _ _, e, pos, X, c, k, p, W, h, O, tk, n => absurd (show false = true from h) (by decide)
  | .tup _, e, pos, X, c, k, p, W, h, O, tk, n => absurd (show false = true from h) (by decide)
  | .lst _, e, pos, X, c, k, p, W, h, O, tk, n => absurd (show false = true from h) (by decide)
  | .bin _ _ _, e, pos, X, c, k, p, W, h, O, tk, n => absurd (show false = true from h) (by decide)
  | .neg _, e, pos, X, c, k, p, W, h, O, tk, n => absurd (show false = true from h) (by decide)
  | .cmp _ _ _, e, pos, X, c, k, p, W, h, O, tk, n => absurd (show false = true from h) (by decide)
  | .chn _ _ _ _ _, e, pos, X, c, k, p, W, h, O, tk, n => absurd (show false = true from h) (by decide)
  | .and_ _, e, pos, X, c, k, p, W, h, O, tk, n => absurd (show false = true from h) (by decide)
  | .or_ _, e, pos, X, c, k, p, W, h, O, tk, n => absurd (show false = true from h) (by decide)
  | .not_ _, e, pos, X, c, k, p, W, h, O, tk, n => absurd (show false = true from h) (by decide)
  | .tru _, e, pos, X, c, k, p, W, h, O, tk, n => absurd (show false = true from h) (by decide)
  | .ite _ _ _, e, pos, X, c, k, p, W, h, O, tk, n => absurd (show false = true from h) (by decide)
  | .ix _ _, e, pos, X, c, k, p, W, h, O, tk, n => absurd (show false = true from h) (by decide)
  | .slc _ _ _, e, pos, X, c, k, p, W, h, O, tk, n => absurd (show false = true from h) (by decide)
  | .call _ _ _, e, pos, X, c, k, p, W, h, O, tk, n => absurd (show false = true from h) (by decide)
  | .bi _ _, e, pos, X, c, k, p, W, h, O, tk, n => absurd (show false = true from h) (by decide)
  | .isi _ _, e, pos, X, c, k, p, W, h, O, tk, n => absurd (show false = true from h) (by decide)
  | .comp _ _ _ _ _, e, pos, X, c, k, p, W, h, O, tk, n => absurd (show false = true from h) (by decide)
  | .app _ _, e, pos, X, c, k, p, W, h, O, tk, n => absurd (show false = true from h) (by decide)
  | .popAt _ _, e, pos, X, c, k, p, W, h, O, tk, n => absurd (show false = true from h) (by decide)
  | .pop _, e, pos, X, c, k, p, W, h, O, tk, n => absurd (show false = true from h) (by decide)
  | .split _ _, e, pos, X, c, k, p, W, h, O, tk, n => absurd (show false = true from h) (by decide)
  | .join _ _, e, pos, X, c, k, p, W, h, O, tk, n => absurd (show false = true from h) (by decide)
  | .fstr _, e, pos, X, c, k, p, W, h, O, tk, n => absurd (show false = true from h) (by decide)
  | .fmt _, e, pos, X, c, k, p, W, h, O, tk, n => absurd (show false = true from h) (by decide)
  | .rev _, e, pos, X, c, k, p, W, h, O, tk, n => absurd (show false = true from h) (by decide)
  | .repl _ _ _, e, pos, X, c, k, p, W, h, O, tk, n => absurd (show false = true from h) (by decide)
  | .terr _ _, e, pos, X, c, k, p, W, h, O, tk, n => absurd (show false = true from h) (by decide)
  | .told _ _, e, pos, X, c, k, p, W, h, O, tk, n => absurd (show false = true from h) (by decide)
  | .callV _ _ _, e, pos, X, c, k, p, W, h, O, tk, n => absurd (show false = true from h) (by decide)
  | .seq _, e, pos, X, c, k, p, W, h, O, tk, n => absurd (show false = true from h) (by decide)
  | .rng1 _, e, pos, X, c, k, p, W, h, O, tk, n => absurd (show false = true from h) (by decide)
  | .rng2 _ _, e, pos, X, c, k, p, W, h, O, tk, n => absurd (show false = true from h) (by decide)
  | .pass, e, pos, X, c, k, p, W, h, O, tk, n => absurd (show false = true from h) (by decide)
  | .brk, e, pos, X, c, k, p, W, h, O, tk, n => absurd (show false = true from h) (by decide)
  | .cnt, e, pos, X, c, k, p, W, h, O, tk, n => absurd (show false = true from h) (by decide)
  | .expr _, e, pos, X, c, k, p, W, h, O, tk, n => absurd (show false = true from h) (by decide)
  | .ret _, e, pos, X, c, k, p, W, h, O, tk, n => absurd (show false = true from h) (by decide)
  | .ret0, e, pos, X, c, k, p, W, h, O, tk, n => absurd (show false = true from h) (by decide)
  | .sif _ _ _, e, pos, X, c, k, p, W, h, O, tk, n => absurd (show false = true from h) (by decide)
  | .set _ _, e, pos, X, c, k, p, W, h, O, tk, n => absurd (show false = true from h) (by decide)
  | .setLc _ _ _ _ _ _, e, pos, X, c, k, p, W, h, O, tk, n => absurd (show false = true from h) (by decide)
  | .asg _ _, e, pos, X, c, k, p, W, h, O, tk, n => absurd (show false = true from h) (by decide)
  | .par _ _ _ _, e, pos, X, c, k, p, W, h, O, tk, n => absurd (show false = true from h) (by decide)
  | .for_ _ _ _, e, pos, X, c, k, p, W, h, O, tk, n => absurd (show false = true from h) (by decide)
  | .whl _ _, e, pos, X, c, k, p, W, h, O, tk, n => absurd (show false = true from h) (by decide)
  | .raise _, e, pos, X, c, k, p, W, h, O, tk, n => absurd (show false = true from h) (by decide)
  | .tok _ _ _ _, e, pos, X, c, k, p, W, h, O, tk, n => absurd (show false = true from h) (by decide)
theorem sVa : ∀ (i : I) (e : List Expr) {pos : Pos} {X : Cx} {c : Ct} {k : Nat} {p : P0} {W : WX}, ckV c i e = true → Ok X c k p.T → L2N.Takes X W → Nd (HasX X p.T) (TryX X) k i → DE X p W (.BoolOp .And e pos) (evAndV i)
  | .cons a .nil, [e1], pos, X, c, k, p, W, h, O, tk, n => de_one (sE a e1 h O tk n.1)
  | .cons a (.cons b r), e1 :: e2 :: es, pos, X, c, k, p, W, h, O, tk, n => by
    have h : (ckE c a e1 && ckV c (.cons b r) (e2 :: es)) = true := h
    simp only [Bool.and_eq_true] at h
    exact de_and (dh (sE a e1 h.1 O tk n.1)) (sVa (.cons b r) (e2 :: es) h.2 O tk n.2)
  | .cons a .nil, [], pos, X, c, k, p, W, h, O, tk, n => absurd (show false = true from h) (by decide)
  | .cons a .nil, _ :: _ :: _, pos, X, c, k, p, W, h, O, tk, n => absurd (show false = true from h) (by decide)
  | .cons a (.cons _ _), [], pos, X, c, k, p, W, h, O, tk, n => absurd (show false = true from h) (by decide)
  | .cons a (.cons _ _), [_], pos, X, c, k, p, W, h, O, tk, n => absurd (show false = true from h) (by decide)
  | .cons _ (.var _), e, pos, X, c, k, p, W, h, O, tk, n => by rcases e with _ | ⟨e1, _ | ⟨_, _⟩⟩ <;> exact absurd (show false = true from h) (by decide)
  | .cons _ (.cst _), e, pos, X, c, k, p, W, h, O, tk, n => by rcases e with _ | ⟨e1, _ | ⟨_, _⟩⟩ <;> exact absurd (show false = true from h) (by decide)
  | .cons _ (.glo _ _), e, pos, X, c, k, p, W, h, O, tk, n => by rcases e with _ | ⟨e1, _ | ⟨_, _⟩⟩ <;> exact absurd (show false = true from h) (by decide)
  | .cons _ (.tup _), e, pos, X, c, k, p, W, h, O, tk, n => by rcases e with _ | ⟨e1, _ | ⟨_, _⟩⟩ <;> exact absurd (show false = true from h) (by decide)
  | .cons _ (.lst _), e, pos, X, c, k, p, W, h, O, tk, n => by rcases e with _ | ⟨e1, _ | ⟨_, _⟩⟩ <;> exact absurd (show false = true from h) (by decide)
  | .cons _ (.bin _ _ _), e, pos, X, c, k, p, W, h, O, tk, n => by rcases e with _ | ⟨e1, _ | ⟨_, _⟩⟩ <;> exact absurd (show false = true from h) (by decide)
  | .cons _ (.neg _), e, pos, X, c, k, p, W, h, O, tk, n => by rcases e with _ | ⟨e1, _ | ⟨_, _⟩⟩ <;> exact absurd (show false = true from h) (by decide)
  | .cons _ (.cmp _ _ _), e, pos, X, c, k, p, W, h, O, tk, n => by rcases e with _ | ⟨e1, _ | ⟨_, _⟩⟩ <;> exact absurd (show false = true from h) (by decide)
  | .cons _ (.chn _ _ _ _ _), e, pos, X, c, k, p, W, h, O, tk, n => by rcases e with _ | ⟨e1, _ | ⟨_, _⟩⟩ <;> exact absurd (show false = true from h) (by decide)
  | .cons _ (.and_ _), e, pos, X, c, k, p, W, h, O, tk, n => by rcases e with _ | ⟨e1, _ | ⟨_, _⟩⟩ <;> exact absurd (show false = true from h) (by decide)
  | .cons _ (.or_ _), e, pos, X, c, k, p, W, h, O, tk, n => by rcases e with _ | ⟨e1, _ | ⟨_, _⟩⟩ <;> exact absurd (show false = true from h) (by decide)
  | .cons _ (.not_ _), e, pos, X, c, k, p, W, h, O, tk, n => by rcases e with _ | ⟨e1, _ | ⟨_, _⟩⟩ <;> exact absurd (show false = true from h) (by decide)
  | .cons _ (.tru _), e, pos, X, c, k, p, W, h, O, tk, n => by rcases e with _ | ⟨e1, _ | ⟨_, _⟩⟩ <;> exact absurd (show false = true from h) (by decide)
  | .cons _ (.ite _ _ _), e, pos, X, c, k, p, W, h, O, tk, n => by rcases e with _ | ⟨e1, _ | ⟨_, _⟩⟩ <;> exact absurd (show false = true from h) (by decide)
  | .cons _ (.ix _ _), e, pos, X, c, k, p, W, h, O, tk, n => by rcases e with _ | ⟨e1, _ | ⟨_, _⟩⟩ <;> exact absurd (show false = true from h) (by decide)
  | .cons _ (.slc _ _ _), e, pos, X, c, k, p, W, h, O, tk, n => by rcases e with _ | ⟨e1, _ | ⟨_, _⟩⟩ <;> exact absurd (show false = true from h) (by decide)
  | .cons _ (.call _ _ _), e, pos, X, c, k, p, W, h, O, tk, n => by rcases e with _ | ⟨e1, _ | ⟨_, _⟩⟩ <;> exact absurd (show false = true from h) (by decide)
  | .cons _ (.bi _ _), e, pos, X, c, k, p, W, h, O, tk, n => by rcases e with _ | ⟨e1, _ | ⟨_, _⟩⟩ <;> exact absurd (show false = true from h) (by decide)
  | .cons _ (.isi _ _), e, pos, X, c, k, p, W, h, O, tk, n => by rcases e with _ | ⟨e1, _ | ⟨_, _⟩⟩ <;> exact absurd (show false = true from h) (by decide)
  | .cons _ (.comp _ _ _ _ _), e, pos, X, c, k, p, W, h, O, tk, n => by rcases e with _ | ⟨e1, _ | ⟨_, _⟩⟩ <;> exact absurd (show false = true from h) (by decide)
  | .cons _ (.app _ _), e, pos, X, c, k, p, W, h, O, tk, n => by rcases e with _ | ⟨e1, _ | ⟨_, _⟩⟩ <;> exact absurd (show false = true from h) (by decide)
  | .cons _ (.popAt _ _), e, pos, X, c, k, p, W, h, O, tk, n => by rcases e with _ | ⟨e1, _ | ⟨_, _⟩⟩ <;> exact absurd (show false = true from h) (by decide)
  | .cons _ (.pop _), e, pos, X, c, k, p, W, h, O, tk, n => by rcases e with _ | ⟨e1, _ | ⟨_, _⟩⟩ <;> exact absurd (show false = true from h) (by decide)
  | .cons _ (.split _ _), e, pos, X, c, k, p, W, h, O, tk, n => by rcases e with _ | ⟨e1, _ | ⟨_, _⟩⟩ <;> exact absurd (show false = true from h) (by decide)
  | .cons _ (.join _ _), e, pos, X, c, k, p, W, h, O, tk, n => by rcases e with _ | ⟨e1, _ | ⟨_, _⟩⟩ <;> exact absurd (show false = true from h) (by decide)
  | .cons _ (.fstr _), e, pos, X, c, k, p, W, h, O, tk, n => by rcases e with _ | ⟨e1, _ | ⟨_, _⟩⟩ <;> exact absurd (show false = true from h) (by decide)
  | .cons _ (.fmt _), e, pos, X, c, k, p, W, h, O, tk, n => by rcases e with _ | ⟨e1, _ | ⟨_, _⟩⟩ <;> exact absurd (show false = true from h) (by decide)
  | .cons _ (.rev _), e, pos, X, c, k, p, W, h, O, tk, n => by rcases e with _ | ⟨e1, _ | ⟨_, _⟩⟩ <;> exact absurd (show false = true from h) (by decide)
  | .cons _ (.repl _ _ _), e, pos, X, c, k, p, W, h, O, tk, n => by rcases e with _ | ⟨e1, _ | ⟨_, _⟩⟩ <;> exact absurd (show false = true from h) (by decide)
  | .cons _ (.terr _ _), e, pos, X, c, k, p, W, h, O, tk, n => by rcases e with _ | ⟨e1, _ | ⟨_, _⟩⟩ <;> exact absurd (show false = true from h) (by decide)
  | .cons _ (.told _ _), e, pos, X, c, k, p, W, h, O, tk, n => by rcases e with _ | ⟨e1, _ | ⟨_, _⟩⟩ <;> exact absurd (show false = true from h) (by decide)
  | .cons _ (.callV _ _ _), e, pos, X, c, k, p, W, h, O, tk, n => by rcases e with _ | ⟨e1, _ | ⟨_, _⟩⟩ <;> exact absurd (show false = true from h) (by decide)
  | .cons _ (.seq _), e, pos, X, c, k, p, W, h, O, tk, n => by rcases e with _ | ⟨e1, _ | ⟨_, _⟩⟩ <;> exact absurd (show false = true from h) (by decide)
  | .cons _ (.rng1 _), e, pos, X, c, k, p, W, h, O, tk, n => by rcases e with _ | ⟨e1, _ | ⟨_, _⟩⟩ <;> exact absurd (show false = true from h) (by decide)
  | .cons _ (.rng2 _ _), e, pos, X, c, k, p, W, h, O, tk, n => by rcases e with _ | ⟨e1, _ | ⟨_, _⟩⟩ <;> exact absurd (show false = true from h) (by decide)
  | .cons _ (.pass), e, pos, X, c, k, p, W, h, O, tk, n => by rcases e with _ | ⟨e1, _ | ⟨_, _⟩⟩ <;> exact absurd (show false = true from h) (by decide)
  | .cons _ (.brk), e, pos, X, c, k, p, W, h, O, tk, n => by rcases e with _ | ⟨e1, _ | ⟨_, _⟩⟩ <;> exact absurd (show false = true from h) (by decide)
  | .cons _ (.cnt), e, pos, X, c, k, p, W, h, O, tk, n => by rcases e with _ | ⟨e1, _ | ⟨_, _⟩⟩ <;> exact absurd (show false = true from h) (by decide)
  | .cons _ (.expr _), e, pos, X, c, k, p, W, h, O, tk, n => by rcases e with _ | ⟨e1, _ | ⟨_, _⟩⟩ <;> exact absurd (show false = true from h) (by decide)
  | .cons _ (.ret _), e, pos, X, c, k, p, W, h, O, tk, n => by rcases e with _ | ⟨e1, _ | ⟨_, _⟩⟩ <;> exact absurd (show false = true from h) (by decide)
  | .cons _ (.ret0), e, pos, X, c, k, p, W, h, O, tk, n => by rcases e with _ | ⟨e1, _ | ⟨_, _⟩⟩ <;> exact absurd (show false = true from h) (by decide)
  | .cons _ (.sif _ _ _), e, pos, X, c, k, p, W, h, O, tk, n => by rcases e with _ | ⟨e1, _ | ⟨_, _⟩⟩ <;> exact absurd (show false = true from h) (by decide)
  | .cons _ (.set _ _), e, pos, X, c, k, p, W, h, O, tk, n => by rcases e with _ | ⟨e1, _ | ⟨_, _⟩⟩ <;> exact absurd (show false = true from h) (by decide)
  | .cons _ (.setLc _ _ _ _ _ _), e, pos, X, c, k, p, W, h, O, tk, n => by rcases e with _ | ⟨e1, _ | ⟨_, _⟩⟩ <;> exact absurd (show false = true from h) (by decide)
  | .cons _ (.asg _ _), e, pos, X, c, k, p, W, h, O, tk, n => by rcases e with _ | ⟨e1, _ | ⟨_, _⟩⟩ <;> exact absurd (show false = true from h) (by decide)
  | .cons _ (.par _ _ _ _), e, pos, X, c, k, p, W, h, O, tk, n => by rcases e with _ | ⟨e1, _ | ⟨_, _⟩⟩ <;> exact absurd (show false = true from h) (by decide)
  | .cons _ (.for_ _ _ _), e, pos, X, c, k, p, W, h, O, tk, n => by rcases e with _ | ⟨e1, _ | ⟨_, _⟩⟩ <;> exact absurd (show false = true from h) (by decide)
  | .cons _ (.whl _ _), e, pos, X, c, k, p, W, h, O, tk, n => by rcases e with _ | ⟨e1, _ | ⟨_, _⟩⟩ <;> exact absurd (show false = true from h) (by decide)
  | .cons _ (.raise _), e, pos, X, c, k, p, W, h, O, tk, n => by rcases e with _ | ⟨e1, _ | ⟨_, _⟩⟩ <;> exact absurd (show false = true from h) (by decide)
  | .cons _ (.tok _ _ _ _), e, pos, X, c, k, p, W, h, O, tk, n => by rcases e with _ | ⟨e1, _ | ⟨_, _⟩⟩ <;> exact absurd (show false = true from h) (by decide)
  | .nil, e, pos, X, c, k, p, W, h, O, tk, n => absurd (show false = true from h) (by decide)
  | .var _, e, pos, X, c, k, p, W, h, O, tk, n => absurd (show false = true from h) (by decide)
  | .cst _, e, pos, X, c, k, p, W, h, O, tk, n => absurd (show false = true from h) (by decide)
  | .glo _ _, e, pos, X, c, k, p, W, h, O, tk, n => absurd (show false = true from h) (by decide)
  | .tup _, e, pos, X, c, k, p, W, h, O, tk, n => absurd (show false = true from h) (by decide)
  | .lst _, e, pos, X, c, k, p, W, h, O, tk, n => absurd (show false = true from h) (by decide)
  | .bin _ _ _, e, pos, X, c, k, p, W, h, O, tk, n => absurd (show false = true from h) (by decide)
  | .neg _, e, pos, X, c, k, p, W, h, O, tk, n => absurd (show false = true from h) (by decide)
  | .cmp _ _ _, e, pos, X, c, k, p, W, h, O, tk, n => absurd (show false = true from h) (by decide)
  | .chn _ _ _ _ _, e, pos, X, c, k, p, W, h, O, tk, n => absurd (show false = true from h) (by decide)
  | .and_ _, e, pos, X, c, k, p, W, h, O, tk, n => absurd (show false = true from h) (by decide)
  | .or_ _, e, pos, X, c, k, p, W, h, O, tk, n => absurd (show false = true from h) (by decide)
  | .not_ _, e, pos, X, c, k, p, W, h, O, tk, n => absurd (show false = true from h) (by decide)
  | .tru _, e, pos, X, c, k, p, W, h, O, tk, n => absurd (show false = true from h) (by decide)
  | .ite _ _ _, e, pos, X, c, k, p, W, h, O, tk, n => absurd (show false = true from h) (by decide)
  | .ix _ _, e, pos, X, c, k, p, W, h, O, tk, n => absurd (show false = true from h) (by decide)
  | .slc _ _ _, e, pos, X, c, k, p, W, h, O, tk, n => absurd (show false = true from h) (by decide)
  | .call _ _ _, e, pos, X, c, k, p, W, h, O, tk, n => absurd (show false = true from h) (by decide)
  | .bi _ _, e, pos, X, c, k, p, W, h, O, tk, n => absurd (show false = true from h) (by decide)
  | .isi _ _, e, pos, X, c, k, p, W, h, O, tk, n => absurd (show false = true from h) (by decide)
  | .comp _ _ _ _ _, e, pos, X, c, k, p, W, h, O, tk, n => absurd (show false = true from h) (by decide)
  | .app _ _, e, pos, X, c, k, p, W, h, O, tk, n => absurd (show false = true from h) (by decide)
  | .popAt _ _, e, pos, X, c, k, p, W, h, O, tk, n => absurd (show false = true from h) (by decide)
  | .pop _, e, pos, X, c, k, p, W, h, O, tk, n => absurd (show false = true from h) (by decide)
  | .split _ _, e, pos, X, c, k, p, W, h, O, tk, n => absurd (show false = true from h) (by decide)
  | .join _ _, e, pos, X, c, k, p, W, h, O, tk, n => absurd (show false = true from h) (by decide)
  | .fstr _, e, pos, X, c, k, p, W, h, O, tk, n => absurd (show false = true from h) (by decide)
  | .fmt _, e, pos, X, c, k, p, W, h, O, tk, n => absurd (show false = true from h) (by decide)
  | .rev _, e, pos, X, c, k, p, W, h, O, tk, n => absurd (show false = true from h) (by decide)
  | .repl _ _ _, e, pos, X, c, k, p, W, h, O, tk, n => absurd (show false = true from h) (by decide)
  | .terr _ _, e, pos, X, c, k, p, W, h, O, tk, n => absurd (show false = true from h) (by decide)
  | .told _ _, e, pos, X, c, k, p, W, h, O, tk, n => absurd (show false = true from h) (by decide)
  | .callV _ _ _, e, pos, X, c, k, p, W, h, O, tk, n => absurd (show false = true from h) (by decide)
  | .seq _, e, pos, X, c, k, p, W, h, O, tk, n => absurd (show false = true from h) (by decide)
  | .rng1 _, e, pos, X, c, k, p, W, h, O, tk, n => absurd (show false = true from h) (by decide)
  | .rng2 _ _, e, pos, X, c, k, p, W, h, O, tk, n => absurd (show false = true from h) (by decide)
  | .pass, e, pos, X, c, k, p, W, h, O, tk, n => absurd (show false = true from h) (by decide)
  | .brk, e, pos, X, c, k, p, W, h, O, tk, n => absurd (show false = true from h) (by decide)
  | .cnt, e, pos, X, c, k, p, W, h, O, tk, n => absurd (show false = true from h) (by decide)
  | .expr _, e, pos, X, c, k, p, W, h, O, tk, n => absurd (show false = true from h) (by decide)
  | .ret _, e, pos, X, c, k, p, W, h, O, tk, n => absurd (show false = true from h) (by decide)
  | .ret0, e, pos, X, c, k, p, W, h, O, tk, n => absurd (show false = true from h) (by decide)
  | .sif _ _ _, e, pos, X, c, k, p, W, h, O, tk, n => absurd (show false = true from h) (by decide)
  | .set _ _, e, pos, X, c, k, p, W, h, O, tk, n => absurd (show false = true from h) (by decide)
  | .setLc _ _ _ _ _ _, e, pos, X, c, k, p, W, h, O, tk, n => absurd (show false = true from h) (by decide)
  | .asg _ _, e, pos, X, c, k, p, W, h, O, tk, n => absurd (show false = true from h) (by decide)
  | .par _ _ _ _, e, pos, X, c, k, p, W, h, O, tk, n => absurd (show false = true from h) (by decide)
  | .for_ _ _ _, e, pos, X, c, k, p, W, h, O, tk, n => absurd (show false = true from h) (by decide)
  | .whl _ _, e, pos, X, c, k, p, W, h, O, tk, n => absurd (show false = true from h) (by decide)
  | .raise _, e, pos, X, c, k, p, W, h, O, tk, n => absurd (show false = true from h) (by decide)
  | .tok _ _ _ _, e, pos, X, c, k, p, W, h, O, tk, n => absurd (show false = true from h) (by decide)
theorem sVo : ∀ (i : I) (e : List Expr) {pos : Pos} {X : Cx} {c : Ct} {k : Nat} {p : P0} {W : WX}, ckV c i e = true → Ok X c k p.T → L2N.Takes X W → Nd (HasX X p.T) (TryX X) k i → DE X p W (.BoolOp .Or e pos) (evOrV i)
  | .cons a .nil, [e1], pos, X, c, k, p, W, h, O, tk, n => de_one (sE a e1 h O tk n.1)
  | .cons a (.cons b r), e1 :: e2 :: es, pos, X, c, k, p, W, h, O, tk, n => by
    have h : (ckE c a e1 && ckV c (.cons b r) (e2 :: es)) = true := h
    simp only [Bool.and_eq_true] at h
    exact de_or (dh (sE a e1 h.1 O tk n.1)) (sVo (.cons b r) (e2 :: es) h.2 O tk n.2)
  | .cons a .nil, [], pos, X, c, k, p, W, h, O, tk, n => absurd (show false = true from h) (by decide)
  | .cons a .nil, _ :: _ :: _, pos, X, c, k, p, W, h, O, tk, n => absurd (show false = true from h) (by decide)
  | .cons a (.cons _ _), [], pos, X, c, k, p, W, h, O, tk, n => absurd (show false = true from h) (by decide)
  | .cons a (.cons _ _), [_], pos, X, c, k, p, W, h, O, tk, n => absurd (show false = true from h) (by decide)
  | .cons _ (.var _), e, pos, X, c, k, p, W, h, O, tk, n => by rcases e with _ | ⟨e1, _ | ⟨_, _⟩⟩ <;> exact absurd (show false = true from h) (by decide)
  | .cons _ (.cst _), e, pos, X, c, k, p, W, h, O, tk, n => by rcases e with _ | ⟨e1, _ | ⟨_, _⟩⟩ <;> exact absurd (show false = true from h) (by decide)
  | .cons _ (.glo _ _), e, pos, X, c, k, p, W, h, O, tk, n => by rcases e with _ | ⟨e1, _ | ⟨_, _⟩⟩ <;> exact absurd (show false = true from h) (by decide)
  | .cons _ (.tup _), e, pos, X, c, k, p, W, h, O, tk, n => by rcases e with _ | ⟨e1, _ | ⟨_, _⟩⟩ <;> exact absurd (show false = true from h) (by decide)
  | .cons _ (.lst _), e, pos, X, c, k, p, W, h, O, tk, n => by rcases e with _ | ⟨e1, _ | ⟨_, _⟩⟩ <;> exact absurd (show false = true from h) (by decide)
  | .cons _ (.bin _ _ _), e, pos, X, c, k, p, W, h, O, tk, n => by rcases e with _ | ⟨e1, _ | ⟨_, _⟩⟩ <;> exact absurd (show false = true from h) (by decide)
  | .cons _ (.neg _), e, pos, X, c, k, p, W, h, O, tk, n => by rcases e with _ | ⟨e1, _ | ⟨_, _⟩⟩ <;> exact absurd (show false = true from h) (by decide)
  | .cons _ (.cmp _ _ _), e, pos, X, c, k, p, W, h, O, tk, n => by rcases e with _ | ⟨e1, _ | ⟨_, _⟩⟩ <;> exact absurd (show false = true from h) (by decide)
  | .cons _ (.chn _ _ _ _ _), e, pos, X, c, k, p, W, h, O, tk, n => by rcases e with _ | ⟨e1, _ | ⟨_, _⟩⟩ <;> exact absurd (show false = true from h) (by decide)
  | .cons _ (.and_ _), e, pos, X, c, k, p, W, h, O, tk, n => by rcases e with _ | ⟨e1, _ | ⟨_, _⟩⟩ <;> exact absurd (show false = true from h) (by decide)
  | .cons _ (.or_ _), e, pos, X, c, k, p, W, h, O, tk, n => by rcases e with _ | ⟨e1, _ | ⟨_, _⟩⟩ <;> exact absurd (show false = true from h) (by decide)
  | .cons _ (.not_ _), e, pos, X, c, k, p, W, h, O, tk, n => by rcases e with _ | ⟨e1, _ | ⟨_, _⟩⟩ <;> exact absurd (show false = true from h) (by decide)
  | .cons _ (.tru _), e, pos, X, c, k, p, W, h, O, tk, n => by rcases e with _ | ⟨e1, _ | ⟨_, _⟩⟩ <;> exact absurd (show false = true from h) (by decide)
  | .cons _ (.ite _ _ _), e, pos, X, c, k, p, W, h, O, tk, n => by rcases e with _ | ⟨e1, _ | ⟨_, _⟩⟩ <;> exact absurd (show false = true from h) (by decide)
  | .cons _ (.ix _ _), e, pos, X, c, k, p, W, h, O, tk, n => by rcases e with _ | ⟨e1, _ | ⟨_, _⟩⟩ <;> exact absurd (show false = true from h) (by decide)
  | .cons _ (.slc _ _ _), e, pos, X, c, k, p, W, h, O, tk, n => by rcases e with _ | ⟨e1, _ | ⟨_, _⟩⟩ <;> exact absurd (show false = true from h) (by decide)
  | .cons _ (.call _ _ _), e, pos, X, c, k, p, W, h, O, tk, n => by rcases e with _ | ⟨e1, _ | ⟨_, _⟩⟩ <;> exact absurd (show false = true from h) (by decide)
  | .cons _ (.bi _ _), e, pos, X, c, k, p, W, h, O, tk, n => by rcases e with _ | ⟨e1, _ | ⟨_, _⟩⟩ <;> exact absurd (show false = true from h) (by decide)
  | .cons _ (.isi _ _), e, pos, X, c, k, p, W, h, O, tk, n => by rcases e with _ | ⟨e1, _ | ⟨_, _⟩⟩ <;> exact absurd (show false = true from h) (by decide)
  | .cons _ (.comp _ _ _ _ _), e, pos, X, c, k, p, W, h, O, tk, n => by rcases e with _ | ⟨e1, _ | ⟨_, _⟩⟩ <;> exact absurd (show false = true from h) (by decide)
  | .cons _ (.app _ _), e, pos, X, c, k, p, W, h, O, tk, n => by rcases e with _ | ⟨e1, _ | ⟨_, _⟩⟩ <;> exact absurd (show false = true from h) (by decide)
  | .cons _ (.popAt _ _), e, pos, X, c, k, p, W, h, O, tk, n => by rcases e with _ | ⟨e1, _ | ⟨_, _⟩⟩ <;> exact absurd (show false = true from h) (by decide)
  | .cons _ (.pop _), e, pos, X, c, k, p, W, h, O, tk, n => by rcases e with _ | ⟨e1, _ | ⟨_, _⟩⟩ <;> exact absurd (show false = true from h) (by decide)
  | .cons _ (.split _ _), e, pos, X, c, k, p, W, h, O, tk, n => by rcases e with _ | ⟨e1, _ | ⟨_, _⟩⟩ <;> exact absurd (show false = true from h) (by decide)
  | .cons _ (.join _ _), e, pos, X, c, k, p, W, h, O, tk, n => by rcases e with _ | ⟨e1, _ | ⟨_, _⟩⟩ <;> exact absurd (show false = true from h) (by decide)
  | .cons _ (.fstr _), e, pos, X, c, k, p, W, h, O, tk, n => by rcases e with _ | ⟨e1, _ | ⟨_, _⟩⟩ <;> exact absurd (show false = true from h) (by decide)
  | .cons _ (.fmt _), e, pos, X, c, k, p, W, h, O, tk, n => by rcases e with _ | ⟨e1, _ | ⟨_, _⟩⟩ <;> exact absurd (show false = true from h) (by decide)
  | .cons _ (.rev _), e, pos, X, c, k, p, W, h, O, tk, n => by rcases e with _ | ⟨e1, _ | ⟨_, _⟩⟩ <;> exact absurd (show false = true from h) (by decide)
  | .cons _ (.repl _ _ _), e, pos, X, c, k, p, W, h, O, tk, n => by rcases e with _ | ⟨e1, _ | ⟨_, _⟩⟩ <;> exact absurd (show false = true from h) (by decide)
  | .cons _ (.terr _ _), e, pos, X, c, k, p, W, h, O, tk, n => by rcases e with _ | ⟨e1, _ | ⟨_, _⟩⟩ <;> exact absurd (show false = true from h) (by decide)
  | .cons _ (.told _ _), e, pos, X, c, k, p, W, h, O, tk, n => by rcases e with _ | ⟨e1, _ | ⟨_, _⟩⟩ <;> exact absurd (show false = true from h) (by decide)
  | .cons _ (.callV _ _ _), e, pos, X, c, k, p, W, h, O, tk, n => by rcases e with _ | ⟨e1, _ | ⟨_, _⟩⟩ <;> exact absurd (show false = true from h) (by decide)
  | .cons _ (.seq _), e, pos, X, c, k, p, W, h, O, tk, n => by rcases e with _ | ⟨e1, _ | ⟨_, _⟩⟩ <;> exact absurd (show false = true from h) (by decide)
  | .cons _ (.rng1 _), e, pos, X, c, k, p, W, h, O, tk, n => by rcases e with _ | ⟨e1, _ | ⟨_, _⟩⟩ <;> exact absurd (show false = true from h) (by decide)
  | .cons _ (.rng2 _ _), e, pos, X, c, k, p, W, h, O, tk, n => by rcases e with _ | ⟨e1, _ | ⟨_, _⟩⟩ <;> exact absurd (show false = true from h) (by decide)
  | .cons _ (.pass), e, pos, X, c, k, p, W, h, O, tk, n => by rcases e with _ | ⟨e1, _ | ⟨_, _⟩⟩ <;> exact absurd (show false = true from h) (by decide)
  | .cons _ (.brk), e, pos, X, c, k, p, W, h, O, tk, n => by rcases e with _ | ⟨e1, _ | ⟨_, _⟩⟩ <;> exact absurd (show false = true from h) (by decide)
  | .cons _ (.cnt), e, pos, X, c, k, p, W, h, O, tk, n => by rcases e with _ | ⟨e1, _ | ⟨_, _⟩⟩ <;> exact absurd (show false = true from h) (by decide)
  | .cons _ (.expr _), e, pos, X, c, k, p, W, h, O, tk, n => by rcases e with _ | ⟨e1, _ | ⟨_, _⟩⟩ <;> exact absurd (show false = true from h) (by decide)
  | .cons _ (.ret _), e, pos, X, c, k, p, W, h, O, tk, n => by rcases e with _ | ⟨e1, _ | ⟨_, _⟩⟩ <;> exact absurd (show false = true from h) (by decide)
  | .cons _ (.ret0), e, pos, X, c, k, p, W, h, O, tk, n => by rcases e with _ | ⟨e1, _ | ⟨_, _⟩⟩ <;> exact absurd (show false = true from h) (by decide)
  | .cons _ (.sif _ _ _), e, pos, X, c, k, p, W, h, O, tk, n => by rcases e with _ | ⟨e1, _ | ⟨_, _⟩⟩ <;> exact absurd (show false = true from h) (by decide)
  | .cons _ (.set _ _), e, pos, X, c, k, p, W, h, O, tk, n => by rcases e with _ | ⟨e1, _ | ⟨_, _⟩⟩ <;> exact absurd (show false = true from h) (by decide)
  | .cons _ (.setLc _ _ _ _ _ _), e, pos, X, c, k, p, W, h, O, tk, n => by rcases e with _ | ⟨e1, _ | ⟨_, _⟩⟩ <;> exact absurd (show false = true from h) (by decide)
  | .cons _ (.asg _ _), e, pos, X, c, k, p, W, h, O, tk, n => by rcases e with _ | ⟨e1, _ | ⟨_, _⟩⟩ <;> exact absurd (show false = true from h) (by decide)
  | .cons _ (.par _ _ _ _), e, pos, X, c, k, p, W, h, O, tk, n => by rcases e with _ | ⟨e1, _ | ⟨_, _⟩⟩ <;> exact absurd (show false = true from h) (by decide)
  | .cons _ (.for_ _ _ _), e, pos, X, c, k, p, W, h, O, tk, n => by rcases e with _ | ⟨e1, _ | ⟨_, _⟩⟩ <;> exact absurd (show false = true from h) (by decide)
  | .cons _ (.whl _ _), e, pos, X, c, k, p, W, h, O, tk, n => by rcases e with _ | ⟨e1, _ | ⟨_, _⟩⟩ <;> exact absurd (show false = true from h) (by decide)
  | .cons _ (.raise _), e, pos, X, c, k, p, W, h, O, tk, n => by rcases e with _ | ⟨e1, _ | ⟨_, _⟩⟩ <;> exact absurd (show false = true from h) (by decide)
  | .cons _ (.tok _ _ _ _), e, pos, X, c, k, p, W, h, O, tk, n => by rcases e with _ | ⟨e1, _ | ⟨_, _⟩⟩ <;> exact absurd (show false = true from h) (by decide)
  | .nil, e, pos, X, c, k, p, W, h, O, tk, n => absurd (show false = true from h) (by decide)
  | .var _, e, pos, X, c, k, p, W, h, O, tk, n => absurd (show false = true from h) (by decide)
  | .cst _, e, pos, X, c, k, p, W, h, O, tk, n => absurd (show false = true from h) (by decide)
  | .glo _ _, e, pos, X, c, k, p, W, h, O, tk, n => absurd (show false = true from h) (by decide)
  | .tup _, e, pos, X, c, k, p, W, h, O, tk, n => absurd (show false = true from h) (by decide)
  | .lst _, e, pos, X, c, k, p, W, h, O, tk, n => absurd (show false = true from h) (by decide)
  | .bin _ _ _, e, pos, X, c, k, p, W, h, O, tk, n => absurd (show false = true from h) (by decide)
  | .neg _, e, pos, X, c, k, p, W, h, O, tk, n => absurd (show false = true from h) (by decide)
  | .cmp _ _ _, e, pos, X, c, k, p, W, h, O, tk, n => absurd (show false = true from h) (by decide)
  | .chn _ _ _ _ _, e, pos, X, c, k, p, W, h, O, tk, n => absurd (show false = true from h) (by decide)
  | .and_ _, e, pos, X, c, k, p, W, h, O, tk, n => absurd (show false = true from h) (by decide)
  | .or_ _, e, pos, X, c, k, p, W, h, O, tk, n => absurd (show false = true from h) (by decide)
  | .not_ _, e, pos, X, c, k, p, W, h, O, tk, n => absurd (show false = true from h) (by decide)
  | .tru _, e, pos, X, c, k, p, W, h, O, tk, n => absurd (show false = true from h) (by decide)
  | .ite _ _ _, e, pos, X, c, k, p, W, h, O, tk, n => absurd (show false = true from h) (by decide)
  | .ix _ _, e, pos, X, c, k, p, W, h, O, tk, n => absurd (show false = true from h) (by decide)
  | .slc _ _ _, e, pos, X, c, k, p, W, h, O, tk, n => absurd (show false = true from h) (by decide)
  | .call _ _ _, e, pos, X, c, k, p, W, h, O, tk, n => absurd (show false = true from h) (by decide)
  | .bi _ _, e, pos, X, c, k, p, W, h, O, tk, n => absurd (show false = true from h) (by decide)
  | .isi _ _, e, pos, X, c, k, p, W, h, O, tk, n => absurd (show false = true from h) (by decide)
  | .comp _ _ _ _ _, e, pos, X, c, k, p, W, h, O, tk, n => absurd (show false = true from h) (by decide)
  | .app _ _, e, pos, X, c, k, p, W, h, O, tk, n => absurd (show false = true from h) (by decide)
  | .popAt _ _, e, pos, X, c, k, p, W, h, O, tk, n => absurd (show false = true from h) (by decide)
  | .pop _, e, pos, X, c, k, p, W, h, O, tk, n => absurd (show false = true from h) (by decide)
  | .split _ _, e, pos, X, c, k, p, W, h, O, tk, n => absurd (show false = true from h) (by decide)
  | .join _ _, e, pos, X, c, k, p, W, h, O, tk, n => absurd (show false = true from h) (by decide)
  | .fstr _, e, pos, X, c, k, p, W, h, O, tk, n => absurd (show false = true from h) (by decide)
  | .fmt _, e, pos, X, c, k, p, W, h, O, tk, n => absurd (show false = true from h) (by decide)
  | .rev _, e, pos, X, c, k, p, W, h, O, tk, n => absurd (show false = true from h) (by decide)
  | .repl _ _ _, e, pos, X, c, k, p, W, h, O, tk, n => absurd (show false = true from h) (by decide)
  | .terr _ _, e, pos, X, c, k, p, W, h, O, tk, n => absurd (show false = true from h) (by decide)
  | .told _ _, e, pos, X, c, k, p, W, h, O, tk, n => absurd (show false = true from h) (by decide)
  | .callV _ _ _, e, pos, X, c, k, p, W, h, O, tk, n => absurd (show false = true from h) (by decide)
  | .seq _, e, pos, X, c, k, p, W, h, O, tk, n => absurd (show false = true from h) (by decide)
  | .rng1 _, e, pos, X, c, k, p, W, h, O, tk, n => absurd (show false = true from h) (by decide)
  | .rng2 _ _, e, pos, X, c, k, p, W, h, O, tk, n => absurd (show false = true from h) (by decide)
  | .pass, e, pos, X, c, k, p, W, h, O, tk, n => absurd (show false = true from h) (by decide)
  | .brk, e, pos, X, c, k, p, W, h, O, tk, n => absurd (show false = true from h) (by decide)
  | .cnt, e, pos, X, c, k, p, W, h, O, tk, n => absurd (show false = true from h) (by decide)
  | .expr _, e, pos, X, c, k, p, W, h, O, tk, n => absurd (show false = true from h) (by decide)
  | .ret _, e, pos, X, c, k, p, W, h, O, tk, n => absurd (show false = true from h) (by decide)
  | .ret0, e, pos, X, c, k, p, W, h, O, tk, n => absurd (show false = true from h) (by decide)
  | .sif _ _ _, e, pos, X, c, k, p, W, h, O, tk, n => absurd (show false = true from h) (by decide)
  | .set _ _, e, pos, X, c, k, p, W, h, O, tk, n => absurd (show false = true from h) (by decide)
  | .setLc _ _ _ _ _ _, e, pos, X, c, k, p, W, h, O, tk, n => absurd (show false = true from h) (by decide)
  | .asg _ _, e, pos, X, c, k, p, W, h, O, tk, n => absurd (show false = true from h) (by decide)
  | .par _ _ _ _, e, pos, X, c, k, p, W, h, O, tk, n => absurd (show false = true from h) (by decide)
  | .for_ _ _ _, e, pos, X, c, k, p, W, h, O, tk, n => absurd (show false = true from h) (by decide)
  | .whl _ _, e, pos, X, c, k, p, W, h, O, tk, n => absurd (show false = true from h) (by decide)
  | .raise _, e, pos, X, c, k, p, W, h, O, tk, n => absurd (show false = true from h) (by decide)
  | .tok _ _ _ _, e, pos, X, c, k, p, W, h, O, tk, n => absurd (show false = true from h) (by decide)
theorem sO : ∀ (i : I) (e : Option Expr) {X : Cx} {c : Ct} {k : Nat} {p : P0} {W : WX}, ckO c i e = true → Ok X c k p.T → L2N.Takes X W → Nd (HasX X p.T) (TryX X) k i → DO X p W e (evO i)
  | .nil, none, X, c, k, p, W, h, O, tk, n => do_none
  | .cons a .nil, some e, X, c, k, p, W, h, O, tk, n => do_some (dh (sE a e h O tk n.1))
  | .nil, some _, X, c, k, p, W, h, O, tk, n => absurd (show false = true from h) (by decide)
  | .cons a .nil, none, X, c, k, p, W, h, O, tk, n => absurd (show false = true from h) (by decide)
  | .cons _ (.cons _ _), e, X, c, k, p, W, h, O, tk, n => by cases e <;> exact absurd (show false = true from h) (by decide)
  | .cons _ (.var _), e, X, c, k, p, W, h, O, tk, n => by cases e <;> exact absurd (show false = true from h) (by decide)
  | .cons _ (.cst _), e, X, c, k, p, W, h, O, tk, n => by cases e <;> exact absurd (show false = true from h) (by decide)
  | .cons _ (.glo _ _), e, X, c, k, p, W, h, O, tk, n => by cases e <;> exact absurd (show false = true from h) (by decide)
  | .cons _ (.tup _), e, X, c, k, p, W, h, O, tk, n => by cases e <;> exact absurd (show false = true from h) (by decide)
  | .cons _ (.lst _), e, X, c, k, p, W, h, O, tk, n => by cases e <;> exact absurd (show false = true from h) (by decide)
  | .cons _ (.bin _ _ _), e, X, c, k, p, W, h, O, tk, n => by cases e <;> exact absurd (show false = true from h) (by decide)
  | .cons _ (.neg _), e, X, c, k, p, W, h, O, tk, n => by cases e <;> exact absurd (show false = true from h) (by decide)
  | .cons _ (.cmp _ _ _), e, X, c, k, p, W, h, O, tk, n => by cases e <;> exact absurd (show false = true from h) (by decide)
  | .cons _ (.chn _ _ _ _ _), e, X, c, k, p, W, h, O, tk, n => by cases e <;> exact absurd (show false = true from h) (by decide)
  | .cons _ (.and_ _), e, X, c, k, p, W, h, O, tk, n => by cases e <;> exact absurd (show false = true from h) (by decide)
  | .cons _ (.or_ _), e, X, c, k, p, W, h, O, tk, n => by cases e <;> exact absurd (show false = true from h) (by decide)
  | .cons _ (.not_ _), e, X, c, k, p, W, h, O, tk, n => by cases e <;> exact absurd (show false = true from h) (by decide)
  | .cons _ (.tru _), e, X, c, k, p, W, h, O, tk, n => by cases e <;> exact absurd (show false = true from h) (by decide)
  | .cons _ (.ite _ _ _), e, X, c, k, p, W, h, O, tk, n => by cases e <;> exact absurd (show false = true from h) (by decide)
  | .cons _ (.ix _ _), e, X, c, k, p, W, h, O, tk, n => by cases e <;> exact absurd (show false = true from h) (by decide)
  | .cons _ (.slc _ _ _), e, X, c, k, p, W, h, O, tk, n => by cases e <;> exact absurd (show false = true from h) (by decide)
  | .cons _ (.call _ _ _), e, X, c, k, p, W, h, O, tk, n => by cases e <;> exact absurd (show false = true from h) (by decide)
  | .cons _ (.bi _ _), e, X, c, k, p, W, h, O, tk, n => by cases e <;> exact absurd (show false = true from h) (by decide)
  | .cons _ (.isi _ _), e, X, c, k, p, W, h, O, tk, n => by cases e <;> exact absurd (show false = true from h) (by decide)
  | .cons _ (.comp _ _ _ _ _), e, X, c, k, p, W, h, O, tk, n => by cases e <;> exact absurd (show false = true from h) (by decide)
  | .cons _ (.app _ _), e, X, c, k, p, W, h, O, tk, n => by cases e <;> exact absurd (show false = true from h) (by decide)
  | .cons _ (.popAt _ _), e, X, c, k, p, W, h, O, tk, n => by cases e <;> exact absurd (show false = true from h) (by decide)
  | .cons _ (.pop _), e, X, c, k, p, W, h, O, tk, n => by cases e <;> exact absurd (show false = true from h) (by decide)
  | .cons _ (.split _ _), e, X, c, k, p, W, h, O, tk, n => by cases e <;> exact absurd (show false = true from h) (by decide)
  | .cons _ (.join _ _), e, X, c, k, p, W, h, O, tk, n => by cases e <;> exact absurd (show false = true from h) (by decide)
  | .cons _ (.fstr _), e, X, c, k, p, W, h, O, tk, n => by cases e <;> exact absurd (show false = true from h) (by decide)
  | .cons _ (.fmt _), e, X, c, k, p, W, h, O, tk, n => by cases e <;> exact absurd (show false = true from h) (by decide)
  | .cons _ (.rev _), e, X, c, k, p, W, h, O, tk, n => by cases e <;> exact absurd (show false = true from h) (by decide)
  | .cons _ (.repl _ _ _), e, X, c, k, p, W, h, O, tk, n => by cases e <;> exact absurd (show false = true from h) (by decide)
  | .cons _ (.terr _ _), e, X, c, k, p, W, h, O, tk, n => by cases e <;> exact absurd (show false = true from h) (by decide)
  | .cons _ (.told _ _), e, X, c, k, p, W, h, O, tk, n => by cases e <;> exact absurd (show false = true from h) (by decide)
  | .cons _ (.callV _ _ _), e, X, c, k, p, W, h, O, tk, n => by cases e <;> exact absurd (show false = true from h) (by decide)
  | .cons _ (.seq _), e, X, c, k, p, W, h, O, tk, n => by cases e <;> exact absurd (show false = true from h) (by decide)
  | .cons _ (.rng1 _), e, X, c, k, p, W, h, O, tk, n => by cases e <;> exact absurd (show false = true from h) (by decide)
  | .cons _ (.rng2 _ _), e, X, c, k, p, W, h, O, tk, n => by cases e <;> exact absurd (show false = true from h) (by decide)
  | .cons _ (.pass), e, X, c, k, p, W, h, O, tk, n => by cases e <;> exact absurd (show false = true from h) (by decide)
  | .cons _ (.brk), e, X, c, k, p, W, h, O, tk, n => by cases e <;> exact absurd (show false = true from h) (by decide)
  | .cons _ (.cnt), e, X, c, k, p, W, h, O, tk, n => by cases e <;> exact absurd (show false = true from h) (by decide)
  | .cons _ (.expr _), e, X, c, k, p, W, h, O, tk, n => by cases e <;> exact absurd (show false = true from h) (by decide)
  | .cons _ (.ret _), e, X, c, k, p, W, h, O, tk, n => by cases e <;> exact absurd (show false = true from h) (by decide)
  | .cons _ (.ret0), e, X, c, k, p, W, h, O, tk, n => by cases e <;> exact absurd (show false = true from h) (by decide)
  | .cons _ (.sif _ _ _), e, X, c, k, p, W, h, O, tk, n => by cases e <;> exact absurd (show false = true from h) (by decide)
  | .cons _ (.set _ _), e, X, c, k, p, W, h, O, tk, n => by cases e <;> exact absurd (show false = true from h) (by decide)
  | .cons _ (.setLc _ _ _ _ _ _), e, X, c, k, p, W, h, O, tk, n => by cases e <;> exact absurd (show false = true from h) (by decide)
  | .cons _ (.asg _ _), e, X, c, k, p, W, h, O, tk, n => by cases e <;> exact absurd (show false = true from h) (by decide)
  | .cons _ (.par _ _ _ _), e, X, c, k, p, W, h, O, tk, n => by cases e <;> exact absurd (show false = true from h) (by decide)
  | .cons _ (.for_ _ _ _), e, X, c, k, p, W, h, O, tk, n => by cases e <;> exact absurd (show false = true from h) (by decide)
  | .cons _ (.whl _ _), e, X, c, k, p, W, h, O, tk, n => by cases e <;> exact absurd (show false = true from h) (by decide)
  | .cons _ (.raise _), e, X, c, k, p, W, h, O, tk, n => by cases e <;> exact absurd (show false = true from h) (by decide)
  | .cons _ (.tok _ _ _ _), e, X, c, k, p, W, h, O, tk, n => by cases e <;> exact absurd (show false = true from h) (by decide)
  | .var _, e, X, c, k, p, W, h, O, tk, n => by cases e <;> exact absurd (show false = true from h) (by decide)
  | .cst _, e, X, c, k, p, W, h, O, tk, n => by cases e <;> exact absurd (show false = true from h) (by decide)
  | .glo _ _, e, X, c, k, p, W, h, O, tk, n => by cases e <;> exact absurd (show false = true from h) (by decide)
  | .tup _, e, X, c, k, p, W, h, O, tk, n => by cases e <;> exact absurd (show false = true from h) (by decide)
  | .lst _, e, X, c, k, p, W, h, O, tk, n => by cases e <;> exact absurd (show false = true from h) (by decide)
  | .bin _ _ _, e, X, c, k, p, W, h, O, tk, n => by cases e <;> exact absurd (show false = true from h) (by decide)
  | .neg _, e, X, c, k, p, W, h, O, tk, n => by cases e <;> exact absurd (show false = true from h) (by decide)
  | .cmp _ _ _, e, X, c, k, p, W, h, O, tk, n => by cases e <;> exact absurd (show false = true from h) (by decide)
  | .chn _ _ _ _ _, e, X, c, k, p, W, h, O, tk, n => by cases e <;> exact absurd (show false = true from h) (by decide)
  | .and_ _, e, X, c, k, p, W, h, O, tk, n => by cases e <;> exact absurd (show false = true from h) (by decide)
  | .or_ _, e, X, c, k, p, W, h, O, tk, n => by cases e <;> exact absurd (show false = true from h) (by decide)
  | .not_ _, e, X, c, k, p, W, h, O, tk, n => by cases e <;> exact absurd (show false = true from h) (by decide)
  | .tru _, e, X, c, k, p, W, h, O, tk, n => by cases e <;> exact absurd (show false = true from h) (by decide)
  | .ite _ _ _, e, X, c, k, p, W, h, O, tk, n => by cases e <;> exact absurd (show false = true from h) (by decide)
  | .ix _ _, e, X, c, k, p, W, h, O, tk, n => by cases e <;> exact absurd (show false = true from h) (by decide)
  | .slc _ _ _, e, X, c, k, p, W, h, O, tk, n => by cases e <;> exact absurd (show false = true from h) (by decide)
  | .call _ _ _, e, X, c, k, p, W, h, O, tk, n => by cases e <;> exact absurd (show false = true from h) (by decide)
  | .bi _ _, e, X, c, k, p, W, h, O, tk, n => by cases e <;> exact absurd (show false = true from h) (by decide)
  | .isi _ _, e, X, c, k, p, W, h, O, tk, n => by cases e <;> exact absurd (show false = true from h) (by decide)
  | .comp _ _ _ _ _, e, X, c, k, p, W, h, O, tk, n => by cases e <;> exact absurd (show false = true from h) (by decide)
  | .app _ _, e, X, c, k, p, W, h, O, tk, n => by cases e <;> exact absurd (show false = true from h) (by decide)
  | .popAt _ _, e, X, c, k, p, W, h, O, tk, n => by cases e <;> exact absurd (show false = true from h) (by decide)
  | .pop _, e, X, c, k, p, W, h, O, tk, n => by cases e <;> exact absurd (show false = true from h) (by decide)
  | .split _ _, e, X, c, k, p, W, h, O, tk, n => by cases e <;> exact absurd (show false = true from h) (by decide)
  | .join _ _, e, X, c, k, p, W, h, O, tk, n => by cases e <;> exact absurd (show false = true from h) (by decide)
  | .fstr _, e, X, c, k, p, W, h, O, tk, n => by cases e <;> exact absurd (show false = true from h) (by decide)
  | .fmt _, e, X, c, k, p, W, h, O, tk, n => by cases e <;> exact absurd (show false = true from h) (by decide)
  | .rev _, e, X, c, k, p, W, h, O, tk, n => by cases e <;> exact absurd (show false = true from h) (by decide)
  | .repl _ _ _, e, X, c, k, p, W, h, O, tk, n => by cases e <;> exact absurd (show false = true from h) (by decide)
  | .terr _ _, e, X, c, k, p, W, h, O, tk, n => by cases e <;> exact absurd (show false = true from h) (by decide)
  | .told _ _, e, X, c, k, p, W, h, O, tk, n => by cases e <;> exact absurd (show false = true from h) (by decide)
  | .callV _ _ _, e, X, c, k, p, W, h, O, tk, n => by cases e <;> exact absurd (show false = true from h) (by decide)
  | .seq _, e, X, c, k, p, W, h, O, tk, n => by cases e <;> exact absurd (show false = true from h) (by decide)
  | .rng1 _, e, X, c, k, p, W, h, O, tk, n => by cases e <;> exact absurd (show false = true from h) (by decide)
  | .rng2 _ _, e, X, c, k, p, W, h, O, tk, n => by cases e <;> exact absurd (show false = true from h) (by decide)
  | .pass, e, X, c, k, p, W, h, O, tk, n => by cases e <;> exact absurd (show false = true from h) (by decide)
  | .brk, e, X, c, k, p, W, h, O, tk, n => by cases e <;> exact absurd (show false = true from h) (by decide)
  | .cnt, e, X, c, k, p, W, h, O, tk, n => by cases e <;> exact absurd (show false = true from h) (by decide)
  | .expr _, e, X, c, k, p, W, h, O, tk, n => by cases e <;> exact absurd (show false = true from h) (by decide)
  | .ret _, e, X, c, k, p, W, h, O, tk, n => by cases e <;> exact absurd (show false = true from h) (by decide)
  | .ret0, e, X, c, k, p, W, h, O, tk, n => by cases e <;> exact absurd (show false = true from h) (by decide)
  | .sif _ _ _, e, X, c, k, p, W, h, O, tk, n => by cases e <;> exact absurd (show false = true from h) (by decide)
  | .set _ _, e, X, c, k, p, W, h, O, tk, n => by cases e <;> exact absurd (show false = true from h) (by decide)
  | .setLc _ _ _ _ _ _, e, X, c, k, p, W, h, O, tk, n => by cases e <;> exact absurd (show false = true from h) (by decide)
  | .asg _ _, e, X, c, k, p, W, h, O, tk, n => by cases e <;> exact absurd (show false = true from h) (by decide)
  | .par _ _ _ _, e, X, c, k, p, W, h, O, tk, n => by cases e <;> exact absurd (show false = true from h) (by decide)
  | .for_ _ _ _, e, X, c, k, p, W, h, O, tk, n => by cases e <;> exact absurd (show false = true from h) (by decide)
  | .whl _ _, e, X, c, k, p, W, h, O, tk, n => by cases e <;> exact absurd (show false = true from h) (by decide)
  | .raise _, e, X, c, k, p, W, h, O, tk, n => by cases e <;> exact absurd (show false = true from h) (by decide)
  | .tok _ _ _ _, e, X, c, k, p, W, h, O, tk, n => by cases e <;> exact absurd (show false = true from h) (by decide)
theorem sI : ∀ (i : I) (e : Expr) {X : Cx} {c : Ct} {k : Nat} {p : P0} {W : WX}, ckI c i e = true → Ok X c k p.T → L2N.Takes X W → Nd (HasX X p.T) (TryX X) k i → ∀ {tg : Expr}, DI X p W tg e (evI i)
  | .seq a, e, X, c, k, p, W, h, O, tk, n => by
    exact di_seq (dh (sE a e h O tk n))
  | .rng1 a, e, X, c, k, p, W, h, O, tk, n => by
    cases e with
    | Call fe es kws pos =>
      cases fe with
      | Name y p1 =>
        cases kws with
        | cons _ _ => rcases es with _ | ⟨e1, _ | ⟨_, _⟩⟩ <;> exact absurd (show false = true from h) (by decide)
        | nil =>
          rcases es with _ | ⟨e1, _ | ⟨_, _⟩⟩
          · exact absurd (show false = true from h) (by decide)
          · have h : (decide (y = "range") && glB c.sc y && c.md.free.contains y && nonStar e1 && ckA c a [e1]) = true := h
            simp only [Bool.and_eq_true, decide_eq_true_eq] at h
            obtain ⟨⟨⟨⟨rfl, h1⟩, h2⟩, h3⟩, h4⟩ := h
            exact di_range1 (O.gl h1) (O.mgn h2) (sA a [e1] h4 O tk n) (star_of h3)
          · exact absurd (show false = true from h) (by decide)
      | _ => exact absurd (show false = true from h) (by decide)
    | _ => exact absurd (show false = true from h) (by decide)
  | .rng2 a b, e, X, c, k, p, W, h, O, tk, n => by
    cases e with
    | Call fe es kws pos =>
      cases fe with
      | Name y p1 =>
        cases kws with
        | cons _ _ => rcases es with _ | ⟨e1, _ | ⟨e2, _ | ⟨_, _⟩⟩⟩ <;> exact absurd (show false = true from h) (by decide)
        | nil =>
          rcases es with _ | ⟨e1, _ | ⟨e2, _ | ⟨_, _⟩⟩⟩
          · exact absurd (show false = true from h) (by decide)
          · exact absurd (show false = true from h) (by decide)
          · have h : (decide (y = "range") && glB c.sc y && c.md.free.contains y && nonStar e1 && nonStar e2 && ckA c a [e1, e2]) = true := h
            simp only [Bool.and_eq_true, decide_eq_true_eq] at h
            obtain ⟨⟨⟨⟨⟨rfl, h1⟩, h2⟩, h3⟩, h5⟩, h4⟩ := h
            exact di_range2 (O.gl h1) (O.mgn h2) (sA a [e1, e2] h4 O tk n.1) (by rw [star_of h3, star_of h5]; rfl) (star_of h5)
          · exact absurd (show false = true from h) (by decide)
      | _ => exact absurd (show false = true from h) (by decide)
    | _ => exact absurd (show false = true from h) (by decide)
  | .nil, e, X, c, k, p, W, h, O, tk, n => absurd (show false = true from h) (by decide)
  | .cons _ _, e, X, c, k, p, W, h, O, tk, n => absurd (show false = true from h) (by decide)
  | .var _, e, X, c, k, p, W, h, O, tk, n => absurd (show false = true from h) (by decide)
  | .cst _, e, X, c, k, p, W, h, O, tk, n => absurd (show false = true from h) (by decide)
  | .glo _ _, e, X, c, k, p, W, h, O, tk, n => absurd (show false = true from h) (by decide)
  | .tup _, e, X, c, k, p, W, h, O, tk, n => absurd (show false = true from h) (by decide)
  | .lst _, e, X, c, k, p, W, h, O, tk, n => absurd (show false = true from h) (by decide)
  | .bin _ _ _, e, X, c, k, p, W, h, O, tk, n => absurd (show false = true from h) (by decide)
  | .neg _, e, X, c, k, p, W, h, O, tk, n => absurd (show false = true from h) (by decide)
  | .cmp _ _ _, e, X, c, k, p, W, h, O, tk, n => absurd (show false = true from h) (by decide)
  | .chn _ _ _ _ _, e, X, c, k, p, W, h, O, tk, n => absurd (show false = true from h) (by decide)
  | .and_ _, e, X, c, k, p, W, h, O, tk, n => absurd (show false = true from h) (by decide)
  | .or_ _, e, X, c, k, p, W, h, O, tk, n => absurd (show false = true from h) (by decide)
  | .not_ _, e, X, c, k, p, W, h, O, tk, n => absurd (show false = true from h) (by decide)
  | .tru _, e, X, c, k, p, W, h, O, tk, n => absurd (show false = true from h) (by decide)
  | .ite _ _ _, e, X, c, k, p, W, h, O, tk, n => absurd (show false = true from h) (by decide)
  | .ix _ _, e, X, c, k, p, W, h, O, tk, n => absurd (show false = true from h) (by decide)
  | .slc _ _ _, e, X, c, k, p, W, h, O, tk, n => absurd (show false = true from h) (by decide)
  | .call _ _ _, e, X, c, k, p, W, h, O, tk, n => absurd (show false = true from h) (by decide)
  | .bi _ _, e, X, c, k, p, W, h, O, tk, n => absurd (show false = true from h) (by decide)
  | .isi _ _, e, X, c, k, p, W, h, O, tk, n => absurd (show false = true from h) (by decide)
  | .comp _ _ _ _ _, e, X, c, k, p, W, h, O, tk, n => absurd (show false = true from h) (by decide)
  | .app _ _, e, X, c, k, p, W, h, O, tk, n => absurd (show false = true from h) (by decide)
  | .popAt _ _, e, X, c, k, p, W, h, O, tk, n => absurd (show false = true from h) (by decide)
  | .pop _, e, X, c, k, p, W, h, O, tk, n => absurd (show false = true from h) (by decide)
  | .split _ _, e, X, c, k, p, W, h, O, tk, n => absurd (show false = true from h) (by decide)
  | .join _ _, e, X, c, k, p, W, h, O, tk, n => absurd (show false = true from h) (by decide)
  | .fstr _, e, X, c, k, p, W, h, O, tk, n => absurd (show false = true from h) (by decide)
  | .fmt _, e, X, c, k, p, W, h, O, tk, n => absurd (show false = true from h) (by decide)
  | .rev _, e, X, c, k, p, W, h, O, tk, n => absurd (show false = true from h) (by decide)
  | .repl _ _ _, e, X, c, k, p, W, h, O, tk, n => absurd (show false = true from h) (by decide)
  | .terr _ _, e, X, c, k, p, W, h, O, tk, n => absurd (show false = true from h) (by decide)
  | .told _ _, e, X, c, k, p, W, h, O, tk, n => absurd (show false = true from h) (by decide)
  | .callV _ _ _, e, X, c, k, p, W, h, O, tk, n => absurd (show false = true from h) (by decide)
  | .pass, e, X, c, k, p, W, h, O, tk, n => absurd (show false = true from h) (by decide)
  | .brk, e, X, c, k, p, W, h, O, tk, n => absurd (show false = true from h) (by decide)
  | .cnt, e, X, c, k, p, W, h, O, tk, n => absurd (show false = true from h) (by decide)
  | .expr _, e, X, c, k, p, W, h, O, tk, n => absurd (show false = true from h) (by decide)
  | .ret _, e, X, c, k, p, W, h, O, tk, n => absurd (show false = true from h) (by decide)
  | .ret0, e, X, c, k, p, W, h, O, tk, n => absurd (show false = true from h) (by decide)
  | .sif _ _ _, e, X, c, k, p, W, h, O, tk, n => absurd (show false = true from h) (by decide)
  | .set _ _, e, X, c, k, p, W, h, O, tk, n => absurd (show false = true from h) (by decide)
  | .setLc _ _ _ _ _ _, e, X, c, k, p, W, h, O, tk, n => absurd (show false = true from h) (by decide)
  | .asg _ _, e, X, c, k, p, W, h, O, tk, n => absurd (show false = true from h) (by decide)
  | .par _ _ _ _, e, X, c, k, p, W, h, O, tk, n => absurd (show false = true from h) (by decide)
  | .for_ _ _ _, e, X, c, k, p, W, h, O, tk, n => absurd (show false = true from h) (by decide)
  | .whl _ _, e, X, c, k, p, W, h, O, tk, n => absurd (show false = true from h) (by decide)
  | .raise _, e, X, c, k, p, W, h, O, tk, n => absurd (show false = true from h) (by decide)
  | .tok _ _ _ _, e, X, c, k, p, W, h, O, tk, n => absurd (show false = true from h) (by decide)
theorem sTs : ∀ (i : I) (e : List Expr) {X : Cx} {c : Ct} {k : Nat} {p : P0} {W : WX}, ckTs c i e = true → Ok X c k p.T → L2N.Takes X W → Nd (HasX X p.T) (TryX X) k i → DTs X p W e (evTs i)
  | .nil, [], X, c, k, p, W, h, O, tk, n => dts_nil
  | .cons a .nil, [e], X, c, k, p, W, h, O, tk, n => dts_one (sT a e h O tk n.1)
  | .nil, _ :: _, X, c, k, p, W, h, O, tk, n => absurd (show false = true from h) (by decide)
  | .cons a .nil, [], X, c, k, p, W, h, O, tk, n => absurd (show false = true from h) (by decide)
  | .cons a .nil, _ :: _ :: _, X, c, k, p, W, h, O, tk, n => absurd (show false = true from h) (by decide)
  | .cons _ (.cons _ _), e, X, c, k, p, W, h, O, tk, n => by rcases e with _ | ⟨e1, _ | ⟨_, _⟩⟩ <;> exact absurd (show false = true from h) (by decide)
  | .cons _ (.var _), e, X, c, k, p, W, h, O, tk, n => by rcases e with _ | ⟨e1, _ | ⟨_, _⟩⟩ <;> exact absurd (show false = true from h) (by decide)
  | .cons _ (.cst _), e, X, c, k, p, W, h, O, tk, n => by rcases e with _ | ⟨e1, _ | ⟨_, _⟩⟩ <;> exact absurd (show false = true from h) (by decide)
  | .cons _ (.glo _ _), e, X, c, k, p, W, h, O, tk, n => by rcases e with _ | ⟨e1, _ | ⟨_, _⟩⟩ <;> exact absurd (show false = true from h) (by decide)
  | .cons _ (.tup _), e, X, c, k, p, W, h, O, tk, n => by rcases e with _ | ⟨e1, _ | ⟨_, _⟩⟩ <;> exact absurd (show false = true from h) (by decide)
  | .cons _ (.lst _), e, X, c, k, p, W, h, O, tk, n => by rcases e with _ | ⟨e1, _ | ⟨_, _⟩⟩ <;> exact absurd (show false = true from h) (by decide)
  | .cons _ (.bin _ _ _), e, X, c, k, p, W, h, O, tk, n => by rcases e with _ | ⟨e1, _ | ⟨_, _⟩⟩ <;> exact absurd (show false = true from h) (by decide)
  | .cons _ (.neg _), e, X, c, k, p, W, h, O, tk, n => by rcases e with _ | ⟨e1, _ | ⟨_, _⟩⟩ <;> exact absurd (show false = true from h) (by decide)
  | .cons _ (.cmp _ _ _), e, X, c, k, p, W, h, O, tk, n => by rcases e with _ | ⟨e1, _ | ⟨_, _⟩⟩ <;> exact absurd (show false = true from h) (by decide)
  | .cons _ (.chn _ _ _ _ _), e, X, c, k, p, W, h, O, tk, n => by rcases e with _ | ⟨e1, _ | ⟨_, _⟩⟩ <;> exact absurd (show false = true from h) (by decide)
  | .cons _ (.and_ _), e, X, c, k, p, W, h, O, tk, n => by rcases e with _ | ⟨e1, _ | ⟨_, _⟩⟩ <;> exact absurd (show false = true from h) (by decide)
  | .cons _ (.or_ _), e, X, c, k, p, W, h, O, tk, n => by rcases e with _ | ⟨e1, _ | ⟨_, _⟩⟩ <;> exact absurd (show false = true from h) (by decide)
  | .cons _ (.not_ _), e, X, c, k, p, W, h, O, tk, n => by rcases e with _ | ⟨e1, _ | ⟨_, _⟩⟩ <;> exact absurd (show false = true from h) (by decide)
  | .cons _ (.tru _), e, X, c, k, p, W, h, O, tk, n => by rcases e with _ | ⟨e1, _ | ⟨_, _⟩⟩ <;> exact absurd (show false = true from h) (by decide)
  | .cons _ (.ite _ _ _), e, X, c, k, p, W, h, O, tk, n => by rcases e with _ | ⟨e1, _ | ⟨_, _⟩⟩ <;> exact absurd (show false = true from h) (by decide)
  | .cons _ (.ix _ _), e, X, c, k, p, W, h, O, tk, n => by rcases e with _ | ⟨e1, _ | ⟨_, _⟩⟩ <;> exact absurd (show false = true from h) (by decide)
  | .cons _ (.slc _ _ _), e, X, c, k, p, W, h, O, tk, n => by rcases e with _ | ⟨e1, _ | ⟨_, _⟩⟩ <;> exact absurd (show false = true from h) (by decide)
  | .cons _ (.call _ _ _), e, X, c, k, p, W, h, O, tk, n => by rcases e with _ | ⟨e1, _ | ⟨_, _⟩⟩ <;> exact absurd (show false = true from h) (by decide)
  | .cons _ (.bi _ _), e, X, c, k, p, W, h, O, tk, n => by rcases e with _ | ⟨e1, _ | ⟨_, _⟩⟩ <;> exact absurd (show false = true from h) (by decide)
  | .cons _ (.isi _ _), e, X, c, k, p, W, h, O, tk, n => by rcases e with _ | ⟨e1, _ | ⟨_, _⟩⟩ <;> exact absurd (show false = true from h) (by decide)
  | .cons _ (.comp _ _ _ _ _), e, X, c, k, p, W, h, O, tk, n => by rcases e with _ | ⟨e1, _ | ⟨_, _⟩⟩ <;> exact absurd (show false = true from h) (by decide)
  | .cons _ (.app _ _), e, X, c, k, p, W, h, O, tk, n => by rcases e with _ | ⟨e1, _ | ⟨_, _⟩⟩ <;> exact absurd (show false = true from h) (by decide)
  | .cons _ (.popAt _ _), e, X, c, k, p, W, h, O, tk, n => by rcases e with _ | ⟨e1, _ | ⟨_, _⟩⟩ <;> exact absurd (show false = true from h) (by decide)
  | .cons _ (.pop _), e, X, c, k, p, W, h, O, tk, n => by rcases e with _ | ⟨e1, _ | ⟨_, _⟩⟩ <;> exact absurd (show false = true from h) (by decide)
  | .cons _ (.split _ _), e, X, c, k, p, W, h, O, tk, n => by rcases e with _ | ⟨e1, _ | ⟨_, _⟩⟩ <;> exact absurd (show false = true from h) (by decide)
  | .cons _ (.join _ _), e, X, c, k, p, W, h, O, tk, n => by rcases e with _ | ⟨e1, _ | ⟨_, _⟩⟩ <;> exact absurd (show false = true from h) (by decide)
  | .cons _ (.fstr _), e, X, c, k, p, W, h, O, tk, n => by rcases e with _ | ⟨e1, _ | ⟨_, _⟩⟩ <;> exact absurd (show false = true from h) (by decide)
  | .cons _ (.fmt _), e, X, c, k, p, W, h, O, tk, n => by rcases e with _ | ⟨e1, _ | ⟨_, _⟩⟩ <;> exact absurd (show false = true from h) (by decide)
  | .cons _ (.rev _), e, X, c, k, p, W, h, O, tk, n => by rcases e with _ | ⟨e1, _ | ⟨_, _⟩⟩ <;> exact absurd (show false = true from h) (by decide)
  | .cons _ (.repl _ _ _), e, X, c, k, p, W, h, O, tk, n => by rcases e with _ | ⟨e1, _ | ⟨_, _⟩⟩ <;> exact absurd (show false = true from h) (by decide)
  | .cons _ (.terr _ _), e, X, c, k, p, W, h, O, tk, n => by rcases e with _ | ⟨e1, _ | ⟨_, _⟩⟩ <;> exact absurd (show false = true from h) (by decide)
  | .cons _ (.told _ _), e, X, c, k, p, W, h, O, tk, n => by rcases e with _ | ⟨e1, _ | ⟨_, _⟩⟩ <;> exact absurd (show false = true from h) (by decide)
  | .cons _ (.callV _ _ _), e, X, c, k, p, W, h, O, tk, n => by rcases e with _ | ⟨e1, _ | ⟨_, _⟩⟩ <;> exact absurd (show false = true from h) (by decide)
  | .cons _ (.seq _), e, X, c, k, p, W, h, O, tk, n => by rcases e with _ | ⟨e1, _ | ⟨_, _⟩⟩ <;> exact absurd (show false = true from h) (by decide)
  | .cons _ (.rng1 _), e, X, c, k, p, W, h, O, tk, n => by rcases e with _ | ⟨e1, _ | ⟨_, _⟩⟩ <;> exact absurd (show false = true from h) (by decide)
  | .cons _ (.rng2 _ _), e, X, c, k, p, W, h, O, tk, n => by rcases e with _ | ⟨e1, _ | ⟨_, _⟩⟩ <;> exact absurd (show false = true from h) (by decide)
  | .cons _ (.pass), e, X, c, k, p, W, h, O, tk, n => by rcases e with _ | ⟨e1, _ | ⟨_, _⟩⟩ <;> exact absurd (show false = true from h) (by decide)
  | .cons _ (.brk), e, X, c, k, p, W, h, O, tk, n => by rcases e with _ | ⟨e1, _ | ⟨_, _⟩⟩ <;> exact absurd (show false = true from h) (by decide)
  | .cons _ (.cnt), e, X, c, k, p, W, h, O, tk, n => by rcases e with _ | ⟨e1, _ | ⟨_, _⟩⟩ <;> exact absurd (show false = true from h) (by decide)
  | .cons _ (.expr _), e, X, c, k, p, W, h, O, tk, n => by rcases e with _ | ⟨e1, _ | ⟨_, _⟩⟩ <;> exact absurd (show false = true from h) (by decide)
  | .cons _ (.ret _), e, X, c, k, p, W, h, O, tk, n => by rcases e with _ | ⟨e1, _ | ⟨_, _⟩⟩ <;> exact absurd (show false = true from h) (by decide)
  | .cons _ (.ret0), e, X, c, k, p, W, h, O, tk, n => by rcases e with _ | ⟨e1, _ | ⟨_, _⟩⟩ <;> exact absurd (show false = true from h) (by decide)
  | .cons _ (.sif _ _ _), e, X, c, k, p, W, h, O, tk, n => by rcases e with _ | ⟨e1, _ | ⟨_, _⟩⟩ <;> exact absurd (show false = true from h) (by decide)
  | .cons _ (.set _ _), e, X, c, k, p, W, h, O, tk, n => by rcases e with _ | ⟨e1, _ | ⟨_, _⟩⟩ <;> exact absurd (show false = true from h) (by decide)
  | .cons _ (.setLc _ _ _ _ _ _), e, X, c, k, p, W, h, O, tk, n => by rcases e with _ | ⟨e1, _ | ⟨_, _⟩⟩ <;> exact absurd (show false = true from h) (by decide)
  | .cons _ (.asg _ _), e, X, c, k, p, W, h, O, tk, n => by rcases e with _ | ⟨e1, _ | ⟨_, _⟩⟩ <;> exact absurd (show false = true from h) (by decide)
  | .cons _ (.par _ _ _ _), e, X, c, k, p, W, h, O, tk, n => by rcases e with _ | ⟨e1, _ | ⟨_, _⟩⟩ <;> exact absurd (show false = true from h) (by decide)
  | .cons _ (.for_ _ _ _), e, X, c, k, p, W, h, O, tk, n => by rcases e with _ | ⟨e1, _ | ⟨_, _⟩⟩ <;> exact absurd (show false = true from h) (by decide)
  | .cons _ (.whl _ _), e, X, c, k, p, W, h, O, tk, n => by rcases e with _ | ⟨e1, _ | ⟨_, _⟩⟩ <;> exact absurd (show false = true from h) (by decide)
  | .cons _ (.raise _), e, X, c, k, p, W, h, O, tk, n => by rcases e with _ | ⟨e1, _ | ⟨_, _⟩⟩ <;> exact absurd (show false = true from h) (by decide)
  | .cons _ (.tok _ _ _ _), e, X, c, k, p, W, h, O, tk, n => by rcases e with _ | ⟨e1, _ | ⟨_, _⟩⟩ <;> exact absurd (show false = true from h) (by decide)
  | .var _, e, X, c, k, p, W, h, O, tk, n => by rcases e with _ | ⟨e1, _ | ⟨_, _⟩⟩ <;> exact absurd (show false = true from h) (by decide)
  | .cst _, e, X, c, k, p, W, h, O, tk, n => by rcases e with _ | ⟨e1, _ | ⟨_, _⟩⟩ <;> exact absurd (show false = true from h) (by decide)
  | .glo _ _, e, X, c, k, p, W, h, O, tk, n => by rcases e with _ | ⟨e1, _ | ⟨_, _⟩⟩ <;> exact absurd (show false = true from h) (by decide)
  | .tup _, e, X, c, k, p, W, h, O, tk, n => by rcases e with _ | ⟨e1, _ | ⟨_, _⟩⟩ <;> exact absurd (show false = true from h) (by decide)
  | .lst _, e, X, c, k, p, W, h, O, tk, n => by rcases e with _ | ⟨e1, _ | ⟨_, _⟩⟩ <;> exact absurd (show false = true from h) (by decide)
  | .bin _ _ _, e, X, c, k, p, W, h, O, tk, n => by rcases e with _ | ⟨e1, _ | ⟨_, _⟩⟩ <;> exact absurd (show false = true from h) (by decide)
  | .neg _, e, X, c, k, p, W, h, O, tk, n => by rcases e with _ | ⟨e1, _ | ⟨_, _⟩⟩ <;> exact absurd (show false = true from h) (by decide)
  | .cmp _ _ _, e, X, c, k, p, W, h, O, tk, n => by rcases e with _ | ⟨e1, _ | ⟨_, _⟩⟩ <;> exact absurd (show false = true from h) (by decide)
  | .chn _ _ _ _ _, e, X, c, k, p, W, h, O, tk, n => by rcases e with _ | ⟨e1, _ | ⟨_, _⟩⟩ <;> exact absurd (show false = true from h) (by decide)
  | .and_ _, e, X, c, k, p, W, h, O, tk, n => by rcases e with _ | ⟨e1, _ | ⟨_, _⟩⟩ <;> exact absurd (show false = true from h) (by decide)
  | .or_ _, e, X, c, k, p, W, h, O, tk, n => by rcases e with _ | ⟨e1, _ | ⟨_, _⟩⟩ <;> exact absurd (show false = true from h) (by decide)
  | .not_ _, e, X, c, k, p, W, h, O, tk, n => by rcases e with _ | ⟨e1, _ | ⟨_, _⟩⟩ <;> exact absurd (show false = true from h) (by decide)
  | .tru _, e, X, c, k, p, W, h, O, tk, n => by rcases e with _ | ⟨e1, _ | ⟨_, _⟩⟩ <;> exact absurd (show false = true from h) (by decide)
  | .ite _ _ _, e, X, c, k, p, W, h, O, tk, n => by rcases e with _ | ⟨e1, _ | ⟨_, _⟩⟩ <;> exact absurd (show false = true from h) (by decide)
  | .ix _ _, e, X, c, k, p, W, h, O, tk, n => by rcases e with _ | ⟨e1, _ | ⟨_, _⟩⟩ <;> exact absurd (show false = true from h) (by decide)
  | .slc _ _ _, e, X, c, k, p, W, h, O, tk, n => by rcases e with _ | ⟨e1, _ | ⟨_, _⟩⟩ <;> exact absurd (show false = true from h) (by decide)
  | .call _ _ _, e, X, c, k, p, W, h, O, tk, n => by rcases e with _ | ⟨e1, _ | ⟨_, _⟩⟩ <;> exact absurd (show false = true from h) (by decide)
  | .bi _ _, e, X, c, k, p, W, h, O, tk, n => by rcases e with _ | ⟨e1, _ | ⟨_, _⟩⟩ <;> exact absurd (show false = true from h) (by decide)
  | .isi _ _, e, X, c, k, p, W, h, O, tk, n => by rcases e with _ | ⟨e1, _ | ⟨_, _⟩⟩ <;> exact absurd (show false = true from h) (by decide)
  | .comp _ _ _ _ _, e, X, c, k, p, W, h, O, tk, n => by rcases e with _ | ⟨e1, _ | ⟨_, _⟩⟩ <;> exact absurd (show false = true from h) (by decide)
  | .app _ _, e, X, c, k, p, W, h, O, tk, n => by rcases e with _ | ⟨e1, _ | ⟨_, _⟩⟩ <;> exact absurd (show false = true from h) (by decide)
  | .popAt _ _, e, X, c, k, p, W, h, O, tk, n => by rcases e with _ | ⟨e1, _ | ⟨_, _⟩⟩ <;> exact absurd (show false = true from h) (by decide)
  | .pop _, e, X, c, k, p, W, h, O, tk, n => by rcases e with _ | ⟨e1, _ | ⟨_, _⟩⟩ <;> exact absurd (show false = true from h) (by decide)
  | .split _ _, e, X, c, k, p, W, h, O, tk, n => by rcases e with _ | ⟨e1, _ | ⟨_, _⟩⟩ <;> exact absurd (show false = true from h) (by decide)
  | .join _ _, e, X, c, k, p, W, h, O, tk, n => by rcases e with _ | ⟨e1, _ | ⟨_, _⟩⟩ <;> exact absurd (show false = true from h) (by decide)
  | .fstr _, e, X, c, k, p, W, h, O, tk, n => by rcases e with _ | ⟨e1, _ | ⟨_, _⟩⟩ <;> exact absurd (show false = true from h) (by decide)
  | .fmt _, e, X, c, k, p, W, h, O, tk, n => by rcases e with _ | ⟨e1, _ | ⟨_, _⟩⟩ <;> exact absurd (show false = true from h) (by decide)
  | .rev _, e, X, c, k, p, W, h, O, tk, n => by rcases e with _ | ⟨e1, _ | ⟨_, _⟩⟩ <;> exact absurd (show false = true from h) (by decide)
  | .repl _ _ _, e, X, c, k, p, W, h, O, tk, n => by rcases e with _ | ⟨e1, _ | ⟨_, _⟩⟩ <;> exact absurd (show false = true from h) (by decide)
  | .terr _ _, e, X, c, k, p, W, h, O, tk, n => by rcases e with _ | ⟨e1, _ | ⟨_, _⟩⟩ <;> exact absurd (show false = true from h) (by decide)
  | .told _ _, e, X, c, k, p, W, h, O, tk, n => by rcases e with _ | ⟨e1, _ | ⟨_, _⟩⟩ <;> exact absurd (show false = true from h) (by decide)
  | .callV _ _ _, e, X, c, k, p, W, h, O, tk, n => by rcases e with _ | ⟨e1, _ | ⟨_, _⟩⟩ <;> exact absurd (show false = true from h) (by decide)
  | .seq _, e, X, c, k, p, W, h, O, tk, n => by rcases e with _ | ⟨e1, _ | ⟨_, _⟩⟩ <;> exact absurd (show false = true from h) (by decide)
  | .rng1 _, e, X, c, k, p, W, h, O, tk, n => by rcases e with _ | ⟨e1, _ | ⟨_, _⟩⟩ <;> exact absurd (show false = true from h) (by decide)
  | .rng2 _ _, e, X, c, k, p, W, h, O, tk, n => by rcases e with _ | ⟨e1, _ | ⟨_, _⟩⟩ <;> exact absurd (show false = true from h) (by decide)
  | .pass, e, X, c, k, p, W, h, O, tk, n => by rcases e with _ | ⟨e1, _ | ⟨_, _⟩⟩ <;> exact absurd (show false = true from h) (by decide)
  | .brk, e, X, c, k, p, W, h, O, tk, n => by rcases e with _ | ⟨e1, _ | ⟨_, _⟩⟩ <;> exact absurd (show false = true from h) (by decide)
  | .cnt, e, X, c, k, p, W, h, O, tk, n => by rcases e with _ | ⟨e1, _ | ⟨_, _⟩⟩ <;> exact absurd (show false = true from h) (by decide)
  | .expr _, e, X, c, k, p, W, h, O, tk, n => by rcases e with _ | ⟨e1, _ | ⟨_, _⟩⟩ <;> exact absurd (show false = true from h) (by decide)
  | .ret _, e, X, c, k, p, W, h, O, tk, n => by rcases e with _ | ⟨e1, _ | ⟨_, _⟩⟩ <;> exact absurd (show false = true from h) (by decide)
  | .ret0, e, X, c, k, p, W, h, O, tk, n => by rcases e with _ | ⟨e1, _ | ⟨_, _⟩⟩ <;> exact absurd (show false = true from h) (by decide)
  | .sif _ _ _, e, X, c, k, p, W, h, O, tk, n => by rcases e with _ | ⟨e1, _ | ⟨_, _⟩⟩ <;> exact absurd (show false = true from h) (by decide)
  | .set _ _, e, X, c, k, p, W, h, O, tk, n => by rcases e with _ | ⟨e1, _ | ⟨_, _⟩⟩ <;> exact absurd (show false = true from h) (by decide)
  | .setLc _ _ _ _ _ _, e, X, c, k, p, W, h, O, tk, n => by rcases e with _ | ⟨e1, _ | ⟨_, _⟩⟩ <;> exact absurd (show false = true from h) (by decide)
  | .asg _ _, e, X, c, k, p, W, h, O, tk, n => by rcases e with _ | ⟨e1, _ | ⟨_, _⟩⟩ <;> exact absurd (show false = true from h) (by decide)
  | .par _ _ _ _, e, X, c, k, p, W, h, O, tk, n => by rcases e with _ | ⟨e1, _ | ⟨_, _⟩⟩ <;> exact absurd (show false = true from h) (by decide)
  | .for_ _ _ _, e, X, c, k, p, W, h, O, tk, n => by rcases e with _ | ⟨e1, _ | ⟨_, _⟩⟩ <;> exact absurd (show false = true from h) (by decide)
  | .whl _ _, e, X, c, k, p, W, h, O, tk, n => by rcases e with _ | ⟨e1, _ | ⟨_, _⟩⟩ <;> exact absurd (show false = true from h) (by decide)
  | .raise _, e, X, c, k, p, W, h, O, tk, n => by rcases e with _ | ⟨e1, _ | ⟨_, _⟩⟩ <;> exact absurd (show false = true from h) (by decide)
  | .tok _ _ _ _, e, X, c, k, p, W, h, O, tk, n => by rcases e with _ | ⟨e1, _ | ⟨_, _⟩⟩ <;> exact absurd (show false = true from h) (by decide)
end
end
end AL


set_option Elab.async false
set_option linter.all false
set_option maxRecDepth 100000
set_option maxHeartbeats 4000000
/-! AL18: the check is sound: statements, defs. -/
namespace AL
open PySem PySem.Spec PyProof.Rows L2
section
theorem nsw {e : Expr} {t : Option Expr} {l : Nat} {env : Env} (h : nonComp e = true) : swapsWith e t l env = pure false := swaps_false (by cases e <;> first | rfl | cases h)
theorem sw_par {x y : Str} {px py pt pt2 : Pos} {kt k2 : Nat} {a b : Expr} {env : Env} (hk : env.scope.kind = .function) (hx : env.scope.names.lookup x = some .local) (hy : env.scope.names.lookup y = some .local) (hl : (px.line == py.line) = true) (ne : x ≠ y)
    (ha : nonStar a = true) (hb : nonStar b = true) (hf : ([a, b].all (foldedForSure 8)) = false) (hc : ([a, b].all (constantsAlone 8)) = false) :
    swappedStores [.Tuple [.Name x px, .Name y py] kt pt] (.Tuple [a, b] k2 pt2) env = pure (some [x, y]) := by
  have hb' : env.blockKind = .function := by unfold Env.blockKind; rw [hk]; rfl
  have kx : env.kindOf x = some .local := hx
  have ky : env.kindOf y = some .local := hy
  have hl' : (py.line == px.line) = true := by rw [beq_iff_eq] at hl ⊢; exact hl.symm
  have ns : ([a, b].any fun | .Starred .. => true | _ => false) = false := by
    cases a <;> first | (cases ha; done) | (cases b <;> first | rfl | cases hb)
  have er : [x, y].eraseDups = [x, y] := by
    have hn : (y == x) = false := beq_eq_false_iff_ne.mpr (Ne.symm ne)
    simp [List.eraseDups_cons, hn]
  unfold swappedStores
  simp only [List.length_cons, List.length_nil, hb', List.filterMap_cons, List.filterMap_nil, kx, ky, hl', List.head?_cons, Option.map_some, Option.getD_some, Expr.pos, beq_self_eq_true, Bool.and_self, if_true, er, hf, hc]
  refine (if_neg (by decide)).trans ?_
  refine (if_neg (fun z => ?_)).trans ?_
  · have z2 : ([a, b].any fun | .Starred .. => true | _ => false) = true := z
    rw [ns] at z2; cases z2
  · refine (if_neg (by decide)).trans ?_
    rfl
theorem sw_none {es : List Expr} {k : Nat} {p : Pos} {e : Expr} {env : Env} (h : foldB e = true) : swappedStores [.Tuple es k p] e env = pure none := by
  cases e with
  | Tuple vs k2 p2 =>
    have h : vs.all (foldedForSure 8) = true := h
    unfold swappedStores
    dsimp only
    split
    · rfl
    · split
      · rfl
      · split
        · rfl
        · first | rfl | rw [if_pos h] | exact if_pos h
  | _ => rfl
end
mutual
theorem sS : ∀ (i : I) (e : Stmt) {X : Cx} {c : Ct} {k : Nat} {p : P0} {W : WX}, ckS c i e = true → Ok X c k p.T → L2N.Takes X W → PassesOwn (model X.prog X.w) X.A X.env X.xe → Nd (HasX X p.T) (TryX X) k i → DS X p W e (evS i)
  | .pass, e, X, c, k, p, W, h, O, tk, hp, n => by
    cases e with
    | Pass pos =>
      exact ds_pass
    | _ => exact absurd (show false = true from h) (by decide)
  | .brk, e, X, c, k, p, W, h, O, tk, hp, n => by
    cases e with
    | Break pos =>
      exact ds_break
    | _ => exact absurd (show false = true from h) (by decide)
  | .cnt, e, X, c, k, p, W, h, O, tk, hp, n => by
    cases e with
    | Continue pos =>
      exact ds_continue
    | _ => exact absurd (show false = true from h) (by decide)
  | .expr a, e, X, c, k, p, W, h, O, tk, hp, n => by
    cases e with
    | Expr e1 pos =>
      have h : (nonComp e1 && ckE c a e1) = true := h
      simp only [Bool.and_eq_true, decide_eq_true_eq, Bool.not_eq_true'] at h
      exact ds_expr (sE a e1 h.2 O tk n) (nsw h.1)
    | _ => exact absurd (show false = true from h) (by decide)
  | .ret a, e, X, c, k, p, W, h, O, tk, hp, n => by
    cases e with
    | Return v pos =>
      cases v with
      | none => exact absurd (show false = true from h) (by decide)
      | some e1 => exact ds_ret (sE a e1 h O tk n)
    | _ => exact absurd (show false = true from h) (by decide)
  | .ret0, e, X, c, k, p, W, h, O, tk, hp, n => by
    cases e with
    | Return v pos =>
      cases v with
      | none => exact ds_retN
      | some e1 => exact absurd (show false = true from h) (by decide)
    | _ => exact absurd (show false = true from h) (by decide)
  | .sif t a b, e, X, c, k, p, W, h, O, tk, hp, n => by
    cases e with
    | If e1 q1 q2 pos =>
      have h : (ckT c t e1 && ckB c a q1 && ckB c b q2) = true := h
      simp only [Bool.and_eq_true, decide_eq_true_eq, Bool.not_eq_true'] at h
      obtain ⟨⟨h1, h2⟩, h3⟩ := h
      exact ds_if (sT t e1 h1 O tk n.1) (sB a q1 h2 O tk hp n.2.1) (sB b q2 h3 O tk hp n.2.2)
    | _ => exact absurd (show false = true from h) (by decide)
  | .set i a, e, X, c, k, p, W, h, O, tk, hp, n => by
    cases e with
    | Assign ts e1 pos =>
      rcases ts with _ | ⟨t, _ | ⟨t2, ts⟩⟩
      · exact absurd (show false = true from h) (by decide)
      · cases t with
        | Name x px =>
          have h : (nonComp e1 && decide (c.N[i]? = some x) && locB c.sc x && (fnB c x || lcB c.sc x) && ckE c a e1) = true := h
          simp only [Bool.and_eq_true, decide_eq_true_eq] at h
          obtain ⟨⟨⟨⟨h1, h2⟩, h3⟩, h4⟩, h5⟩ := h
          exact ds_set (by rw [O.N]; exact O.nd) (by rw [O.N]; exact h2) (O.loc h3) (sE a e1 h5 O tk n) (nsw h1) (O.fnl h4)
        | _ => exact absurd (show false = true from h) (by decide)
      · cases t <;> exact absurd (show false = true from h) (by decide)
    | _ => exact absurd (show false = true from h) (by decide)
  | .setLc i g it ts el own, e, X, c, k, p, W, h, O, tk, hp, n => by
    cases e with
    | Assign us e1 pos =>
      rcases us with _ | ⟨t, _ | ⟨t2, us⟩⟩
      · exact absurd (show false = true from h) (by decide)
      · cases t with
        | Name x px =>
          cases e1 with
          | ListComp elt gs scope pos1 =>
            rcases gs with _ | ⟨⟨tg, iter, ifs, (_ | as) | as⟩, _ | ⟨_, _⟩⟩
            · exact absurd (show false = true from h) (by decide)
            · have h : (decide (c.N[i]? = some x) && lcB c.sc x && (px.line == pos1.line) && !(scope.names.any fun y => y.1 == x && (y.2 == .local || y.2 == .cell)) && decide (c.sc.kind = .function) && blkB c.N c.sc scope own && nonSet iter && ckI c it iter && ckG (blkC c scope) g tg && (slots g).all (own.map (·.2)).contains && ckTs (blkC c scope) ts ifs && ckE (blkC c scope) el elt) = true := h
              simp only [Bool.and_eq_true] at h
              obtain ⟨⟨⟨⟨⟨⟨⟨⟨⟨⟨⟨h1, h2⟩, h3⟩, h4⟩, h5⟩, h6⟩, h7⟩, h8⟩, h9⟩, h10⟩, h11⟩, h12⟩ := h
              have hsl : ∀ i ∈ slots g, i ∈ own.map (·.2) := fun i hi => List.contains_iff_mem.mp (List.all_eq_true.mp h10 i hi)
              have hl : X.env.scope.names.lookup x = some .local := by rw [O.sc]; exact of_decide_eq_true h2
              exact ds_setLc (sl := slots g) O.calm (by rw [O.N]; exact O.nd) (by rw [O.N]; exact of_decide_eq_true h1) hl (sw_true (by rw [O.sc]; exact of_decide_eq_true h5) hl h3 (by simpa using h4)) (by rw [O.N, O.sc]; exact blk_of h6) (sI it iter h8 O tk n.2.1) (fun s H C cl fp => sG g tg h9 O.blk) hsl
                (fun s H C cl fp q => sTs ts ifs h11 (by rw [q.2]; exact O.blk) takesN0 (by rw [q.2]; exact n.2.2.1)) (fun s H C cl fp q => dh (sE el elt h12 (by rw [q.2]; exact O.blk) takesN0 (by rw [q.2]; exact n.2.2.2))) (fold_of h7)
            · exact absurd (show false = true from h) (by decide)
            · exact absurd (show false = true from h) (by decide)
            · exact absurd (show false = true from h) (by decide)
            · exact absurd (show false = true from h) (by decide)
            · exact absurd (show false = true from h) (by decide)
          | _ => exact absurd (show false = true from h) (by decide)
        | _ => exact absurd (show false = true from h) (by decide)
      · cases t <;> exact absurd (show false = true from h) (by decide)
    | _ => exact absurd (show false = true from h) (by decide)
  | .asg g a, e, X, c, k, p, W, h, O, tk, hp, n => by
    cases e with
    | Assign us e1 pos =>
      rcases us with _ | ⟨t, _ | ⟨t2, us⟩⟩
      · exact absurd (show false = true from h) (by decide)
      · cases t with
        | Tuple es kk p2 =>
          have h : (nonComp e1 && foldB e1 && ckG c g (.Tuple es kk p2) && ckE c a e1) = true := h
          simp only [Bool.and_eq_true] at h
          obtain ⟨⟨⟨h1, h2⟩, h3⟩, h4⟩ := h
          exact ds_asg (dh (sE a e1 h4 O tk n.2)) (sG g (.Tuple es kk p2) h3 O) (by unfold swapsWithSole; exact nsw h1) (sw_none h2) rfl
        | _ => exact absurd (show false = true from h) (by decide)
      · cases t <;> exact absurd (show false = true from h) (by decide)
    | _ => exact absurd (show false = true from h) (by decide)
  | .par i j a b, e, X, c, k, p, W, h, O, tk, hp, n => by
    cases e with
    | Assign us e1 pos =>
      rcases us with _ | ⟨t, _ | ⟨t2, us⟩⟩
      · exact absurd (show false = true from h) (by decide)
      · cases t with
        | Tuple es kk p2 =>
          rcases es with _ | ⟨n1, _ | ⟨n2, _ | ⟨_, _⟩⟩⟩
          · exact absurd (show false = true from h) (by decide)
          · cases n1 <;> exact absurd (show false = true from h) (by decide)
          · cases n1 with
            | Name x px =>
              cases n2 with
              | Name y py =>
                cases e1 with
                | Tuple vs k2 p3 =>
                  rcases vs with _ | ⟨e1, _ | ⟨e2, _ | ⟨_, _⟩⟩⟩
                  · exact absurd (show false = true from h) (by decide)
                  · exact absurd (show false = true from h) (by decide)
                  · have h : (decide (c.N[i]? = some x) && decide (c.N[j]? = some y) && decide (i ≠ j) && decide (x ≠ y) && lcB c.sc x && lcB c.sc y && (px.line == py.line) && decide (c.sc.kind = .function) && nonStar e1 && nonStar e2 && !([e1, e2].all (foldedForSure 8)) && !([e1, e2].all (constantsAlone 8)) && ckE c a e1 && ckE c b e2) = true := h
                    rw [Bool.and_eq_true, Bool.and_eq_true, Bool.and_eq_true, Bool.and_eq_true, Bool.and_eq_true, Bool.and_eq_true, Bool.and_eq_true, Bool.and_eq_true, Bool.and_eq_true, Bool.and_eq_true, Bool.and_eq_true, Bool.and_eq_true, Bool.and_eq_true] at h
                    obtain ⟨⟨⟨⟨⟨⟨⟨⟨⟨⟨⟨⟨⟨h1, h2⟩, h3⟩, h4⟩, h5⟩, h6⟩, h7⟩, h8⟩, h9⟩, h10⟩, h11⟩, h12⟩, h13⟩, h14⟩ := h
                    have lx : X.env.scope.names.lookup x = some .local := by rw [O.sc]; exact of_decide_eq_true h5
                    have ly : X.env.scope.names.lookup y = some .local := by rw [O.sc]; exact of_decide_eq_true h6
                    exact ds_par O.calm (by rw [O.N]; exact O.nd) (by rw [O.N]; exact of_decide_eq_true h1) (by rw [O.N]; exact of_decide_eq_true h2) (of_decide_eq_true h3) lx ly (sE a e1 h13 O tk n.1) (fun q => sE b e2 h14 (by rw [q.2]; exact O) tk (by rw [q.2]; exact n.2)) (star_of h9) (star_of h10)
                      (sw_par (by rw [O.sc]; exact of_decide_eq_true h8) lx ly h7 (of_decide_eq_true h4) h9 h10 (Bool.not_eq_true' _ |>.mp h11) (Bool.not_eq_true' _ |>.mp h12)) rfl
                  · exact absurd (show false = true from h) (by decide)
                | _ => exact absurd (show false = true from h) (by decide)
              | _ => exact absurd (show false = true from h) (by decide)
            | _ => exact absurd (show false = true from h) (by decide)
          · cases n1 <;> first | exact absurd (show false = true from h) (by decide) | (cases n2 <;> exact absurd (show false = true from h) (by decide))
        | _ => exact absurd (show false = true from h) (by decide)
      · cases t <;> first | exact absurd (show false = true from h) (by decide) | skip
        rename_i es _ _
        rcases es with _ | ⟨n1, _ | ⟨n2, _ | ⟨_, _⟩⟩⟩ <;> first | exact absurd (show false = true from h) (by decide) | (cases n1 <;> first | exact absurd (show false = true from h) (by decide) | (cases n2 <;> exact absurd (show false = true from h) (by decide)))
    | _ => exact absurd (show false = true from h) (by decide)
  | .for_ g it body, e, X, c, k, p, W, h, O, tk, hp, n => by
    cases e with
    | For tg iter q1 q2 pos =>
      cases q2 with
      | cons _ _ => exact absurd (show false = true from h) (by decide)
      | nil =>
        have h : (nonSet iter && ckI c it iter && ckG c g tg && ckB c body q1) = true := h
        simp only [Bool.and_eq_true, decide_eq_true_eq, Bool.not_eq_true'] at h
        obtain ⟨⟨⟨h1, h2⟩, h3⟩, h4⟩ := h
        exact ds_for hp O.calm (sI it iter h2 O tk n.2.1) (sG g tg h3 O) (sB body q1 h4 O tk hp n.2.2) (fold_of h1)
    | _ => exact absurd (show false = true from h) (by decide)
  | .whl t body, e, X, c, k, p, W, h, O, tk, hp, n => by
    cases e with
    | While e1 q1 q2 pos =>
      cases q2 with
      | cons _ _ => exact absurd (show false = true from h) (by decide)
      | nil =>
        have h : (ckT c t e1 && ckB c body q1) = true := h
        simp only [Bool.and_eq_true, decide_eq_true_eq, Bool.not_eq_true'] at h
        exact ds_while hp (sT t e1 h.1 O tk n.1) (sB body q1 h.2 O tk hp n.2)
    | _ => exact absurd (show false = true from h) (by decide)
  | .raise x, e, X, c, k, p, W, h, O, tk, hp, n => by
    cases e with
    | Raise e1 e2 pos =>
      cases e1 with
      | none => exact absurd (show false = true from h) (by decide)
      | some e1 =>
        cases e1 with
        | Call fe es kws p1 =>
          cases fe with
          | Name y p2 =>
            rcases es with _ | ⟨e3, _ | ⟨e4, es⟩⟩
            · exact absurd (show false = true from h) (by decide)
            · cases e3 with
              | Constant q j p3 =>
                cases q with
                | str m =>
                  cases kws with
                  | cons _ _ => exact absurd (show false = true from h) (by decide)
                  | nil =>
                    cases e2 with
                    | some _ => exact absurd (show false = true from h) (by decide)
                    | none =>
                      have h : (decide (x = y) && glB c.sc y && !dbg y && c.md.excs.contains y) = true := h
                      simp only [Bool.and_eq_true, decide_eq_true_eq] at h
                      obtain ⟨⟨⟨rfl, h1⟩, h2⟩, h3⟩ := h
                      obtain ⟨C, g1, g2, g3, g4⟩ := O.excs x (List.contains_iff_mem.mp h3)
                      exact ds_raise O.calm tk PySem.F.excBase_ValueError g1 g2 g3 g4 (O.gl h1) (dbg_of h2)
                | _ => exact absurd (show false = true from h) (by decide)
              | _ => exact absurd (show false = true from h) (by decide)
            · cases e3 <;> first | exact absurd (show false = true from h) (by decide) | (rename_i q _ _; cases q <;> exact absurd (show false = true from h) (by decide))
          | _ => exact absurd (show false = true from h) (by decide)
        | _ => exact absurd (show false = true from h) (by decide)
    | _ => exact absurd (show false = true from h) (by decide)
  | .nil, e, X, c, k, p, W, h, O, tk, hp, n => absurd (show false = true from h) (by decide)
  | .cons _ _, e, X, c, k, p, W, h, O, tk, hp, n => absurd (show false = true from h) (by decide)
  | .var _, e, X, c, k, p, W, h, O, tk, hp, n => absurd (show false = true from h) (by decide)
  | .cst _, e, X, c, k, p, W, h, O, tk, hp, n => absurd (show false = true from h) (by decide)
  | .glo _ _, e, X, c, k, p, W, h, O, tk, hp, n => absurd (show false = true from h) (by decide)
  | .tup _, e, X, c, k, p, W, h, O, tk, hp, n => absurd (show false = true from h) (by decide)
  | .lst _, e, X, c, k, p, W, h, O, tk, hp, n => absurd (show false = true from h) (by decide)
  | .bin _ _ _, e, X, c, k, p, W, h, O, tk, hp, n => absurd (show false = true from h) (by decide)
  | .neg _, e, X, c, k, p, W, h, O, tk, hp, n => absurd (show false = true from h) (by decide)
  | .cmp _ _ _, e, X, c, k, p, W, h, O, tk, hp, n => absurd (show false = true from h) (by decide)
  | .chn _ _ _ _ _, e, X, c, k, p, W, h, O, tk, hp, n => absurd (show false = true from h) (by decide)
  | .and_ _, e, X, c, k, p, W, h, O, tk, hp, n => absurd (show false = true from h) (by decide)
  | .or_ _, e, X, c, k, p, W, h, O, tk, hp, n => absurd (show false = true from h) (by decide)
  | .not_ _, e, X, c, k, p, W, h, O, tk, hp, n => absurd (show false = true from h) (by decide)
  | .tru _, e, X, c, k, p, W, h, O, tk, hp, n => absurd (show false = true from h) (by decide)
  | .ite _ _ _, e, X, c, k, p, W, h, O, tk, hp, n => absurd (show false = true from h) (by decide)
  | .ix _ _, e, X, c, k, p, W, h, O, tk, hp, n => absurd (show false = true from h) (by decide)
  | .slc _ _ _, e, X, c, k, p, W, h, O, tk, hp, n => absurd (show false = true from h) (by decide)
  | .call _ _ _, e, X, c, k, p, W, h, O, tk, hp, n => absurd (show false = true from h) (by decide)
  | .bi _ _, e, X, c, k, p, W, h, O, tk, hp, n => absurd (show false = true from h) (by decide)
  | .isi _ _, e, X, c, k, p, W, h, O, tk, hp, n => absurd (show false = true from h) (by decide)
  | .comp _ _ _ _ _, e, X, c, k, p, W, h, O, tk, hp, n => absurd (show false = true from h) (by decide)
  | .app _ _, e, X, c, k, p, W, h, O, tk, hp, n => absurd (show false = true from h) (by decide)
  | .popAt _ _, e, X, c, k, p, W, h, O, tk, hp, n => absurd (show false = true from h) (by decide)
  | .pop _, e, X, c, k, p, W, h, O, tk, hp, n => absurd (show false = true from h) (by decide)
  | .split _ _, e, X, c, k, p, W, h, O, tk, hp, n => absurd (show false = true from h) (by decide)
  | .join _ _, e, X, c, k, p, W, h, O, tk, hp, n => absurd (show false = true from h) (by decide)
  | .fstr _, e, X, c, k, p, W, h, O, tk, hp, n => absurd (show false = true from h) (by decide)
  | .fmt _, e, X, c, k, p, W, h, O, tk, hp, n => absurd (show false = true from h) (by decide)
  | .rev _, e, X, c, k, p, W, h, O, tk, hp, n => absurd (show false = true from h) (by decide)
  | .repl _ _ _, e, X, c, k, p, W, h, O, tk, hp, n => absurd (show false = true from h) (by decide)
  | .terr _ _, e, X, c, k, p, W, h, O, tk, hp, n => absurd (show false = true from h) (by decide)
  | .told _ _, e, X, c, k, p, W, h, O, tk, hp, n => absurd (show false = true from h) (by decide)
  | .callV _ _ _, e, X, c, k, p, W, h, O, tk, hp, n => absurd (show false = true from h) (by decide)
  | .seq _, e, X, c, k, p, W, h, O, tk, hp, n => absurd (show false = true from h) (by decide)
  | .rng1 _, e, X, c, k, p, W, h, O, tk, hp, n => absurd (show false = true from h) (by decide)
  | .rng2 _ _, e, X, c, k, p, W, h, O, tk, hp, n => absurd (show false = true from h) (by decide)
  | .tok _ _ _ _, e, X, c, k, p, W, h, O, tk, hp, n => absurd (show false = true from h) (by decide)
theorem sB : ∀ (i : I) (e : List Stmt) {X : Cx} {c : Ct} {k : Nat} {p : P0} {W : WX}, ckB c i e = true → Ok X c k p.T → L2N.Takes X W → PassesOwn (model X.prog X.w) X.A X.env X.xe → Nd (HasX X p.T) (TryX X) k i → DSs X p W e (evB i)
  | .nil, [], X, c, k, p, W, h, O, tk, hp, n => dss_nil
  | .cons a r, e1 :: es, X, c, k, p, W, h, O, tk, hp, n => by
    have h : (ckS c a e1 && ckB c r es) = true := h
    simp only [Bool.and_eq_true] at h
    exact dss_cons (sS a e1 h.1 O tk hp n.1) (sB r es h.2 O tk hp n.2)
  | .nil, _ :: _, X, c, k, p, W, h, O, tk, hp, n => absurd (show false = true from h) (by decide)
  | .cons _ _, [], X, c, k, p, W, h, O, tk, hp, n => absurd (show false = true from h) (by decide)
  | .tok i y a r, [], X, c, k, p, W, h, O, tk, hp, n => absurd (show false = true from h) (by decide)
  | .tok i y a r, st :: ss, X, c, k, p, W, h, O, tk, hp, n => by
    cases st with
    | Assign ts e1 pos =>
      rcases ts with _ | ⟨t, _ | ⟨t2, ts⟩⟩
      · exact absurd (show false = true from h) (by decide)
      · cases t with
        | Name x px =>
          cases e1 with
          | List es lp =>
            cases es with
            | nil => exact absurd (show false = true from h) (by decide)
            | cons e2 es =>
              cases e2 with
              | Constant q j cp =>
                cases q with
                | str z =>
                  have h : (decide (y = z) && decide (c.N[i]? = some x) && locB c.sc x && (fnB c x || lcB c.sc x) && ckA c a es && ckBT c r ss) = true := h
                  simp only [Bool.and_eq_true, decide_eq_true_eq] at h
                  obtain ⟨⟨⟨⟨⟨rfl, h1⟩, h2⟩, h3⟩, h4⟩, h5⟩ := h
                  exact dss_tok (by rw [O.N]; exact O.nd) (by rw [O.N]; exact h1) (O.loc h2) (O.fnl h3) (sA a es h4 O tk n.1) (sBT r ss h5 O tk hp n.2)
                | _ => exact absurd (show false = true from h) (by decide)
              | _ => exact absurd (show false = true from h) (by decide)
          | _ => exact absurd (show false = true from h) (by decide)
        | _ => exact absurd (show false = true from h) (by decide)
      · cases t <;> exact absurd (show false = true from h) (by decide)
    | _ => exact absurd (show false = true from h) (by decide)
  | .var _, e, X, c, k, p, W, h, O, tk, hp, n => absurd (show false = true from h) (by decide)
  | .cst _, e, X, c, k, p, W, h, O, tk, hp, n => absurd (show false = true from h) (by decide)
  | .glo _ _, e, X, c, k, p, W, h, O, tk, hp, n => absurd (show false = true from h) (by decide)
  | .tup _, e, X, c, k, p, W, h, O, tk, hp, n => absurd (show false = true from h) (by decide)
  | .lst _, e, X, c, k, p, W, h, O, tk, hp, n => absurd (show false = true from h) (by decide)
  | .bin _ _ _, e, X, c, k, p, W, h, O, tk, hp, n => absurd (show false = true from h) (by decide)
  | .neg _, e, X, c, k, p, W, h, O, tk, hp, n => absurd (show false = true from h) (by decide)
  | .cmp _ _ _, e, X, c, k, p, W, h, O, tk, hp, n => absurd (show false = true from h) (by decide)
  | .chn _ _ _ _ _, e, X, c, k, p, W, h, O, tk, hp, n => absurd (show false = true from h) (by decide)
  | .and_ _, e, X, c, k, p, W, h, O, tk, hp, n => absurd (show false = true from h) (by decide)
  | .or_ _, e, X, c, k, p, W, h, O, tk, hp, n => absurd (show false = true from h) (by decide)
  | .not_ _, e, X, c, k, p, W, h, O, tk, hp, n => absurd (show false = true from h) (by decide)
  | .tru _, e, X, c, k, p, W, h, O, tk, hp, n => absurd (show false = true from h) (by decide)
  | .ite _ _ _, e, X, c, k, p, W, h, O, tk, hp, n => absurd (show false = true from h) (by decide)
  | .ix _ _, e, X, c, k, p, W, h, O, tk, hp, n => absurd (show false = true from h) (by decide)
  | .slc _ _ _, e, X, c, k, p, W, h, O, tk, hp, n => absurd (show false = true from h) (by decide)
  | .call _ _ _, e, X, c, k, p, W, h, O, tk, hp, n => absurd (show false = true from h) (by decide)
  | .bi _ _, e, X, c, k, p, W, h, O, tk, hp, n => absurd (show false = true from h) (by decide)
  | .isi _ _, e, X, c, k, p, W, h, O, tk, hp, n => absurd (show false = true from h) (by decide)
  | .comp _ _ _ _ _, e, X, c, k, p, W, h, O, tk, hp, n => absurd (show false = true from h) (by decide)
  | .app _ _, e, X, c, k, p, W, h, O, tk, hp, n => absurd (show false = true from h) (by decide)
  | .popAt _ _, e, X, c, k, p, W, h, O, tk, hp, n => absurd (show false = true from h) (by decide)
  | .pop _, e, X, c, k, p, W, h, O, tk, hp, n => absurd (show false = true from h) (by decide)
  | .split _ _, e, X, c, k, p, W, h, O, tk, hp, n => absurd (show false = true from h) (by decide)
  | .join _ _, e, X, c, k, p, W, h, O, tk, hp, n => absurd (show false = true from h) (by decide)
  | .fstr _, e, X, c, k, p, W, h, O, tk, hp, n => absurd (show false = true from h) (by decide)
  | .fmt _, e, X, c, k, p, W, h, O, tk, hp, n => absurd (show false = true from h) (by decide)
  | .rev _, e, X, c, k, p, W, h, O, tk, hp, n => absurd (show false = true from h) (by decide)
  | .repl _ _ _, e, X, c, k, p, W, h, O, tk, hp, n => absurd (show false = true from h) (by decide)
  | .terr _ _, e, X, c, k, p, W, h, O, tk, hp, n => absurd (show false = true from h) (by decide)
  | .told _ _, e, X, c, k, p, W, h, O, tk, hp, n => absurd (show false = true from h) (by decide)
  | .callV _ _ _, e, X, c, k, p, W, h, O, tk, hp, n => absurd (show false = true from h) (by decide)
  | .seq _, e, X, c, k, p, W, h, O, tk, hp, n => absurd (show false = true from h) (by decide)
  | .rng1 _, e, X, c, k, p, W, h, O, tk, hp, n => absurd (show false = true from h) (by decide)
  | .rng2 _ _, e, X, c, k, p, W, h, O, tk, hp, n => absurd (show false = true from h) (by decide)
  | .pass, e, X, c, k, p, W, h, O, tk, hp, n => absurd (show false = true from h) (by decide)
  | .brk, e, X, c, k, p, W, h, O, tk, hp, n => absurd (show false = true from h) (by decide)
  | .cnt, e, X, c, k, p, W, h, O, tk, hp, n => absurd (show false = true from h) (by decide)
  | .expr _, e, X, c, k, p, W, h, O, tk, hp, n => absurd (show false = true from h) (by decide)
  | .ret _, e, X, c, k, p, W, h, O, tk, hp, n => absurd (show false = true from h) (by decide)
  | .ret0, e, X, c, k, p, W, h, O, tk, hp, n => absurd (show false = true from h) (by decide)
  | .sif _ _ _, e, X, c, k, p, W, h, O, tk, hp, n => absurd (show false = true from h) (by decide)
  | .set _ _, e, X, c, k, p, W, h, O, tk, hp, n => absurd (show false = true from h) (by decide)
  | .setLc _ _ _ _ _ _, e, X, c, k, p, W, h, O, tk, hp, n => absurd (show false = true from h) (by decide)
  | .asg _ _, e, X, c, k, p, W, h, O, tk, hp, n => absurd (show false = true from h) (by decide)
  | .par _ _ _ _, e, X, c, k, p, W, h, O, tk, hp, n => absurd (show false = true from h) (by decide)
  | .for_ _ _ _, e, X, c, k, p, W, h, O, tk, hp, n => absurd (show false = true from h) (by decide)
  | .whl _ _, e, X, c, k, p, W, h, O, tk, hp, n => absurd (show false = true from h) (by decide)
  | .raise _, e, X, c, k, p, W, h, O, tk, hp, n => absurd (show false = true from h) (by decide)
theorem sST : ∀ (i : I) (e : Stmt) {X : Cx} {c : Ct} {k : Nat} {p : P0} {W : WX}, ckST c i e = true → Ok X c k p.T → L2N.Takes X W → PassesOwn (model X.prog X.w) X.A X.env X.xe → Nd (HasX X p.T) (TryX X) k i → DST X p W e (evS i)
  | .ret (.repl a y z), e, X, c, k, p, W, h, O, tk, hp, n => by
    cases e with
    | Return v pos =>
      cases v with
      | none => exact absurd (show false = true from h) (by decide)
      | some e1 =>
        cases e1 with
        | Call fe es kws p1 =>
          cases fe with
          | Attribute o m apos =>
            rcases es with _ | ⟨e2, _ | ⟨e3, _ | ⟨e4, es⟩⟩⟩
            · exact absurd (show false = true from h) (by decide)
            · cases e2 <;> first | exact absurd (show false = true from h) (by decide) | (rename_i q _ _; cases q <;> exact absurd (show false = true from h) (by decide))
            · cases e2 with
              | Constant q2 j2 c2 =>
                cases q2 with
                | str y2 =>
                  cases e3 with
                  | Constant q3 j3 c3 =>
                    cases q3 with
                    | str z2 =>
                      cases kws with
                      | cons _ _ => exact absurd (show false = true from h) (by decide)
                      | nil =>
                        have h : (decide (m = "replace") && decide (y = y2) && decide (z = z2) && !(y == z) && baseOk o && (apos.endLine == p1.line) && ckE c a o) = true := h
                        rw [Bool.and_eq_true, Bool.and_eq_true, Bool.and_eq_true, Bool.and_eq_true, Bool.and_eq_true, Bool.and_eq_true] at h
                        obtain ⟨⟨⟨⟨⟨⟨h1, h2⟩, h3⟩, h4⟩, h5⟩, h6⟩, h7⟩ := h
                        obtain rfl := of_decide_eq_true h1
                        obtain rfl := of_decide_eq_true h2
                        obtain rfl := of_decide_eq_true h3
                        have e : evS (.ret (.repl a y z)) = fun s => (bnd (evE a) hold s).bind fun r s1 => (replR y z r s1).bind fun r2 s2 => .ok (.rt r2) s2 := by
                          funext s
                          show (((bnd (evE a) hold s).bind (replR y z)).bind fun r => ret1 (Fl.rt r)) = _
                          rw [bind_assoc]; rfl
                        rw [e]
                        exact dst_retRepl (dh (sE a o h7 O tk n)) (Bool.not_eq_true' _ |>.mp h4) h5 h6
                    | _ => exact absurd (show false = true from h) (by decide)
                  | _ => exact absurd (show false = true from h) (by decide)
                | _ => exact absurd (show false = true from h) (by decide)
              | _ => exact absurd (show false = true from h) (by decide)
            · cases e2 <;> first | exact absurd (show false = true from h) (by decide) | (rename_i q _ _; cases q <;> first | exact absurd (show false = true from h) (by decide) | (cases e3 <;> first | exact absurd (show false = true from h) (by decide) | (rename_i q2 _ _; cases q2 <;> exact absurd (show false = true from h) (by decide))))
          | _ => exact absurd (show false = true from h) (by decide)
        | _ => exact absurd (show false = true from h) (by decide)
    | _ => exact absurd (show false = true from h) (by decide)
  | .sif t a b, e, X, c, k, p, W, h, O, tk, hp, n => by
    cases e with
    | If e1 q1 q2 pos =>
      have h : (ckT c t e1 && ckBT c a q1 && ckBT c b q2) = true := h
      simp only [Bool.and_eq_true] at h
      obtain ⟨⟨h1, h2⟩, h3⟩ := h
      exact dst_if (sT t e1 h1 O tk n.1) (sBT a q1 h2 O tk hp n.2.1) (sBT b q2 h3 O tk hp n.2.2)
    | _ => exact absurd (show false = true from h) (by decide)
  | .ret (.nil), e, X, c, k, p, W, h, O, tk, hp, n => by cases e <;> first | exact absurd (show false = true from h) (by decide) | (rename_i v _; cases v <;> exact absurd (show false = true from h) (by decide))
  | .ret (.cons _ _), e, X, c, k, p, W, h, O, tk, hp, n => by cases e <;> first | exact absurd (show false = true from h) (by decide) | (rename_i v _; cases v <;> exact absurd (show false = true from h) (by decide))
  | .ret (.var _), e, X, c, k, p, W, h, O, tk, hp, n => by cases e <;> first | exact absurd (show false = true from h) (by decide) | (rename_i v _; cases v <;> exact absurd (show false = true from h) (by decide))
  | .ret (.cst _), e, X, c, k, p, W, h, O, tk, hp, n => by cases e <;> first | exact absurd (show false = true from h) (by decide) | (rename_i v _; cases v <;> exact absurd (show false = true from h) (by decide))
  | .ret (.glo _ _), e, X, c, k, p, W, h, O, tk, hp, n => by cases e <;> first | exact absurd (show false = true from h) (by decide) | (rename_i v _; cases v <;> exact absurd (show false = true from h) (by decide))
  | .ret (.tup _), e, X, c, k, p, W, h, O, tk, hp, n => by cases e <;> first | exact absurd (show false = true from h) (by decide) | (rename_i v _; cases v <;> exact absurd (show false = true from h) (by decide))
  | .ret (.lst _), e, X, c, k, p, W, h, O, tk, hp, n => by cases e <;> first | exact absurd (show false = true from h) (by decide) | (rename_i v _; cases v <;> exact absurd (show false = true from h) (by decide))
  | .ret (.bin _ _ _), e, X, c, k, p, W, h, O, tk, hp, n => by cases e <;> first | exact absurd (show false = true from h) (by decide) | (rename_i v _; cases v <;> exact absurd (show false = true from h) (by decide))
  | .ret (.neg _), e, X, c, k, p, W, h, O, tk, hp, n => by cases e <;> first | exact absurd (show false = true from h) (by decide) | (rename_i v _; cases v <;> exact absurd (show false = true from h) (by decide))
  | .ret (.cmp _ _ _), e, X, c, k, p, W, h, O, tk, hp, n => by cases e <;> first | exact absurd (show false = true from h) (by decide) | (rename_i v _; cases v <;> exact absurd (show false = true from h) (by decide))
  | .ret (.chn _ _ _ _ _), e, X, c, k, p, W, h, O, tk, hp, n => by cases e <;> first | exact absurd (show false = true from h) (by decide) | (rename_i v _; cases v <;> exact absurd (show false = true from h) (by decide))
  | .ret (.and_ _), e, X, c, k, p, W, h, O, tk, hp, n => by cases e <;> first | exact absurd (show false = true from h) (by decide) | (rename_i v _; cases v <;> exact absurd (show false = true from h) (by decide))
  | .ret (.or_ _), e, X, c, k, p, W, h, O, tk, hp, n => by cases e <;> first | exact absurd (show false = true from h) (by decide) | (rename_i v _; cases v <;> exact absurd (show false = true from h) (by decide))
  | .ret (.not_ _), e, X, c, k, p, W, h, O, tk, hp, n => by cases e <;> first | exact absurd (show false = true from h) (by decide) | (rename_i v _; cases v <;> exact absurd (show false = true from h) (by decide))
  | .ret (.tru _), e, X, c, k, p, W, h, O, tk, hp, n => by cases e <;> first | exact absurd (show false = true from h) (by decide) | (rename_i v _; cases v <;> exact absurd (show false = true from h) (by decide))
  | .ret (.ite _ _ _), e, X, c, k, p, W, h, O, tk, hp, n => by cases e <;> first | exact absurd (show false = true from h) (by decide) | (rename_i v _; cases v <;> exact absurd (show false = true from h) (by decide))
  | .ret (.ix _ _), e, X, c, k, p, W, h, O, tk, hp, n => by cases e <;> first | exact absurd (show false = true from h) (by decide) | (rename_i v _; cases v <;> exact absurd (show false = true from h) (by decide))
  | .ret (.slc _ _ _), e, X, c, k, p, W, h, O, tk, hp, n => by cases e <;> first | exact absurd (show false = true from h) (by decide) | (rename_i v _; cases v <;> exact absurd (show false = true from h) (by decide))
  | .ret (.call _ _ _), e, X, c, k, p, W, h, O, tk, hp, n => by cases e <;> first | exact absurd (show false = true from h) (by decide) | (rename_i v _; cases v <;> exact absurd (show false = true from h) (by decide))
  | .ret (.bi _ _), e, X, c, k, p, W, h, O, tk, hp, n => by cases e <;> first | exact absurd (show false = true from h) (by decide) | (rename_i v _; cases v <;> exact absurd (show false = true from h) (by decide))
  | .ret (.isi _ _), e, X, c, k, p, W, h, O, tk, hp, n => by cases e <;> first | exact absurd (show false = true from h) (by decide) | (rename_i v _; cases v <;> exact absurd (show false = true from h) (by decide))
  | .ret (.comp _ _ _ _ _), e, X, c, k, p, W, h, O, tk, hp, n => by cases e <;> first | exact absurd (show false = true from h) (by decide) | (rename_i v _; cases v <;> exact absurd (show false = true from h) (by decide))
  | .ret (.app _ _), e, X, c, k, p, W, h, O, tk, hp, n => by cases e <;> first | exact absurd (show false = true from h) (by decide) | (rename_i v _; cases v <;> exact absurd (show false = true from h) (by decide))
  | .ret (.popAt _ _), e, X, c, k, p, W, h, O, tk, hp, n => by cases e <;> first | exact absurd (show false = true from h) (by decide) | (rename_i v _; cases v <;> exact absurd (show false = true from h) (by decide))
  | .ret (.pop _), e, X, c, k, p, W, h, O, tk, hp, n => by cases e <;> first | exact absurd (show false = true from h) (by decide) | (rename_i v _; cases v <;> exact absurd (show false = true from h) (by decide))
  | .ret (.split _ _), e, X, c, k, p, W, h, O, tk, hp, n => by cases e <;> first | exact absurd (show false = true from h) (by decide) | (rename_i v _; cases v <;> exact absurd (show false = true from h) (by decide))
  | .ret (.join _ _), e, X, c, k, p, W, h, O, tk, hp, n => by cases e <;> first | exact absurd (show false = true from h) (by decide) | (rename_i v _; cases v <;> exact absurd (show false = true from h) (by decide))
  | .ret (.fstr _), e, X, c, k, p, W, h, O, tk, hp, n => by cases e <;> first | exact absurd (show false = true from h) (by decide) | (rename_i v _; cases v <;> exact absurd (show false = true from h) (by decide))
  | .ret (.fmt _), e, X, c, k, p, W, h, O, tk, hp, n => by cases e <;> first | exact absurd (show false = true from h) (by decide) | (rename_i v _; cases v <;> exact absurd (show false = true from h) (by decide))
  | .ret (.rev _), e, X, c, k, p, W, h, O, tk, hp, n => by cases e <;> first | exact absurd (show false = true from h) (by decide) | (rename_i v _; cases v <;> exact absurd (show false = true from h) (by decide))
  | .ret (.terr _ _), e, X, c, k, p, W, h, O, tk, hp, n => by cases e <;> first | exact absurd (show false = true from h) (by decide) | (rename_i v _; cases v <;> exact absurd (show false = true from h) (by decide))
  | .ret (.told _ _), e, X, c, k, p, W, h, O, tk, hp, n => by cases e <;> first | exact absurd (show false = true from h) (by decide) | (rename_i v _; cases v <;> exact absurd (show false = true from h) (by decide))
  | .ret (.callV _ _ _), e, X, c, k, p, W, h, O, tk, hp, n => by cases e <;> first | exact absurd (show false = true from h) (by decide) | (rename_i v _; cases v <;> exact absurd (show false = true from h) (by decide))
  | .ret (.seq _), e, X, c, k, p, W, h, O, tk, hp, n => by cases e <;> first | exact absurd (show false = true from h) (by decide) | (rename_i v _; cases v <;> exact absurd (show false = true from h) (by decide))
  | .ret (.rng1 _), e, X, c, k, p, W, h, O, tk, hp, n => by cases e <;> first | exact absurd (show false = true from h) (by decide) | (rename_i v _; cases v <;> exact absurd (show false = true from h) (by decide))
  | .ret (.rng2 _ _), e, X, c, k, p, W, h, O, tk, hp, n => by cases e <;> first | exact absurd (show false = true from h) (by decide) | (rename_i v _; cases v <;> exact absurd (show false = true from h) (by decide))
  | .ret (.pass), e, X, c, k, p, W, h, O, tk, hp, n => by cases e <;> first | exact absurd (show false = true from h) (by decide) | (rename_i v _; cases v <;> exact absurd (show false = true from h) (by decide))
  | .ret (.brk), e, X, c, k, p, W, h, O, tk, hp, n => by cases e <;> first | exact absurd (show false = true from h) (by decide) | (rename_i v _; cases v <;> exact absurd (show false = true from h) (by decide))
  | .ret (.cnt), e, X, c, k, p, W, h, O, tk, hp, n => by cases e <;> first | exact absurd (show false = true from h) (by decide) | (rename_i v _; cases v <;> exact absurd (show false = true from h) (by decide))
  | .ret (.expr _), e, X, c, k, p, W, h, O, tk, hp, n => by cases e <;> first | exact absurd (show false = true from h) (by decide) | (rename_i v _; cases v <;> exact absurd (show false = true from h) (by decide))
  | .ret (.ret _), e, X, c, k, p, W, h, O, tk, hp, n => by cases e <;> first | exact absurd (show false = true from h) (by decide) | (rename_i v _; cases v <;> exact absurd (show false = true from h) (by decide))
  | .ret (.ret0), e, X, c, k, p, W, h, O, tk, hp, n => by cases e <;> first | exact absurd (show false = true from h) (by decide) | (rename_i v _; cases v <;> exact absurd (show false = true from h) (by decide))
  | .ret (.sif _ _ _), e, X, c, k, p, W, h, O, tk, hp, n => by cases e <;> first | exact absurd (show false = true from h) (by decide) | (rename_i v _; cases v <;> exact absurd (show false = true from h) (by decide))
  | .ret (.set _ _), e, X, c, k, p, W, h, O, tk, hp, n => by cases e <;> first | exact absurd (show false = true from h) (by decide) | (rename_i v _; cases v <;> exact absurd (show false = true from h) (by decide))
  | .ret (.setLc _ _ _ _ _ _), e, X, c, k, p, W, h, O, tk, hp, n => by cases e <;> first | exact absurd (show false = true from h) (by decide) | (rename_i v _; cases v <;> exact absurd (show false = true from h) (by decide))
  | .ret (.asg _ _), e, X, c, k, p, W, h, O, tk, hp, n => by cases e <;> first | exact absurd (show false = true from h) (by decide) | (rename_i v _; cases v <;> exact absurd (show false = true from h) (by decide))
  | .ret (.par _ _ _ _), e, X, c, k, p, W, h, O, tk, hp, n => by cases e <;> first | exact absurd (show false = true from h) (by decide) | (rename_i v _; cases v <;> exact absurd (show false = true from h) (by decide))
  | .ret (.for_ _ _ _), e, X, c, k, p, W, h, O, tk, hp, n => by cases e <;> first | exact absurd (show false = true from h) (by decide) | (rename_i v _; cases v <;> exact absurd (show false = true from h) (by decide))
  | .ret (.whl _ _), e, X, c, k, p, W, h, O, tk, hp, n => by cases e <;> first | exact absurd (show false = true from h) (by decide) | (rename_i v _; cases v <;> exact absurd (show false = true from h) (by decide))
  | .ret (.raise _), e, X, c, k, p, W, h, O, tk, hp, n => by cases e <;> first | exact absurd (show false = true from h) (by decide) | (rename_i v _; cases v <;> exact absurd (show false = true from h) (by decide))
  | .ret (.tok _ _ _ _), e, X, c, k, p, W, h, O, tk, hp, n => by cases e <;> first | exact absurd (show false = true from h) (by decide) | (rename_i v _; cases v <;> exact absurd (show false = true from h) (by decide))
  | .nil, e, X, c, k, p, W, h, O, tk, hp, n => absurd (show false = true from h) (by decide)
  | .cons _ _, e, X, c, k, p, W, h, O, tk, hp, n => absurd (show false = true from h) (by decide)
  | .var _, e, X, c, k, p, W, h, O, tk, hp, n => absurd (show false = true from h) (by decide)
  | .cst _, e, X, c, k, p, W, h, O, tk, hp, n => absurd (show false = true from h) (by decide)
  | .glo _ _, e, X, c, k, p, W, h, O, tk, hp, n => absurd (show false = true from h) (by decide)
  | .tup _, e, X, c, k, p, W, h, O, tk, hp, n => absurd (show false = true from h) (by decide)
  | .lst _, e, X, c, k, p, W, h, O, tk, hp, n => absurd (show false = true from h) (by decide)
  | .bin _ _ _, e, X, c, k, p, W, h, O, tk, hp, n => absurd (show false = true from h) (by decide)
  | .neg _, e, X, c, k, p, W, h, O, tk, hp, n => absurd (show false = true from h) (by decide)
  | .cmp _ _ _, e, X, c, k, p, W, h, O, tk, hp, n => absurd (show false = true from h) (by decide)
  | .chn _ _ _ _ _, e, X, c, k, p, W, h, O, tk, hp, n => absurd (show false = true from h) (by decide)
  | .and_ _, e, X, c, k, p, W, h, O, tk, hp, n => absurd (show false = true from h) (by decide)
  | .or_ _, e, X, c, k, p, W, h, O, tk, hp, n => absurd (show false = true from h) (by decide)
  | .not_ _, e, X, c, k, p, W, h, O, tk, hp, n => absurd (show false = true from h) (by decide)
  | .tru _, e, X, c, k, p, W, h, O, tk, hp, n => absurd (show false = true from h) (by decide)
  | .ite _ _ _, e, X, c, k, p, W, h, O, tk, hp, n => absurd (show false = true from h) (by decide)
  | .ix _ _, e, X, c, k, p, W, h, O, tk, hp, n => absurd (show false = true from h) (by decide)
  | .slc _ _ _, e, X, c, k, p, W, h, O, tk, hp, n => absurd (show false = true from h) (by decide)
  | .call _ _ _, e, X, c, k, p, W, h, O, tk, hp, n => absurd (show false = true from h) (by decide)
  | .bi _ _, e, X, c, k, p, W, h, O, tk, hp, n => absurd (show false = true from h) (by decide)
  | .isi _ _, e, X, c, k, p, W, h, O, tk, hp, n => absurd (show false = true from h) (by decide)
  | .comp _ _ _ _ _, e, X, c, k, p, W, h, O, tk, hp, n => absurd (show false = true from h) (by decide)
  | .app _ _, e, X, c, k, p, W, h, O, tk, hp, n => absurd (show false = true from h) (by decide)
  | .popAt _ _, e, X, c, k, p, W, h, O, tk, hp, n => absurd (show false = true from h) (by decide)
  | .pop _, e, X, c, k, p, W, h, O, tk, hp, n => absurd (show false = true from h) (by decide)
  | .split _ _, e, X, c, k, p, W, h, O, tk, hp, n => absurd (show false = true from h) (by decide)
  | .join _ _, e, X, c, k, p, W, h, O, tk, hp, n => absurd (show false = true from h) (by decide)
  | .fstr _, e, X, c, k, p, W, h, O, tk, hp, n => absurd (show false = true from h) (by decide)
  | .fmt _, e, X, c, k, p, W, h, O, tk, hp, n => absurd (show false = true from h) (by decide)
  | .rev _, e, X, c, k, p, W, h, O, tk, hp, n => absurd (show false = true from h) (by decide)
  | .repl _ _ _, e, X, c, k, p, W, h, O, tk, hp, n => absurd (show false = true from h) (by decide)
  | .terr _ _, e, X, c, k, p, W, h, O, tk, hp, n => absurd (show false = true from h) (by decide)
  | .told _ _, e, X, c, k, p, W, h, O, tk, hp, n => absurd (show false = true from h) (by decide)
  | .callV _ _ _, e, X, c, k, p, W, h, O, tk, hp, n => absurd (show false = true from h) (by decide)
  | .seq _, e, X, c, k, p, W, h, O, tk, hp, n => absurd (show false = true from h) (by decide)
  | .rng1 _, e, X, c, k, p, W, h, O, tk, hp, n => absurd (show false = true from h) (by decide)
  | .rng2 _ _, e, X, c, k, p, W, h, O, tk, hp, n => absurd (show false = true from h) (by decide)
  | .pass, e, X, c, k, p, W, h, O, tk, hp, n => absurd (show false = true from h) (by decide)
  | .brk, e, X, c, k, p, W, h, O, tk, hp, n => absurd (show false = true from h) (by decide)
  | .cnt, e, X, c, k, p, W, h, O, tk, hp, n => absurd (show false = true from h) (by decide)
  | .expr _, e, X, c, k, p, W, h, O, tk, hp, n => absurd (show false = true from h) (by decide)
  | .ret0, e, X, c, k, p, W, h, O, tk, hp, n => absurd (show false = true from h) (by decide)
  | .set _ _, e, X, c, k, p, W, h, O, tk, hp, n => absurd (show false = true from h) (by decide)
  | .setLc _ _ _ _ _ _, e, X, c, k, p, W, h, O, tk, hp, n => absurd (show false = true from h) (by decide)
  | .asg _ _, e, X, c, k, p, W, h, O, tk, hp, n => absurd (show false = true from h) (by decide)
  | .par _ _ _ _, e, X, c, k, p, W, h, O, tk, hp, n => absurd (show false = true from h) (by decide)
  | .for_ _ _ _, e, X, c, k, p, W, h, O, tk, hp, n => absurd (show false = true from h) (by decide)
  | .whl _ _, e, X, c, k, p, W, h, O, tk, hp, n => absurd (show false = true from h) (by decide)
  | .raise _, e, X, c, k, p, W, h, O, tk, hp, n => absurd (show false = true from h) (by decide)
  | .tok _ _ _ _, e, X, c, k, p, W, h, O, tk, hp, n => absurd (show false = true from h) (by decide)
theorem sBT : ∀ (i : I) (e : List Stmt) {X : Cx} {c : Ct} {k : Nat} {p : P0} {W : WX}, ckBT c i e = true → Ok X c k p.T → L2N.Takes X W → PassesOwn (model X.prog X.w) X.A X.env X.xe → Nd (HasX X p.T) (TryX X) k i → DSsT X p W e (evB i)
  | .nil, [], X, c, k, p, W, h, O, tk, hp, n => L2.PSsT.of dss_nil
  | .cons a r, e1 :: es, X, c, k, p, W, h, O, tk, hp, n => by
    have h : ((ckS c a e1 || ckST c a e1) && ckBT c r es) = true := h
    simp only [Bool.and_eq_true, Bool.or_eq_true] at h
    exact dsst_cons (h.1.elim (fun q => L2.PST.of (sS a e1 q O tk hp n.1)) fun q => sST a e1 q O tk hp n.1) (sBT r es h.2 O tk hp n.2)
  | .nil, _ :: _, X, c, k, p, W, h, O, tk, hp, n => absurd (show false = true from h) (by decide)
  | .cons _ _, [], X, c, k, p, W, h, O, tk, hp, n => absurd (show false = true from h) (by decide)
  | .var _, e, X, c, k, p, W, h, O, tk, hp, n => absurd (show false = true from h) (by decide)
  | .cst _, e, X, c, k, p, W, h, O, tk, hp, n => absurd (show false = true from h) (by decide)
  | .glo _ _, e, X, c, k, p, W, h, O, tk, hp, n => absurd (show false = true from h) (by decide)
  | .tup _, e, X, c, k, p, W, h, O, tk, hp, n => absurd (show false = true from h) (by decide)
  | .lst _, e, X, c, k, p, W, h, O, tk, hp, n => absurd (show false = true from h) (by decide)
  | .bin _ _ _, e, X, c, k, p, W, h, O, tk, hp, n => absurd (show false = true from h) (by decide)
  | .neg _, e, X, c, k, p, W, h, O, tk, hp, n => absurd (show false = true from h) (by decide)
  | .cmp _ _ _, e, X, c, k, p, W, h, O, tk, hp, n => absurd (show false = true from h) (by decide)
  | .chn _ _ _ _ _, e, X, c, k, p, W, h, O, tk, hp, n => absurd (show false = true from h) (by decide)
  | .and_ _, e, X, c, k, p, W, h, O, tk, hp, n => absurd (show false = true from h) (by decide)
  | .or_ _, e, X, c, k, p, W, h, O, tk, hp, n => absurd (show false = true from h) (by decide)
  | .not_ _, e, X, c, k, p, W, h, O, tk, hp, n => absurd (show false = true from h) (by decide)
  | .tru _, e, X, c, k, p, W, h, O, tk, hp, n => absurd (show false = true from h) (by decide)
  | .ite _ _ _, e, X, c, k, p, W, h, O, tk, hp, n => absurd (show false = true from h) (by decide)
  | .ix _ _, e, X, c, k, p, W, h, O, tk, hp, n => absurd (show false = true from h) (by decide)
  | .slc _ _ _, e, X, c, k, p, W, h, O, tk, hp, n => absurd (show false = true from h) (by decide)
  | .call _ _ _, e, X, c, k, p, W, h, O, tk, hp, n => absurd (show false = true from h) (by decide)
  | .bi _ _, e, X, c, k, p, W, h, O, tk, hp, n => absurd (show false = true from h) (by decide)
  | .isi _ _, e, X, c, k, p, W, h, O, tk, hp, n => absurd (show false = true from h) (by decide)
  | .comp _ _ _ _ _, e, X, c, k, p, W, h, O, tk, hp, n => absurd (show false = true from h) (by decide)
  | .app _ _, e, X, c, k, p, W, h, O, tk, hp, n => absurd (show false = true from h) (by decide)
  | .popAt _ _, e, X, c, k, p, W, h, O, tk, hp, n => absurd (show false = true from h) (by decide)
  | .pop _, e, X, c, k, p, W, h, O, tk, hp, n => absurd (show false = true from h) (by decide)
  | .split _ _, e, X, c, k, p, W, h, O, tk, hp, n => absurd (show false = true from h) (by decide)
  | .join _ _, e, X, c, k, p, W, h, O, tk, hp, n => absurd (show false = true from h) (by decide)
  | .fstr _, e, X, c, k, p, W, h, O, tk, hp, n => absurd (show false = true from h) (by decide)
  | .fmt _, e, X, c, k, p, W, h, O, tk, hp, n => absurd (show false = true from h) (by decide)
  | .rev _, e, X, c, k, p, W, h, O, tk, hp, n => absurd (show false = true from h) (by decide)
  | .repl _ _ _, e, X, c, k, p, W, h, O, tk, hp, n => absurd (show false = true from h) (by decide)
  | .terr _ _, e, X, c, k, p, W, h, O, tk, hp, n => absurd (show false = true from h) (by decide)
  | .told _ _, e, X, c, k, p, W, h, O, tk, hp, n => absurd (show false = true from h) (by decide)
  | .callV _ _ _, e, X, c, k, p, W, h, O, tk, hp, n => absurd (show false = true from h) (by decide)
  | .seq _, e, X, c, k, p, W, h, O, tk, hp, n => absurd (show false = true from h) (by decide)
  | .rng1 _, e, X, c, k, p, W, h, O, tk, hp, n => absurd (show false = true from h) (by decide)
  | .rng2 _ _, e, X, c, k, p, W, h, O, tk, hp, n => absurd (show false = true from h) (by decide)
  | .pass, e, X, c, k, p, W, h, O, tk, hp, n => absurd (show false = true from h) (by decide)
  | .brk, e, X, c, k, p, W, h, O, tk, hp, n => absurd (show false = true from h) (by decide)
  | .cnt, e, X, c, k, p, W, h, O, tk, hp, n => absurd (show false = true from h) (by decide)
  | .expr _, e, X, c, k, p, W, h, O, tk, hp, n => absurd (show false = true from h) (by decide)
  | .ret _, e, X, c, k, p, W, h, O, tk, hp, n => absurd (show false = true from h) (by decide)
  | .ret0, e, X, c, k, p, W, h, O, tk, hp, n => absurd (show false = true from h) (by decide)
  | .sif _ _ _, e, X, c, k, p, W, h, O, tk, hp, n => absurd (show false = true from h) (by decide)
  | .set _ _, e, X, c, k, p, W, h, O, tk, hp, n => absurd (show false = true from h) (by decide)
  | .setLc _ _ _ _ _ _, e, X, c, k, p, W, h, O, tk, hp, n => absurd (show false = true from h) (by decide)
  | .asg _ _, e, X, c, k, p, W, h, O, tk, hp, n => absurd (show false = true from h) (by decide)
  | .par _ _ _ _, e, X, c, k, p, W, h, O, tk, hp, n => absurd (show false = true from h) (by decide)
  | .for_ _ _ _, e, X, c, k, p, W, h, O, tk, hp, n => absurd (show false = true from h) (by decide)
  | .whl _ _, e, X, c, k, p, W, h, O, tk, hp, n => absurd (show false = true from h) (by decide)
  | .raise _, e, X, c, k, p, W, h, O, tk, hp, n => absurd (show false = true from h) (by decide)
  | .tok _ _ _ _, e, X, c, k, p, W, h, O, tk, hp, n => absurd (show false = true from h) (by decide)
end
end AL


set_option Elab.async false
set_option linter.all false
set_option maxRecDepth 100000
set_option maxHeartbeats 1000000
/-! AL19: a def by its code. -/
namespace AL
open PySem PySem.Spec PyProof.Rows L2
/-- what the module's names stand for -/
structure MOk (K : PySem.W.Frag) (mg : Str → Option Value) (md : Md) : Prop where
  free : ∀ x ∈ md.free, mg x = none
  vals : ∀ x d, md.vals.lookup x = some d → ∃ (v : V) (u : Value), mg x = some u ∧ RelV v u ∧ ∀ Hv, Dv K mg Hv v d
  excs : ∀ x ∈ md.excs, ∃ C, PySem.W.excIn K C He.veBase "ValueError.__new__" = true ∧ mg x = some (.ref C) ∧ PySem.W.keepIn K (.ref C) = true ∧ PySem.W.subIn K (.ref C) (.type "BaseException") = some true ∧ PySem.W.typeIn K (.ref C) = some (.type "type")
def isFree (x : Str) : He.Fa → Bool
  | .free y => decide (x = y)
  | _ => false
def isGlo (x : Str) : He.Fa → Bool
  | .glo y => decide (x = y)
  | _ => false
def isExc (x : Str) : He.Fa → Bool
  | .exc y => decide (x = y)
  | _ => false
def isInt (x : Str) (i : Int) : He.Fa → Bool
  | .int y j => decide (x = y) && decide (i = j)
  | _ => false
def valF (fa : List He.Fa) (q : Str × D) : Bool := match q.2 with
  | .int i => fa.any (isInt q.1 i)
  | .fn y => decide (q.1 = y) && fa.any (isGlo q.1)
  | _ => false
def mdB (fa : List He.Fa) (md : Md) : Bool := md.free.all (fun x => fa.any (isFree x)) && md.vals.all (valF fa) && md.excs.all (fun x => fa.any (isExc x) && fa.any (isGlo x))
theorem lookup_mem {x : Str} {d : D} : ∀ {l : List (Str × D)}, l.lookup x = some d → (x, d) ∈ l
  | [], h => by cases h
  | (y, e) :: l, h => by
    rw [List.lookup_cons] at h
    split at h
    · rename_i q
      cases h
      rw [eq_of_beq q]; exact List.mem_cons_self
    · exact List.mem_cons_of_mem _ (lookup_mem h)
theorem MOk.of {K : PySem.W.Frag} {mg : Str → Option Value} {h : Heap} {fa : List He.Fa} {md : Md} (X : K.In h) (G : h.Ns mainGlobals mg) (hf : ∀ f ∈ fa, f.ok K = true) (hb : mdB fa md = true) : MOk K mg md := by
  unfold mdB at hb
  simp only [Bool.and_eq_true, List.all_eq_true] at hb
  obtain ⟨⟨b1, b2⟩, b3⟩ := hb
  have glo : ∀ x, fa.any (isGlo x) = true → mg x = some (.ref (He.ga K x)) := fun x h => by
    obtain ⟨f, hm, e⟩ := List.any_eq_true.mp h
    cases f <;> first | cases e | skip
    obtain rfl := of_decide_eq_true e
    exact He.glo_ok X G (hf _ hm)
  refine ⟨fun x hx => ?_, fun x d hx => ?_, fun x hx => ?_⟩
  · obtain ⟨f, hm, e⟩ := List.any_eq_true.mp (b1 x hx)
    cases f <;> first | cases e | skip
    obtain rfl := of_decide_eq_true e
    exact He.free_ok X G (hf _ hm)
  · have z := b2 _ (lookup_mem hx)
    unfold valF at z
    dsimp only at z
    split at z
    · rename_i i
      obtain ⟨f, hm, e⟩ := List.any_eq_true.mp z
      cases f <;> first | cases e | skip
      have e := (Bool.and_eq_true _ _).mp e
      obtain rfl := of_decide_eq_true e.1
      obtain rfl := of_decide_eq_true e.2
      obtain ⟨t, ht⟩ := He.int_ok X G (hf _ hm)
      exact ⟨.int i, _, ht, ⟨t, rfl⟩, fun _ => .int _⟩
    · rename_i y
      have e := (Bool.and_eq_true _ _).mp z
      obtain rfl := of_decide_eq_true e.1
      have g := glo _ e.2
      exact ⟨.ref _, _, g, rfl, fun _ => .fn g⟩
    · cases z
  · have z := b3 x hx
    obtain ⟨f, hm, e⟩ := List.any_eq_true.mp z.1
    cases f <;> first | cases e | skip
    obtain rfl := of_decide_eq_true e
    obtain ⟨e1, e2, e3, e4⟩ := He.exc_ok (hf _ hm)
    exact ⟨He.ga K x, e1, glo _ z.2, e2, e3, e4⟩
section
variable {P : Program} {w : World} {K : PySem.W.Frag} {mg : Str → Option Value} {base : Heap} {T : List (Addr × Str)}
/-- what the maker of lambdas has -/
def LamAt (K : PySem.W.Frag) (mg : Str → Option Value) (base : Heap) (T : List (Addr × Str)) (qual : Str) (fa : Addr) : Prop := ∀ (oc : Value) (od : Option Addr) (fd : FuncData) (osl : Array (Option Value)), K.lookup fa = some ⟨oc, od, .func fd, osl⟩ →
  ∃ (c P : Addr), fd.code = .ref c ∧ LamX.TabB base mg c P ∧ (P, qual ++ "<lambda>") ∈ T ∧ ∀ p ∈ T, p.1 = P → p.2 = qual ++ "<lambda>"
abbrev HasK (P : Program) (w : World) (K : PySem.W.Frag) (mg : Str → Option Value) (base : Heap) (T : List (Addr × Str)) : Nat → Str → Fs → Prop := fun k y G => Has P w K mg base T k y G
abbrev TryK (P : Program) (w : World) (K : PySem.W.Frag) (mg : Str → Option Value) (base : Heap) : Nat → Str → Bool → Prop := fun k x t => ∃ CS nn, HX.TryFn P w K mg base x t CS nn k ∧ HX.LabOk K mg CS labN
/-- a def by its code -/
theorem fn_def {md : Md} {x : Str} {params : Arguments} {body : List Stmt} {scope : Scope} {fa : Addr} {fd : FuncData} {N ps : List Str} {k : Nat} {m : List Bool} {ir : I} {lm : Bool} (M : MOk K mg md) (F : FunD K x x params body scope [] [] fa fd)
    (S0 : FnScope N ps scope) (hm : m.length = ps.length) (hl : lm = true → LamAt K mg base T (x ++ ".<locals>.") fa) (ck : ckB ⟨md, N, scope, none, lm⟩ ir body = true) (n : Nd (HasK P w K mg base T) (TryK P w K mg base) k ir) : FnOk P w K mg base (L2N.CX P w) (k + 1) fa fd ps (spF K mg T (runF m N.length (evB ir))) := by
  obtain ⟨oc, od, dV, kV, doc, pm, an, cdv, ct, osl, rfl, lk, hcd, _, _⟩ := F.ex
  refine fn_of lk hcd S0 (fun vs H Q E h => ?_) fun A outer s H vs Q E hr hsp => ?_
  · obtain ⟨H0, io, Z, σ, s, rs, W, I, hr, hl, hE, q⟩ := h
    exact hl.trans hm
  · obtain ⟨p, hT, h⟩ := body_of hsp
    subst hT
    refine ⟨_, sB (p := p) (W := fun cls d _ H => E cls d H) ir body ck ⟨rfl, S0.nd, rfl, fun _ => rfl, rfl, hr, M.free, M.vals, fun x hx => ?_, fun h => ?_⟩ ?_ ?_ n, h⟩
    · obtain ⟨C, h1, h2, h3, h4, h5⟩ := M.excs x hx
      exact ⟨C, h1, h2, h3, raises_own h4 h5⟩
    · obtain ⟨c, P, h1, h2, h3, h4⟩ := hl h _ _ _ _ lk
      exact ⟨c, P, h1, h2, h3, h4⟩
    · exact L2N.takes_of rfl rfl rfl rfl
    · exact passes_of rfl
theorem has_def {md : Md} {x : Str} {params : Arguments} {body : List Stmt} {scope : Scope} {fa : Addr} {fd : FuncData} {N ps : List Str} {k : Nat} {m : List Bool} {ir : I} {lm : Bool} (M : MOk K mg md) (F : FunD K x x params body scope [] [] fa fd) (hmg : mg x = some (.ref fa)) (hb : Binds K fd ps [])
    (S0 : FnScope N ps scope) (hm : m.length = ps.length) (hl : lm = true → LamAt K mg base T (x ++ ".<locals>.") fa) (ck : ckB ⟨md, N, scope, none, lm⟩ ir body = true) (n : Nd (HasK P w K mg base T) (TryK P w K mg base) k ir) : Has P w K mg base T (k + 1) x (runF m N.length (evB ir)) :=
  ⟨fa, fd, ps, fn_def M F S0 hm hl ck n, hmg, F.kp, hb⟩
end
end AL


set_option Elab.async false
set_option linter.all false
set_option maxRecDepth 100000
set_option maxHeartbeats 4000000
/-! HX11: what the head's run tells of the own errors. -/
namespace HX
open PySem PySem.Spec PyProof.Rows L2 L2H
def lastComp (b : List Stmt) : Scope := match b.getLast? with
  | some (.Return (some (.Call _ [.ListComp _ _ sc _] _ _)) _) => sc
  | _ => AL.emptySc
def excB (K : PySem.W.Frag) (D : Addr) : Bool :=
  decide (PySem.W.findIn K (.ref D) "__getattribute__" = some (some (.builtin "BaseException.__getattribute__"))) && decide (PySem.W.findIn K (.ref D) "__getattr__" = some none) && decide (PySem.W.subIn K (.ref D) (.type "BaseException") = some true) && PySem.W.hasDictIn K D &&
  decide (PySem.W.findIn K (.ref D) "__class__" = some (some (.builtin "object.__class__"))) && decide (PySem.W.specialIn K (.builtin "object.__class__") "__get__" = some (some (.builtin "getset_descriptor.__get__"))) && decide (PySem.W.takesIn K (.builtin "object.__class__") = some true) && decide (PySem.W.mroIn K D (.type "object") = some true)
theorem excB_ok {K : PySem.W.Frag} {D : Addr} (h : excB K D = true) : ExcC K D := by
  unfold excB at h
  simp only [Bool.and_eq_true, decide_eq_true_eq] at h
  obtain ⟨⟨⟨⟨⟨⟨⟨h1, h2⟩, h3⟩, h4⟩, h5⟩, h6⟩, h7⟩, h8⟩ := h
  exact ⟨h1, h2, h3, h4, h5, h6, h7, h8⟩
def labC (K : PySem.W.Frag) (c : Str) : Bool := excB K (He.ga K c) && decide (PySem.W.kitOne K (.ref (He.ga K c)) (.type "ValueError") = some true) && decide (PySem.W.exmOne K (.ref (He.ga K c)) (.ref (He.ga K "LineError")) = some true) &&
  neC.all fun y => decide (PySem.W.kitOne K (.ref (He.ga K c)) (.ref (He.ga K y)) = some (decide (c = y)))
def labB (K : PySem.W.Frag) : Bool := neC.all (labC K)
def neBs (c : Str) : List Bool := neC.map fun y => decide (c = y)
theorem neT : (neC.all fun c => decide (AL.labN c = some (Txt.join " " (sel (Txt.split neL " ") (neBs c)))) && decide (((sel (Txt.split neL " ") (neBs c)).map (·.length)).sum + (sel (Txt.split neL " ") (neBs c)).length * 1 ≤ 16777216)) = true := by decide +kernel
theorem lookup_fst {x : Str} {r : Str} : ∀ {l : List (Str × Str)}, l.lookup x = some r → x ∈ l.map (·.1)
  | [], h => by cases h
  | (y, e) :: l, h => by
    rw [List.lookup_cons] at h
    split at h
    · rename_i q
      rw [eq_of_beq q]; exact List.mem_cons_self
    · exact List.mem_cons_of_mem _ (lookup_fst h)
theorem labN_mem {c r : Str} (h : AL.labN c = some r) : c ∈ neC := by
  have z := lookup_fst h
  obtain ⟨q, hq, e⟩ := List.mem_map.mp z
  rw [← e]
  exact (List.of_mem_zip (show (q.1, q.2) ∈ neC.zip (Txt.split neL " ") from hq)).1
theorem labOk_of {K : PySem.W.Frag} {mg : Str → Option Value} (hb : labB K = true) (hg : ∀ c ∈ neC, mg c = some (.ref (He.ga K c))) : LabOk K mg (He.ga K "LineError") AL.labN := by
  intro c r h
  have hc := labN_mem h
  have b := List.all_eq_true.mp hb c hc
  unfold labC at b
  simp only [Bool.and_eq_true, decide_eq_true_eq] at b
  obtain ⟨⟨⟨b1, b2⟩, b3⟩, b4⟩ := b
  have t := List.all_eq_true.mp neT c hc
  simp only [Bool.and_eq_true, decide_eq_true_eq] at t
  have er : r = Txt.join " " (sel (Txt.split neL " ") (neBs c)) := by
    have := t.1
    rw [h] at this
    exact Option.some.inj this
  refine ⟨He.ga K c, neBs c, hg c hc, excB_ok b1, b2, b3, by unfold neBs; rw [List.length_map]; rfl, fun j y b hy hj => ?_, er.symm, t.2⟩
  have my : y ∈ neC := List.mem_of_getElem? hy
  have e : (neC.map fun y => decide (c = y))[j]? = some b := hj
  rw [List.getElem?_map, hy] at e
  have e : decide (c = y) = b := Option.some.inj e
  refine ⟨He.ga K y, hg y my, ?_⟩
  have := List.all_eq_true.mp b4 y my
  rw [of_decide_eq_true this, e]
end HX


set_option Elab.async false
set_option linter.all false
set_option maxRecDepth 100000
set_option maxHeartbeats 2000000
/-! HX12: the law's end. -/
namespace HX
open PySem PySem.Spec PyProof.Rows L2 LamX AL
abbrev tabT (K : PySem.W.Frag) (tf : List He.Defn) : List (Addr × Str) := tf.map fun p => ((He.cT K p).2, p.1 ++ ".<locals>." ++ "<lambda>")
def exB (tf : List He.Defn) (K : PySem.W.Frag) : Bool := labB K && decide ((tf.map fun p => (He.cT K p).2).Nodup)
theorem nodup_inj {α β : Type} {f : α → β} : ∀ {l : List α}, (l.map f).Nodup → ∀ a ∈ l, ∀ b ∈ l, f a = f b → a = b
  | [], _, a, ha, _, _, _ => by cases ha
  | x :: l, h, a, ha, b, hb, e => by
    rw [List.map_cons, List.nodup_cons] at h
    rcases List.mem_cons.mp ha with ea | ha1
    · rcases List.mem_cons.mp hb with eb | hb1
      · rw [ea, eb]
      · exact absurd (show f x ∈ l.map f from List.mem_map.mpr ⟨b, hb1, by rw [← e, ea]⟩) h.1
    · rcases List.mem_cons.mp hb with eb | hb1
      · exact absurd (show f x ∈ l.map f from List.mem_map.mpr ⟨a, ha1, by rw [e, eb]⟩) h.1
      · exact nodup_inj h.2 a ha1 b hb1 e
theorem lamAt_of {K : PySem.W.Frag} {mg : Str → Option Value} {base : Heap} {tf : List He.Defn} (hnd : (tf.map fun p => (He.cT K p).2).Nodup) (TB : ∀ p ∈ tf, TabB base mg (He.cT K p).1 (He.cT K p).2) {x : Str} (hx : (x, none) ∈ tf) {pa : Arguments} {bo : List Stmt} {sc : Scope} {fd : FuncData}
    (F : FunD K x x pa bo sc [] [] (He.fAd K (x, none)) fd) : LamAt K mg base (tabT K tf) (x ++ ".<locals>.") (He.fAd K (x, none)) := by
  intro oc od fd' osl lk
  obtain ⟨oc1, od1, dV, kV, doc, pm, an, cdv, ct, osl1, rfl, lk1, hcd, _, _⟩ := F.ex
  rw [lk1] at lk
  have e := Option.some.inj lk
  injection e with _ _ e3 _
  have e3 := Data.func.inj e3
  subst e3
  obtain ⟨c, hc⟩ := He.codeIn_ref hcd
  have hcode : (PySem.W.fnOf x x pa bo sc dV kV doc pm an cdv ct).code = .ref c := hc
  have ec : (He.cT K (x, none)).1 = c := He.codeOf_eq lk1 hcode
  refine ⟨c, (He.cT K (x, none)).2, hcode, by rw [← ec]; exact TB _ hx, List.mem_map.mpr ⟨(x, none), hx, rfl⟩, fun p hp hP => ?_⟩
  obtain ⟨q, hq, rfl⟩ := List.mem_map.mp hp
  have := nodup_inj hnd q hq (x, none) hx hP
  rw [this]
theorem glo_of {K : PySem.W.Frag} {h : Heap} {mg : Str → Option Value} {fa : List He.Fa} (X : K.In h) (G : h.Ns mainGlobals mg) (hf : ∀ f ∈ fa, f.ok K = true) (x : Str) (hx : fa.any (isGlo x) = true) : mg x = some (.ref (He.ga K x)) := by
  obtain ⟨f, hm, e⟩ := List.any_eq_true.mp hx
  cases f <;> first | cases e | skip
  obtain rfl := of_decide_eq_true e
  exact He.glo_ok X G (hf _ hm)
theorem fre_of {K : PySem.W.Frag} {h : Heap} {mg : Str → Option Value} {fa : List He.Fa} (X : K.In h) (G : h.Ns mainGlobals mg) (hf : ∀ f ∈ fa, f.ok K = true) (x : Str) (hx : fa.any (isFree x) = true) : mg x = none := by
  obtain ⟨f, hm, e⟩ := List.any_eq_true.mp hx
  cases f <;> first | cases e | skip
  obtain rfl := of_decide_eq_true e
  exact He.free_ok X G (hf _ hm)
theorem cx_none {P : Program} {w : World} {H : Hp} {s : Shared} {e : Value} {s' : Shared} (h : L2N.CX P w [] H s (fun _ _ _ => False) e s') : False := by
  obtain ⟨_, _, _, _, _, _, _, _, _, _, _, _, z⟩ := h
  exact z
/-- the law's promise: true for every script -/
theorem law_sp {K : PySem.W.Frag} {mg : Str → Option Value} {T : List (Addr × Str)} {F : Fs} {H : Hp} {a : Addr} {ns : List Int} (hio : F.io = [false]) (hF : F.run [.scr ns] = .ret (.sh (.bl true)) []) (hT : Tabs T H) (hS : SqL K H a (ns.map V.int)) : spF K mg T F [.ref a] H (fun v _ => v = .bl true) fun _ _ _ => False := by
  have I : Rel ⟨K, mg, H, [], T, fun _ => false⟩ [] [] none H := by
    refine ⟨rfl, fun i d h => ?_, fun i d h => ?_, fun i j d e a h => ?_, fun i d a h => ?_, fun p hp => ?_, fun i d h => ?_, fun a h => ?_, fun a o h _ => .inl h, hT, fun a h => ?_, fun p hp => ?_⟩
    · simp at h
    · rcases h with h | h <;> simp at h
    · rcases h with h | h <;> simp at h
    · simp at h
    · cases hp
    · simp at h
    · cases h
    · cases h
    · cases hp
  have hv : hid ⟨K, mg, H, [], T, fun _ => false⟩ [] [] none H = H := by
    funext b
    unfold hid ownB
    simp
  have dv : Dv K mg (hid ⟨K, mg, H, [], T, fun _ => false⟩ [] [] none H) (.ref a) (.scr ns) := by rw [hv]; exact .scr hS
  refine ⟨H, [], fun _ => false, [], [], [.sh (.scr ns)], fun _ _ _ _ => False, I, .cons dv .nil, by rw [hio]; rfl, fun _ _ z => z, ?_⟩
  have e : callD F [.sh (.scr ns)] [] = .ok (.sh (.bl true)) [] := by
    unfold callD
    rw [hio]
    show (match F.run [.scr ns] with
      | .ret r ns => if ns.length = 0 then retR r [] (setCells [] ns []) else .bad
      | .exc c ns => if ns.length = 0 then .exc c (setCells [] ns []) else .bad
      | .bad => .bad) = _
    rw [hF]
    rfl
  rw [e]
  intro v H' hr _
  exact bl_of hr.2
end HX


set_option Elab.async false
set_option linter.all false
set_option maxRecDepth 100000
set_option maxHeartbeats 1000000
/-! PL: loops over data, in plain words. -/
namespace AL
open PySem PySem.Spec PyProof.Rows L2
/-- one turn of a comprehension that leaves the names as they were -/
def Turn1 (tgt : D → S → Option S) (tst : S → Res Bool) (elt : S → Res R) (vs : List Nat) (s : S) (d : D) (b : Bool) (y : D) : Prop :=
  ∃ s1, tgt d s = some s1 ∧ ∃ s2, tst s1 = .ok b s2 ∧ (b = false → okW s2 vs = true ∧ wipeS s2 vs = s) ∧ (b = true → ∃ r s3 s4, elt s2 = .ok r s3 ∧ esc r s3 = .ok y s4 ∧ okW s4 vs = true ∧ wipeS s4 vs = s)
theorem compLoop_pure {tgt : D → S → Option S} {tst : S → Res Bool} {elt : S → Res R} {vs : List Nat} {s : S} {q : D → Bool} {g : D → D} : ∀ {ds acc : List D}, (∀ d ∈ ds, Turn1 tgt tst elt vs s d (q d) (g d)) → acc.length + ds.length ≤ sizeLine →
    compLoop tgt tst elt vs ds acc s = .ok (acc ++ (ds.filter q).map g) s
  | [], acc, _, _ => by unfold compLoop; simp
  | d :: ds, acc, h, hl => by
    obtain ⟨s1, e1, s2, e2, h0, h1⟩ := h d List.mem_cons_self
    have hl2 : acc.length + ds.length + 1 ≤ sizeLine := by rw [List.length_cons] at hl; omega
    unfold compLoop
    rw [e1]
    dsimp only
    rw [e2, bind_ok]
    cases hq : q d with
    | false =>
      obtain ⟨k1, k2⟩ := h0 hq
      rw [if_neg Bool.false_ne_true, if_pos k1, k2, compLoop_pure (fun d hd => h d (List.mem_cons_of_mem _ hd)) (by omega)]
      simp [hq]
    | true =>
      obtain ⟨r, s3, s4, k1, k2, k3, k4⟩ := h1 hq
      rw [if_pos rfl, k1, bind_ok, k2, bind_ok, if_pos ⟨k3, by omega⟩, k4, compLoop_pure (fun d hd => h d (List.mem_cons_of_mem _ hd)) (by rw [List.length_append]; simp; omega)]
      simp [hq]
/-- one turn of a for loop, by an invariant -/
theorem forLoop_inv {tgt : D → S → Option S} {body : S → Res Fl} (P : List D → S → Prop) (Q : Res Fl → Prop) (h0 : ∀ s, P [] s → Q (.ok .nx s))
    (hs : ∀ d ds s, P (d :: ds) s → ∃ s1, tgt d s = some s1 ∧ match body s1 with
      | .ok .nx s2 => P ds s2
      | .ok .ct s2 => P ds s2
      | .ok .bk s2 => Q (.ok .nx s2)
      | m => Q m) : ∀ {ds : List D} {s : S}, P ds s → Q (forLoop tgt body ds s)
  | [], s, h => by unfold forLoop; exact h0 s h
  | d :: ds, s, h => by
    obtain ⟨s1, e1, h1⟩ := hs d ds s h
    unfold forLoop
    rw [e1]
    dsimp only
    cases e : body s1 with
    | bad => rw [e] at h1; exact h1
    | exc c s2 => rw [e] at h1; exact h1
    | ok fl s2 =>
      rw [e] at h1
      cases fl with
      | nx => exact forLoop_inv P Q h0 hs h1
      | ct => exact forLoop_inv P Q h0 hs h1
      | bk => exact h1
      | rt r => exact h1
/-- a def without lent objects, called with data -/
theorem escArgs_sh {s : S} : ∀ (ds : List D), escArgs (ds.map fun _ => false) (ds.map R.sh) s = .ok (ds.map some) s
  | [] => rfl
  | d :: ds => by
    show (esc (.sh d) s).bind _ = _
    rw [show esc (.sh d) s = .ok d s from rfl, bind_ok, escArgs_sh ds]
    rfl
theorem ioArgs_sh : ∀ (ds : List D), ioArgs (ds.map fun _ => false) (ds.map R.sh) = some []
  | [] => rfl
  | d :: ds => ioArgs_sh ds
theorem fill_sh : ∀ (ds : List D), AL.fill (ds.map some) [] = ds
  | [] => rfl
  | d :: ds => by show d :: AL.fill (ds.map some) [] = _; rw [fill_sh ds]
theorem callD_sh {F : Fs} {s : S} (ds : List D) (hio : F.io = ds.map fun _ => false) : callD F (ds.map R.sh) s = match F.run ds with
    | .ret r ns => if ns.length = 0 then retR r [] s else .bad
    | .exc c ns => if ns.length = 0 then .exc c s else .bad
    | .bad => .bad := by
  unfold callD
  rw [hio, escArgs_sh, bind_ok, ioArgs_sh]
  dsimp only
  unfold conts
  dsimp only
  rw [fill_sh, if_pos List.nodup_nil]
  cases F.run ds with
  | ret r ns =>
    dsimp only [List.length_nil]
    split
    · rename_i h
      cases ns with
      | nil => rfl
      | cons a b => cases h
    · rfl
  | exc c ns =>
    dsimp only [List.length_nil]
    split
    · rename_i h
      cases ns with
      | nil => rfl
      | cons a b => cases h
    · rfl
  | bad => rfl
end AL


set_option Elab.async false
set_option linter.all false
set_option maxRecDepth 100000
set_option maxHeartbeats 1000000
/-! PV1: the plain reading: names outside M hold shared data only; whether what a call gives is new is not asked. -/
namespace AL
open PySem PySem.Spec PyProof.Rows L2
/-- lists and dicts -/
def heapD : D → Bool
  | .lst _ => true
  | .dct _ _ => true
  | _ => false
theorem heap_obj {d : D} (h : heapD d = true) : isObjD d = false := by cases d <;> first | rfl | cases h
def Out.loose : Out → Out
  | .ret (.fr d) ns => if heapD d = true then .ret (.sh d) ns else .bad
  | o => o
def Fs.loose (F : Fs) : Fs := ⟨F.io, fun ds => (F.run ds).loose⟩
def holdL (r : R) (s : S) : Res R := match r with
  | .fr d => if heapD d = true then .ok (.sh d) s else .bad
  | r => .ok r s
def setM (m : Bool) (i : Nat) (r : R) (s : S) : Res Fl := if m = true then setR i r s else (holdL r s).bind (setR i)
def holdM (m : Bool) (f : S → Res R) : S → Res R := if m = true then f else bnd f holdL
mutual
noncomputable def pvE (M : List Nat) : I → Bool → S → Res R
  | .var i, _ => evVar i
  | .cst d, _ => ret1 (.sh d)
  | .glo _ d, _ => ret1 (.sh d)
  | .tup a, _ => bnd (pvA M a) tupR
  | .lst a, _ => bnd (pvA M a) lstR
  | .bin op a b, _ => bnd (bnd (pvE M a false) hold) fun x => bnd (bnd (pvE M b false) hold) fun y => binD op x y
  | .neg a, _ => bnd (bnd (pvE M a false) hold) negR
  | .cmp op a b, _ => bnd (bnd (pvE M a false) hold) fun x => bnd (bnd (pvE M b false) hold) fun y => cmpD op x y
  | .chn o1 o2 a b c, _ => bnd (bnd (pvE M a false) hold) fun x => bnd (bnd (pvE M b false) hold) fun y => chD o1 o2 x y (bnd (pvE M c false) hold)
  | .and_ a, false => pvAndV M a
  | .or_ a, false => pvOrV M a
  | .not_ a, _ => bnd (bnd (pvE M a false) hold) fun r => bnd (truR r) fun c => ret1 (.sh (.bl (!c)))
  | .ite t a b, st => bnd (pvT M t) fun c => cho c (pvE M a st) (pvE M b st)
  | .ix a b, _ => bnd (bnd (pvE M a false) hold) fun x => bnd (bnd (pvE M b false) hold) fun y => ixD x y
  | .slc a lo hi, _ => bnd (bnd (pvE M a false) hold) fun x => bnd (pvO M lo) fun l => bnd (pvO M hi) fun h => slD x l h
  | .call _ F a, st => bnd (pvA M a) (callD (if st = true then F else F.loose))
  | .bi b a, _ => bnd (pvA M a) b.fn
  | .isi T a, _ => bnd (bnd (pvE M a false) hold) (isiD T)
  | .comp g it ts e own, _ => compD (pvI M it) (evG g) (pvTs M ts) (bnd (pvE M e false) hold) (own.map (·.2))
  | .app o a, _ => bnd (bnd (pvE M o false) hold) fun x => gL x (bnd (bnd (pvE M a false) hold) fun y => mAppend x y)
  | .popAt o a, _ => bnd (bnd (pvE M o false) hold) fun x => gL x (bnd (bnd (pvE M a false) hold) fun y => mPopAt x y)
  | .pop o, _ => bnd (bnd (pvE M o false) hold) mPop
  | .split o a, _ => bnd (bnd (pvE M o false) hold) fun x => gS x (bnd (bnd (pvE M a false) hold) fun y => mSplit x y)
  | .join o a, _ => bnd (bnd (pvE M o false) hold) fun x => gS x (bnd (bnd (pvE M a false) hold) fun y => mJoin x y)
  | .fstr a, _ => bnd (jsD (pvJ M a) Str.empty) fun z => ret1 (.sh (.str z))
  | .fmt a, _ => bnd (bnd (pvE M a false) hold) fmtR
  | .rev a, _ => bnd (bnd (pvE M a false) hold) revR
  | .repl a y z, _ => bnd (bnd (pvE M a false) hold) (replR y z)
  | .terr _ b, _ => aft (HX.terrD labN) (pvE M b false)
  | .told _ b, _ => aft (HX.toldD labN) (pvE M b false)
  | .callV i tab a, false => HX.callVD (fun z => (tab z).map Fs.loose) i (pvA M a)
  | _, _ => fun _ => .bad
noncomputable def pvA (M : List Nat) : I → S → Res (List R)
  | .nil => ret1 []
  | .cons a r => bnd (bnd (pvE M a false) hold) fun x => bnd (pvA M r) fun xs => ret1 (x :: xs)
  | _ => fun _ => .bad
noncomputable def pvJ (M : List Nat) : I → List (S → Res R)
  | .cons a r => bnd (pvE M a false) hold :: pvJ M r
  | _ => []
noncomputable def pvT (M : List Nat) : I → S → Res Bool
  | .tru a => bnd (bnd (pvE M a false) hold) truR
  | .not_ a => bnd (pvT M a) fun c => ret1 (!c)
  | .cmp op a b => bnd (bnd (pvE M a false) hold) fun x => bnd (bnd (pvE M b false) hold) fun y => bnd (cmpD op x y) asB
  | .chn o1 o2 a b c => bnd (bnd (pvE M a false) hold) fun x => bnd (bnd (pvE M b false) hold) fun y => bnd (chD o1 o2 x y (bnd (pvE M c false) hold)) asB
  | .and_ a => pvAnd M a
  | .or_ a => pvOr M a
  | _ => fun _ => .bad
noncomputable def pvAnd (M : List Nat) : I → S → Res Bool
  | .cons a .nil => pvT M a
  | .cons a (.cons b r) => bnd (pvT M a) fun c => stepAnd c (pvAnd M (.cons b r))
  | _ => fun _ => .bad
noncomputable def pvOr (M : List Nat) : I → S → Res Bool
  | .cons a .nil => pvT M a
  | .cons a (.cons b r) => bnd (pvT M a) fun c => stepOr c (pvOr M (.cons b r))
  | _ => fun _ => .bad
noncomputable def pvAndV (M : List Nat) : I → S → Res R
  | .cons a .nil => pvE M a false
  | .cons a (.cons b r) => bnd (bnd (pvE M a false) hold) fun x => bnd (truR x) fun c => stepAndV x c (pvAndV M (.cons b r))
  | _ => fun _ => .bad
noncomputable def pvOrV (M : List Nat) : I → S → Res R
  | .cons a .nil => pvE M a false
  | .cons a (.cons b r) => bnd (bnd (pvE M a false) hold) fun x => bnd (truR x) fun c => stepOrV x c (pvOrV M (.cons b r))
  | _ => fun _ => .bad
noncomputable def pvO (M : List Nat) : I → S → Res (Option Int)
  | .nil => ret1 none
  | .cons a .nil => bnd (bnd (pvE M a false) hold) intR
  | _ => fun _ => .bad
noncomputable def pvI (M : List Nat) : I → S → Res (List D)
  | .seq a => bnd (bnd (pvE M a false) hold) itSeq
  | .rng1 a => bnd (pvA M a) rng1R
  | .rng2 a _ => bnd (pvA M a) rng2R
  | _ => fun _ => .bad
noncomputable def pvTs (M : List Nat) : I → S → Res Bool
  | .nil => ret1 true
  | .cons a .nil => pvT M a
  | _ => fun _ => .bad
noncomputable def pvS (M : List Nat) : I → S → Res Fl
  | .pass => ret1 .nx
  | .brk => ret1 .bk
  | .cnt => ret1 .ct
  | .expr a => bnd (pvE M a false) exprR
  | .ret a => bnd (pvE M a false) fun r => ret1 (.rt r)
  | .ret0 => ret1 (.rt (.sh .non))
  | .sif t a b => bnd (pvT M t) fun c => cho c (pvB M a) (pvB M b)
  | .set i a => bnd (pvE M a (M.contains i)) (setM (M.contains i) i)
  | .setLc i g it ts e own => bnd (compD (pvI M it) (evG g) (pvTs M ts) (bnd (pvE M e false) hold) (own.map (·.2))) (setM (M.contains i) i)
  | .asg g a => bnd (bnd (pvE M a false) hold) (asgR (evG g))
  | .par i j a b => parD i j (holdM (M.contains i) (pvE M a (M.contains i))) (holdM (M.contains j) (pvE M b (M.contains j)))
  | .for_ g it body => forD (pvI M it) (evG g) (pvB M body)
  | .whl t body => whileD (pvT M t) (pvB M body)
  | .raise x => fun s => .exc x s
  | _ => fun _ => .bad
noncomputable def pvB (M : List Nat) : I → S → Res Fl
  | .nil => ret1 .nx
  | .cons a r => seqD (pvS M a) (pvB M r)
  | .tok i y a r => seqD (bnd (bnd (pvA M a) (lstR1 y)) (setM (M.contains i) i)) (pvB M r)
  | _ => fun _ => .bad
end

/-! ### the two readings agree -/
def Er (M : List Nat) (s s' : S) : Prop := ∀ i : Nat, (s[i]? = s'[i]? ∧ (M.contains i = false → ∀ d, s'[i]? ≠ some (some (.ow d)))) ∨ (M.contains i = false ∧ ∃ d, heapD d = true ∧ s[i]? = some (some (.ow d)) ∧ s'[i]? = some (some (.sh d)))
def Ln (s : S) (i : Nat) (d : D) : Prop := s[i]? = some (some (.ow d)) ∨ s[i]? = some (some (.sh d))
def St (M : List Nat) (s t : S) : Prop := t.length = s.length ∧ ∀ i d, M.contains i = false → Ln s i d → Ln t i d
theorem St.refl {M : List Nat} {s : S} : St M s s := ⟨rfl, fun _ _ _ h => h⟩
theorem St.trans {M : List Nat} {s t u : S} (a : St M s t) (b : St M t u) : St M s u := ⟨b.1.trans a.1, fun i d m h => b.2 i d m (a.2 i d m h)⟩
inductive Hd (M : List Nat) (s : S) : R → R → Prop
  | same (r : R) : Hd M s r r
  | vr {i : Nat} {d : D} : M.contains i = false → heapD d = true → Ln s i d → Hd M s (.ob i) (.sh d)
inductive Rr (M : List Nat) (s : S) : R → R → Prop
  | hd {r r' : R} : Hd M s r r' → Rr M s r r'
  | fr {d : D} : heapD d = true → Rr M s (.fr d) (.sh d)
inductive Hds (M : List Nat) (s : S) : List R → List R → Prop
  | nil : Hds M s [] []
  | cons {r r' : R} {rs rs' : List R} : Hd M s r r' → Hds M s rs rs' → Hds M s (r :: rs) (r' :: rs')
theorem Hd.mono {M : List Nat} {s t : S} {r r' : R} (h : Hd M s r r') (l : St M s t) : Hd M t r r' := by
  cases h with
  | same => exact .same _
  | vr a b c => exact .vr a b (l.2 _ _ a c)
theorem Hds.mono {M : List Nat} {s t : S} (l : St M s t) : ∀ {rs rs' : List R}, Hds M s rs rs' → Hds M t rs rs'
  | _, _, .nil => .nil
  | _, _, .cons h hs => .cons (h.mono l) (hs.mono l)
def Eqr {τ : Type} : S → τ → τ → Prop := fun _ a b => a = b
inductive FlR (M : List Nat) (s : S) : Fl → Fl → Prop
  | same (f : Fl) : FlR M s f f
  | rt {r r' : R} : Rr M s r r' → FlR M s (.rt r) (.rt r')
def AgAt (M : List Nat) {τ : Type} (rel : S → τ → τ → Prop) (s : S) (m m' : Res τ) : Prop := match m' with
  | .ok a' t' => ∃ a t, m = .ok a t ∧ Er M t t' ∧ St M s t ∧ rel t a a'
  | .exc c t' => ∃ t, m = .exc c t ∧ Er M t t' ∧ St M s t
  | .bad => True
def Ag (M : List Nat) {τ : Type} (rel : S → τ → τ → Prop) (f g : S → Res τ) : Prop := ∀ s s', Er M s s' → AgAt M rel s (f s) (g s')
section
variable {M : List Nat} {τ υ : Type} {rel : S → τ → τ → Prop} {rel2 : S → υ → υ → Prop} {s s' t t' : S}
theorem AgAt.step (l : St M s t) {m m' : Res τ} (h : AgAt M rel t m m') : AgAt M rel s m m' := by
  cases m' with
  | ok a' t' => obtain ⟨a, u, e, h1, h2, h3⟩ := h; exact ⟨a, u, e, h1, l.trans h2, h3⟩
  | exc c t' => obtain ⟨u, e, h1, h2⟩ := h; exact ⟨u, e, h1, l.trans h2⟩
  | bad => trivial
theorem AgAt.bind {m m' : Res τ} {k k' : τ → S → Res υ} (h : AgAt M rel s m m') (hk : ∀ a a' t t', Er M t t' → St M s t → rel t a a' → AgAt M rel2 t (k a t) (k' a' t')) : AgAt M rel2 s (m.bind k) (m'.bind k') := by
  cases m' with
  | ok a' t' => obtain ⟨a, t, rfl, h1, h2, h3⟩ := h; exact (hk a a' t t' h1 h2 h3).step h2
  | exc c t' => obtain ⟨t, rfl, h1, h2⟩ := h; exact ⟨t, rfl, h1, h2⟩
  | bad => trivial
theorem AgAt.imp {rel' : S → τ → τ → Prop} {m m' : Res τ} (h : AgAt M rel s m m') (hi : ∀ t a a', rel t a a' → rel' t a a') : AgAt M rel' s m m' := by
  cases m' with
  | ok a' t' => obtain ⟨a, t, e, h1, h2, h3⟩ := h; exact ⟨a, t, e, h1, h2, hi _ _ _ h3⟩
  | exc c t' => exact h
  | bad => trivial
theorem ag_ok {a a' : τ} (h : Er M t t') (r : rel t a a') : AgAt M rel t (.ok a t) (.ok a' t') := ⟨a, t, rfl, h, St.refl, r⟩
theorem ag_same {r : R} (h : Er M t t') : AgAt M (Rr M) t (.ok r t) (.ok r t') := ag_ok h (.hd (.same _))
theorem ag_sameH {r : R} (h : Er M t t') : AgAt M (Hd M) t (.ok r t) (.ok r t') := ag_ok h (.same _)
theorem ag_eq {a : τ} (h : Er M t t') : AgAt M Eqr t (.ok a t) (.ok a t') := ag_ok h rfl
theorem ag_bad {m : Res τ} : AgAt M rel s m .bad := trivial
theorem bnd_ag {f g : S → Res τ} {k k' : τ → S → Res υ} (h : Ag M rel f g) (hk : ∀ a a' t t', Er M t t' → rel t a a' → AgAt M rel2 t (k a t) (k' a' t')) : Ag M rel2 (bnd f k) (bnd g k') := fun s s' e => (h s s' e).bind fun a a' t t' h1 _ r => hk a a' t t' h1 r
theorem slot_eq (h : Er M s s') (i : Nat) : slotD s i = slotD s' i := by
  unfold slotD
  rcases h i with ⟨e, _⟩ | ⟨_, d, _, e1, e2⟩
  · rw [e]
  · rw [e1, e2]; rfl
theorem Hd.flat {r : R} {d : D} (k : Hd M s r (.sh d)) (f : heapD d = false) : r = .sh d := by
  cases k with
  | same => rfl
  | vr a b c => rw [f] at b; cases b
theorem Rr.flat {r : R} {d : D} (k : Rr M s r (.sh d)) (f : heapD d = false) : r = .sh d := by
  cases k with
  | hd k => exact k.flat f
  | fr b => rw [f] at b; cases b
theorem Ln.slot {i : Nat} {d : D} (h : Ln s i d) : slotD s i = some d := by
  unfold slotD
  rcases h with h | h <;> rw [h] <;> rfl
theorem peek_er {r r' : R} (h : Er M s s') (k : Hd M s r r') : peek r s = peek r' s' := by
  cases k with
  | same r =>
    cases r with
    | sh d => rfl
    | fr d => rfl
    | ob i => exact slot_eq h i
  | vr a b c => exact c.slot
theorem er_set {i : Nat} {x : Option SV} (h : Er M s s') (hx : M.contains i = false → ∀ d, x ≠ some (.ow d)) : Er M (s.set i x) (s'.set i x) := by
  intro j
  by_cases e : i = j
  · subst e
    have hl : s.length ≤ i ↔ s'.length ≤ i := by
      rcases h i with ⟨e, _⟩ | ⟨_, d, _, e1, e2⟩
      · rw [← List.getElem?_eq_none_iff, ← List.getElem?_eq_none_iff, e]
      · have z1 := (List.getElem?_eq_some_iff.mp e1).1
        have z2 := (List.getElem?_eq_some_iff.mp e2).1
        omega
    left
    rw [List.getElem?_set, List.getElem?_set, if_pos rfl, if_pos rfl]
    by_cases q : i < s.length
    · rw [if_pos q, if_pos (by omega)]
      exact ⟨rfl, fun m d z => hx m d (by simpa using z)⟩
    · rw [if_neg q, if_neg (by omega)]
      exact ⟨rfl, fun m d z => by cases z⟩
  · rw [List.getElem?_set_ne e, List.getElem?_set_ne e]
    exact h j
theorem er_len (h : Er M s s') : s.length = s'.length := by
  have z : ∀ i, s.length ≤ i ↔ s'.length ≤ i := fun i => by
    rcases h i with ⟨e, _⟩ | ⟨_, d, _, e1, e2⟩
    · rw [← List.getElem?_eq_none_iff, ← List.getElem?_eq_none_iff, e]
    · have z1 := (List.getElem?_eq_some_iff.mp e1).1
      have z2 := (List.getElem?_eq_some_iff.mp e2).1
      omega
  have := (z s.length).mp (Nat.le_refl _)
  have := (z s'.length).mpr (Nat.le_refl _)
  omega
/-- a slot that is set to shared data on the side of the machine only -/
theorem er_sh {i : Nat} {d : D} (h : Er M s s') (hs : s[i]? = some (some (.ow d))) (hs' : s'[i]? = some (some (.sh d))) : Er M (s.set i (some (.sh d))) s' := by
  intro j
  by_cases e : i = j
  · subst e
    left
    rw [List.getElem?_set, if_pos rfl, if_pos (List.getElem?_eq_some_iff.mp hs).1, hs']
    exact ⟨rfl, fun _ d z => by cases z⟩
  · rw [List.getElem?_set_ne e]
    exact h j
theorem st_sh {i : Nat} {d : D} (h : Ln s i d) : St M s (s.set i (some (.sh d))) := by
  refine ⟨by rw [List.length_set], fun j e m l => ?_⟩
  by_cases q : i = j
  · subst q
    right
    have hl : i < s.length := by rcases h with h | h <;> exact (List.getElem?_eq_some_iff.mp h).1
    rw [List.getElem?_set, if_pos rfl, if_pos hl]
    have z1 := h.slot
    have z2 := l.slot
    rw [z1] at z2
    cases z2; rfl
  · unfold Ln
    rw [List.getElem?_set_ne q]
    exact l
theorem st_m {i : Nat} {x : Option SV} (h : M.contains i = true) : St M s (s.set i x) := by
  refine ⟨by rw [List.length_set], fun j e m l => ?_⟩
  have q : i ≠ j := fun z => by subst z; rw [h] at m; cases m
  unfold Ln
  rw [List.getElem?_set_ne q]
  exact l
theorem hold_ag {r r' : R} (h : Er M t t') (k : Rr M t r r') : AgAt M (Hd M) t (hold r t) (hold r' t') := by
  cases k with
  | hd k =>
    cases k with
    | same r =>
      cases r with
      | sh d => exact ag_sameH h
      | ob i => exact ag_sameH h
      | fr d =>
        unfold hold
        dsimp only
        split
        · exact ag_bad
        · exact ag_sameH h
    | vr a b c => exact ag_ok h (.vr a b c)
  | fr b =>
    unfold hold
    dsimp only
    rw [if_neg (by rw [heap_obj b]; exact Bool.false_ne_true)]
    exact ag_sameH h
theorem esc_ag {r r' : R} (h : Er M t t') (k : Hd M t r r') : AgAt M Eqr t (esc r t) (esc r' t') := by
  cases k with
  | same r =>
    cases r with
    | sh d => exact ag_eq h
    | fr d => exact ag_bad
    | ob i =>
      unfold esc
      dsimp only
      rcases h i with ⟨e, hm⟩ | ⟨hm, d, ho, e1, e2⟩
      · rw [e]
        split
        · exact ag_eq h
        · rename_i d q
          split
          · exact ag_bad
          · refine ⟨d, _, rfl, er_set h (fun _ _ z => by cases z), ?_, rfl⟩
            rw [← e] at q
            exact st_sh (.inl q)
        · exact ag_bad
      · rw [e1, e2]
        dsimp only
        rw [if_neg (by rw [heap_obj ho]; exact Bool.false_ne_true)]
        exact ⟨d, _, rfl, er_sh h e1 e2, st_sh (.inl e1), rfl⟩
  | @vr i d a b c =>
    unfold esc
    dsimp only
    rcases c with c | c
    · rw [c]
      dsimp only
      rw [if_neg (by rw [heap_obj b]; exact Bool.false_ne_true)]
      rcases h i with ⟨e, hm⟩ | ⟨hm, d2, ho, e1, e2⟩
      · exact absurd (e ▸ c) (hm a d)
      · rw [c] at e1
        cases e1
        exact ⟨d, _, rfl, er_sh h c e2, st_sh (.inl c), rfl⟩
    · rw [c]
      exact ag_eq h
theorem escs_ag : ∀ {rs rs' : List R} {t t' : S}, Er M t t' → Hds M t rs rs' → AgAt M Eqr t (escs rs t) (escs rs' t')
  | _, _, t, t', h, .nil => ag_eq h
  | _, _, t, t', h, .cons k ks => by
    unfold escs
    exact (esc_ag h k).bind fun a a' u u' h1 l e => (escs_ag h1 (ks.mono l)).bind fun b b' v v' h2 l2 e2 => by
      cases e; cases e2
      exact ag_eq h2
end
end AL


set_option Elab.async false
set_option linter.all false
set_option maxRecDepth 100000
set_option maxHeartbeats 1000000
/-! PV2: each operation agrees in both readings. -/
namespace AL
open PySem PySem.Spec PyProof.Rows L2
section
variable {M : List Nat} {s s' t t' : S} {r r' q q' : R} {rs rs' : List R}
theorem binD_ag {op : Operator} (h : Er M t t') (k : Hd M t r r') (k2 : Hd M t q q') : AgAt M Eqr t (binD op r q t) (binD op r' q' t') := by
  unfold binD newLst
  rw [peek_er h k, peek_er h k2]
  split <;> (try split) <;> first | exact ag_eq h | exact ag_bad
theorem cmpD_ag {op : CmpOp} (h : Er M t t') (k : Hd M t r r') (k2 : Hd M t q q') : AgAt M Eqr t (cmpD op r q t) (cmpD op r' q' t') := by
  unfold cmpD
  rw [peek_er h k, peek_er h k2]
  split <;> (try split) <;> first | exact ag_eq h | exact ag_bad
theorem negR_ag (h : Er M t t') (k : Hd M t r r') : AgAt M Eqr t (negR r t) (negR r' t') := by
  unfold negR
  rw [peek_er h k]
  split <;> (try split) <;> first | exact ag_eq h | exact ag_bad
theorem ixD_ag (h : Er M t t') (k : Hd M t r r') (k2 : Hd M t q q') : AgAt M Eqr t (ixD r q t) (ixD r' q' t') := by
  unfold ixD
  rw [peek_er h k, peek_er h k2]
  split <;> (try split) <;> (try split) <;> first | exact ag_eq h | exact ag_bad
theorem slD_ag {lo hi : Option Int} (h : Er M t t') (k : Hd M t r r') : AgAt M Eqr t (slD r lo hi t) (slD r' lo hi t') := by
  unfold slD newLst
  rw [peek_er h k]
  split <;> (try split) <;> (try split) <;> first | exact ag_eq h | exact ag_bad
theorem truR_ag (h : Er M t t') (k : Hd M t r r') : AgAt M Eqr t (truR r t) (truR r' t') := by
  unfold truR
  rw [peek_er h k]
  split <;> first | exact ag_eq h | exact ag_bad
theorem intR_ag (h : Er M t t') (k : Hd M t r r') : AgAt M Eqr t (intR r t) (intR r' t') := by
  unfold intR
  rw [peek_er h k]
  split <;> first | exact ag_eq h | exact ag_bad
theorem asB_ag (h : Er M t t') (k : Rr M t r r') : AgAt M Eqr t (asB r t) (asB r' t') := by
  cases r' with
  | ob i => exact ag_bad
  | fr i => exact ag_bad
  | sh d =>
    cases d with
    | bl x =>
      obtain rfl := k.flat rfl
      exact ag_eq h
    | _ => exact ag_bad
theorem isiD_ag {T : String} (h : Er M t t') (k : Hd M t r r') : AgAt M Eqr t (isiD T r t) (isiD T r' t') := by
  unfold isiD
  rw [peek_er h k]
  split <;> first | exact ag_eq h | exact ag_bad
theorem fmtR_ag (h : Er M t t') (k : Hd M t r r') : AgAt M Eqr t (fmtR r t) (fmtR r' t') := by
  unfold fmtR
  rw [peek_er h k]
  split <;> (try split) <;> first | exact ag_eq h | exact ag_bad
theorem revR_ag (h : Er M t t') (k : Hd M t r r') : AgAt M Eqr t (revR r t) (revR r' t') := by
  unfold revR newLst
  rw [peek_er h k]
  split <;> (try split) <;> first | exact ag_eq h | exact ag_bad
theorem replR_ag {y z : Str} (h : Er M t t') (k : Hd M t r r') : AgAt M Eqr t (replR y z r t) (replR y z r' t') := by
  unfold replR
  rw [peek_er h k]
  split <;> (try split) <;> first | exact ag_eq h | exact ag_bad
theorem bi_ag {b : Bi} (h : Er M t t') (k : Hds M t rs rs') : AgAt M Eqr t (b.fn rs t) (b.fn rs' t') := by
  cases k with
  | nil => cases b <;> exact ag_bad
  | cons k ks =>
    cases ks with
    | nil =>
      cases b <;> unfold Bi.fn <;> dsimp only
      case len => unfold bLen; dsimp only; rw [peek_er h k]; split <;> (try split) <;> first | exact ag_eq h | exact ag_bad
      case int_ => unfold bInt; dsimp only; rw [peek_er h k]; split <;> (try split) <;> (try split) <;> first | exact ag_eq h | exact ag_bad
      case bool_ => unfold bBool; dsimp only; rw [peek_er h k]; split <;> (try split) <;> first | exact ag_eq h | exact ag_bad
      case str_ => unfold bStr; dsimp only; rw [peek_er h k]; split <;> (try split) <;> first | exact ag_eq h | exact ag_bad
      case tuple_ => unfold bTuple; dsimp only; rw [peek_er h k]; split <;> (try split) <;> first | exact ag_eq h | exact ag_bad
      case list_ => unfold bList newLst; dsimp only; rw [peek_er h k]; split <;> (try split) <;> first | exact ag_eq h | exact ag_bad
      case sum_ => unfold bSum lstOf; dsimp only; rw [peek_er h k]; split <;> (try split) <;> first | exact ag_eq h | exact ag_bad
      case max_ => unfold bMax lstOf; dsimp only; rw [peek_er h k]; split <;> (try split) <;> first | exact ag_eq h | exact ag_bad
      case min_ => unfold bMin lstOf; dsimp only; rw [peek_er h k]; split <;> (try split) <;> first | exact ag_eq h | exact ag_bad
      case all_ => unfold bAll lstOf; dsimp only; rw [peek_er h k]; split <;> (try split) <;> first | exact ag_eq h | exact ag_bad
      case any_ => unfold bAny lstOf; dsimp only; rw [peek_er h k]; split <;> (try split) <;> first | exact ag_eq h | exact ag_bad
    | cons k2 ks =>
      cases ks with
      | nil =>
        cases b <;> unfold Bi.fn <;> dsimp only
        case max_ => unfold bMax; dsimp only; rw [peek_er h k, peek_er h k2]; split <;> (try split) <;> first | exact ag_eq h | exact ag_bad
        all_goals exact ag_bad
      | cons k3 ks => cases b <;> exact ag_bad
theorem itSeq_ag (h : Er M t t') (k : Hd M t r r') : AgAt M Eqr t (itSeq r t) (itSeq r' t') := by
  unfold itSeq
  refine (esc_ag h k).bind fun a a' u u' h1 l e => ?_
  cases e
  split <;> first | exact ag_eq h1 | exact ag_bad
theorem itRng_ag (h : Er M t t') (k : Hds M t rs rs') : AgAt M Eqr t (itRng rs t) (itRng rs' t') := by
  cases k with
  | nil => exact ag_bad
  | cons k ks =>
    cases ks with
    | nil => unfold itRng; dsimp only; rw [peek_er h k]; split <;> (try split) <;> first | exact ag_eq h | exact ag_bad
    | cons k2 ks =>
      cases ks with
      | nil => unfold itRng; dsimp only; rw [peek_er h k, peek_er h k2]; split <;> (try split) <;> first | exact ag_eq h | exact ag_bad
      | cons k3 ks => exact ag_bad
theorem rng1_ag (h : Er M t t') (k : Hds M t rs rs') : AgAt M Eqr t (rng1R rs t) (rng1R rs' t') := by
  cases k with
  | nil => exact ag_bad
  | cons k ks =>
    cases ks with
    | nil => exact itRng_ag h (.cons k .nil)
    | cons k2 ks => exact ag_bad
theorem rng2_ag (h : Er M t t') (k : Hds M t rs rs') : AgAt M Eqr t (rng2R rs t) (rng2R rs' t') := by
  cases k with
  | nil => exact ag_bad
  | cons k ks =>
    cases ks with
    | nil => exact ag_bad
    | cons k2 ks =>
      cases ks with
      | nil => exact itRng_ag h (.cons k (.cons k2 .nil))
      | cons k3 ks => exact ag_bad
theorem tupR_ag (h : Er M t t') (k : Hds M t rs rs') : AgAt M Eqr t (tupR rs t) (tupR rs' t') := by
  unfold tupR
  refine (escs_ag h k).bind fun a a' u u' h1 l e => ?_
  cases e
  split <;> first | exact ag_eq h1 | exact ag_bad
theorem lstR_ag (h : Er M t t') (k : Hds M t rs rs') : AgAt M Eqr t (lstR rs t) (lstR rs' t') := by
  unfold lstR newLst
  refine (escs_ag h k).bind fun a a' u u' h1 l e => ?_
  cases e
  split <;> first | exact ag_eq h1 | exact ag_bad
/-- what objects of one's own hold, on both sides -/
theorem er_own {i : Nat} {x : SV} (h : Er M t t') (e : t'[i]? = some (some x)) (hx : ∀ d, x ≠ .sh d) : t[i]? = some (some x) ∧ ((∃ d, x = .io d) ∨ M.contains i = true) := by
  rcases h i with ⟨e1, hm⟩ | ⟨_, d, _, _, e2⟩
  · refine ⟨e1.trans e, ?_⟩
    cases x with
    | sh d => exact absurd rfl (hx d)
    | io d => exact .inl ⟨d, rfl⟩
    | ow d =>
      right
      cases c : M.contains i with
      | true => rfl
      | false => exact absurd e (hm c d)
  · rw [e] at e2; cases e2; exact absurd rfl (hx d)
theorem reSV_ag {i : Nat} {x : SV} {d : D} (h : Er M t t') (e : t'[i]? = some (some x)) (hx : ∀ d, x ≠ .sh d) : Er M (reSV t i d) (reSV t' i d) ∧ St M t (reSV t i d) := by
  obtain ⟨e1, hm⟩ := er_own h e hx
  unfold reSV
  rw [e1, e]
  cases x with
  | sh d => exact absurd rfl (hx d)
  | io c =>
    dsimp only
    refine ⟨er_set h (fun _ _ z => nomatch z), by rw [List.length_set], fun j c2 m l => ?_⟩
    have q : i ≠ j := fun z => by subst z; rcases l with l | l <;> rw [l] at e1 <;> cases e1
    unfold Ln
    rw [List.getElem?_set_ne q]
    exact l
  | ow c =>
    dsimp only
    rcases hm with ⟨_, z⟩ | hm
    · cases z
    · exact ⟨er_set h (fun m => absurd (hm.symm.trans m) (by decide)), st_m hm⟩
theorem ownL_ag {i : Nat} {ds : List D} (h : Er M t t') (e : ownL t' i = some ds) : ownL t i = some ds ∧ ∃ x, t'[i]? = some (some x) ∧ ∀ d, x ≠ .sh d := by
  unfold ownL at e ⊢
  split at e
  · rename_i ds' e1
    cases e
    obtain ⟨e2, _⟩ := er_own h e1 (fun d z => by cases z)
    rw [e2]
    exact ⟨rfl, _, e1, fun d z => by cases z⟩
  · rename_i ds' e1
    cases e
    obtain ⟨e2, _⟩ := er_own h e1 (fun d z => by cases z)
    rw [e2]
    exact ⟨rfl, _, e1, fun d z => by cases z⟩
  · cases e
theorem mAppend_ag (h : Er M t t') (k : Hd M t r r') (k2 : Hd M t q q') : AgAt M Eqr t (mAppend r q t) (mAppend r' q' t') := by
  cases k with
  | vr => exact ag_bad
  | same r =>
    unfold mAppend
    split
    · rename_i i
      refine (esc_ag h k2).bind fun a a' u u' h1 l e => ?_
      cases e
      cases e2 : ownL u' i with
      | none => exact ag_bad
      | some ds =>
        obtain ⟨e3, x, e4, e5⟩ := ownL_ag h1 e2
        rw [e3]
        dsimp only
        split
        · obtain ⟨z1, z2⟩ := reSV_ag h1 e4 e5 (d := .lst (ds ++ [a]))
          exact ⟨_, _, rfl, z1, z2, rfl⟩
        · exact ag_bad
    · exact ag_bad
theorem mPopAt_ag (h : Er M t t') (k : Hd M t r r') (k2 : Hd M t q q') : AgAt M Eqr t (mPopAt r q t) (mPopAt r' q' t') := by
  cases k with
  | vr => exact ag_bad
  | same r =>
    unfold mPopAt
    split
    · rename_i i
      rw [peek_er h k2]
      split
      · cases e2 : ownL t' i with
        | none => exact ag_bad
        | some ds =>
          obtain ⟨e3, x, e4, e5⟩ := ownL_ag h e2
          rw [e3]
          dsimp only
          split
          · split
            · rename_i j _
              split
              · obtain ⟨z1, z2⟩ := reSV_ag h e4 e5 (d := .lst (ds.eraseIdx j))
                exact ⟨_, _, rfl, z1, z2, rfl⟩
              · exact ag_bad
            · exact ag_bad
          · exact ag_bad
      · exact ag_bad
    · exact ag_bad
theorem mPop_ag (h : Er M t t') (k : Hd M t r r') : AgAt M Eqr t (mPop r t) (mPop r' t') := by
  cases k with
  | vr => exact ag_bad
  | same r =>
    unfold mPop
    split
    · rename_i i
      cases e2 : ownL t' i with
      | none => exact ag_bad
      | some ds =>
        obtain ⟨e3, x, e4, e5⟩ := ownL_ag h e2
        rw [e3]
        dsimp only
        split
        · obtain ⟨z1, z2⟩ := reSV_ag h e4 e5 (d := .lst ds.dropLast)
          exact ⟨_, _, rfl, z1, z2, rfl⟩
        · exact ag_bad
    · exact ag_bad
theorem isLst_ag (h : Er M t t') (k : Hd M t r r') : isLst r t = isLst r' t' := by
  unfold isLst
  rw [peek_er h k]
theorem mSplit_ag (h : Er M t t') (k : Hd M t r r') (k2 : Hd M t q q') : AgAt M Eqr t (mSplit r q t) (mSplit r' q' t') := by
  unfold mSplit newLst
  rw [peek_er h k2]
  cases r' with
  | ob i => exact ag_bad
  | fr i => exact ag_bad
  | sh d =>
    cases d with
    | str x =>
      obtain rfl := k.flat rfl
      dsimp only
      split <;> (try split) <;> (try split) <;> first | exact ag_eq h | exact ag_bad
    | _ => exact ag_bad
theorem mJoin_ag (h : Er M t t') (k : Hd M t r r') (k2 : Hd M t q q') : AgAt M Eqr t (mJoin r q t) (mJoin r' q' t') := by
  unfold mJoin lstOf
  rw [peek_er h k2]
  cases r' with
  | ob i => exact ag_bad
  | fr i => exact ag_bad
  | sh d =>
    cases d with
    | str x =>
      obtain rfl := k.flat rfl
      dsimp only
      split <;> (try split) <;> (try split) <;> first | exact ag_eq h | exact ag_bad
    | _ => exact ag_bad
theorem gS_ag {g g' : S → Res R} (h : Er M t t') (k : Hd M t r r') (hg : AgAt M Eqr t (g t) (g' t')) : AgAt M Eqr t (gS r g t) (gS r' g' t') := by
  unfold gS
  cases r' with
  | ob i => rw [if_neg (show ¬ isStr (.ob i) = true from Bool.false_ne_true)]; exact ag_bad
  | fr i => rw [if_neg (show ¬ isStr (.fr i) = true from Bool.false_ne_true)]; exact ag_bad
  | sh d =>
    cases d with
    | str x =>
      obtain rfl := k.flat rfl
      exact hg
    | _ => exact ag_bad
theorem gL_ag {g g' : S → Res R} (h : Er M t t') (k : Hd M t r r') (hg : AgAt M Eqr t (g t) (g' t')) : AgAt M Eqr t (gL r g t) (gL r' g' t') := by
  unfold gL
  rw [isLst_ag h k]
  split
  · exact hg
  · exact ag_bad
end
end AL


set_option Elab.async false
set_option linter.all false
set_option maxRecDepth 100000
set_option maxHeartbeats 1000000
/-! PV3: calls, targets, comprehensions, loops in both readings. -/
namespace AL
open PySem PySem.Spec PyProof.Rows L2
section
variable {M : List Nat} {s s' t t' : S} {r r' q q' : R} {rs rs' : List R}
/-! ### calls -/
theorem escArgs_ag : ∀ {m : List Bool} {rs rs' : List R} {t t' : S}, Er M t t' → Hds M t rs rs' → AgAt M Eqr t (escArgs m rs t) (escArgs m rs' t')
  | [], _, _, t, t', h, .nil => ag_eq h
  | true :: m, _, _, t, t', h, .cons k ks => by
    unfold escArgs
    exact (escArgs_ag h ks).bind fun a a' u u' h1 l e => by cases e; exact ag_eq h1
  | false :: m, _, _, t, t', h, .cons k ks => by
    unfold escArgs
    exact (esc_ag h k).bind fun a a' u u' h1 l e => (escArgs_ag h1 (ks.mono l)).bind fun b b' v v' h2 l2 e2 => by
      cases e; cases e2
      exact ag_eq h2
  | [], _, _, t, t', h, .cons k ks => by unfold escArgs; exact ag_bad
  | true :: m, _, _, t, t', h, .nil => by unfold escArgs; exact ag_bad
  | false :: m, _, _, t, t', h, .nil => by unfold escArgs; exact ag_bad
theorem ioArgs_ag : ∀ {m : List Bool} {rs rs' : List R} {ks : List Nat}, Hds M t rs rs' → ioArgs m rs' = some ks → ioArgs m rs = some ks
  | [], _, _, _, _, e => e
  | true :: m, _, _, ks, .nil, e => by cases e
  | false :: m, _, _, ks, .nil, e => by cases e
  | true :: m, _, _, ks, .cons (r := r) (r' := r') k hs, e => by
    cases r' with
    | sh d => cases e
    | fr d => cases e
    | ob i =>
      cases k
      have e : (ioArgs m _).map (i :: ·) = some ks := e
      obtain ⟨js, e1, rfl⟩ := Option.map_eq_some_iff.mp e
      show (ioArgs m _).map (i :: ·) = _
      rw [ioArgs_ag hs e1]; rfl
  | false :: m, _, _, ks, .cons k hs, e => ioArgs_ag (m := m) hs e
theorem conts_ag (h : Er M t t') : ∀ {ks : List Nat} {cs : List D}, conts t' ks = some cs → conts t ks = some cs ∧ ∀ k ∈ ks, ∃ x, t'[k]? = some (some x) ∧ ∀ d, x ≠ .sh d
  | [], _, e => ⟨e, fun k hk => by cases hk⟩
  | k :: ks, cs, e => by
    unfold conts at e ⊢
    split at e
    · rename_i d ds e1 e2
      cases e
      obtain ⟨e3, _⟩ := er_own h e1 (fun d z => by cases z)
      obtain ⟨e4, h4⟩ := conts_ag h e2
      rw [e3, e4]
      refine ⟨rfl, fun j hj => ?_⟩
      rcases List.mem_cons.mp hj with rfl | hj
      · exact ⟨_, e1, fun d z => by cases z⟩
      · exact h4 j hj
    · rename_i d ds e1 e2
      cases e
      obtain ⟨e3, _⟩ := er_own h e1 (fun d z => by cases z)
      obtain ⟨e4, h4⟩ := conts_ag h e2
      rw [e3, e4]
      refine ⟨rfl, fun j hj => ?_⟩
      rcases List.mem_cons.mp hj with rfl | hj
      · exact ⟨_, e1, fun d z => by cases z⟩
      · exact h4 j hj
    · cases e
theorem reSV_own {i k : Nat} {d : D} {x : SV} (e : s[k]? = some (some x)) (hx : ∀ d, x ≠ .sh d) : ∃ y, (reSV s i d)[k]? = some (some y) ∧ ∀ d, y ≠ .sh d := by
  unfold reSV
  split
  · by_cases q : i = k
    · subst q
      rw [List.getElem?_set, if_pos rfl, if_pos (List.getElem?_eq_some_iff.mp e).1]
      exact ⟨_, rfl, fun d z => by cases z⟩
    · rw [List.getElem?_set_ne q]; exact ⟨x, e, hx⟩
  · by_cases q : i = k
    · subst q
      rw [List.getElem?_set, if_pos rfl, if_pos (List.getElem?_eq_some_iff.mp e).1]
      exact ⟨_, rfl, fun d z => by cases z⟩
    · rw [List.getElem?_set_ne q]; exact ⟨x, e, hx⟩
  · exact ⟨x, e, hx⟩
theorem setCells_ag : ∀ {ks : List Nat} {ns : List D} {t t' : S}, Er M t t' → (∀ k ∈ ks, ∃ x, t'[k]? = some (some x) ∧ ∀ d, x ≠ .sh d) → Er M (setCells ks ns t) (setCells ks ns t') ∧ St M t (setCells ks ns t)
  | [], ns, t, t', h, _ => ⟨h, St.refl⟩
  | k :: ks, [], t, t', h, _ => ⟨h, St.refl⟩
  | k :: ks, n :: ns, t, t', h, hk => by
    obtain ⟨x, e, hx⟩ := hk k List.mem_cons_self
    obtain ⟨h1, l1⟩ := reSV_ag (d := n) h e hx
    obtain ⟨h2, l2⟩ := setCells_ag (ks := ks) (ns := ns) h1 fun j hj => by
      obtain ⟨y, e1, hy⟩ := hk j (List.mem_cons_of_mem _ hj)
      exact reSV_own e1 hy
    exact ⟨h2, l1.trans l2⟩
/-- relation of results by whether a call is asked for what is new -/
def Rs (M : List Nat) : Bool → S → R → R → Prop
  | true => Hd M
  | false => Rr M
theorem Rs.same {st : Bool} {a b : R} (e : Eqr t a b) : Rs M st t a b := by
  cases e
  cases st
  · exact Rr.hd (Hd.same _)
  · exact Hd.same _
theorem callD_ag {F : Fs} {b : Bool} (h : Er M t t') (k : Hds M t rs rs') : AgAt M (Rs M b) t (callD F rs t) (callD (if b = true then F else F.loose) rs' t') := by
  have hio : (if b = true then F else F.loose).io = F.io := by cases b <;> rfl
  unfold callD
  rw [hio]
  refine (escArgs_ag h k).bind fun a a' u u' h1 l e => ?_
  cases e
  cases e1 : ioArgs F.io rs' with
  | none => exact ag_bad
  | some ks =>
    rw [ioArgs_ag k e1]
    dsimp only
    cases e2 : conts u' ks with
    | none => exact ag_bad
    | some cs =>
      obtain ⟨e3, hk⟩ := conts_ag h1 e2
      rw [e3]
      dsimp only
      split
      · cases b with
        | true =>
          rw [if_pos rfl]
          cases F.run (fill a cs) with
          | bad => exact ag_bad
          | exc c ns =>
            dsimp only
            split
            · exact ⟨_, rfl, (setCells_ag h1 hk).1, (setCells_ag h1 hk).2⟩
            · exact ag_bad
          | ret x ns =>
            dsimp only
            split
            · unfold retR
              cases x with
              | sh d => exact ⟨_, _, rfl, (setCells_ag h1 hk).1, (setCells_ag h1 hk).2, Hd.same _⟩
              | fr d => exact ⟨_, _, rfl, (setCells_ag h1 hk).1, (setCells_ag h1 hk).2, Hd.same _⟩
              | io j =>
                dsimp only
                split
                · exact ⟨_, _, rfl, (setCells_ag h1 hk).1, (setCells_ag h1 hk).2, Hd.same _⟩
                · exact ag_bad
            · exact ag_bad
        | false =>
          rw [if_neg Bool.false_ne_true]
          show AgAt M (Rs M false) u _ (match (F.run (fill a cs)).loose with
            | .ret r ns => if ns.length = ks.length then retR r ks (setCells ks ns u') else .bad
            | .exc c ns => if ns.length = ks.length then .exc c (setCells ks ns u') else .bad
            | .bad => .bad)
          cases F.run (fill a cs) with
          | bad => exact ag_bad
          | exc c ns =>
            unfold Out.loose
            dsimp only
            split
            · exact ⟨_, rfl, (setCells_ag h1 hk).1, (setCells_ag h1 hk).2⟩
            · exact ag_bad
          | ret x ns =>
            cases x with
            | sh d =>
              unfold Out.loose
              dsimp only
              split
              · exact ⟨_, _, rfl, (setCells_ag h1 hk).1, (setCells_ag h1 hk).2, Rr.hd (Hd.same _)⟩
              · exact ag_bad
            | io j =>
              unfold Out.loose
              dsimp only
              split
              · unfold retR
                dsimp only
                split
                · exact ⟨_, _, rfl, (setCells_ag h1 hk).1, (setCells_ag h1 hk).2, Rr.hd (Hd.same _)⟩
                · exact ag_bad
              · exact ag_bad
            | fr d =>
              unfold Out.loose
              dsimp only
              cases hd : heapD d with
              | false => rw [if_neg Bool.false_ne_true]; exact ag_bad
              | true =>
                rw [if_pos rfl]
                dsimp only
                split
                · exact ⟨_, _, rfl, (setCells_ag h1 hk).1, (setCells_ag h1 hk).2, Rr.fr hd⟩
                · exact ag_bad
      · exact ag_bad
theorem callVD_ag {tab : Str → Option Fs} {i : Nat} {f g : S → Res (List R)} (hf : Ag M (Hds M) f g) : Ag M (Rr M) (HX.callVD tab i f) (HX.callVD (fun z => (tab z).map Fs.loose) i g) := by
  intro s s' h
  unfold HX.callVD
  rcases h i with ⟨e, _⟩ | ⟨_, d, ho, e1, e2⟩
  · rw [e]
    split
    · rename_i z _
      cases e0 : tab z with
      | none => simp only [e0]; exact ag_bad
      | some F =>
        simp only [e0, Option.map]
        exact (hf s s' h).bind fun a a' u u' h1 l k => callD_ag (b := false) h1 k
    · exact ag_bad
  · rw [e1, e2]
    cases d with
    | lst xs => exact ag_bad
    | dct xs ys => exact ag_bad
    | _ => cases ho
/-! ### targets -/
/-- targets store alike -/
def Eg (N vs : List Nat) (f : S → Option S) (g : S → Option S) : Prop := ∀ s s' t', Er N s s' → g s' = some t' → ∃ t, f s = some t ∧ Er N t t' ∧ St (N ++ vs) s t
theorem er_io {i : Nat} {d : D} (h : Er M s s') : s[i]? = some (some (.io d)) ↔ s'[i]? = some (some (.io d)) := by
  rcases h i with ⟨e, _⟩ | ⟨_, d, _, e1, e2⟩
  · rw [e]
  · rw [e1, e2]; simp
theorem st_off {N vs : List Nat} {i : Nat} {x : Option SV} (h : vs.contains i = true) : St (N ++ vs) s (s.set i x) := st_m (by rw [List.contains_eq_mem] at h ⊢; simp at h ⊢; exact .inr h)
theorem setV_ag {N vs : List Nat} {i : Nat} {d : D} (hv : vs.contains i = true) : Eg N vs (setV i d) (setV i d) := by
  intro s s' t' h e
  unfold setV at e ⊢
  split at e
  · cases e
  · rename_i x hn e1
    cases e
    have e2 : ∃ y, s[i]? = some y := by
      rcases h i with ⟨e2, _⟩ | ⟨_, d, _, e2, e3⟩
      · rw [e2, e1]; exact ⟨_, rfl⟩
      · rw [e2]; exact ⟨_, rfl⟩
    obtain ⟨y, e2⟩ := e2
    have hy : ∀ d, y ≠ some (.io d) := fun d z => by
      subst z
      have z := (er_io h).mp e2
      rw [e1] at z
      exact hn d (Option.some.inj z)
    refine ⟨s.set i (some (.sh d)), ?_, er_set h (fun _ _ z => by cases z), st_off hv⟩
    rw [e2]
    cases y with
    | none => rfl
    | some y =>
      cases y with
      | io d => exact absurd rfl (hy d)
      | sh d => rfl
      | ow d => rfl
  · cases e
theorem evG_ag {N vs : List Nat} : ∀ (g : I), (slots g).all vs.contains = true → (∀ d, Eg N vs (evG g d) (evG g d)) ∧ (∀ ds, Eg N vs (evGs g ds) (evGs g ds)) := by
  intro g
  induction g with
  | var i => exact fun h => ⟨fun d => setV_ag (by simpa [slots] using h), fun ds s s' t' _ e => (nomatch e)⟩
  | tup a ih =>
    intro h
    refine ⟨fun d s s' t' hh e => ?_, fun ds s s' t' _ e => (nomatch e)⟩
    have e : tgTup (cntI a) (evGs a) d s' = some t' := e
    show ∃ t, tgTup (cntI a) (evGs a) d s = some t ∧ _
    unfold tgTup at e ⊢
    cases d with
    | tup ds =>
      dsimp only at e ⊢
      split at e
      · rename_i c
        obtain ⟨t, k1, k2⟩ := (ih h).2 ds s s' t' hh e
        exact ⟨t, by rw [if_pos c]; exact k1, k2⟩
      · cases e
    | _ => cases e
  | nil =>
    intro h
    refine ⟨fun d s s' t' _ e => (nomatch e), fun ds s s' t' hh e => ?_⟩
    have e : tgNil ds s' = some t' := e
    show ∃ t, tgNil ds s = some t ∧ _
    unfold tgNil at e ⊢
    split at e
    · rename_i c
      cases e
      exact ⟨s, by rw [if_pos c], hh, St.refl⟩
    · cases e
  | cons a r iha ihr =>
    intro h
    rw [slots, List.all_append, Bool.and_eq_true] at h
    refine ⟨fun d s s' t' _ e => (nomatch e), fun ds s s' t' hh e => ?_⟩
    have e : tgCons (evG a) (evGs r) ds s' = some t' := e
    show ∃ t, tgCons (evG a) (evGs r) ds s = some t ∧ _
    unfold tgCons at e ⊢
    cases ds with
    | nil => cases e
    | cons d ds =>
      obtain ⟨u', e1, e2⟩ := Option.bind_eq_some_iff.mp e
      obtain ⟨u, k1, k2, k3⟩ := (iha h.1).1 d s s' u' hh e1
      obtain ⟨t, k4, k5, k6⟩ := (ihr h.2).2 ds u u' t' k2 e2
      exact ⟨t, by dsimp only; rw [k1]; exact k4, k5, k3.trans k6⟩
  | _ => exact fun h => ⟨fun d s s' t' _ e => (nomatch e), fun ds s s' t' _ e => (nomatch e)⟩
/-! ### comprehensions -/
theorem er_wipe : ∀ {vs : List Nat} {s s' : S}, Er M s s' → Er M (wipeS s vs) (wipeS s' vs)
  | [], _, _, h => h
  | v :: vs, _, _, h => er_set (er_wipe h) (fun _ _ z => by cases z)
theorem wipe_get {s : S} {i : Nat} : ∀ {vs : List Nat}, i ∉ vs → (wipeS s vs)[i]? = s[i]?
  | [], _ => rfl
  | v :: vs, h => by
    have h1 : v ≠ i := fun z => h (z ▸ List.mem_cons_self)
    show ((wipeS s vs).set v none)[i]? = _
    rw [List.getElem?_set_ne h1]
    exact wipe_get fun z => h (List.mem_cons_of_mem _ z)
theorem wipe_in {s : S} {i : Nat} : ∀ {vs : List Nat}, i ∈ vs → (wipeS s vs)[i]? = none ∨ (wipeS s vs)[i]? = some none
  | [], h => by cases h
  | v :: vs, h => by
    show ((wipeS s vs).set v none)[i]? = none ∨ ((wipeS s vs).set v none)[i]? = some none
    rw [List.getElem?_set]
    split
    · split
      · exact .inr rfl
      · exact .inl rfl
    · rename_i q
      rcases List.mem_cons.mp h with e | h
      · exact absurd e.symm q
      · exact wipe_in h
theorem wipe_len {s : S} : ∀ {vs : List Nat}, (wipeS s vs).length = s.length
  | [] => rfl
  | v :: vs => by show ((wipeS s vs).set v none).length = _; rw [List.length_set, wipe_len]
theorem con_app {N vs : List Nat} {i : Nat} : (N ++ vs).contains i = false ↔ N.contains i = false ∧ i ∉ vs := by
  rw [List.contains_eq_mem, List.contains_eq_mem]
  simp
theorem er_in {N vs : List Nat} (h : Er N s s') : Er (N ++ vs) (wipeS s vs) (wipeS s' vs) := by
  intro i
  by_cases q : i ∈ vs
  · left
    have hl := er_len h
    refine ⟨?_, fun m => absurd q (con_app.mp m).2⟩
    rcases wipe_in (s := s) q with a | a <;> rcases wipe_in (s := s') q with b | b
    · rw [a, b]
    · have z1 := List.getElem?_eq_none_iff.mp a
      have z2 := (List.getElem?_eq_some_iff.mp b).1
      rw [wipe_len] at z1 z2; omega
    · have z1 := List.getElem?_eq_none_iff.mp b
      have z2 := (List.getElem?_eq_some_iff.mp a).1
      rw [wipe_len] at z1 z2; omega
    · rw [a, b]
  · rw [wipe_get q, wipe_get q]
    rcases h i with ⟨e, hm⟩ | ⟨m, z⟩
    · exact .inl ⟨e, fun m => hm (con_app.mp m).1⟩
    · exact .inr ⟨con_app.mpr ⟨m, q⟩, z⟩
theorem rest_get {s0 s1 : S} {i : Nat} : ∀ {vs : List Nat}, i ∉ vs → (restS s0 s1 vs)[i]? = s1[i]?
  | [], _ => rfl
  | v :: vs, h => by
    have h1 : v ≠ i := fun z => h (z ▸ List.mem_cons_self)
    show ((restS s0 s1 vs).set v _)[i]? = _
    rw [List.getElem?_set_ne h1]
    exact rest_get fun z => h (List.mem_cons_of_mem _ z)
theorem rest_len {s0 s1 : S} : ∀ {vs : List Nat}, (restS s0 s1 vs).length = s1.length
  | [] => rfl
  | v :: vs => by show ((restS s0 s1 vs).set v _).length = _; rw [List.length_set, rest_len]
theorem rest_in {s0 s1 : S} {i : Nat} (hl : s0.length = s1.length) : ∀ {vs : List Nat}, i ∈ vs → (restS s0 s1 vs)[i]? = s0[i]?
  | [], h => by cases h
  | v :: vs, h => by
    show ((restS s0 s1 vs).set v _)[i]? = _
    rw [List.getElem?_set]
    split
    · rename_i q
      subst q
      rw [rest_len]
      by_cases c : v < s1.length
      · rw [if_pos c]
        have c2 : v < s0.length := by omega
        rw [List.getElem?_eq_getElem c2]; rfl
      · rw [if_neg c, List.getElem?_eq_none (by omega)]
    · rename_i q
      rcases List.mem_cons.mp h with e | h
      · exact absurd e.symm q
      · exact rest_in hl h
theorem er_out {N vs : List Nat} {s0 s0' s1 s1' : S} (h0 : Er N s0 s0') (h1 : Er (N ++ vs) s1 s1') (l0 : s0.length = s1.length) (l1 : s0'.length = s1'.length) : Er N (restS s0 s1 vs) (restS s0' s1' vs) := by
  intro i
  by_cases q : i ∈ vs
  · rw [rest_in l0 q, rest_in l1 q]
    exact h0 i
  · rw [rest_get q, rest_get q]
    rcases h1 i with ⟨e, hm⟩ | ⟨m, z⟩
    · exact .inl ⟨e, fun m => hm (con_app.mpr ⟨m, q⟩)⟩
    · exact .inr ⟨(con_app.mp m).1, z⟩
theorem okW_er {N vs : List Nat} (h : Er (N ++ vs) s s') : okW s vs = okW s' vs := by
  unfold okW
  rw [Bool.eq_iff_iff, List.all_eq_true, List.all_eq_true]
  have z : ∀ i ∈ vs, s[i]? = s'[i]? := fun i hi => by
    rcases h i with ⟨e, _⟩ | ⟨m, _⟩
    · exact e
    · exact absurd hi (con_app.mp m).2
  constructor
  · intro a i hi; rw [← z i hi]; exact a i hi
  · intro a i hi; rw [z i hi]; exact a i hi
theorem St.wipe {N vs : List Nat} : St (N ++ vs) s (wipeS s vs) := ⟨wipe_len, fun i d m l => by
  unfold Ln
  rw [wipe_get (con_app.mp m).2]
  exact l⟩
theorem St.more {N vs : List Nat} (h : St N s t) : St (N ++ vs) s t := ⟨h.1, fun i d m l => h.2 i d (con_app.mp m).1 l⟩
theorem er_wipe2 {N vs : List Nat} (h : Er (N ++ vs) s s') : Er (N ++ vs) (wipeS s vs) (wipeS s' vs) := er_wipe h
theorem comp_ag {N vs : List Nat} {tgt : D → S → Option S} {tst tst' : S → Res Bool} {elt elt' : S → Res R} (hg : ∀ d, Eg (N ++ vs) vs (tgt d) (tgt d)) (ht : Ag (N ++ vs) Eqr tst tst') (he : Ag (N ++ vs) (Hd (N ++ vs)) elt elt') :
    ∀ {ds acc : List D} {s s' : S}, Er (N ++ vs) s s' → ∀ ys t', compLoop tgt tst' elt' vs ds acc s' = .ok ys t' → ∃ t, compLoop tgt tst elt vs ds acc s = .ok ys t ∧ Er (N ++ vs) t t' ∧ St (N ++ vs) s t
  | [], acc, s, s', h, ys, t', e => by
    unfold compLoop at e ⊢
    cases e
    exact ⟨s, rfl, h, St.refl⟩
  | d :: ds, acc, s, s', h, ys, t', e => by
    unfold compLoop at e ⊢
    cases e1 : tgt d s' with
    | none => rw [e1] at e; cases e
    | some s1' =>
      obtain ⟨s1, k1, h1, l1⟩ := hg d s s' s1' h e1
      rw [e1] at e
      rw [k1]
      dsimp only at e ⊢
      have l1 : St (N ++ vs) s s1 := ⟨l1.1, fun i d m l => l1.2 i d (con_app.mpr ⟨m, (con_app.mp m).2⟩) l⟩
      have z := ht s1 s1' h1
      cases e2 : tst' s1' with
      | bad => rw [e2] at e; cases e
      | exc c u => rw [e2] at e; cases e
      | ok b s2' =>
        rw [e2] at z e
        obtain ⟨b2, s2, k2, h2, l2, eb⟩ := z
        cases eb
        rw [k2]
        simp only [bind_ok] at e ⊢
        cases b with
        | false =>
          simp only [Bool.false_eq_true, if_false] at e ⊢
          rw [okW_er h2]
          by_cases c : okW s2' vs = true
          · rw [if_pos c] at e ⊢
            obtain ⟨t, k3, h3, l3⟩ := comp_ag hg ht he (ds := ds) (acc := acc) (er_wipe2 h2) ys t' e
            exact ⟨t, k3, h3, ((l1.trans l2).trans St.wipe).trans l3⟩
          · rw [if_neg c] at e; cases e
        | true =>
          simp only [if_true] at e ⊢
          have z := he s2 s2' h2
          cases e3 : elt' s2' with
          | bad => rw [e3] at e; cases e
          | exc c u => rw [e3] at e; cases e
          | ok r s3' =>
            rw [e3] at z e
            obtain ⟨r2, s3, k3, h3, l3, hr⟩ := z
            rw [k3]
            simp only [bind_ok] at e ⊢
            have z := esc_ag h3 hr
            cases e4 : esc r s3' with
            | bad => rw [e4] at e; cases e
            | exc c u => rw [e4] at e; cases e
            | ok y s4' =>
              rw [e4] at z e
              obtain ⟨y2, s4, k4, h4, l4, ey⟩ := z
              cases ey
              rw [k4]
              simp only [bind_ok] at e ⊢
              rw [okW_er h4]
              by_cases c : okW s4' vs = true ∧ acc.length < sizeLine
              · rw [if_pos c] at e ⊢
                obtain ⟨t, k3, h3, l5⟩ := comp_ag hg ht he (ds := ds) (acc := acc ++ [y]) (er_wipe2 h4) ys t' e
                exact ⟨t, k3, h3, ((((l1.trans l2).trans l3).trans l4).trans St.wipe).trans l5⟩
              · rw [if_neg c] at e; cases e
theorem okW_sub {N vs : List Nat} (h : Er N s s') (hv : ∀ i ∈ vs, N.contains i = true) : okW s vs = okW s' vs := by
  unfold okW
  rw [Bool.eq_iff_iff, List.all_eq_true, List.all_eq_true]
  have z : ∀ i ∈ vs, s[i]? = s'[i]? := fun i hi => by
    rcases h i with ⟨e, _⟩ | ⟨m, _⟩
    · exact e
    · rw [hv i hi] at m; cases m
  constructor
  · intro a i hi; rw [← z i hi]; exact a i hi
  · intro a i hi; rw [z i hi]; exact a i hi
theorem compD_ag {N vs : List Nat} {it it' : S → Res (List D)} {tgt : D → S → Option S} {tst tst' : S → Res Bool} {elt elt' : S → Res R} (hv : ∀ i ∈ vs, N.contains i = true) (hi : Ag N Eqr it it') (hg : ∀ d, Eg (N ++ vs) vs (tgt d) (tgt d)) (ht : Ag (N ++ vs) Eqr tst tst') (he : Ag (N ++ vs) (Hd (N ++ vs)) elt elt') :
    Ag N Eqr (compD it tgt tst elt vs) (compD it' tgt tst' elt' vs) := by
  intro s s' h
  unfold compD
  refine (hi s s' h).bind fun a a' u u' h1 l1 ea => ?_
  cases ea
  rw [okW_sub h1 hv]
  by_cases c : okW u' vs = true
  · rw [if_pos c, if_pos c]
    cases e : compLoop tgt tst' elt' vs a [] (wipeS u' vs) with
    | bad => exact ag_bad
    | exc c v => exact ag_bad
    | ok ys t' =>
      obtain ⟨t, k, h2, l2⟩ := comp_ag hg ht he (er_in h1) ys t' e
      rw [k]
      have lt := l2.1
      rw [wipe_len] at lt
      have lt' : u'.length = t'.length := by rw [← er_len h2, lt, er_len h1]
      refine ⟨_, _, rfl, er_out (vs := vs) h1 h2 lt.symm lt', ⟨rest_len.trans lt, fun i d m l => ?_⟩, rfl⟩
      have q : i ∉ vs := fun z => by rw [hv i z] at m; cases m
      unfold Ln
      rw [rest_get q]
      refine l2.2 i d (con_app.mpr ⟨m, q⟩) ?_
      unfold Ln
      rw [wipe_get q]
      exact l
  · rw [if_neg c, if_neg c]; exact ag_bad
/-! ### f-strings, errors told -/
theorem jsD_ag : ∀ {fs gs : List (S → Res R)} (h : fs.length = gs.length) (hh : ∀ p ∈ fs.zip gs, Ag M (Hd M) p.1 p.2) {acc : Str} {s s' : S}, Er M s s' → AgAt M Eqr s (jsD fs acc s) (jsD gs acc s')
  | [], [], _, _, acc, s, s', h => ag_eq h
  | f :: fs, [], h, _, _, _, _, _ => by cases h
  | [], g :: gs, h, _, _, _, _, _ => by cases h
  | f :: fs, g :: gs, hl, hh, acc, s, s', h => by
    unfold jsD
    refine (hh (f, g) (by simp) s s' h).bind fun a a' u u' h1 l1 k => ?_
    cases a' with
    | ob i => exact ag_bad
    | fr d => exact ag_bad
    | sh d =>
      cases d with
      | str y =>
        obtain rfl := k.flat rfl
        dsimp only
        split
        · exact jsD_ag (by simpa using hl) (fun p hp => hh p (by rw [List.zip_cons_cons]; exact List.mem_cons_of_mem _ hp)) h1
        · exact ag_bad
      | _ => exact ag_bad
theorem terr_ag {lab : Str → Option Str} {f g : S → Res R} (hf : Ag M (Rr M) f g) : Ag M Eqr (aft (HX.terrD lab) f) (aft (HX.terrD lab) g) := by
  intro s s' h
  unfold aft
  have z := hf s s' h
  cases e : g s' with
  | bad => exact ag_bad
  | ok a t' =>
    rw [e] at z
    obtain ⟨a2, t, k, h1, l1, _⟩ := z
    rw [k]
    exact ⟨_, _, rfl, h1, l1, rfl⟩
  | exc c t' =>
    rw [e] at z
    obtain ⟨t, k, h1, l1⟩ := z
    rw [k]
    unfold HX.terrD
    dsimp only
    split
    · exact ⟨_, _, rfl, h1, l1, rfl⟩
    · exact ag_bad
theorem told_ag {lab : Str → Option Str} {f g : S → Res R} (hf : Ag M (Rr M) f g) : Ag M Eqr (aft (HX.toldD lab) f) (aft (HX.toldD lab) g) := by
  intro s s' h
  unfold aft
  have z := hf s s' h
  cases e : g s' with
  | bad => exact ag_bad
  | ok a t' =>
    rw [e] at z
    obtain ⟨a2, t, k, h1, l1, hr⟩ := z
    rw [k]
    unfold HX.toldD
    dsimp only
    refine AgAt.step l1 ((hold_ag h1 hr).bind fun b b' u u' h2 l2 k2 => (esc_ag h2 k2).bind fun d d' v v' h3 l3 k3 => ?_)
    cases k3
    exact ag_eq h3
  | exc c t' =>
    rw [e] at z
    obtain ⟨t, k, h1, l1⟩ := z
    rw [k]
    unfold HX.toldD
    dsimp only
    split
    · exact ⟨_, _, rfl, h1, l1, rfl⟩
    · exact ag_bad
theorem chD_ag {o1 o2 : CmpOp} {f g : S → Res R} (h : Er M t t') (k : Hd M t r r') (k2 : Hd M t q q') (hf : Ag M (Hd M) f g) : AgAt M Eqr t (chD o1 o2 r q f t) (chD o1 o2 r' q' g t') := by
  unfold chD
  refine (cmpD_ag h k k2).bind fun a a' u u' h1 l1 k3 => (asB_ag h1 (.hd (k3 ▸ .same _))).bind fun b b' v v' h2 l2 k4 => ?_
  cases k4
  split
  · exact (hf v v' h2).bind fun w w' x x' h3 l3 k5 => cmpD_ag h3 ((k2.mono (l1.trans l2)).mono l3) k5
  · exact ag_eq h2
/-! ### statements: loops, stores -/
/-- statements agree: no value is held beside them -/
def AgS (M : List Nat) (f g : S → Res Fl) : Prop := ∀ s s', Er M s s' → match g s' with
  | .ok a' t' => ∃ a t, f s = .ok a t ∧ Er M t t' ∧ FlR M t a a'
  | .exc c t' => ∃ t, f s = .exc c t ∧ Er M t t'
  | .bad => True
theorem forLoop_ag {tgt : D → S → Option S} {f g : S → Res Fl} (hg : ∀ d s s' t', Er M s s' → tgt d s' = some t' → ∃ t, tgt d s = some t ∧ Er M t t') (hb : AgS M f g) : ∀ {ds : List D}, AgS M (forLoop tgt f ds) (forLoop tgt g ds)
  | [], s, s', h => ⟨_, _, rfl, h, .same _⟩
  | d :: ds, s, s', h => by
    unfold forLoop
    cases e1 : tgt d s' with
    | none => trivial
    | some s1' =>
      obtain ⟨s1, k1, h1⟩ := hg d s s' s1' h e1
      rw [k1]
      dsimp only
      have z := hb s1 s1' h1
      cases e2 : g s1' with
      | bad => trivial
      | exc c u =>
        rw [e2] at z
        obtain ⟨u2, k2, h2⟩ := z
        rw [k2]
        exact ⟨_, rfl, h2⟩
      | ok fl u =>
        rw [e2] at z
        obtain ⟨fl2, u2, k2, h2, hfl⟩ := z
        rw [k2]
        cases hfl with
        | same fl =>
          cases fl with
          | nx => exact forLoop_ag hg hb _ _ h2
          | ct => exact forLoop_ag hg hb _ _ h2
          | bk => exact ⟨_, _, rfl, h2, .same _⟩
          | rt r => exact ⟨_, _, rfl, h2, .same _⟩
        | rt k => exact ⟨_, _, rfl, h2, .rt k⟩
theorem whileLoop_ag {a b : S → Res Bool} {f g : S → Res Fl} (ha : Ag M Eqr a b) (hb : AgS M f g) : ∀ {n : Nat}, AgS M (whileLoop a f n) (whileLoop b g n)
  | 0, s, s', h => trivial
  | n + 1, s, s', h => by
    unfold whileLoop
    have z := ha s s' h
    cases e1 : b s' with
    | bad => trivial
    | exc c u =>
      rw [e1] at z
      obtain ⟨u2, k2, h2, _⟩ := z
      rw [k2]
      exact ⟨_, rfl, h2⟩
    | ok c s1' =>
      rw [e1] at z
      obtain ⟨c2, s1, k1, h1, _, ec⟩ := z
      cases ec
      rw [k1]
      simp only [bind_ok]
      cases c with
      | false => exact ⟨_, _, rfl, h1, .same _⟩
      | true =>
        simp only [if_true]
        have z := hb s1 s1' h1
        cases e2 : g s1' with
        | bad => trivial
        | exc c u =>
          rw [e2] at z
          obtain ⟨u2, k2, h2⟩ := z
          rw [k2]
          exact ⟨_, rfl, h2⟩
        | ok fl u =>
          rw [e2] at z
          obtain ⟨fl2, u2, k2, h2, hfl⟩ := z
          rw [k2]
          cases hfl with
          | same fl =>
            cases fl with
            | nx => exact whileLoop_ag ha hb _ _ h2
            | ct => exact whileLoop_ag ha hb _ _ h2
            | bk => exact ⟨_, _, rfl, h2, .same _⟩
            | rt r => exact ⟨_, _, rfl, h2, .same _⟩
          | rt k => exact ⟨_, _, rfl, h2, .rt k⟩
theorem whileD_ag {a b : S → Res Bool} {f g : S → Res Fl} (ha : Ag M Eqr a b) (hb : AgS M f g) : AgS M (whileD a f) (whileD b g) := by
  intro s s' h
  by_cases ex : ∃ n, (whileLoop b g n s').fine
  · obtain ⟨n, hn⟩ := ex
    rw [whileD_eq n rfl hn]
    have z := whileLoop_ag ha hb (n := n) s s' h
    cases e : whileLoop b g n s' with
    | bad => trivial
    | exc c u =>
      rw [e] at z
      obtain ⟨u2, k2, h2⟩ := z
      exact ⟨u2, whileD_eq n k2 trivial, h2⟩
    | ok fl u =>
      rw [e] at z
      obtain ⟨fl2, u2, k2, h2, hfl⟩ := z
      exact ⟨fl2, u2, whileD_eq n k2 trivial, h2, hfl⟩
  · unfold whileD
    rw [dif_neg ex]
    trivial
theorem seqD_ag {f f2 g g2 : S → Res Fl} (hf : AgS M f g) (hf2 : AgS M f2 g2) : AgS M (seqD f f2) (seqD g g2) := by
  intro s s' h
  unfold seqD
  have z := hf s s' h
  cases e2 : g s' with
  | bad => trivial
  | exc c u =>
    rw [e2] at z
    obtain ⟨u2, k2, h2⟩ := z
    rw [k2]
    exact ⟨_, rfl, h2⟩
  | ok fl u =>
    rw [e2] at z
    obtain ⟨fl2, u2, k2, h2, hfl⟩ := z
    rw [k2]
    cases hfl with
    | same fl =>
      cases fl with
      | nx => exact hf2 _ _ h2
      | ct => exact ⟨_, _, rfl, h2, .same _⟩
      | bk => exact ⟨_, _, rfl, h2, .same _⟩
      | rt r => exact ⟨_, _, rfl, h2, .same _⟩
    | rt k => exact ⟨_, _, rfl, h2, .rt k⟩
/-- an expression, then a statement -/
theorem bnd_agS {τ : Type} {rel : S → τ → τ → Prop} {f g : S → Res τ} {k k' : τ → S → Res Fl} (hf : Ag M rel f g) (hk : ∀ a a' t t', Er M t t' → rel t a a' → match k' a' t' with
      | .ok a' t' => ∃ b u, k a t = .ok b u ∧ Er M u t' ∧ FlR M u b a'
      | .exc c t' => ∃ u, k a t = .exc c u ∧ Er M u t'
      | .bad => True) : AgS M (bnd f k) (bnd g k') := by
  intro s s' h
  unfold bnd
  have z := hf s s' h
  cases e2 : g s' with
  | bad => trivial
  | exc c u =>
    rw [e2] at z
    obtain ⟨u2, k2, h2, _⟩ := z
    rw [k2]
    exact ⟨_, rfl, h2⟩
  | ok a u =>
    rw [e2] at z
    obtain ⟨a2, u2, k2, h2, _, hr⟩ := z
    rw [k2]
    exact hk _ _ _ _ h2 hr
end
end AL


set_option Elab.async false
set_option linter.all false
set_option maxRecDepth 100000
set_option maxHeartbeats 1000000
/-! PV4: stores; the plain reading tells what the reading tells. -/
namespace AL
open PySem PySem.Spec PyProof.Rows L2
section
variable {M : List Nat} {s s' t t' : S} {r r' q q' : R}
theorem none_io {i : Nat} (h : Er M t t') (h1 : ∀ d, t'[i]? ≠ some (some (.io d))) (h2 : t'[i]? ≠ none) : (∀ d, t[i]? ≠ some (some (.io d))) ∧ ∃ y, t[i]? = some y := by
  refine ⟨fun d z => h1 d ((er_io h).mp z), ?_⟩
  rcases h i with ⟨e, _⟩ | ⟨_, d, _, e, _⟩
  · rw [e]; exact Option.ne_none_iff_exists'.mp h2
  · exact ⟨_, e⟩
theorem setO_fr {i : Nat} {d : D} (h1 : ∀ d, t[i]? ≠ some (some (.io d))) (h2 : ∃ y, t[i]? = some y) : setO i (.fr d) t = some (t.set i (some (.ow d))) := by
  obtain ⟨y, e⟩ := h2
  unfold setO
  dsimp only
  rw [e]
  cases y with
  | none => rfl
  | some y =>
    cases y with
    | io c => exact absurd e (h1 c)
    | sh c => rfl
    | ow c => rfl
theorem setO_fr' {i : Nat} {d : D} {u : S} (e : setO i (.fr d) t = some u) : (∀ d, t[i]? ≠ some (some (.io d))) ∧ t[i]? ≠ none ∧ u = t.set i (some (.ow d)) := by
  unfold setO at e
  dsimp only at e
  split at e
  · cases e
  · rename_i x hn e1
    cases e
    refine ⟨fun d z => ?_, by rw [e1]; simp, rfl⟩
    rw [e1] at z
    exact hn d (Option.some.inj z)
  · cases e
theorem setV_sh {i : Nat} {d : D} {u : S} (e : setV i d t = some u) : (∀ d, t[i]? ≠ some (some (.io d))) ∧ t[i]? ≠ none ∧ u = t.set i (some (.sh d)) := by
  unfold setV at e
  split at e
  · cases e
  · rename_i x hn e1
    cases e
    refine ⟨fun d z => ?_, by rw [e1]; simp, rfl⟩
    rw [e1] at z
    exact hn d (Option.some.inj z)
  · cases e
theorem setV_er {i : Nat} {d : D} (h : Er M t t') : ∀ u', setV i d t' = some u' → ∃ u, setV i d t = some u ∧ Er M u u' := fun u' e => by
  obtain ⟨v, k2, h2, _⟩ := setV_ag (N := M) (vs := [i]) (i := i) (d := d) (by simp) t t' u' h e
  exact ⟨v, k2, h2⟩
theorem setO_ag {i : Nat} (h : Er M t t') (k : (M.contains i = true ∧ Hd M t r r') ∨ (M.contains i = false ∧ Rr M t r r' ∧ ∀ d, r' ≠ .fr d)) : ∀ u', setO i r' t' = some u' → ∃ u, setO i r t = some u ∧ Er M u u' := by
  have hh : Hd M t r r' → (∀ d, r' ≠ .fr d) → ∀ u', setO i r' t' = some u' → ∃ u, setO i r t = some u ∧ Er M u u' := fun k hn u' e => by
    have z := esc_ag h k
    have e1 : ∃ d v', esc r' t' = .ok d v' ∧ setV i d v' = some u' := by
      unfold setO at e
      cases r' with
      | fr d => exact absurd rfl (hn d)
      | sh d => exact ⟨d, t', rfl, e⟩
      | ob j =>
        dsimp only at e
        cases e2 : esc (.ob j) t' with
        | bad => rw [e2] at e; cases e
        | exc c v => rw [e2] at e; cases e
        | ok d v => rw [e2] at e; exact ⟨d, v, rfl, e⟩
    obtain ⟨d, v', e2, e3⟩ := e1
    rw [e2] at z
    obtain ⟨d2, u, k1, h1, _, ed⟩ := z
    cases ed
    obtain ⟨w, k2, h2⟩ := setV_er h1 u' e3
    refine ⟨w, ?_, h2⟩
    unfold setO
    cases r with
    | fr c => cases k1
    | sh c => dsimp only; rw [k1]; exact k2
    | ob c => dsimp only; rw [k1]; exact k2
  intro u' e
  rcases k with ⟨hmi, k⟩ | ⟨hmi, k, hn⟩
  · cases r' with
    | fr d =>
      cases k
      obtain ⟨h1, h2, rfl⟩ := setO_fr' e
      obtain ⟨h3, h4⟩ := none_io h h1 h2
      exact ⟨_, setO_fr h3 h4, er_set h fun m => by rw [hmi] at m; cases m⟩
    | sh d => exact hh k (fun _ z => by cases z) u' e
    | ob d => exact hh k (fun _ z => by cases z) u' e
  · cases k with
    | hd k => exact hh k hn u' e
    | @fr d hd =>
      obtain ⟨h1, h2, rfl⟩ := setV_sh (show setV i d t' = some u' from e)
      obtain ⟨h3, h4⟩ := none_io h h1 h2
      refine ⟨_, setO_fr h3 h4, fun j => ?_⟩
      by_cases q : i = j
      · subst q
        have l1 : i < t.length := by obtain ⟨y, e⟩ := h4; exact (List.getElem?_eq_some_iff.mp e).1
        have l2 : i < t'.length := by rw [← er_len h]; exact l1
        rw [List.getElem?_set, List.getElem?_set, if_pos rfl, if_pos rfl, if_pos l1, if_pos l2]
        exact .inr ⟨hmi, d, hd, rfl, rfl⟩
      · rw [List.getElem?_set_ne q, List.getElem?_set_ne q]
        exact h j
theorem setR_O {i : Nat} {r : R} {s : S} : setR i r s = ofO (setO i r s) := by
  unfold setR setO ofO
  cases r with
  | fr d =>
    dsimp only
    rcases s[i]? with _ | _ | x
    · rfl
    · rfl
    · cases x <;> rfl
  | sh d =>
    show (match setV i d s with
      | some s2 => Res.ok Fl.nx s2
      | none => .bad) = _
    rfl
  | ob j =>
    dsimp only
    cases e : esc (.ob j) s with
    | bad => rfl
    | exc c v => exact absurd e esc_nexc
    | ok d v => rfl
/-- what a statement's end asks -/
def AgF (M : List Nat) (m m' : Res Fl) : Prop := match m' with
  | .ok a' t' => ∃ a t, m = .ok a t ∧ Er M t t' ∧ FlR M t a a'
  | .exc c t' => ∃ t, m = .exc c t ∧ Er M t t'
  | .bad => True
theorem ofO_ag {o o' : Option S} (h : ∀ u', o' = some u' → ∃ u, o = some u ∧ Er M u u') : AgF M (ofO o) (ofO o') := by
  cases o' with
  | none => trivial
  | some u' =>
    obtain ⟨u, rfl, k⟩ := h u' rfl
    exact ⟨_, _, rfl, k, .same _⟩
theorem setR_ag {i : Nat} (h : Er M t t') (k : (M.contains i = true ∧ Hd M t r r') ∨ (M.contains i = false ∧ Rr M t r r' ∧ ∀ d, r' ≠ .fr d)) : AgF M (setR i r t) (setR i r' t') := by
  rw [setR_O, setR_O]
  exact ofO_ag (setO_ag h k)
theorem holdL_ok {r' u : R} {t' v : S} (k : Rr M t r r') (e : holdL r' t' = .ok u v) : v = t' ∧ Rr M t r u ∧ ∀ d, u ≠ .fr d := by
  unfold holdL at e
  cases r' with
  | fr d =>
    dsimp only at e
    split at e
    · rename_i c
      cases e
      cases k with
      | hd k => cases k; exact ⟨rfl, .fr c, fun d z => by cases z⟩
    · cases e
  | sh d => cases e; exact ⟨rfl, k, fun d z => by cases z⟩
  | ob d => cases e; exact ⟨rfl, k, fun d z => by cases z⟩
theorem holdL_n {r' : R} {t' : S} {c : Str} {v : S} : holdL r' t' ≠ .exc c v := fun e => by
  unfold holdL at e
  cases r' with
  | fr d => dsimp only at e; split at e <;> cases e
  | sh d => cases e
  | ob d => cases e
theorem setM_ag {i : Nat} (h : Er M t t') (k : Rs M (M.contains i) t r r') : AgF M (setR i r t) (setM (M.contains i) i r' t') := by
  unfold setM
  cases c : M.contains i with
  | true =>
    rw [c] at k
    rw [if_pos rfl]
    exact setR_ag h (.inl ⟨c, k⟩)
  | false =>
    rw [c] at k
    rw [if_neg Bool.false_ne_true]
    cases e : holdL r' t' with
    | bad => trivial
    | exc x v => exact absurd e holdL_n
    | ok u v =>
      obtain ⟨rfl, k1, k2⟩ := holdL_ok k e
      exact setR_ag h (.inr ⟨c, k1, k2⟩)
theorem asgR_ag {g : I} (h : Er M t t') (k : Hd M t r r') : AgF M (asgR (evG g) r t) (asgR (evG g) r' t') := by
  unfold asgR
  have z := esc_ag h k
  cases e : esc r' t' with
  | bad => trivial
  | exc x v => exact absurd e esc_nexc
  | ok d v =>
    rw [e] at z
    obtain ⟨d2, u, k1, h1, _, ed⟩ := z
    cases ed
    rw [k1]
    simp only [bind_ok]
    cases e2 : evG g d v with
    | none => trivial
    | some w =>
      obtain ⟨w2, k2, h2, _⟩ := (evG_ag (N := M) (vs := slots g) g (by rw [List.all_eq_true]; intro i hi; simpa using hi)).1 d u v w h1 e2
      rw [k2]
      exact ⟨_, _, rfl, h2, .same _⟩
theorem exprR_ag (h : Er M t t') (k : Rr M t r r') : AgF M (exprR r t) (exprR r' t') := by
  unfold exprR
  cases k with
  | hd k =>
    cases k with
    | same r =>
      cases r with
      | fr d =>
        dsimp only
        split
        · trivial
        · exact ⟨_, _, rfl, h, .same _⟩
      | sh d => exact ⟨_, _, rfl, h, .same _⟩
      | ob d => exact ⟨_, _, rfl, h, .same _⟩
    | vr a b c => exact ⟨_, _, rfl, h, .same _⟩
  | fr hd =>
    dsimp only
    rw [if_neg (by rw [heap_obj hd]; exact Bool.false_ne_true)]
    exact ⟨_, _, rfl, h, .same _⟩
/-- what par asks of each part -/
def Pr (M : List Nat) (i : Nat) (t : S) (r r' : R) : Prop := (M.contains i = true ∧ Hd M t r r') ∨ (M.contains i = false ∧ Rr M t r r' ∧ ∀ d, r' ≠ .fr d)
theorem holdM_ag {i : Nat} {f g : S → Res R} (h : Ag M (Rs M (M.contains i)) f g) : Ag M (Pr M i) f (holdM (M.contains i) g) := by
  intro s s' e
  have z := h s s' e
  unfold holdM
  cases c : M.contains i with
  | true =>
    rw [c] at z
    rw [if_pos rfl]
    exact z.imp fun t a a' q => .inl ⟨c, q⟩
  | false =>
    rw [c] at z
    rw [if_neg Bool.false_ne_true]
    unfold bnd
    cases e2 : g s' with
    | bad => trivial
    | exc x v => rw [e2] at z; exact z
    | ok r' t' =>
      rw [e2] at z
      obtain ⟨r, t, k1, h1, l1, k⟩ := z
      show AgAt M (Pr M i) s (f s) (holdL r' t')
      cases e3 : holdL r' t' with
      | bad => trivial
      | exc x v => exact absurd e3 holdL_n
      | ok u v =>
        obtain ⟨rfl, k2, k3⟩ := holdL_ok k e3
        exact ⟨r, t, k1, h1, l1, .inr ⟨c, k2, k3⟩⟩
theorem AgF.bindS {τ : Type} {rel : S → τ → τ → Prop} {m m' : Res τ} {k k' : τ → S → Res Fl} (h : AgAt M rel s m m') (hk : ∀ a a' t t', Er M t t' → St M s t → rel t a a' → AgF M (k a t) (k' a' t')) : AgF M (m.bind k) (m'.bind k') := by
  cases m' with
  | ok a' t' => obtain ⟨a, t, rfl, h1, h2, h3⟩ := h; exact hk a a' t t' h1 h2 h3
  | exc c t' => obtain ⟨t, rfl, h1, h2⟩ := h; exact ⟨t, rfl, h1⟩
  | bad => trivial
theorem bindO {o o' : Option S} {f f' : S → Option S} (h : ∀ u', o' = some u' → ∃ u, o = some u ∧ Er M u u') (hf : ∀ u u', Er M u u' → ∀ w', f' u' = some w' → ∃ w, f u = some w ∧ Er M w w') : ∀ w', o'.bind f' = some w' → ∃ w, o.bind f = some w ∧ Er M w w' := fun w' e => by
  obtain ⟨u', e1, e2⟩ := Option.bind_eq_some_iff.mp e
  obtain ⟨u, k1, k2⟩ := h u' e1
  obtain ⟨w, k3, k4⟩ := hf u u' k2 w' e2
  exact ⟨w, by rw [k1]; exact k3, k4⟩
theorem parD_ag {i j : Nat} {f f' g g' : S → Res R} (hf : Ag M (Pr M i) f f') (hg : Ag M (Pr M j) g g') : AgS M (parD i j f g) (parD i j f' g') := by
  intro s s' h
  unfold parD
  show AgF M _ _
  refine AgF.bindS (hf s s' h) fun r1 r1' t t' h1 l1 k1 => ?_
  cases r1' with
  | fr d =>
    rcases k1 with ⟨hmi, k1⟩ | ⟨_, _, hn⟩
    · cases k1
      dsimp only
      exact AgF.bindS (hg t t' h1) fun r2 r2' v v' h2 l2 k2 => ofO_ag (bindO (setO_ag h2 k2) fun u u' e => setO_ag e (.inl ⟨hmi, .same _⟩))
    · exact absurd rfl (hn d)
  | sh d =>
    have e0 : esc (.sh d) t' = .ok d t' := rfl
    dsimp only
    rw [e0]
    rcases k1 with ⟨hmi, k1⟩ | ⟨hmi, k1, hn⟩
    · have z := esc_ag h1 k1
      rw [e0] at z
      obtain ⟨d2, u, q1, q2, q3, q4⟩ := z
      cases q4
      cases r1 with
      | fr c => cases q1
      | sh c =>
        dsimp only; rw [q1]; simp only [bind_ok]
        exact AgF.bindS (hg u t' q2) fun r2 r2' v v' h2 l2 k2 => ofO_ag (bindO (setO_ag h2 k2) fun u u' e => setV_er e)
      | ob c =>
        dsimp only; rw [q1]; simp only [bind_ok]
        exact AgF.bindS (hg u t' q2) fun r2 r2' v v' h2 l2 k2 => ofO_ag (bindO (setO_ag h2 k2) fun u u' e => setV_er e)
    · cases k1 with
      | fr hd =>
        dsimp only
        exact AgF.bindS (hg t t' h1) fun r2 r2' v v' h2 l2 k2 => ofO_ag (bindO (setO_ag h2 k2) fun u u' e w' q => setO_ag e (.inr ⟨hmi, .fr hd, fun _ z => by cases z⟩) w' q)
      | hd k1 =>
        have z := esc_ag h1 k1
        rw [e0] at z
        obtain ⟨d2, u, q1, q2, q3, q4⟩ := z
        cases q4
        cases r1 with
        | fr c => cases q1
        | sh c =>
          dsimp only; rw [q1]; simp only [bind_ok]
          exact AgF.bindS (hg u t' q2) fun r2 r2' v v' h2 l2 k2 => ofO_ag (bindO (setO_ag h2 k2) fun u u' e => setV_er e)
        | ob c =>
          dsimp only; rw [q1]; simp only [bind_ok]
          exact AgF.bindS (hg u t' q2) fun r2 r2' v v' h2 l2 k2 => ofO_ag (bindO (setO_ag h2 k2) fun u u' e => setV_er e)
  | ob c =>
    have k3 : Hd M t r1 (.ob c) := by
      rcases k1 with ⟨_, k⟩ | ⟨_, k, _⟩
      · exact k
      · cases k with
        | hd k => exact k
    cases k3
    dsimp only
    have z := esc_ag h1 (Hd.same (M := M) (s := t) (.ob c))
    exact AgF.bindS z fun d d' u u' h2 l2 e => by
      cases e
      exact AgF.bindS (hg u u' h2) fun r2 r2' v v' h2 l2 k2 => ofO_ag (bindO (setO_ag h2 k2) fun u u' e => setV_er e)
end
end AL


set_option Elab.async false
set_option linter.all false
set_option maxRecDepth 100000
set_option maxHeartbeats 1000000
/-! PV5: the plain reading tells what the reading tells (printed by genpv5.py). -/
namespace AL
open PySem PySem.Spec PyProof.Rows L2
def Sb (M N : List Nat) : Prop := ∀ i, M.contains i = true → N.contains i = true
theorem Sb.app {M N vs : List Nat} (h : Sb M N) : Sb M (N ++ vs) := fun i hi => by
  have := h i hi
  rw [List.contains_eq_mem] at this ⊢
  simp at this ⊢
  exact .inl this
/-- a comprehension's names are of M -/
def wfI (M : List Nat) : I → Bool
  | .cons a r => wfI M a && wfI M r
  | .tup a | .lst a | .neg a | .and_ a | .or_ a | .not_ a | .tru a | .bi _ a | .isi _ a | .pop a | .fstr a | .fmt a | .rev a | .repl a _ _ | .seq a | .rng1 a | .expr a | .ret a | .set _ a | .terr _ a | .told _ a | .call _ _ a | .callV _ _ a => wfI M a
  | .bin _ a b | .cmp _ a b | .ix a b | .app a b | .popAt a b | .split a b | .join a b | .rng2 a b | .asg a b | .par _ _ a b | .whl a b | .tok _ _ a b => wfI M a && wfI M b
  | .chn _ _ a b d | .ite a b d | .slc a b d | .sif a b d | .for_ a b d => wfI M a && wfI M b && wfI M d
  | .comp g it ts e own | .setLc _ g it ts e own => (own.map (·.2)).all M.contains && (slots g).all (own.map (·.2)).contains && wfI M it && wfI M ts && wfI M e
  | _ => true
structure AgI (M : List Nat) (x : I) : Prop where
  E : ∀ N, Sb M N → ∀ st, Ag N (Rs N st) (evE x) (pvE M x st)
  A : ∀ N, Sb M N → Ag N (Hds N) (evA x) (pvA M x)
  J : ∀ N, Sb M N → (evJ x).length = (pvJ M x).length ∧ ∀ p ∈ (evJ x).zip (pvJ M x), Ag N (Hd N) p.1 p.2
  T : ∀ N, Sb M N → Ag N Eqr (evT x) (pvT M x)
  An : ∀ N, Sb M N → Ag N Eqr (evAnd x) (pvAnd M x)
  Or : ∀ N, Sb M N → Ag N Eqr (evOr x) (pvOr M x)
  AV : ∀ N, Sb M N → Ag N (Rr N) (evAndV x) (pvAndV M x)
  OV : ∀ N, Sb M N → Ag N (Rr N) (evOrV x) (pvOrV M x)
  O : ∀ N, Sb M N → Ag N Eqr (evO x) (pvO M x)
  I : ∀ N, Sb M N → Ag N Eqr (evI x) (pvI M x)
  Ts : ∀ N, Sb M N → Ag N Eqr (evTs x) (pvTs M x)
  S : AgS M (evS x) (pvS M x)
  B : AgS M (evB x) (pvB M x)
section
variable {M N : List Nat} {τ : Type} {rel : S → τ → τ → Prop} {f f' g g' : S → Res R}
theorem tr {f g : S → Res τ} (h : ∀ s, g s = .bad) : Ag N rel f g := fun s s' _ => by rw [h s']; trivial
theorem trS {f g : S → Res Fl} (h : ∀ s, g s = .bad) : AgS N f g := fun s s' _ => by rw [h s']; trivial
theorem Rs.rr {st : Bool} {s : S} {a b : R} (h : Rs N st s a b) : Rr N s a b := by
  cases st
  · exact h
  · exact .hd h
theorem held {st : Bool} (h : Ag N (Rs N st) f g) : Ag N (Hd N) (bnd f hold) (bnd g hold) := bnd_ag h fun a a' t t' e k => hold_ag e k.rr
theorem toR {st : Bool} (h : Ag N Eqr f g) : Ag N (Rs N st) f g := fun s s' e => (h s s' e).imp fun _ _ _ q => Rs.same q
theorem toF {st : Bool} (h : Ag N (Rs N false) f g) (hs : st = false) : Ag N (Rs N st) f g := by subst hs; exact h
theorem ret_ag {a : τ} : Ag N Eqr (ret1 a) (ret1 a) := fun s s' e => ag_eq e
theorem two_ag {k k' : R → R → S → Res R} (hf : Ag N (Hd N) f f') (hg : Ag N (Hd N) g g') (hk : ∀ {a a' b b' t t'}, Er N t t' → Hd N t a a' → Hd N t b b' → AgAt N Eqr t (k a b t) (k' a' b' t')) : Ag N Eqr (bnd f fun x => bnd g fun y => k x y) (bnd f' fun x => bnd g' fun y => k' x y) :=
  fun s s' h => (hf s s' h).bind fun a a' t t' h1 l1 r1 => (hg t t' h1).bind fun b b' u u' h2 l2 r2 => hk h2 (r1.mono l2) r2
theorem cho_ag {c : Bool} {f f' g g' : S → Res τ} (hf : Ag N rel f f') (hg : Ag N rel g g') : Ag N rel (cho c f g) (cho c f' g') := by
  unfold cho
  cases c
  · exact hg
  · exact hf
theorem choS_ag {c : Bool} {f f' g g' : S → Res Fl} (hf : AgS N f f') (hg : AgS N g g') : AgS N (cho c f g) (cho c f' g') := by
  unfold cho
  cases c
  · exact hg
  · exact hf
theorem call1 {b : Bool} {F : Fs} {f g : S → Res (List R)} (h : Ag N (Hds N) f g) : Ag N (Rs N b) (bnd f (callD F)) (bnd g (callD (if b = true then F else F.loose))) := fun s s' e => (h s s' e).bind fun a a' t t' h1 l1 r1 => callD_ag h1 r1
theorem callV1 {tab : Str → Option Fs} {i : Nat} {f g : S → Res (List R)} (h : Ag N (Hds N) f g) : Ag N (Rs N false) (HX.callVD tab i f) (HX.callVD (fun z => (tab z).map Fs.loose) i g) := callVD_ag h
theorem var1 {i : Nat} {st : Bool} : Ag N (Rs N st) (evVar i) (evVar i) := by
  intro s s' h
  have k : AgAt N (Hd N) s (evVar i s) (evVar i s') := by
    unfold evVar
    rcases h i with ⟨e, _⟩ | ⟨hm, d, hd, e1, e2⟩
    · rw [e]
      split
      · exact ag_sameH h
      · exact ag_sameH h
      · exact ag_bad
    · rw [e1, e2]
      exact ag_ok h (.vr hm hd (.inl e1))
  exact k.imp fun t a a' q => by
    cases st
    · exact Rr.hd q
    · exact q
theorem slc_ag {f f' : S → Res R} {lo lo' hi hi' : S → Res (Option Int)} (hf : Ag N (Hd N) f f') (hl : Ag N Eqr lo lo') (hh : Ag N Eqr hi hi') : Ag N Eqr (bnd f fun x => bnd lo fun l => bnd hi fun h => slD x l h) (bnd f' fun x => bnd lo' fun l => bnd hi' fun h => slD x l h) :=
  fun s s' h => (hf s s' h).bind fun a a' t t' h1 l1 r1 => (hl t t' h1).bind fun b b' u u' h2 l2 r2 => (hh u u' h2).bind fun c c' v v' h3 l3 r3 => by
    cases r2; cases r3
    exact slD_ag h3 ((r1.mono l2).mono l3)
theorem asBr {t t' : S} {r r' : R} (h : Er N t t') (e : Eqr t r r') : AgAt N Eqr t (asB r t) (asB r' t') := by cases e; exact asB_ag h (.hd (.same _))
end
theorem pv_all (M : List Nat) : ∀ (x : I), wfI M x = true → AgI M x := by
  intro x
  induction x with
  | nil   =>
    intro w
    exact ⟨fun N hN st => tr (fun _ => rfl), fun N hN s s' h => ag_ok h .nil, fun N hN => ⟨rfl, fun p hp => by simp [evJ] at hp⟩, fun N hN => tr (fun _ => rfl), fun N hN => tr (fun _ => rfl), fun N hN => tr (fun _ => rfl), fun N hN => tr (fun _ => rfl), fun N hN => tr (fun _ => rfl), fun N hN => ret_ag, fun N hN => tr (fun _ => rfl), fun N hN => ret_ag, trS (fun _ => rfl), fun s s' h => ⟨_, _, rfl, h, .same _⟩⟩
  | cons a r iha ihr =>
    intro w
    simp only [wfI, Bool.and_eq_true] at w
    obtain ⟨wa, wr⟩ := w
    have iha := iha wa
    have ihr := ihr wr
    exact ⟨fun N hN st => tr (fun _ => rfl), fun N hN s s' h => (held (iha.E N hN false) s s' h).bind fun x x' t t' h1 l1 r1 => (ihr.A N hN t t' h1).bind fun y y' u u' h2 l2 r2 => ag_ok h2 (.cons (r1.mono l2) r2), fun N hN => ⟨by show _ + 1 = _ + 1; rw [(ihr.J N hN).1], fun p hp => by
      have hp : p ∈ ((bnd (evE a) hold) :: evJ r).zip ((bnd (pvE M a false) hold) :: pvJ M r) := hp
      rw [List.zip_cons_cons] at hp
      rcases List.mem_cons.mp hp with e | hp
      · rw [e]; exact held (iha.E N hN false)
      · exact (ihr.J N hN).2 p hp⟩, fun N hN => tr (fun _ => rfl), fun N hN => by
      cases r with
      | nil => exact iha.T N hN
      | cons b q =>
        show Ag N Eqr (bnd (evT a) fun c => stepAnd c (evAnd (.cons b q))) (bnd (pvT M a) fun c => stepAnd c (pvAnd M (.cons b q)))
        exact bnd_ag (iha.T N hN) fun c c' t t' h e => by
          cases e
          unfold stepAnd
          cases c
          · exact ag_eq h
          · exact ihr.An N hN t t' h
      | _ => exact tr (fun _ => rfl), fun N hN => by
      cases r with
      | nil => exact iha.T N hN
      | cons b q =>
        show Ag N Eqr (bnd (evT a) fun c => stepOr c (evOr (.cons b q))) (bnd (pvT M a) fun c => stepOr c (pvOr M (.cons b q)))
        exact bnd_ag (iha.T N hN) fun c c' t t' h e => by
          cases e
          unfold stepOr
          cases c
          · exact ihr.Or N hN t t' h
          · exact ag_eq h
      | _ => exact tr (fun _ => rfl), fun N hN => by
      cases r with
      | nil => exact iha.E N hN false
      | cons b q =>
        show Ag N (Rr N) (bnd (bnd (evE a) hold) fun x => bnd (truR x) fun c => stepAndV x c (evAndV (.cons b q))) (bnd (bnd (pvE M a false) hold) fun x => bnd (truR x) fun c => stepAndV x c (pvAndV M (.cons b q)))
        exact bnd_ag (held (iha.E N hN false)) fun x x' t t' h k => (truR_ag h k).bind fun c c' u u' h2 l2 e => by
          cases e
          unfold stepAndV
          cases c
          · exact ag_ok h2 (.hd (k.mono l2))
          · exact ihr.AV N hN u u' h2
      | _ => exact tr (fun _ => rfl), fun N hN => by
      cases r with
      | nil => exact iha.E N hN false
      | cons b q =>
        show Ag N (Rr N) (bnd (bnd (evE a) hold) fun x => bnd (truR x) fun c => stepOrV x c (evOrV (.cons b q))) (bnd (bnd (pvE M a false) hold) fun x => bnd (truR x) fun c => stepOrV x c (pvOrV M (.cons b q)))
        exact bnd_ag (held (iha.E N hN false)) fun x x' t t' h k => (truR_ag h k).bind fun c c' u u' h2 l2 e => by
          cases e
          unfold stepOrV
          cases c
          · exact ihr.OV N hN u u' h2
          · exact ag_ok h2 (.hd (k.mono l2))
      | _ => exact tr (fun _ => rfl), fun N hN => by
      cases r with
      | nil => exact bnd_ag (held (iha.E N hN false)) fun a a' t t' h k => intR_ag h k
      | _ => exact tr (fun _ => rfl), fun N hN => tr (fun _ => rfl), fun N hN => by
      cases r with
      | nil => exact iha.T N hN
      | _ => exact tr (fun _ => rfl), trS (fun _ => rfl), seqD_ag iha.S ihr.B⟩
  | var i  =>
    intro w
    exact ⟨fun N hN st => var1, fun N hN => tr (fun _ => rfl), fun N hN => ⟨rfl, fun p hp => by simp [evJ] at hp⟩, fun N hN => tr (fun _ => rfl), fun N hN => tr (fun _ => rfl), fun N hN => tr (fun _ => rfl), fun N hN => tr (fun _ => rfl), fun N hN => tr (fun _ => rfl), fun N hN => tr (fun _ => rfl), fun N hN => tr (fun _ => rfl), fun N hN => tr (fun _ => rfl), trS (fun _ => rfl), trS (fun _ => rfl)⟩
  | cst d  =>
    intro w
    exact ⟨fun N hN st => toR ret_ag, fun N hN => tr (fun _ => rfl), fun N hN => ⟨rfl, fun p hp => by simp [evJ] at hp⟩, fun N hN => tr (fun _ => rfl), fun N hN => tr (fun _ => rfl), fun N hN => tr (fun _ => rfl), fun N hN => tr (fun _ => rfl), fun N hN => tr (fun _ => rfl), fun N hN => tr (fun _ => rfl), fun N hN => tr (fun _ => rfl), fun N hN => tr (fun _ => rfl), trS (fun _ => rfl), trS (fun _ => rfl)⟩
  | glo x d  =>
    intro w
    exact ⟨fun N hN st => toR ret_ag, fun N hN => tr (fun _ => rfl), fun N hN => ⟨rfl, fun p hp => by simp [evJ] at hp⟩, fun N hN => tr (fun _ => rfl), fun N hN => tr (fun _ => rfl), fun N hN => tr (fun _ => rfl), fun N hN => tr (fun _ => rfl), fun N hN => tr (fun _ => rfl), fun N hN => tr (fun _ => rfl), fun N hN => tr (fun _ => rfl), fun N hN => tr (fun _ => rfl), trS (fun _ => rfl), trS (fun _ => rfl)⟩
  | tup a iha =>
    intro w
    simp only [wfI] at w
    have wa := w
    have iha := iha wa
    exact ⟨fun N hN st => toR (bnd_ag (iha.A N hN) fun a a' t t' h k => tupR_ag h k), fun N hN => tr (fun _ => rfl), fun N hN => ⟨rfl, fun p hp => by simp [evJ] at hp⟩, fun N hN => tr (fun _ => rfl), fun N hN => tr (fun _ => rfl), fun N hN => tr (fun _ => rfl), fun N hN => tr (fun _ => rfl), fun N hN => tr (fun _ => rfl), fun N hN => tr (fun _ => rfl), fun N hN => tr (fun _ => rfl), fun N hN => tr (fun _ => rfl), trS (fun _ => rfl), trS (fun _ => rfl)⟩
  | lst a iha =>
    intro w
    simp only [wfI] at w
    have wa := w
    have iha := iha wa
    exact ⟨fun N hN st => toR (bnd_ag (iha.A N hN) fun a a' t t' h k => lstR_ag h k), fun N hN => tr (fun _ => rfl), fun N hN => ⟨rfl, fun p hp => by simp [evJ] at hp⟩, fun N hN => tr (fun _ => rfl), fun N hN => tr (fun _ => rfl), fun N hN => tr (fun _ => rfl), fun N hN => tr (fun _ => rfl), fun N hN => tr (fun _ => rfl), fun N hN => tr (fun _ => rfl), fun N hN => tr (fun _ => rfl), fun N hN => tr (fun _ => rfl), trS (fun _ => rfl), trS (fun _ => rfl)⟩
  | bin op a b iha ihb =>
    intro w
    simp only [wfI, Bool.and_eq_true] at w
    obtain ⟨wa, wb⟩ := w
    have iha := iha wa
    have ihb := ihb wb
    exact ⟨fun N hN st => toR (two_ag (held (iha.E N hN false)) (held (ihb.E N hN false)) fun h a b => binD_ag h a b), fun N hN => tr (fun _ => rfl), fun N hN => ⟨rfl, fun p hp => by simp [evJ] at hp⟩, fun N hN => tr (fun _ => rfl), fun N hN => tr (fun _ => rfl), fun N hN => tr (fun _ => rfl), fun N hN => tr (fun _ => rfl), fun N hN => tr (fun _ => rfl), fun N hN => tr (fun _ => rfl), fun N hN => tr (fun _ => rfl), fun N hN => tr (fun _ => rfl), trS (fun _ => rfl), trS (fun _ => rfl)⟩
  | neg a iha =>
    intro w
    simp only [wfI] at w
    have wa := w
    have iha := iha wa
    exact ⟨fun N hN st => toR (bnd_ag (held (iha.E N hN false)) fun a a' t t' h k => negR_ag h k), fun N hN => tr (fun _ => rfl), fun N hN => ⟨rfl, fun p hp => by simp [evJ] at hp⟩, fun N hN => tr (fun _ => rfl), fun N hN => tr (fun _ => rfl), fun N hN => tr (fun _ => rfl), fun N hN => tr (fun _ => rfl), fun N hN => tr (fun _ => rfl), fun N hN => tr (fun _ => rfl), fun N hN => tr (fun _ => rfl), fun N hN => tr (fun _ => rfl), trS (fun _ => rfl), trS (fun _ => rfl)⟩
  | cmp op a b iha ihb =>
    intro w
    simp only [wfI, Bool.and_eq_true] at w
    obtain ⟨wa, wb⟩ := w
    have iha := iha wa
    have ihb := ihb wb
    exact ⟨fun N hN st => toR (two_ag (held (iha.E N hN false)) (held (ihb.E N hN false)) fun h a b => cmpD_ag h a b), fun N hN => tr (fun _ => rfl), fun N hN => ⟨rfl, fun p hp => by simp [evJ] at hp⟩, fun N hN s s' h => (held (iha.E N hN false) s s' h).bind fun a a' t t' h1 l1 r1 => (held (ihb.E N hN false) t t' h1).bind fun b b' u u' h2 l2 r2 => (cmpD_ag h2 (r1.mono l2) r2).bind fun c c' v v' h3 l3 r3 => asBr h3 r3, fun N hN => tr (fun _ => rfl), fun N hN => tr (fun _ => rfl), fun N hN => tr (fun _ => rfl), fun N hN => tr (fun _ => rfl), fun N hN => tr (fun _ => rfl), fun N hN => tr (fun _ => rfl), fun N hN => tr (fun _ => rfl), trS (fun _ => rfl), trS (fun _ => rfl)⟩
  | chn o1 o2 a b c iha ihb ihc =>
    intro w
    simp only [wfI, Bool.and_eq_true] at w
    obtain ⟨⟨wa, wb⟩, wc⟩ := w
    have iha := iha wa
    have ihb := ihb wb
    have ihc := ihc wc
    exact ⟨fun N hN st => toR (two_ag (held (iha.E N hN false)) (held (ihb.E N hN false)) fun h a b => chD_ag h a b (held (ihc.E N hN false))), fun N hN => tr (fun _ => rfl), fun N hN => ⟨rfl, fun p hp => by simp [evJ] at hp⟩, fun N hN s s' h => (held (iha.E N hN false) s s' h).bind fun a a' t t' h1 l1 r1 => (held (ihb.E N hN false) t t' h1).bind fun b b' u u' h2 l2 r2 => (chD_ag h2 (r1.mono l2) r2 (held (ihc.E N hN false))).bind fun c c' v v' h3 l3 r3 => asBr h3 r3, fun N hN => tr (fun _ => rfl), fun N hN => tr (fun _ => rfl), fun N hN => tr (fun _ => rfl), fun N hN => tr (fun _ => rfl), fun N hN => tr (fun _ => rfl), fun N hN => tr (fun _ => rfl), fun N hN => tr (fun _ => rfl), trS (fun _ => rfl), trS (fun _ => rfl)⟩
  | and_ a iha =>
    intro w
    simp only [wfI] at w
    have wa := w
    have iha := iha wa
    exact ⟨fun N hN st => by
      cases st
      · exact iha.AV N hN
      · exact tr (fun _ => rfl), fun N hN => tr (fun _ => rfl), fun N hN => ⟨rfl, fun p hp => by simp [evJ] at hp⟩, fun N hN => iha.An N hN, fun N hN => tr (fun _ => rfl), fun N hN => tr (fun _ => rfl), fun N hN => tr (fun _ => rfl), fun N hN => tr (fun _ => rfl), fun N hN => tr (fun _ => rfl), fun N hN => tr (fun _ => rfl), fun N hN => tr (fun _ => rfl), trS (fun _ => rfl), trS (fun _ => rfl)⟩
  | or_ a iha =>
    intro w
    simp only [wfI] at w
    have wa := w
    have iha := iha wa
    exact ⟨fun N hN st => by
      cases st
      · exact iha.OV N hN
      · exact tr (fun _ => rfl), fun N hN => tr (fun _ => rfl), fun N hN => ⟨rfl, fun p hp => by simp [evJ] at hp⟩, fun N hN => iha.Or N hN, fun N hN => tr (fun _ => rfl), fun N hN => tr (fun _ => rfl), fun N hN => tr (fun _ => rfl), fun N hN => tr (fun _ => rfl), fun N hN => tr (fun _ => rfl), fun N hN => tr (fun _ => rfl), fun N hN => tr (fun _ => rfl), trS (fun _ => rfl), trS (fun _ => rfl)⟩
  | not_ a iha =>
    intro w
    simp only [wfI] at w
    have wa := w
    have iha := iha wa
    exact ⟨fun N hN st => toR (bnd_ag (held (iha.E N hN false)) fun a a' t t' h k => (truR_ag h k).bind fun c c' u u' h2 l2 e => by cases e; exact ag_eq h2), fun N hN => tr (fun _ => rfl), fun N hN => ⟨rfl, fun p hp => by simp [evJ] at hp⟩, fun N hN => bnd_ag (iha.T N hN) fun c c' t t' h e => by cases e; exact ag_eq h, fun N hN => tr (fun _ => rfl), fun N hN => tr (fun _ => rfl), fun N hN => tr (fun _ => rfl), fun N hN => tr (fun _ => rfl), fun N hN => tr (fun _ => rfl), fun N hN => tr (fun _ => rfl), fun N hN => tr (fun _ => rfl), trS (fun _ => rfl), trS (fun _ => rfl)⟩
  | tru a iha =>
    intro w
    simp only [wfI] at w
    have wa := w
    have iha := iha wa
    exact ⟨fun N hN st => tr (fun _ => rfl), fun N hN => tr (fun _ => rfl), fun N hN => ⟨rfl, fun p hp => by simp [evJ] at hp⟩, fun N hN => bnd_ag (held (iha.E N hN false)) fun a a' t t' h k => truR_ag h k, fun N hN => tr (fun _ => rfl), fun N hN => tr (fun _ => rfl), fun N hN => tr (fun _ => rfl), fun N hN => tr (fun _ => rfl), fun N hN => tr (fun _ => rfl), fun N hN => tr (fun _ => rfl), fun N hN => tr (fun _ => rfl), trS (fun _ => rfl), trS (fun _ => rfl)⟩
  | ite t a b iht iha ihb =>
    intro w
    simp only [wfI, Bool.and_eq_true] at w
    obtain ⟨⟨wt, wa⟩, wb⟩ := w
    have iht := iht wt
    have iha := iha wa
    have ihb := ihb wb
    exact ⟨fun N hN st => bnd_ag (iht.T N hN) fun c c' t t' h e => by
      cases e
      exact cho_ag (iha.E N hN st) (ihb.E N hN st) t t' h, fun N hN => tr (fun _ => rfl), fun N hN => ⟨rfl, fun p hp => by simp [evJ] at hp⟩, fun N hN => tr (fun _ => rfl), fun N hN => tr (fun _ => rfl), fun N hN => tr (fun _ => rfl), fun N hN => tr (fun _ => rfl), fun N hN => tr (fun _ => rfl), fun N hN => tr (fun _ => rfl), fun N hN => tr (fun _ => rfl), fun N hN => tr (fun _ => rfl), trS (fun _ => rfl), trS (fun _ => rfl)⟩
  | ix a b iha ihb =>
    intro w
    simp only [wfI, Bool.and_eq_true] at w
    obtain ⟨wa, wb⟩ := w
    have iha := iha wa
    have ihb := ihb wb
    exact ⟨fun N hN st => toR (two_ag (held (iha.E N hN false)) (held (ihb.E N hN false)) fun h a b => ixD_ag h a b), fun N hN => tr (fun _ => rfl), fun N hN => ⟨rfl, fun p hp => by simp [evJ] at hp⟩, fun N hN => tr (fun _ => rfl), fun N hN => tr (fun _ => rfl), fun N hN => tr (fun _ => rfl), fun N hN => tr (fun _ => rfl), fun N hN => tr (fun _ => rfl), fun N hN => tr (fun _ => rfl), fun N hN => tr (fun _ => rfl), fun N hN => tr (fun _ => rfl), trS (fun _ => rfl), trS (fun _ => rfl)⟩
  | slc a lo hi iha ihlo ihhi =>
    intro w
    simp only [wfI, Bool.and_eq_true] at w
    obtain ⟨⟨wa, wlo⟩, whi⟩ := w
    have iha := iha wa
    have ihlo := ihlo wlo
    have ihhi := ihhi whi
    exact ⟨fun N hN st => toR (slc_ag (held (iha.E N hN false)) (ihlo.O N hN) (ihhi.O N hN)), fun N hN => tr (fun _ => rfl), fun N hN => ⟨rfl, fun p hp => by simp [evJ] at hp⟩, fun N hN => tr (fun _ => rfl), fun N hN => tr (fun _ => rfl), fun N hN => tr (fun _ => rfl), fun N hN => tr (fun _ => rfl), fun N hN => tr (fun _ => rfl), fun N hN => tr (fun _ => rfl), fun N hN => tr (fun _ => rfl), fun N hN => tr (fun _ => rfl), trS (fun _ => rfl), trS (fun _ => rfl)⟩
  | call x F a iha =>
    intro w
    simp only [wfI] at w
    have wa := w
    have iha := iha wa
    exact ⟨fun N hN st => call1 (iha.A N hN), fun N hN => tr (fun _ => rfl), fun N hN => ⟨rfl, fun p hp => by simp [evJ] at hp⟩, fun N hN => tr (fun _ => rfl), fun N hN => tr (fun _ => rfl), fun N hN => tr (fun _ => rfl), fun N hN => tr (fun _ => rfl), fun N hN => tr (fun _ => rfl), fun N hN => tr (fun _ => rfl), fun N hN => tr (fun _ => rfl), fun N hN => tr (fun _ => rfl), trS (fun _ => rfl), trS (fun _ => rfl)⟩
  | bi b a iha =>
    intro w
    simp only [wfI] at w
    have wa := w
    have iha := iha wa
    exact ⟨fun N hN st => toR (bnd_ag (iha.A N hN) fun a a' t t' h k => bi_ag h k), fun N hN => tr (fun _ => rfl), fun N hN => ⟨rfl, fun p hp => by simp [evJ] at hp⟩, fun N hN => tr (fun _ => rfl), fun N hN => tr (fun _ => rfl), fun N hN => tr (fun _ => rfl), fun N hN => tr (fun _ => rfl), fun N hN => tr (fun _ => rfl), fun N hN => tr (fun _ => rfl), fun N hN => tr (fun _ => rfl), fun N hN => tr (fun _ => rfl), trS (fun _ => rfl), trS (fun _ => rfl)⟩
  | isi T a iha =>
    intro w
    simp only [wfI] at w
    have wa := w
    have iha := iha wa
    exact ⟨fun N hN st => toR (bnd_ag (held (iha.E N hN false)) fun a a' t t' h k => isiD_ag h k), fun N hN => tr (fun _ => rfl), fun N hN => ⟨rfl, fun p hp => by simp [evJ] at hp⟩, fun N hN => tr (fun _ => rfl), fun N hN => tr (fun _ => rfl), fun N hN => tr (fun _ => rfl), fun N hN => tr (fun _ => rfl), fun N hN => tr (fun _ => rfl), fun N hN => tr (fun _ => rfl), fun N hN => tr (fun _ => rfl), fun N hN => tr (fun _ => rfl), trS (fun _ => rfl), trS (fun _ => rfl)⟩
  | comp g it ts e own ihg ihit ihts ihe =>
    intro w
    simp only [wfI, Bool.and_eq_true] at w
    obtain ⟨⟨⟨⟨w1, w2⟩, wit⟩, wts⟩, we⟩ := w
    have ihit := ihit wit
    have ihts := ihts wts
    have ihe := ihe we
    exact ⟨fun N hN st => toR (compD_ag (fun i hi => hN i (by simpa using (List.all_eq_true.mp w1) i hi)) (ihit.I N hN) (fun d => (evG_ag g w2).1 d) (ihts.Ts _ hN.app) (held (ihe.E _ hN.app false))), fun N hN => tr (fun _ => rfl), fun N hN => ⟨rfl, fun p hp => by simp [evJ] at hp⟩, fun N hN => tr (fun _ => rfl), fun N hN => tr (fun _ => rfl), fun N hN => tr (fun _ => rfl), fun N hN => tr (fun _ => rfl), fun N hN => tr (fun _ => rfl), fun N hN => tr (fun _ => rfl), fun N hN => tr (fun _ => rfl), fun N hN => tr (fun _ => rfl), trS (fun _ => rfl), trS (fun _ => rfl)⟩
  | app a b iha ihb =>
    intro w
    simp only [wfI, Bool.and_eq_true] at w
    obtain ⟨wa, wb⟩ := w
    have iha := iha wa
    have ihb := ihb wb
    exact ⟨fun N hN st => toR fun s s' h => (held (iha.E N hN false) s s' h).bind fun a a' t t' h1 l1 r1 => gL_ag h1 r1 ((held (ihb.E N hN false) t t' h1).bind fun b b' u u' h2 l2 r2 => mAppend_ag h2 (r1.mono l2) r2), fun N hN => tr (fun _ => rfl), fun N hN => ⟨rfl, fun p hp => by simp [evJ] at hp⟩, fun N hN => tr (fun _ => rfl), fun N hN => tr (fun _ => rfl), fun N hN => tr (fun _ => rfl), fun N hN => tr (fun _ => rfl), fun N hN => tr (fun _ => rfl), fun N hN => tr (fun _ => rfl), fun N hN => tr (fun _ => rfl), fun N hN => tr (fun _ => rfl), trS (fun _ => rfl), trS (fun _ => rfl)⟩
  | popAt a b iha ihb =>
    intro w
    simp only [wfI, Bool.and_eq_true] at w
    obtain ⟨wa, wb⟩ := w
    have iha := iha wa
    have ihb := ihb wb
    exact ⟨fun N hN st => toR fun s s' h => (held (iha.E N hN false) s s' h).bind fun a a' t t' h1 l1 r1 => gL_ag h1 r1 ((held (ihb.E N hN false) t t' h1).bind fun b b' u u' h2 l2 r2 => mPopAt_ag h2 (r1.mono l2) r2), fun N hN => tr (fun _ => rfl), fun N hN => ⟨rfl, fun p hp => by simp [evJ] at hp⟩, fun N hN => tr (fun _ => rfl), fun N hN => tr (fun _ => rfl), fun N hN => tr (fun _ => rfl), fun N hN => tr (fun _ => rfl), fun N hN => tr (fun _ => rfl), fun N hN => tr (fun _ => rfl), fun N hN => tr (fun _ => rfl), fun N hN => tr (fun _ => rfl), trS (fun _ => rfl), trS (fun _ => rfl)⟩
  | pop a iha =>
    intro w
    simp only [wfI] at w
    have wa := w
    have iha := iha wa
    exact ⟨fun N hN st => toR (bnd_ag (held (iha.E N hN false)) fun a a' t t' h k => mPop_ag h k), fun N hN => tr (fun _ => rfl), fun N hN => ⟨rfl, fun p hp => by simp [evJ] at hp⟩, fun N hN => tr (fun _ => rfl), fun N hN => tr (fun _ => rfl), fun N hN => tr (fun _ => rfl), fun N hN => tr (fun _ => rfl), fun N hN => tr (fun _ => rfl), fun N hN => tr (fun _ => rfl), fun N hN => tr (fun _ => rfl), fun N hN => tr (fun _ => rfl), trS (fun _ => rfl), trS (fun _ => rfl)⟩
  | split a b iha ihb =>
    intro w
    simp only [wfI, Bool.and_eq_true] at w
    obtain ⟨wa, wb⟩ := w
    have iha := iha wa
    have ihb := ihb wb
    exact ⟨fun N hN st => toR fun s s' h => (held (iha.E N hN false) s s' h).bind fun a a' t t' h1 l1 r1 => gS_ag h1 r1 ((held (ihb.E N hN false) t t' h1).bind fun b b' u u' h2 l2 r2 => mSplit_ag h2 (r1.mono l2) r2), fun N hN => tr (fun _ => rfl), fun N hN => ⟨rfl, fun p hp => by simp [evJ] at hp⟩, fun N hN => tr (fun _ => rfl), fun N hN => tr (fun _ => rfl), fun N hN => tr (fun _ => rfl), fun N hN => tr (fun _ => rfl), fun N hN => tr (fun _ => rfl), fun N hN => tr (fun _ => rfl), fun N hN => tr (fun _ => rfl), fun N hN => tr (fun _ => rfl), trS (fun _ => rfl), trS (fun _ => rfl)⟩
  | join a b iha ihb =>
    intro w
    simp only [wfI, Bool.and_eq_true] at w
    obtain ⟨wa, wb⟩ := w
    have iha := iha wa
    have ihb := ihb wb
    exact ⟨fun N hN st => toR fun s s' h => (held (iha.E N hN false) s s' h).bind fun a a' t t' h1 l1 r1 => gS_ag h1 r1 ((held (ihb.E N hN false) t t' h1).bind fun b b' u u' h2 l2 r2 => mJoin_ag h2 (r1.mono l2) r2), fun N hN => tr (fun _ => rfl), fun N hN => ⟨rfl, fun p hp => by simp [evJ] at hp⟩, fun N hN => tr (fun _ => rfl), fun N hN => tr (fun _ => rfl), fun N hN => tr (fun _ => rfl), fun N hN => tr (fun _ => rfl), fun N hN => tr (fun _ => rfl), fun N hN => tr (fun _ => rfl), fun N hN => tr (fun _ => rfl), fun N hN => tr (fun _ => rfl), trS (fun _ => rfl), trS (fun _ => rfl)⟩
  | fstr a iha =>
    intro w
    simp only [wfI] at w
    have wa := w
    have iha := iha wa
    exact ⟨fun N hN st => toR fun s s' h => (jsD_ag (iha.J N hN).1 (iha.J N hN).2 h).bind fun z z' t t' h1 l1 e => by
      cases e
      exact ag_eq h1, fun N hN => tr (fun _ => rfl), fun N hN => ⟨rfl, fun p hp => by simp [evJ] at hp⟩, fun N hN => tr (fun _ => rfl), fun N hN => tr (fun _ => rfl), fun N hN => tr (fun _ => rfl), fun N hN => tr (fun _ => rfl), fun N hN => tr (fun _ => rfl), fun N hN => tr (fun _ => rfl), fun N hN => tr (fun _ => rfl), fun N hN => tr (fun _ => rfl), trS (fun _ => rfl), trS (fun _ => rfl)⟩
  | fmt a iha =>
    intro w
    simp only [wfI] at w
    have wa := w
    have iha := iha wa
    exact ⟨fun N hN st => toR (bnd_ag (held (iha.E N hN false)) fun a a' t t' h k => fmtR_ag h k), fun N hN => tr (fun _ => rfl), fun N hN => ⟨rfl, fun p hp => by simp [evJ] at hp⟩, fun N hN => tr (fun _ => rfl), fun N hN => tr (fun _ => rfl), fun N hN => tr (fun _ => rfl), fun N hN => tr (fun _ => rfl), fun N hN => tr (fun _ => rfl), fun N hN => tr (fun _ => rfl), fun N hN => tr (fun _ => rfl), fun N hN => tr (fun _ => rfl), trS (fun _ => rfl), trS (fun _ => rfl)⟩
  | rev a iha =>
    intro w
    simp only [wfI] at w
    have wa := w
    have iha := iha wa
    exact ⟨fun N hN st => toR (bnd_ag (held (iha.E N hN false)) fun a a' t t' h k => revR_ag h k), fun N hN => tr (fun _ => rfl), fun N hN => ⟨rfl, fun p hp => by simp [evJ] at hp⟩, fun N hN => tr (fun _ => rfl), fun N hN => tr (fun _ => rfl), fun N hN => tr (fun _ => rfl), fun N hN => tr (fun _ => rfl), fun N hN => tr (fun _ => rfl), fun N hN => tr (fun _ => rfl), fun N hN => tr (fun _ => rfl), fun N hN => tr (fun _ => rfl), trS (fun _ => rfl), trS (fun _ => rfl)⟩
  | repl a y z iha =>
    intro w
    simp only [wfI] at w
    have wa := w
    have iha := iha wa
    exact ⟨fun N hN st => toR (bnd_ag (held (iha.E N hN false)) fun a a' t t' h k => replR_ag h k), fun N hN => tr (fun _ => rfl), fun N hN => ⟨rfl, fun p hp => by simp [evJ] at hp⟩, fun N hN => tr (fun _ => rfl), fun N hN => tr (fun _ => rfl), fun N hN => tr (fun _ => rfl), fun N hN => tr (fun _ => rfl), fun N hN => tr (fun _ => rfl), fun N hN => tr (fun _ => rfl), fun N hN => tr (fun _ => rfl), fun N hN => tr (fun _ => rfl), trS (fun _ => rfl), trS (fun _ => rfl)⟩
  | terr x b ihb =>
    intro w
    simp only [wfI] at w
    have wb := w
    have ihb := ihb wb
    exact ⟨fun N hN st => toR (terr_ag (ihb.E N hN false)), fun N hN => tr (fun _ => rfl), fun N hN => ⟨rfl, fun p hp => by simp [evJ] at hp⟩, fun N hN => tr (fun _ => rfl), fun N hN => tr (fun _ => rfl), fun N hN => tr (fun _ => rfl), fun N hN => tr (fun _ => rfl), fun N hN => tr (fun _ => rfl), fun N hN => tr (fun _ => rfl), fun N hN => tr (fun _ => rfl), fun N hN => tr (fun _ => rfl), trS (fun _ => rfl), trS (fun _ => rfl)⟩
  | told x b ihb =>
    intro w
    simp only [wfI] at w
    have wb := w
    have ihb := ihb wb
    exact ⟨fun N hN st => toR (told_ag (ihb.E N hN false)), fun N hN => tr (fun _ => rfl), fun N hN => ⟨rfl, fun p hp => by simp [evJ] at hp⟩, fun N hN => tr (fun _ => rfl), fun N hN => tr (fun _ => rfl), fun N hN => tr (fun _ => rfl), fun N hN => tr (fun _ => rfl), fun N hN => tr (fun _ => rfl), fun N hN => tr (fun _ => rfl), fun N hN => tr (fun _ => rfl), fun N hN => tr (fun _ => rfl), trS (fun _ => rfl), trS (fun _ => rfl)⟩
  | callV i tab a iha =>
    intro w
    simp only [wfI] at w
    have wa := w
    have iha := iha wa
    exact ⟨fun N hN st => by
      cases st
      · exact callV1 (iha.A N hN)
      · exact tr (fun _ => rfl), fun N hN => tr (fun _ => rfl), fun N hN => ⟨rfl, fun p hp => by simp [evJ] at hp⟩, fun N hN => tr (fun _ => rfl), fun N hN => tr (fun _ => rfl), fun N hN => tr (fun _ => rfl), fun N hN => tr (fun _ => rfl), fun N hN => tr (fun _ => rfl), fun N hN => tr (fun _ => rfl), fun N hN => tr (fun _ => rfl), fun N hN => tr (fun _ => rfl), trS (fun _ => rfl), trS (fun _ => rfl)⟩
  | seq a iha =>
    intro w
    simp only [wfI] at w
    have wa := w
    have iha := iha wa
    exact ⟨fun N hN st => tr (fun _ => rfl), fun N hN => tr (fun _ => rfl), fun N hN => ⟨rfl, fun p hp => by simp [evJ] at hp⟩, fun N hN => tr (fun _ => rfl), fun N hN => tr (fun _ => rfl), fun N hN => tr (fun _ => rfl), fun N hN => tr (fun _ => rfl), fun N hN => tr (fun _ => rfl), fun N hN => tr (fun _ => rfl), fun N hN => bnd_ag (held (iha.E N hN false)) fun a a' t t' h k => itSeq_ag h k, fun N hN => tr (fun _ => rfl), trS (fun _ => rfl), trS (fun _ => rfl)⟩
  | rng1 a iha =>
    intro w
    simp only [wfI] at w
    have wa := w
    have iha := iha wa
    exact ⟨fun N hN st => tr (fun _ => rfl), fun N hN => tr (fun _ => rfl), fun N hN => ⟨rfl, fun p hp => by simp [evJ] at hp⟩, fun N hN => tr (fun _ => rfl), fun N hN => tr (fun _ => rfl), fun N hN => tr (fun _ => rfl), fun N hN => tr (fun _ => rfl), fun N hN => tr (fun _ => rfl), fun N hN => tr (fun _ => rfl), fun N hN => bnd_ag (iha.A N hN) fun a a' t t' h k => rng1_ag h k, fun N hN => tr (fun _ => rfl), trS (fun _ => rfl), trS (fun _ => rfl)⟩
  | rng2 a b iha ihb =>
    intro w
    simp only [wfI, Bool.and_eq_true] at w
    obtain ⟨wa, wb⟩ := w
    have iha := iha wa
    have ihb := ihb wb
    exact ⟨fun N hN st => tr (fun _ => rfl), fun N hN => tr (fun _ => rfl), fun N hN => ⟨rfl, fun p hp => by simp [evJ] at hp⟩, fun N hN => tr (fun _ => rfl), fun N hN => tr (fun _ => rfl), fun N hN => tr (fun _ => rfl), fun N hN => tr (fun _ => rfl), fun N hN => tr (fun _ => rfl), fun N hN => tr (fun _ => rfl), fun N hN => bnd_ag (iha.A N hN) fun a a' t t' h k => rng2_ag h k, fun N hN => tr (fun _ => rfl), trS (fun _ => rfl), trS (fun _ => rfl)⟩
  | pass   =>
    intro w
    exact ⟨fun N hN st => tr (fun _ => rfl), fun N hN => tr (fun _ => rfl), fun N hN => ⟨rfl, fun p hp => by simp [evJ] at hp⟩, fun N hN => tr (fun _ => rfl), fun N hN => tr (fun _ => rfl), fun N hN => tr (fun _ => rfl), fun N hN => tr (fun _ => rfl), fun N hN => tr (fun _ => rfl), fun N hN => tr (fun _ => rfl), fun N hN => tr (fun _ => rfl), fun N hN => tr (fun _ => rfl), fun s s' h => ⟨_, _, rfl, h, .same _⟩, trS (fun _ => rfl)⟩
  | brk   =>
    intro w
    exact ⟨fun N hN st => tr (fun _ => rfl), fun N hN => tr (fun _ => rfl), fun N hN => ⟨rfl, fun p hp => by simp [evJ] at hp⟩, fun N hN => tr (fun _ => rfl), fun N hN => tr (fun _ => rfl), fun N hN => tr (fun _ => rfl), fun N hN => tr (fun _ => rfl), fun N hN => tr (fun _ => rfl), fun N hN => tr (fun _ => rfl), fun N hN => tr (fun _ => rfl), fun N hN => tr (fun _ => rfl), fun s s' h => ⟨_, _, rfl, h, .same _⟩, trS (fun _ => rfl)⟩
  | cnt   =>
    intro w
    exact ⟨fun N hN st => tr (fun _ => rfl), fun N hN => tr (fun _ => rfl), fun N hN => ⟨rfl, fun p hp => by simp [evJ] at hp⟩, fun N hN => tr (fun _ => rfl), fun N hN => tr (fun _ => rfl), fun N hN => tr (fun _ => rfl), fun N hN => tr (fun _ => rfl), fun N hN => tr (fun _ => rfl), fun N hN => tr (fun _ => rfl), fun N hN => tr (fun _ => rfl), fun N hN => tr (fun _ => rfl), fun s s' h => ⟨_, _, rfl, h, .same _⟩, trS (fun _ => rfl)⟩
  | expr a iha =>
    intro w
    simp only [wfI] at w
    have wa := w
    have iha := iha wa
    exact ⟨fun N hN st => tr (fun _ => rfl), fun N hN => tr (fun _ => rfl), fun N hN => ⟨rfl, fun p hp => by simp [evJ] at hp⟩, fun N hN => tr (fun _ => rfl), fun N hN => tr (fun _ => rfl), fun N hN => tr (fun _ => rfl), fun N hN => tr (fun _ => rfl), fun N hN => tr (fun _ => rfl), fun N hN => tr (fun _ => rfl), fun N hN => tr (fun _ => rfl), fun N hN => tr (fun _ => rfl), bnd_agS (iha.E M (fun _ h => h) false) fun a a' t t' h k => exprR_ag h k, trS (fun _ => rfl)⟩
  | ret a iha =>
    intro w
    simp only [wfI] at w
    have wa := w
    have iha := iha wa
    exact ⟨fun N hN st => tr (fun _ => rfl), fun N hN => tr (fun _ => rfl), fun N hN => ⟨rfl, fun p hp => by simp [evJ] at hp⟩, fun N hN => tr (fun _ => rfl), fun N hN => tr (fun _ => rfl), fun N hN => tr (fun _ => rfl), fun N hN => tr (fun _ => rfl), fun N hN => tr (fun _ => rfl), fun N hN => tr (fun _ => rfl), fun N hN => tr (fun _ => rfl), fun N hN => tr (fun _ => rfl), bnd_agS (iha.E M (fun _ h => h) false) fun a a' t t' h k => ⟨_, _, rfl, h, .rt k⟩, trS (fun _ => rfl)⟩
  | ret0   =>
    intro w
    exact ⟨fun N hN st => tr (fun _ => rfl), fun N hN => tr (fun _ => rfl), fun N hN => ⟨rfl, fun p hp => by simp [evJ] at hp⟩, fun N hN => tr (fun _ => rfl), fun N hN => tr (fun _ => rfl), fun N hN => tr (fun _ => rfl), fun N hN => tr (fun _ => rfl), fun N hN => tr (fun _ => rfl), fun N hN => tr (fun _ => rfl), fun N hN => tr (fun _ => rfl), fun N hN => tr (fun _ => rfl), fun s s' h => ⟨_, _, rfl, h, .same _⟩, trS (fun _ => rfl)⟩
  | sif t a b iht iha ihb =>
    intro w
    simp only [wfI, Bool.and_eq_true] at w
    obtain ⟨⟨wt, wa⟩, wb⟩ := w
    have iht := iht wt
    have iha := iha wa
    have ihb := ihb wb
    exact ⟨fun N hN st => tr (fun _ => rfl), fun N hN => tr (fun _ => rfl), fun N hN => ⟨rfl, fun p hp => by simp [evJ] at hp⟩, fun N hN => tr (fun _ => rfl), fun N hN => tr (fun _ => rfl), fun N hN => tr (fun _ => rfl), fun N hN => tr (fun _ => rfl), fun N hN => tr (fun _ => rfl), fun N hN => tr (fun _ => rfl), fun N hN => tr (fun _ => rfl), fun N hN => tr (fun _ => rfl), bnd_agS (iht.T M (fun _ h => h)) fun c c' t t' h e => by
      cases e
      exact choS_ag iha.B ihb.B t t' h, trS (fun _ => rfl)⟩
  | set i a iha =>
    intro w
    simp only [wfI] at w
    have wa := w
    have iha := iha wa
    exact ⟨fun N hN st => tr (fun _ => rfl), fun N hN => tr (fun _ => rfl), fun N hN => ⟨rfl, fun p hp => by simp [evJ] at hp⟩, fun N hN => tr (fun _ => rfl), fun N hN => tr (fun _ => rfl), fun N hN => tr (fun _ => rfl), fun N hN => tr (fun _ => rfl), fun N hN => tr (fun _ => rfl), fun N hN => tr (fun _ => rfl), fun N hN => tr (fun _ => rfl), fun N hN => tr (fun _ => rfl), bnd_agS (iha.E M (fun _ h => h) (M.contains i)) fun a a' t t' h k => setM_ag h k, trS (fun _ => rfl)⟩
  | setLc i g it ts e own ihg ihit ihts ihe =>
    intro w
    simp only [wfI, Bool.and_eq_true] at w
    obtain ⟨⟨⟨⟨w1, w2⟩, wit⟩, wts⟩, we⟩ := w
    have ihit := ihit wit
    have ihts := ihts wts
    have ihe := ihe we
    exact ⟨fun N hN st => tr (fun _ => rfl), fun N hN => tr (fun _ => rfl), fun N hN => ⟨rfl, fun p hp => by simp [evJ] at hp⟩, fun N hN => tr (fun _ => rfl), fun N hN => tr (fun _ => rfl), fun N hN => tr (fun _ => rfl), fun N hN => tr (fun _ => rfl), fun N hN => tr (fun _ => rfl), fun N hN => tr (fun _ => rfl), fun N hN => tr (fun _ => rfl), fun N hN => tr (fun _ => rfl), bnd_agS (toR (let N := M; let hN : Sb M M := fun _ h => h; compD_ag (fun i hi => hN i (by simpa using (List.all_eq_true.mp w1) i hi)) (ihit.I N hN) (fun d => (evG_ag g w2).1 d) (ihts.Ts _ hN.app) (held (ihe.E _ hN.app false)))) fun a a' t t' h k => setM_ag h k, trS (fun _ => rfl)⟩
  | asg g a ihg iha =>
    intro w
    simp only [wfI, Bool.and_eq_true] at w
    obtain ⟨wg, wa⟩ := w
    have ihg := ihg wg
    have iha := iha wa
    exact ⟨fun N hN st => tr (fun _ => rfl), fun N hN => tr (fun _ => rfl), fun N hN => ⟨rfl, fun p hp => by simp [evJ] at hp⟩, fun N hN => tr (fun _ => rfl), fun N hN => tr (fun _ => rfl), fun N hN => tr (fun _ => rfl), fun N hN => tr (fun _ => rfl), fun N hN => tr (fun _ => rfl), fun N hN => tr (fun _ => rfl), fun N hN => tr (fun _ => rfl), fun N hN => tr (fun _ => rfl), bnd_agS (held (iha.E M (fun _ h => h) false)) fun a a' t t' h k => asgR_ag h k, trS (fun _ => rfl)⟩
  | par i j a b iha ihb =>
    intro w
    simp only [wfI, Bool.and_eq_true] at w
    obtain ⟨wa, wb⟩ := w
    have iha := iha wa
    have ihb := ihb wb
    exact ⟨fun N hN st => tr (fun _ => rfl), fun N hN => tr (fun _ => rfl), fun N hN => ⟨rfl, fun p hp => by simp [evJ] at hp⟩, fun N hN => tr (fun _ => rfl), fun N hN => tr (fun _ => rfl), fun N hN => tr (fun _ => rfl), fun N hN => tr (fun _ => rfl), fun N hN => tr (fun _ => rfl), fun N hN => tr (fun _ => rfl), fun N hN => tr (fun _ => rfl), fun N hN => tr (fun _ => rfl), parD_ag (holdM_ag (iha.E M (fun _ h => h) (M.contains i))) (holdM_ag (ihb.E M (fun _ h => h) (M.contains j))), trS (fun _ => rfl)⟩
  | for_ g it body ihg ihit ihbody =>
    intro w
    simp only [wfI, Bool.and_eq_true] at w
    obtain ⟨⟨wg, wit⟩, wbody⟩ := w
    have ihg := ihg wg
    have ihit := ihit wit
    have ihbody := ihbody wbody
    exact ⟨fun N hN st => tr (fun _ => rfl), fun N hN => tr (fun _ => rfl), fun N hN => ⟨rfl, fun p hp => by simp [evJ] at hp⟩, fun N hN => tr (fun _ => rfl), fun N hN => tr (fun _ => rfl), fun N hN => tr (fun _ => rfl), fun N hN => tr (fun _ => rfl), fun N hN => tr (fun _ => rfl), fun N hN => tr (fun _ => rfl), fun N hN => tr (fun _ => rfl), fun N hN => tr (fun _ => rfl), bnd_agS (ihit.I M (fun _ h => h)) fun ds ds' t t' h e => by
      cases e
      exact forLoop_ag (fun d s s' t' hh q => by
        obtain ⟨t, k1, k2, _⟩ := (evG_ag (N := M) (vs := slots g) g (by rw [List.all_eq_true]; intro i hi; simpa using hi)).1 d s s' t' hh q
        exact ⟨t, k1, k2⟩) ihbody.B t t' h, trS (fun _ => rfl)⟩
  | whl t body iht ihbody =>
    intro w
    simp only [wfI, Bool.and_eq_true] at w
    obtain ⟨wt, wbody⟩ := w
    have iht := iht wt
    have ihbody := ihbody wbody
    exact ⟨fun N hN st => tr (fun _ => rfl), fun N hN => tr (fun _ => rfl), fun N hN => ⟨rfl, fun p hp => by simp [evJ] at hp⟩, fun N hN => tr (fun _ => rfl), fun N hN => tr (fun _ => rfl), fun N hN => tr (fun _ => rfl), fun N hN => tr (fun _ => rfl), fun N hN => tr (fun _ => rfl), fun N hN => tr (fun _ => rfl), fun N hN => tr (fun _ => rfl), fun N hN => tr (fun _ => rfl), whileD_ag (iht.T M (fun _ h => h)) ihbody.B, trS (fun _ => rfl)⟩
  | raise x  =>
    intro w
    exact ⟨fun N hN st => tr (fun _ => rfl), fun N hN => tr (fun _ => rfl), fun N hN => ⟨rfl, fun p hp => by simp [evJ] at hp⟩, fun N hN => tr (fun _ => rfl), fun N hN => tr (fun _ => rfl), fun N hN => tr (fun _ => rfl), fun N hN => tr (fun _ => rfl), fun N hN => tr (fun _ => rfl), fun N hN => tr (fun _ => rfl), fun N hN => tr (fun _ => rfl), fun N hN => tr (fun _ => rfl), fun s s' h => ⟨_, rfl, h⟩, trS (fun _ => rfl)⟩
  | tok i y a r iha ihr =>
    intro w
    simp only [wfI, Bool.and_eq_true] at w
    obtain ⟨wa, wr⟩ := w
    have iha := iha wa
    have ihr := ihr wr
    exact ⟨fun N hN st => tr (fun _ => rfl), fun N hN => tr (fun _ => rfl), fun N hN => ⟨rfl, fun p hp => by simp [evJ] at hp⟩, fun N hN => tr (fun _ => rfl), fun N hN => tr (fun _ => rfl), fun N hN => tr (fun _ => rfl), fun N hN => tr (fun _ => rfl), fun N hN => tr (fun _ => rfl), fun N hN => tr (fun _ => rfl), fun N hN => tr (fun _ => rfl), fun N hN => tr (fun _ => rfl), trS (fun _ => rfl), seqD_ag (bnd_agS (bnd_ag (rel2 := Rs M (M.contains i)) (iha.A M (fun _ h => h)) fun a a' t t' h k => (lstR_ag h (.cons (.same _) k)).imp fun _ _ _ q => Rs.same q) fun a a' t t' h k => setM_ag h k) ihr.B⟩
end AL



set_option Elab.async false
set_option linter.all false
set_option maxRecDepth 100000
set_option maxHeartbeats 1000000
/-! PV6: a def by its plain reading. -/
namespace AL
open PySem PySem.Spec PyProof.Rows L2
section
variable {M : List Nat} {s s' t t' : S} {r r' : R}
theorem ioCs_ag (h : Er M s s') : ∀ {ps : List Nat}, ioCs s ps = ioCs s' ps
  | [] => rfl
  | i :: is => by
    unfold ioCs
    rw [ioCs_ag h (ps := is)]
    rcases h i with ⟨e, _⟩ | ⟨_, d, _, e1, e2⟩
    · rw [e]
    · rw [e1, e2]
theorem outR_ag {pos : List Nat} (h : Er M s s') (k : Rr M s r r') : outR r pos s = outR r' pos s' ∨ ∃ d, heapD d = true ∧ outR r pos s = some (.fr d) ∧ outR r' pos s' = some (.sh d) := by
  cases k with
  | hd k =>
    cases k with
    | same r =>
      cases r with
      | sh d => exact .inl rfl
      | fr d => exact .inl rfl
      | ob i =>
        unfold outR
        dsimp only
        rcases h i with ⟨e, _⟩ | ⟨_, d, hd, e1, e2⟩
        · rw [e]; exact .inl rfl
        · rw [e1, e2]; exact .inr ⟨d, hd, rfl, rfl⟩
    | vr a b c =>
      unfold outR
      dsimp only
      rcases c with c | c
      · rw [c]; exact .inr ⟨_, b, rfl, rfl⟩
      · rw [c]; exact .inl rfl
  | fr hd => exact .inr ⟨_, hd, rfl, rfl⟩
theorem outOf_ag {pos : List Nat} {m m' : Res Fl} (k : AgF M m m') (hb : (outOf pos m').loose ≠ .bad) : (outOf pos m).loose = (outOf pos m').loose := by
  cases m' with
  | bad => exact absurd rfl hb
  | exc c t' =>
    obtain ⟨t, rfl, h⟩ := k
    unfold outOf
    dsimp only
    rw [ioCs_ag h]
  | ok fl t' =>
    obtain ⟨fl2, t, rfl, h, hfl⟩ := k
    cases hfl with
    | same fl =>
      cases fl with
      | nx => unfold outOf; dsimp only; rw [ioCs_ag h]
      | bk => rfl
      | ct => rfl
      | rt r =>
        unfold outOf
        dsimp only
        rw [ioCs_ag h]
        rcases outR_ag (pos := pos) h (.hd (.same r)) with e | ⟨d, hd, e1, e2⟩
        · rw [e]
        · rw [e1, e2]
          cases ioCs t' pos with
          | none => rfl
          | some ns => unfold Out.loose; dsimp only; rw [if_pos hd]
    | rt k =>
      unfold outOf
      dsimp only
      rw [ioCs_ag h]
      rcases outR_ag (pos := pos) h k with e | ⟨d, hd, e1, e2⟩
      · rw [e]
      · rw [e1, e2]
        cases ioCs t' pos with
        | none => rfl
        | some ns => unfold Out.loose; dsimp only; rw [if_pos hd]
theorem initP_now : ∀ {m : List Bool} {ds : List D} {i : Nat} {d : D}, (initP m ds)[i]? ≠ some (some (.ow d))
  | [], ds, i, d, e => by cases ds <;> simp [initP] at e
  | true :: m, [], i, d, e => by simp [initP] at e
  | false :: m, [], i, d, e => by simp [initP] at e
  | true :: m, c :: ds, 0, d, e => by simp [initP] at e
  | false :: m, c :: ds, 0, d, e => by simp [initP] at e
  | true :: m, c :: ds, i + 1, d, e => by simp [initP] at e; exact initP_now e
  | false :: m, c :: ds, i + 1, d, e => by simp [initP] at e; exact initP_now e
theorem init_now {m : List Bool} {ds : List D} {n i : Nat} {d : D} : (init m ds n)[i]? ≠ some (some (.ow d)) := fun e => by
  unfold init at e
  rw [List.getElem?_append] at e
  split at e
  · exact initP_now e
  · rw [List.getElem?_replicate] at e
    split at e <;> cases e
/-- a def without its plain reading's looseness -/
theorem pv_run {m : List Bool} {n : Nat} {ir : I} {ds : List D} {o : Out} (M : List Nat) (w : wfI M ir = true) (h : ((runF m n (pvB M ir)).run ds).loose = o) (ho : o ≠ .bad) : ((runF m n (evB ir)).run ds).loose = o := by
  subst h
  unfold runF at ho ⊢
  dsimp only at ho ⊢
  split
  · rename_i c
    rw [if_pos c] at ho
    exact outOf_ag ((pv_all M ir w).B _ _ fun i => .inl ⟨rfl, fun _ d => init_now⟩) ho
  · rfl
end
end AL


set_option Elab.async false
set_option linter.all false
set_option maxRecDepth 100000
/-! CD: the code of the defs as data (printed by cdgen.py). -/
namespace CD
open PySem PySem.Spec PyProof.Rows L2
/-- 0 value, 1 low, 2 high -/
noncomputable def ir_is_whole : AL.I :=
  (.cons (.ret (.and_ (.cons (.isi "int" (.var 0)) (.cons (.not_ (.isi "bool" (.var 0))) (.cons (.chn .LtE .LtE (.var 1) (.var 0) (.var 2)) .nil))))) .nil)
def M_is_whole : List Nat := []
theorem w_is_whole : AL.wfI M_is_whole ir_is_whole = true := by decide +kernel
noncomputable def F_is_whole : AL.Fs := AL.runF [false, false, false] 3 (AL.evB ir_is_whole)
noncomputable def P_is_whole : AL.Fs := AL.runF [false, false, false] 3 (AL.pvB M_is_whole ir_is_whole)
/-- 0 value, 1 low, 2 high -/
noncomputable def ir_is_row : AL.I :=
  (.cons (.ret (.and_ (.cons (.isi "tuple" (.var 0)) (.cons (.chn .LtE .LtE (.var 1) (.bi .len (.cons (.var 0) .nil)) (.var 2)) .nil)))) .nil)
def M_is_row : List Nat := []
theorem w_is_row : AL.wfI M_is_row ir_is_row = true := by decide +kernel
noncomputable def F_is_row : AL.Fs := AL.runF [false, false, false] 3 (AL.evB ir_is_row)
noncomputable def P_is_row : AL.Fs := AL.runF [false, false, false] 3 (AL.pvB M_is_row ir_is_row)
/-- 0 value -/
noncomputable def ir_is_kind : AL.I :=
  (.cons (.ret (.and_ (.cons (.isi "str" (.var 0)) (.cons (.cmp .In (.var 0) (.tup (.cons (.cst (.str "b")) (.cons (.cst (.str "w")) .nil)))) .nil)))) .nil)
def M_is_kind : List Nat := []
theorem w_is_kind : AL.wfI M_is_kind ir_is_kind = true := by decide +kernel
noncomputable def F_is_kind : AL.Fs := AL.runF [false] 1 (AL.evB ir_is_kind)
noncomputable def P_is_kind : AL.Fs := AL.runF [false] 1 (AL.pvB M_is_kind ir_is_kind)
/-- 0 value, 1 pair -/
noncomputable def ir_is_machine : AL.I :=
  (.cons (.sif (.or_ (.cons (.not_ (.tru (.call "is_row" F_is_row (.cons (.var 0) (.cons (.cst (.int 1)) (.cons (.glo "STATES" (.int 3)) .nil)))))) (.cons (.not_ (.tru (.bi .all_ (.cons (.comp (.var 1) (.seq (.var 0)) .nil (.call "is_row" F_is_row (.cons (.var 1) (.cons (.cst (.int 2)) (.cons (.cst (.int 2)) .nil)))) [("pair", 1)]) .nil)))) .nil))) (.cons (.ret (.cst (.bl false))) .nil) .nil) (.cons (.ret (.bi .all_ (.cons (.comp (.var 1) (.seq (.var 0)) .nil (.and_ (.cons (.call "is_whole" F_is_whole (.cons (.ix (.var 1) (.cst (.int 0))) (.cons (.cst (.int 0)) (.cons (.bin .Sub (.bi .len (.cons (.var 0) .nil)) (.cst (.int 1))) .nil)))) (.cons (.call "is_whole" F_is_whole (.cons (.ix (.var 1) (.cst (.int 1))) (.cons (.cst (.int 0)) (.cons (.bin .Sub (.bi .len (.cons (.var 0) .nil)) (.cst (.int 1))) .nil)))) .nil))) [("pair", 1)]) .nil))) .nil))
def M_is_machine : List Nat := [1]
theorem w_is_machine : AL.wfI M_is_machine ir_is_machine = true := by decide +kernel
noncomputable def F_is_machine : AL.Fs := AL.runF [false] 2 (AL.evB ir_is_machine)
noncomputable def P_is_machine : AL.Fs := AL.runF [false] 2 (AL.pvB M_is_machine ir_is_machine)
/-- 0 value, 1 row, 2 kind -/
noncomputable def ir_fits_plan : AL.I :=
  (.cons (.sif (.or_ (.cons (.not_ (.tru (.call "is_row" F_is_row (.cons (.var 0) (.cons (.cst (.int 3)) (.cons (.cst (.int 3)) .nil)))))) (.cons (.not_ (.tru (.call "is_machine" F_is_machine (.cons (.ix (.var 0) (.cst (.int 0))) .nil)))) (.cons (.not_ (.tru (.call "is_machine" F_is_machine (.cons (.ix (.var 0) (.cst (.int 1))) .nil)))) .nil)))) (.cons (.ret (.cst (.bl false))) .nil) .nil) (.cons (.sif (.not_ (.tru (.call "is_row" F_is_row (.cons (.ix (.var 0) (.cst (.int 2))) (.cons (.bi .len (.cons (.ix (.var 0) (.cst (.int 1))) .nil)) (.cons (.bi .len (.cons (.ix (.var 0) (.cst (.int 1))) .nil)) .nil)))))) (.cons (.ret (.cst (.bl false))) .nil) .nil) (.cons (.for_ (.var 1) (.seq (.ix (.var 0) (.cst (.int 2)))) (.cons (.sif (.or_ (.cons (.not_ (.tru (.isi "str" (.var 1)))) (.cons (.cmp .NotEq (.bi .len (.cons (.var 1) .nil)) (.bi .len (.cons (.ix (.var 0) (.cst (.int 0))) .nil))) (.cons (.not_ (.tru (.bi .all_ (.cons (.comp (.var 2) (.seq (.var 1)) .nil (.call "is_kind" F_is_kind (.cons (.var 2) .nil)) [("kind", 2)]) .nil)))) .nil)))) (.cons (.ret (.cst (.bl false))) .nil) .nil) .nil)) (.cons (.ret (.cst (.bl true))) .nil))))
def M_fits_plan : List Nat := [2]
theorem w_fits_plan : AL.wfI M_fits_plan ir_fits_plan = true := by decide +kernel
noncomputable def F_fits_plan : AL.Fs := AL.runF [false] 3 (AL.evB ir_fits_plan)
noncomputable def P_fits_plan : AL.Fs := AL.runF [false] 3 (AL.pvB M_fits_plan ir_fits_plan)
/-- 0 value -/
noncomputable def ir_need_plan : AL.I :=
  (.cons (.sif (.not_ (.tru (.call "fits_plan" F_fits_plan (.cons (.var 0) .nil)))) (.cons (.raise "InvalidPlan") .nil) .nil) .nil)
def M_need_plan : List Nat := []
theorem w_need_plan : AL.wfI M_need_plan ir_need_plan = true := by decide +kernel
noncomputable def F_need_plan : AL.Fs := AL.runF [false] 1 (AL.evB ir_need_plan)
noncomputable def P_need_plan : AL.Fs := AL.runF [false] 1 (AL.pvB M_need_plan ir_need_plan)
/-- 0 script, 1 k -/
noncomputable def ir__law_cell : AL.I :=
  (.cons (.sif (.cmp .Lt (.var 1) (.bi .len (.cons (.var 0) .nil))) (.cons (.ret (.ix (.var 0) (.var 1))) .nil) .nil) (.cons (.sif (.cmp .Eq (.bi .len (.cons (.var 0) .nil)) (.cst (.int 0))) (.cons (.ret (.bin .Add (.bin .Mult (.cst (.int 7919)) (.var 1)) (.cst (.int 101)))) .nil) .nil) (.cons (.ret (.bin .Add (.bin .Mod (.ix (.var 0) (.bin .Mod (.var 1) (.bi .len (.cons (.var 0) .nil)))) (.cst (.int 1000003))) (.bin .Mult (.cst (.int 7919)) (.var 1)))) .nil)))
def M__law_cell : List Nat := []
theorem w__law_cell : AL.wfI M__law_cell ir__law_cell = true := by decide +kernel
noncomputable def F__law_cell : AL.Fs := AL.runF [false, false] 2 (AL.evB ir__law_cell)
noncomputable def P__law_cell : AL.Fs := AL.runF [false, false] 2 (AL.pvB M__law_cell ir__law_cell)
/-- 0 script, 1 k, 2 many, 3 base, 4 primes, 5 cell, 6 rest, 7 row, 8 j, 9 mash -/
noncomputable def ir__law_draws : AL.I :=
  (.cons (.set 4 (.tup (.cons (.cst (.int 2147483647)) (.cons (.cst (.int 2147483629)) (.cons (.cst (.int 2147483587)) (.cons (.cst (.int 2147483579)) (.cons (.cst (.int 2147483563)) (.cons (.cst (.int 2147483549)) (.cons (.cst (.int 2147483543)) (.cons (.cst (.int 2147483497)) .nil)))))))))) (.cons (.set 5 (.call "_law_cell" F__law_cell (.cons (.var 0) (.cons (.var 1) .nil)))) (.cons (.set 6 (.cst (.int 0))) (.cons (.sif (.cmp .GtE (.var 5) (.bin .Pow (.cst (.int 10)) (.cst (.int 18)))) (.cons (.set 6 (.var 5)) .nil) .nil) (.cons (.set 7 (.lst .nil)) (.cons (.for_ (.var 8) (.rng1 (.cons (.var 2) .nil)) (.cons (.set 9 (.bin .Mult (.bin .Mod (.var 5) (.ix (.var 4) (.bin .Mod (.var 8) (.cst (.int 8))))) (.bin .Add (.cst (.int 48271)) (.bin .Mult (.bin .Mult (.cst (.int 2)) (.var 8)) (.var 8))))) (.cons (.set 9 (.bin .Add (.bin .Add (.var 9) (.bin .Mult (.bin .Mult (.cst (.int 7919)) (.bin .Add (.var 8) (.cst (.int 1)))) (.bin .Add (.var 8) (.cst (.int 1))))) (.bin .Mult (.cst (.int 104729)) (.var 1)))) (.cons (.set 9 (.bin .Mod (.var 9) (.ix (.var 4) (.bin .Mod (.bin .Add (.bin .Mult (.cst (.int 3)) (.var 8)) (.var 1)) (.cst (.int 8)))))) (.cons (.set 9 (.bin .Mod (.bin .Mult (.bin .Mult (.var 9) (.var 9)) (.var 9)) (.ix (.var 4) (.bin .Mod (.bin .Add (.var 8) (.cst (.int 5))) (.cst (.int 8)))))) (.cons (.sif (.cmp .Gt (.var 6) (.cst (.int 0))) (.cons (.set 9 (.var 6)) .nil) .nil) (.cons (.expr (.app (.var 7) (.bin .Mod (.var 9) (.var 3)))) (.cons (.set 6 (.bin .FloorDiv (.var 6) (.var 3))) .nil)))))))) (.cons (.ret (.var 7)) .nil)))))))
def M__law_draws : List Nat := [7]
theorem w__law_draws : AL.wfI M__law_draws ir__law_draws = true := by decide +kernel
noncomputable def F__law_draws : AL.Fs := AL.runF [false, false, false, false] 10 (AL.evB ir__law_draws)
noncomputable def P__law_draws : AL.Fs := AL.runF [false, false, false, false] 10 (AL.pvB M__law_draws ir__law_draws)
/-- 0 script, 1 k -/
noncomputable def ir__law_bag : AL.I :=
  (.cons (.ret (.call "_law_draws" F__law_draws (.cons (.var 0) (.cons (.var 1) (.cons (.cst (.int 150)) (.cons (.cst (.int 27720)) .nil)))))) .nil)
def M__law_bag : List Nat := []
theorem w__law_bag : AL.wfI M__law_bag ir__law_bag = true := by decide +kernel
noncomputable def F__law_bag : AL.Fs := AL.runF [false, false] 2 (AL.evB ir__law_bag)
noncomputable def P__law_bag : AL.Fs := AL.runF [false, false] 2 (AL.pvB M__law_bag ir__law_bag)
/-- 0 bag, 1 many, 2 draw -/
noncomputable def ir__law_take : AL.I :=
  (.cons (.set 2 (.ite (.cmp .NotEq (.var 0) (.lst .nil)) (.popAt (.var 0) (.cst (.int 0))) (.cst (.int 0)))) (.cons (.ret (.bin .Mod (.bi .int_ (.cons (.var 2) .nil)) (.var 1))) .nil))
def M__law_take : List Nat := [0]
theorem w__law_take : AL.wfI M__law_take ir__law_take = true := by decide +kernel
noncomputable def F__law_take : AL.Fs := AL.runF [true, false] 3 (AL.evB ir__law_take)
noncomputable def P__law_take : AL.Fs := AL.runF [true, false] 3 (AL.pvB M__law_take ir__law_take)
/-- 0 bag, 1 some -/
noncomputable def ir__law_choice : AL.I :=
  (.cons (.ret (.ix (.var 1) (.call "_law_take" F__law_take (.cons (.var 0) (.cons (.bi .len (.cons (.var 1) .nil)) .nil))))) .nil)
def M__law_choice : List Nat := [0]
theorem w__law_choice : AL.wfI M__law_choice ir__law_choice = true := by decide +kernel
noncomputable def F__law_choice : AL.Fs := AL.runF [true, false] 2 (AL.evB ir__law_choice)
noncomputable def P__law_choice : AL.Fs := AL.runF [true, false] 2 (AL.pvB M__law_choice ir__law_choice)
/-- 0 parity, 1 ahead, 2 alone -/
noncomputable def ir__law_known : AL.I :=
  (.cons (.set 0 (.tup (.cons (.tup (.cons (.tup (.cons (.cst (.int 1)) (.cons (.cst (.int 0)) .nil))) (.cons (.tup (.cons (.cst (.int 0)) (.cons (.cst (.int 1)) .nil))) .nil))) (.cons (.tup (.cons (.tup (.cons (.cst (.int 1)) (.cons (.cst (.int 2)) .nil))) (.cons (.tup (.cons (.cst (.int 2)) (.cons (.cst (.int 1)) .nil))) (.cons (.tup (.cons (.cst (.int 1)) (.cons (.cst (.int 2)) .nil))) .nil)))) (.cons (.tup (.cons (.cst (.str "wb")) (.cons (.cst (.str "bw")) (.cons (.cst (.str "wb")) .nil)))) .nil))))) (.cons (.set 1 (.tup (.cons (.tup (.cons (.tup (.cons (.cst (.int 1)) (.cons (.cst (.int 2)) .nil))) (.cons (.tup (.cons (.cst (.int 1)) (.cons (.cst (.int 2)) .nil))) (.cons (.tup (.cons (.cst (.int 1)) (.cons (.cst (.int 2)) .nil))) .nil)))) (.cons (.tup (.cons (.tup (.cons (.cst (.int 0)) (.cons (.cst (.int 0)) .nil))) .nil)) (.cons (.tup (.cons (.cst (.str "bbw")) .nil)) .nil))))) (.cons (.set 2 (.tup (.cons (.tup (.cons (.tup (.cons (.cst (.int 0)) (.cons (.cst (.int 0)) .nil))) .nil)) (.cons (.tup (.cons (.tup (.cons (.cst (.int 0)) (.cons (.cst (.int 0)) .nil))) .nil)) (.cons (.tup (.cons (.cst (.str "b")) .nil)) .nil))))) (.cons (.ret (.lst (.cons (.var 0) (.cons (.var 1) (.cons (.var 2) (.cons (.tup (.cons (.tup (.cons (.tup (.cons (.cst (.int 1)) (.cons (.cst (.int 1)) .nil))) (.cons (.tup (.cons (.cst (.int 1)) (.cons (.cst (.int 1)) .nil))) .nil))) (.cons (.tup (.cons (.tup (.cons (.cst (.int 1)) (.cons (.cst (.int 1)) .nil))) (.cons (.tup (.cons (.cst (.int 0)) (.cons (.cst (.int 0)) .nil))) .nil))) (.cons (.tup (.cons (.cst (.str "bb")) (.cons (.cst (.str "ww")) .nil))) .nil)))) .nil)))))) .nil))))
def M__law_known : List Nat := []
theorem w__law_known : AL.wfI M__law_known ir__law_known = true := by decide +kernel
noncomputable def F__law_known : AL.Fs := AL.runF [] 3 (AL.evB ir__law_known)
noncomputable def P__law_known : AL.Fs := AL.runF [] 3 (AL.pvB M__law_known ir__law_known)
/-- 0 bag, 1 size, 2 state -/
noncomputable def ir__law_machine : AL.I :=
  (.cons (.set 1 (.call "_law_choice" F__law_choice (.cons (.var 0) (.cons (.lst (.cons (.cst (.int 1)) (.cons (.cst (.int 2)) (.cons (.cst (.int 2)) (.cons (.cst (.int 3)) (.cons (.cst (.int 3)) .nil)))))) .nil)))) (.cons (.ret (.bi .tuple_ (.cons (.comp (.var 2) (.rng1 (.cons (.var 1) .nil)) .nil (.tup (.cons (.call "_law_take" F__law_take (.cons (.var 0) (.cons (.var 1) .nil))) (.cons (.call "_law_take" F__law_take (.cons (.var 0) (.cons (.var 1) .nil))) .nil))) [("state", 2)]) .nil))) .nil))
def M__law_machine : List Nat := [0, 2]
theorem w__law_machine : AL.wfI M__law_machine ir__law_machine = true := by decide +kernel
noncomputable def F__law_machine : AL.Fs := AL.runF [true] 3 (AL.evB ir__law_machine)
noncomputable def P__law_machine : AL.Fs := AL.runF [true] 3 (AL.pvB M__law_machine ir__law_machine)
/-- 0 bag, 1 ears, 2 size, 3 rows, 4 at, 5 state -/
noncomputable def ir__law_strings : AL.I :=
  (.cons (.set 3 (.lst .nil)) (.cons (.for_ (.var 4) (.rng1 (.cons (.var 1) .nil)) (.cons (.expr (.app (.var 3) (.join (.cst (.str "")) (.comp (.var 5) (.rng1 (.cons (.var 2) .nil)) .nil (.call "_law_choice" F__law_choice (.cons (.var 0) (.cons (.lst (.cons (.cst (.str "b")) (.cons (.cst (.str "w")) .nil))) .nil))) [("state", 5)])))) .nil)) (.cons (.ret (.bi .tuple_ (.cons (.var 3) .nil))) .nil)))
def M__law_strings : List Nat := [0, 3, 5]
theorem w__law_strings : AL.wfI M__law_strings ir__law_strings = true := by decide +kernel
noncomputable def F__law_strings : AL.Fs := AL.runF [true, false, false] 6 (AL.evB ir__law_strings)
noncomputable def P__law_strings : AL.Fs := AL.runF [true, false, false] 6 (AL.pvB M__law_strings ir__law_strings)
/-- 0 bag, 1 way, 2 glance, 3 ear, 4 table -/
noncomputable def ir__law_plan : AL.I :=
  (.cons (.set 1 (.call "_law_take" F__law_take (.cons (.var 0) (.cons (.cst (.int 5)) .nil)))) (.cons (.par 2 3 (.call "_law_machine" F__law_machine (.cons (.var 0) .nil)) (.call "_law_machine" F__law_machine (.cons (.var 0) .nil))) (.cons (.sif (.cmp .Eq (.var 1) (.cst (.int 0))) (.cons (.asg (.tup (.cons (.var 2) (.cons (.var 3) (.cons (.var 4) .nil)))) (.call "_law_choice" F__law_choice (.cons (.var 0) (.cons (.call "_law_known" F__law_known .nil) .nil)))) (.cons (.sif (.cmp .Eq (.call "_law_take" F__law_take (.cons (.var 0) (.cons (.cst (.int 2)) .nil))) (.cst (.int 0))) (.cons (.ret (.tup (.cons (.var 2) (.cons (.var 3) (.cons (.var 4) .nil))))) .nil) .nil) .nil)) .nil) (.cons (.sif (.cmp .Eq (.var 1) (.cst (.int 1))) (.cons (.par 2 3 (.ix (.ix (.call "_law_known" F__law_known .nil) (.cst (.int 0))) (.cst (.int 0))) (.ix (.ix (.call "_law_known" F__law_known .nil) (.cst (.int 0))) (.cst (.int 1)))) .nil) .nil) (.cons (.ret (.tup (.cons (.var 2) (.cons (.var 3) (.cons (.call "_law_strings" F__law_strings (.cons (.var 0) (.cons (.bi .len (.cons (.var 3) .nil)) (.cons (.bi .len (.cons (.var 2) .nil)) .nil)))) .nil))))) .nil)))))
def M__law_plan : List Nat := [0]
theorem w__law_plan : AL.wfI M__law_plan ir__law_plan = true := by decide +kernel
noncomputable def F__law_plan : AL.Fs := AL.runF [true] 5 (AL.evB ir__law_plan)
noncomputable def P__law_plan : AL.Fs := AL.runF [true] 5 (AL.pvB M__law_plan ir__law_plan)
/-- 0 some, 1 one, 2 pair -/
noncomputable def ir__law_bad_plans : AL.I :=
  (.cons (.asg (.tup (.cons (.var 1) (.cons (.var 2) .nil))) (.tup (.cons (.tup (.cons (.tup (.cons (.cst (.int 0)) (.cons (.cst (.int 0)) .nil))) .nil)) (.cons (.tup (.cons (.tup (.cons (.cst (.int 1)) (.cons (.cst (.int 0)) .nil))) (.cons (.tup (.cons (.cst (.int 0)) (.cons (.cst (.int 1)) .nil))) .nil))) .nil)))) (.cons (.set 0 (.lst (.cons (.cst .non) (.cons (.tup (.cons (.var 1) (.cons (.var 1) .nil))) (.cons (.tup (.cons (.var 1) (.cons (.var 1) (.cons (.lst (.cons (.cst (.str "b")) .nil)) .nil)))) (.cons (.tup (.cons (.var 1) (.cons (.var 1) (.cons (.tup (.cons (.cst (.str "bb")) .nil)) .nil)))) (.cons (.tup (.cons (.var 1) (.cons (.var 1) (.cons (.tup (.cons (.cst (.str "x")) .nil)) .nil)))) (.cons (.tup (.cons (.var 2) (.cons (.var 1) (.cons (.tup (.cons (.cst (.str "b")) .nil)) .nil)))) .nil)))))))) (.cons (.ret (.bin .Add (.var 0) (.lst (.cons (.tup (.cons (.tup (.cons (.tup (.cons (.cst (.int 1)) (.cons (.cst (.int 0)) .nil))) .nil)) (.cons (.var 1) (.cons (.tup (.cons (.cst (.str "b")) .nil)) .nil)))) (.cons (.tup (.cons (.tup (.cons (.tup (.cons (.cst (.bl true)) (.cons (.cst (.int 0)) .nil))) (.cons (.tup (.cons (.cst (.int 0)) (.cons (.cst (.int 1)) .nil))) .nil))) (.cons (.var 1) (.cons (.tup (.cons (.cst (.str "bw")) .nil)) .nil)))) (.cons (.tup (.cons (.tup .nil) (.cons (.var 1) (.cons (.tup (.cons (.cst (.str "")) .nil)) .nil)))) (.cons (.tup (.cons (.var 1) (.cons (.var 1) (.cons (.tup .nil) .nil)))) .nil))))))) .nil)))
def M__law_bad_plans : List Nat := []
theorem w__law_bad_plans : AL.wfI M__law_bad_plans ir__law_bad_plans = true := by decide +kernel
noncomputable def F__law_bad_plans : AL.Fs := AL.runF [] 3 (AL.evB ir__law_bad_plans)
noncomputable def P__law_bad_plans : AL.Fs := AL.runF [] 3 (AL.pvB M__law_bad_plans ir__law_bad_plans)
/-- 0 plan, 1 rows, 2 word, 3 machine, 4 pair, 5 row -/
noncomputable def ir_as_text : AL.I :=
  (.cons (.set 1 (.lst .nil)) (.cons (.for_ (.tup (.cons (.var 2) (.cons (.var 3) .nil))) (.seq (.tup (.cons (.tup (.cons (.cst (.str "glance")) (.cons (.ix (.var 0) (.cst (.int 0))) .nil))) (.cons (.tup (.cons (.cst (.str "ear")) (.cons (.ix (.var 0) (.cst (.int 1))) .nil))) .nil)))) (.cons (.set 1 (.bin .Add (.var 1) (.lst (.cons (.join (.cst (.str " ")) (.bin .Add (.lst (.cons (.var 2) .nil)) (.comp (.var 4) (.seq (.var 3)) .nil (.fstr (.cons (.fmt (.ix (.var 4) (.cst (.int 0)))) (.cons (.cst (.str ":")) (.cons (.fmt (.ix (.var 4) (.cst (.int 1)))) .nil)))) [("pair", 4)]))) .nil)))) .nil)) (.cons (.ret (.join (.cst (.str "\n")) (.bin .Add (.var 1) (.lst (.cons (.join (.cst (.str " ")) (.bin .Add (.lst (.cons (.cst (.str "says")) .nil)) (.comp (.var 5) (.seq (.ix (.var 0) (.cst (.int 2)))) .nil (.var 5) [("row", 5)]))) .nil))))) .nil)))
def M_as_text : List Nat := [4, 5]
theorem w_as_text : AL.wfI M_as_text ir_as_text = true := by decide +kernel
noncomputable def F_as_text : AL.Fs := AL.runF [false] 6 (AL.evB ir_as_text)
noncomputable def P_as_text : AL.Fs := AL.runF [false] 6 (AL.pvB M_as_text ir_as_text)
/-- 0 plan -/
noncomputable def ir_plan_text : AL.I :=
  (.cons (.expr (.call "need_plan" F_need_plan (.cons (.var 0) .nil))) (.cons (.ret (.call "as_text" F_as_text (.cons (.var 0) .nil))) .nil))
def M_plan_text : List Nat := []
theorem w_plan_text : AL.wfI M_plan_text ir_plan_text = true := by decide +kernel
noncomputable def F_plan_text : AL.Fs := AL.runF [false] 1 (AL.evB ir_plan_text)
noncomputable def P_plan_text : AL.Fs := AL.runF [false] 1 (AL.pvB M_plan_text ir_plan_text)
/-- 0 word, 1 parts, 2 part -/
noncomputable def ir_pair_in : AL.I :=
  (.cons (.set 1 (.split (.var 0) (.cst (.str ":")))) (.cons (.ret (.bi .tuple_ (.cons (.comp (.var 2) (.seq (.var 1)) .nil (.ite (.cmp .In (.var 2) (.tup (.cons (.cst (.str "0")) (.cons (.cst (.str "1")) (.cons (.cst (.str "2")) .nil))))) (.bi .int_ (.cons (.var 2) .nil)) (.var 2)) [("part", 2)]) .nil))) .nil))
def M_pair_in : List Nat := [2]
theorem w_pair_in : AL.wfI M_pair_in ir_pair_in = true := by decide +kernel
noncomputable def F_pair_in : AL.Fs := AL.runF [false] 3 (AL.evB ir_pair_in)
noncomputable def P_pair_in : AL.Fs := AL.runF [false] 3 (AL.pvB M_pair_in ir_pair_in)
/-- 0 text, 1 rows, 2 machines, 3 found, 4 line, 5 row, 6 word -/
noncomputable def ir_text_in : AL.I :=
  (.cons (.sif (.not_ (.tru (.isi "str" (.var 0)))) (.cons (.raise "InvalidText") .nil) .nil) (.cons (.setLc 1 (.var 4) (.seq (.split (.var 0) (.cst (.str "\n")))) .nil (.split (.var 4) (.cst (.str " "))) [("line", 4)]) (.cons (.sif (.cmp .NotEq (.bi .len (.cons (.var 1) .nil)) (.cst (.int 3))) (.cons (.raise "InvalidText") .nil) .nil) (.cons (.setLc 2 (.var 5) (.seq (.slc (.var 1) .nil (.cons (.cst (.int 2)) .nil))) .nil (.bi .tuple_ (.cons (.comp (.var 6) (.seq (.slc (.var 5) (.cons (.cst (.int 1)) .nil) .nil)) .nil (.call "pair_in" F_pair_in (.cons (.var 6) .nil)) [("word", 6)]) .nil)) [("row", 5)]) (.cons (.set 3 (.tup (.cons (.ix (.var 2) (.cst (.int 0))) (.cons (.ix (.var 2) (.cst (.int 1))) (.cons (.bi .tuple_ (.cons (.slc (.ix (.var 1) (.cst (.int 2))) (.cons (.cst (.int 1)) .nil) .nil) .nil)) .nil))))) (.cons (.sif (.or_ (.cons (.not_ (.tru (.call "fits_plan" F_fits_plan (.cons (.var 3) .nil)))) (.cons (.cmp .NotEq (.call "as_text" F_as_text (.cons (.var 3) .nil)) (.var 0)) .nil))) (.cons (.raise "InvalidText") .nil) .nil) (.cons (.ret (.var 3)) .nil)))))))
def M_text_in : List Nat := [4, 5, 6]
theorem w_text_in : AL.wfI M_text_in ir_text_in = true := by decide +kernel
noncomputable def F_text_in : AL.Fs := AL.runF [false] 7 (AL.evB ir_text_in)
noncomputable def P_text_in : AL.Fs := AL.runF [false] 7 (AL.pvB M_text_in ir_text_in)
/-- 0 text -/
noncomputable def ir_read_plan : AL.I :=
  (.cons (.ret (.call "text_in" F_text_in (.cons (.var 0) .nil))) .nil)
def M_read_plan : List Nat := []
theorem w_read_plan : AL.wfI M_read_plan ir_read_plan = true := by decide +kernel
noncomputable def F_read_plan : AL.Fs := AL.runF [false] 1 (AL.evB ir_read_plan)
noncomputable def P_read_plan : AL.Fs := AL.runF [false] 1 (AL.pvB M_read_plan ir_read_plan)
noncomputable def tabV_k11 (z : Str) : Option AL.Fs := if z = "read_plan" then some F_read_plan else if z = "plan_text" then some F_plan_text else none
/-- 0 call, 1 odds, 2 name, 3 odd -/
noncomputable def ir__law_all_refused_k11 : AL.I :=
  (.cons (.ret (.cmp .Eq (.comp (.var 3) (.seq (.var 1)) (.cons (.cmp .NotEq (.terr "_law_error" (.callV 0 tabV_k11 (.cons (.var 3) .nil))) (.var 2)) .nil) (.var 3) [("odd", 3)]) (.lst .nil))) .nil)
def M__law_all_refused_k11 : List Nat := [3]
theorem w__law_all_refused_k11 : AL.wfI M__law_all_refused_k11 ir__law_all_refused_k11 = true := by decide +kernel
noncomputable def F__law_all_refused_k11 : AL.Fs := AL.runF [false, false, false] 4 (AL.evB ir__law_all_refused_k11)
noncomputable def P__law_all_refused_k11 : AL.Fs := AL.runF [false, false, false] 4 (AL.pvB M__law_all_refused_k11 ir__law_all_refused_k11)
/-- 0 plan_so, 1 rows, 2 word, 3 machine, 4 pair -/
noncomputable def ir__law_text : AL.I :=
  (.cons (.set 1 (.lst .nil)) (.cons (.for_ (.tup (.cons (.var 2) (.cons (.var 3) .nil))) (.seq (.lst (.cons (.tup (.cons (.cst (.str "glance")) (.cons (.ix (.var 0) (.cst (.int 0))) .nil))) (.cons (.tup (.cons (.cst (.str "ear")) (.cons (.ix (.var 0) (.cst (.int 1))) .nil))) .nil)))) (.cons (.expr (.app (.var 1) (.join (.cst (.str " ")) (.bin .Add (.lst (.cons (.var 2) .nil)) (.comp (.var 4) (.seq (.var 3)) .nil (.bin .Add (.bin .Add (.bi .str_ (.cons (.ix (.var 4) (.cst (.int 0))) .nil)) (.cst (.str ":"))) (.bi .str_ (.cons (.ix (.var 4) (.cst (.int 1))) .nil))) [("pair", 4)]))))) .nil)) (.cons (.ret (.join (.cst (.str "\n")) (.bin .Add (.var 1) (.lst (.cons (.join (.cst (.str " ")) (.bin .Add (.lst (.cons (.cst (.str "says")) .nil)) (.bi .list_ (.cons (.ix (.var 0) (.cst (.int 2))) .nil)))) .nil))))) .nil)))
def M__law_text : List Nat := [1, 4]
theorem w__law_text : AL.wfI M__law_text ir__law_text = true := by decide +kernel
noncomputable def F__law_text : AL.Fs := AL.runF [false] 5 (AL.evB ir__law_text)
noncomputable def P__law_text : AL.Fs := AL.runF [false] 5 (AL.pvB M__law_text ir__law_text)
/-- 0 parts, 1 word, 2 part, 3 good, 4 found -/
noncomputable def ir__law_machine_in : AL.I :=
  (.cons (.sif (.or_ (.cons (.cmp .NotEq (.ix (.var 0) (.cst (.int 0))) (.var 1)) (.cons (.not_ (.chn .LtE .LtE (.cst (.int 2)) (.bi .len (.cons (.var 0) .nil)) (.cst (.int 4)))) .nil))) (.cons (.ret (.cst .non)) .nil) .nil) (.cons (.par 3 4 (.slc (.lst (.cons (.cst (.str "0")) (.cons (.cst (.str "1")) (.cons (.cst (.str "2")) .nil)))) .nil (.cons (.bin .Sub (.bi .len (.cons (.var 0) .nil)) (.cst (.int 1))) .nil)) (.lst .nil)) (.cons (.for_ (.var 2) (.seq (.slc (.var 0) (.cons (.cst (.int 1)) .nil) .nil)) (.cons (.sif (.or_ (.cons (.cmp .NotEq (.bi .len (.cons (.var 2) .nil)) (.cst (.int 3))) (.cons (.cmp .NotEq (.ix (.var 2) (.cst (.int 1))) (.cst (.str ":"))) (.cons (.cmp .NotIn (.ix (.var 2) (.cst (.int 0))) (.var 3)) (.cons (.cmp .NotIn (.ix (.var 2) (.cst (.int 2))) (.var 3)) .nil))))) (.cons (.ret (.cst .non)) .nil) .nil) (.cons (.expr (.app (.var 4) (.tup (.cons (.bi .int_ (.cons (.ix (.var 2) (.cst (.int 0))) .nil)) (.cons (.bi .int_ (.cons (.ix (.var 2) (.cst (.int 2))) .nil)) .nil))))) .nil))) (.cons (.ret (.bi .tuple_ (.cons (.var 4) .nil))) .nil))))
def M__law_machine_in : List Nat := [4]
theorem w__law_machine_in : AL.wfI M__law_machine_in ir__law_machine_in = true := by decide +kernel
noncomputable def F__law_machine_in : AL.Fs := AL.runF [false, false] 5 (AL.evB ir__law_machine_in)
noncomputable def P__law_machine_in : AL.Fs := AL.runF [false, false] 5 (AL.pvB M__law_machine_in ir__law_machine_in)
/-- 0 text, 1 lines, 2 row, 3 glance, 4 ear, 5 line, 6 sign -/
noncomputable def ir__law_read : AL.I :=
  (.cons (.setLc 1 (.var 5) (.seq (.split (.var 0) (.cst (.str "\n")))) .nil (.split (.var 5) (.cst (.str " "))) [("line", 5)]) (.cons (.sif (.or_ (.cons (.cmp .NotEq (.bi .len (.cons (.var 1) .nil)) (.cst (.int 3))) (.cons (.cmp .NotEq (.ix (.ix (.var 1) (.cst (.int 2))) (.cst (.int 0))) (.cst (.str "says"))) .nil))) (.cons (.ret (.cst .non)) .nil) .nil) (.cons (.par 3 4 (.call "_law_machine_in" F__law_machine_in (.cons (.ix (.var 1) (.cst (.int 0))) (.cons (.cst (.str "glance")) .nil))) (.call "_law_machine_in" F__law_machine_in (.cons (.ix (.var 1) (.cst (.int 1))) (.cons (.cst (.str "ear")) .nil)))) (.cons (.sif (.or_ (.cons (.cmp .Is (.var 3) (.cst .non)) (.cons (.cmp .Is (.var 4) (.cst .non)) (.cons (.cmp .NotEq (.bi .len (.cons (.ix (.var 1) (.cst (.int 2))) .nil)) (.bin .Add (.bi .len (.cons (.var 4) .nil)) (.cst (.int 1)))) .nil)))) (.cons (.ret (.cst .non)) .nil) .nil) (.cons (.for_ (.var 2) (.seq (.slc (.ix (.var 1) (.cst (.int 2))) (.cons (.cst (.int 1)) .nil) .nil)) (.cons (.sif (.or_ (.cons (.cmp .NotEq (.bi .len (.cons (.var 2) .nil)) (.bi .len (.cons (.var 3) .nil))) (.cons (.cmp .NotEq (.comp (.var 6) (.seq (.var 2)) (.cons (.cmp .NotIn (.var 6) (.lst (.cons (.cst (.str "b")) (.cons (.cst (.str "w")) .nil)))) .nil) (.var 6) [("sign", 6)]) (.lst .nil)) .nil))) (.cons (.ret (.cst .non)) .nil) .nil) .nil)) (.cons (.ret (.tup (.cons (.var 3) (.cons (.var 4) (.cons (.bi .tuple_ (.cons (.slc (.ix (.var 1) (.cst (.int 2))) (.cons (.cst (.int 1)) .nil) .nil) .nil)) .nil))))) .nil))))))
def M__law_read : List Nat := [5, 6]
theorem w__law_read : AL.wfI M__law_read ir__law_read = true := by decide +kernel
noncomputable def F__law_read : AL.Fs := AL.runF [false] 7 (AL.evB ir__law_read)
noncomputable def P__law_read : AL.Fs := AL.runF [false] 7 (AL.pvB M__law_read ir__law_read)
/-- 0 bag, 1 text, 2 some, 3 lines, 4 at, 5 spot, 6 way -/
noncomputable def ir__law_bent : AL.I :=
  (.cons (.par 3 4 (.split (.var 1) (.cst (.str "\n"))) (.call "_law_take" F__law_take (.cons (.var 0) (.cons (.bin .Add (.bi .len (.cons (.var 1) .nil)) (.cst (.int 1))) .nil)))) (.cons (.par 5 6 (.call "_law_take" F__law_take (.cons (.var 0) (.cons (.bi .len (.cons (.var 3) .nil)) .nil))) (.call "_law_take" F__law_take (.cons (.var 0) (.cons (.cst (.int 7)) .nil)))) (.tok 2 "" (.cons (.cst (.str "glance 0:0")) (.cons (.cst (.str "ear 0:0")) (.cons (.cst (.str "says b")) (.cons (.cst (.str "says")) (.cons (.cst (.str "glance")) (.cons (.cst (.str "ear 0:1 1:0")) (.cons (.cst (.str "Says b")) (.cons (.cst (.str "ear 00:0")) (.cons (.cst (.str "says b w")) .nil))))))))) (.cons (.sif (.cmp .Eq (.var 6) (.cst (.int 0))) (.cons (.ret (.bin .Add (.bin .Add (.slc (.var 1) .nil (.cons (.var 4) .nil)) (.call "_law_choice" F__law_choice (.cons (.var 0) (.cons (.lst (.cons (.cst (.str " ")) (.cons (.cst (.str "0")) (.cons (.cst (.str "1")) (.cons (.cst (.str "\n")) (.cons (.cst (.str "b")) (.cons (.cst (.str "3")) (.cons (.cst (.str ":")) .nil)))))))) .nil)))) (.slc (.var 1) (.cons (.var 4) .nil) .nil))) .nil) .nil) (.cons (.sif (.cmp .Eq (.var 6) (.cst (.int 1))) (.cons (.ret (.bin .Add (.slc (.var 1) .nil (.cons (.var 4) .nil)) (.slc (.var 1) (.cons (.bin .Add (.var 4) (.cst (.int 1))) .nil) .nil))) .nil) .nil) (.cons (.sif (.cmp .Eq (.var 6) (.cst (.int 2))) (.cons (.ret (.join (.cst (.str "\n")) (.bin .Add (.bin .Add (.slc (.var 3) .nil (.cons (.var 5) .nil)) (.lst (.cons (.call "_law_choice" F__law_choice (.cons (.var 0) (.cons (.var 2) .nil))) .nil))) (.slc (.var 3) (.cons (.var 5) .nil) .nil)))) .nil) .nil) (.cons (.sif (.cmp .Eq (.var 6) (.cst (.int 3))) (.cons (.ret (.join (.cst (.str "\n")) (.bin .Add (.bin .Add (.slc (.var 3) .nil (.cons (.var 5) .nil)) (.lst (.cons (.call "_law_choice" F__law_choice (.cons (.var 0) (.cons (.var 2) .nil))) .nil))) (.slc (.var 3) (.cons (.bin .Add (.var 5) (.cst (.int 1))) .nil) .nil)))) .nil) .nil) (.cons (.sif (.cmp .Eq (.var 6) (.cst (.int 4))) (.cons (.ret (.join (.cst (.str "\n")) (.bin .Add (.slc (.var 3) .nil (.cons (.var 5) .nil)) (.slc (.var 3) (.cons (.bin .Add (.var 5) (.cst (.int 1))) .nil) .nil)))) .nil) .nil) (.cons (.sif (.cmp .Eq (.var 6) (.cst (.int 5))) (.cons (.ret (.join (.cst (.str "\n")) (.rev (.var 3)))) .nil) .nil) (.cons (.ret (.repl (.var 1) "0" "1")) .nil))))))))))
def M__law_bent : List Nat := [0]
theorem w__law_bent : AL.wfI M__law_bent ir__law_bent = true := by decide +kernel
noncomputable def F__law_bent : AL.Fs := AL.runF [true, false] 7 (AL.evB ir__law_bent)
noncomputable def P__law_bent : AL.Fs := AL.runF [true, false] 7 (AL.pvB M__law_bent ir__law_bent)
/-- 0 script, 1 k, 2 some, 3 due, 4 bag, 5 one, 6 text, 7 turn, 8 odd, 9 bent -/
noncomputable def ir_law_k11 : AL.I :=
  (.cons (.for_ (.var 1) (.rng1 (.cons (.cst (.int 8)) .nil)) (.cons (.set 4 (.call "_law_bag" F__law_bag (.cons (.var 0) (.cons (.var 1) .nil)))) (.cons (.set 5 (.call "_law_plan" F__law_plan (.cons (.var 4) .nil))) (.cons (.set 6 (.call "_law_text" F__law_text (.cons (.var 5) .nil))) (.cons (.sif (.or_ (.cons (.cmp .NotEq (.call "plan_text" F_plan_text (.cons (.var 5) .nil)) (.var 6)) (.cons (.cmp .NotEq (.call "read_plan" F_read_plan (.cons (.var 6) .nil)) (.var 5)) .nil))) (.cons (.ret (.cst (.bl false))) .nil) .nil) (.cons (.for_ (.var 7) (.rng1 (.cons (.cst (.int 6)) .nil)) (.cons (.set 9 (.ite (.cmp .Lt (.var 7) (.cst (.int 3))) (.call "_law_bent" F__law_bent (.cons (.var 4) (.cons (.var 6) .nil))) (.call "_law_bent" F__law_bent (.cons (.var 4) (.cons (.call "_law_bent" F__law_bent (.cons (.var 4) (.cons (.var 6) .nil))) .nil))))) (.cons (.set 3 (.call "_law_read" F__law_read (.cons (.var 9) .nil))) (.cons (.sif (.cmp .NotEq (.told "_law_told" (.call "read_plan" F_read_plan (.cons (.var 9) .nil))) (.ite (.cmp .IsNot (.var 3) (.cst .non)) (.tup (.cons (.var 3) (.cons (.cst (.str "")) .nil))) (.tup (.cons (.cst .non) (.cons (.cst (.str "text")) .nil))))) (.cons (.ret (.cst (.bl false))) .nil) .nil) .nil)))) (.cons (.for_ (.var 8) (.seq (.lst (.cons (.cst .non) (.cons (.cst (.int 5)) (.cons (.lst (.cons (.cst (.str "glance 0:0")) .nil)) (.cons (.cst (.bl true)) (.cons (.cst (.str "")) (.cons (.cst (.str "\n\n")) (.cons (.bin .Add (.var 6) (.cst (.str "\n"))) (.cons (.bin .Add (.cst (.str " ")) (.var 6)) (.cons (.bin .Add (.var 6) (.cst (.str " "))) .nil))))))))))) (.cons (.sif (.cmp .NotEq (.terr "_law_error" (.call "read_plan" F_read_plan (.cons (.var 8) .nil))) (.cst (.str "text"))) (.cons (.ret (.cst (.bl false))) .nil) .nil) .nil)) (.cons (.sif (.not_ (.tru (.call "_law_all_refused" F__law_all_refused_k11 (.cons (.glo "plan_text" (.fn "plan_text")) (.cons (.call "_law_bad_plans" F__law_bad_plans .nil) (.cons (.cst (.str "plan")) .nil)))))) (.cons (.ret (.cst (.bl false))) .nil) .nil) .nil)))))))) (.cons (.set 2 (.lst (.cons (.cst (.str "glance 0:0\near 0:0\nsays")) (.cons (.cst (.str "glance 0:1\near 0:0\nsays b")) (.cons (.cst (.str "glance 0:0\near 0:0\nsays bw")) .nil))))) (.cons (.set 2 (.bin .Add (.var 2) (.lst (.cons (.cst (.str "glance 0:0\near 0:0\nsays B")) (.cons (.cst (.str "ear 0:0\nglance 0:0\nsays b")) (.cons (.cst (.str "glance 00:0\near 0:0\nsays b")) .nil)))))) (.cons (.sif (.not_ (.tru (.call "_law_all_refused" F__law_all_refused_k11 (.cons (.glo "read_plan" (.fn "read_plan")) (.cons (.bin .Add (.var 2) (.lst (.cons (.cst (.str "glance 0:0:0\near 0:0\nsays b")) (.cons (.cst (.str "glance\near 0:0\nsays ")) .nil)))) (.cons (.cst (.str "text")) .nil)))))) (.cons (.ret (.cst (.bl false))) .nil) .nil) (.cons (.set 3 (.tup (.cons (.tup (.cons (.tup (.cons (.cst (.int 1)) (.cons (.cst (.int 0)) .nil))) (.cons (.tup (.cons (.cst (.int 0)) (.cons (.cst (.int 1)) .nil))) .nil))) (.cons (.tup (.cons (.tup (.cons (.cst (.int 0)) (.cons (.cst (.int 0)) .nil))) .nil)) (.cons (.tup (.cons (.cst (.str "wb")) .nil)) .nil))))) (.cons (.sif (.cmp .NotEq (.told "_law_told" (.call "plan_text" F_plan_text (.cons (.var 3) .nil))) (.tup (.cons (.cst (.str "glance 1:0 0:1\near 0:0\nsays wb")) (.cons (.cst (.str "")) .nil)))) (.cons (.ret (.cst (.bl false))) .nil) .nil) (.cons (.ret (.cmp .Eq (.told "_law_told" (.call "read_plan" F_read_plan (.cons (.cst (.str "glance 1:0 0:1\near 0:0\nsays wb")) .nil))) (.tup (.cons (.var 3) (.cons (.cst (.str "")) .nil))))) .nil)))))))
def M_law_k11 : List Nat := [4]
theorem w_law_k11 : AL.wfI M_law_k11 ir_law_k11 = true := by decide +kernel
noncomputable def F_law_k11 : AL.Fs := AL.runF [false] 10 (AL.evB ir_law_k11)
noncomputable def P_law_k11 : AL.Fs := AL.runF [false] 10 (AL.pvB M_law_k11 ir_law_k11)
end CD


set_option Elab.async false
set_option linter.all false
set_option maxRecDepth 100000
set_option maxHeartbeats 1000000
/-! SP0: rules by which simp runs code. -/
namespace AL
open PySem PySem.Spec PyProof.Rows L2
def sel {τ : Type} (c : Bool) (a b : τ) : τ := cond c a b
@[simp] theorem sel_t {τ : Type} {a b : τ} : sel true a b = a := Eq.trans rfl rfl
@[simp] theorem sel_f {τ : Type} {a b : τ} : sel false a b = b := Eq.trans rfl rfl
def obind {τ : Type} (o : Option S) (f : S → Res τ) : Res τ := match o with
  | some s => f s
  | none => .bad
@[simp] theorem obind_some {τ : Type} {s : S} {f : S → Res τ} : obind (some s) f = f s := Eq.trans rfl rfl
@[simp] theorem obind_none {τ : Type} {f : S → Res τ} : obind none f = .bad := Eq.trans rfl rfl
section
variable {M : List Nat} {s : S} {st : Bool}
@[simp] theorem pvE_var {i : Nat} : pvE M (.var i) st s = evVar i s := Eq.trans rfl rfl
@[simp] theorem pvE_cst {d : D} : pvE M (.cst d) st s = .ok (.sh d) s := Eq.trans rfl rfl
@[simp] theorem pvE_glo {x : Str} {d : D} : pvE M (.glo x d) st s = .ok (.sh d) s := Eq.trans rfl rfl
@[simp] theorem pvE_tup {a : I} : pvE M (.tup a) st s = (pvA M a s).bind tupR := Eq.trans rfl rfl
@[simp] theorem pvE_lst {a : I} : pvE M (.lst a) st s = (pvA M a s).bind lstR := Eq.trans rfl rfl
@[simp] theorem pvE_bin {op : Operator} {a b : I} : pvE M (.bin op a b) st s = ((pvE M a false s).bind hold).bind fun x s => ((pvE M b false s).bind hold).bind fun y s => binD op x y s := Eq.trans rfl rfl
@[simp] theorem pvE_neg {a : I} : pvE M (.neg a) st s = ((pvE M a false s).bind hold).bind negR := Eq.trans rfl rfl
@[simp] theorem pvE_cmp {op : CmpOp} {a b : I} : pvE M (.cmp op a b) st s = ((pvE M a false s).bind hold).bind fun x s => ((pvE M b false s).bind hold).bind fun y s => cmpD op x y s := Eq.trans rfl rfl
@[simp] theorem pvE_chn {o1 o2 : CmpOp} {a b c : I} : pvE M (.chn o1 o2 a b c) st s = ((pvE M a false s).bind hold).bind fun x s => ((pvE M b false s).bind hold).bind fun y s => (cmpD o1 x y s).bind fun z s => (asB z s).bind fun k s => sel k (((pvE M c false s).bind hold).bind fun w s => cmpD o2 y w s) (.ok (.sh (.bl false)) s) := by
  show ((pvE M a false s).bind hold).bind (fun x s => ((pvE M b false s).bind hold).bind fun y s => (cmpD o1 x y s).bind fun z s => (asB z s).bind fun k s => if k = true then _ else _) = _
  congr; funext x s; congr; funext y s; congr; funext z s; congr; funext k s
  cases k <;> rfl
@[simp] theorem pvE_and {a : I} : pvE M (.and_ a) false s = pvAndV M a s := Eq.trans rfl rfl
@[simp] theorem pvE_or {a : I} : pvE M (.or_ a) false s = pvOrV M a s := Eq.trans rfl rfl
@[simp] theorem pvE_not {a : I} : pvE M (.not_ a) st s = ((pvE M a false s).bind hold).bind fun r s => (truR r s).bind fun c s => .ok (.sh (.bl (!c))) s := Eq.trans rfl rfl
@[simp] theorem pvE_ite {t a b : I} : pvE M (.ite t a b) st s = (pvT M t s).bind fun c s => sel c (pvE M a st s) (pvE M b st s) := by
  show (pvT M t s).bind (fun c s => if c = true then pvE M a st s else pvE M b st s) = _
  congr; funext k s
  cases k <;> rfl
@[simp] theorem pvE_ix {a b : I} : pvE M (.ix a b) st s = ((pvE M a false s).bind hold).bind fun x s => ((pvE M b false s).bind hold).bind fun y s => ixD x y s := Eq.trans rfl rfl
@[simp] theorem pvE_slc {a lo hi : I} : pvE M (.slc a lo hi) st s = ((pvE M a false s).bind hold).bind fun x s => (pvO M lo s).bind fun l s => (pvO M hi s).bind fun h s => slD x l h s := Eq.trans rfl rfl
@[simp] theorem pvE_call {x : Str} {F : Fs} {a : I} : pvE M (.call x F a) false s = (pvA M a s).bind (callD F.loose) := Eq.trans rfl rfl
@[simp] theorem pvE_callT {x : Str} {F : Fs} {a : I} : pvE M (.call x F a) true s = (pvA M a s).bind (callD F) := Eq.trans rfl rfl
@[simp] theorem pvE_bi {b : Bi} {a : I} : pvE M (.bi b a) st s = (pvA M a s).bind b.fn := Eq.trans rfl rfl
@[simp] theorem pvE_isi {T : String} {a : I} : pvE M (.isi T a) st s = ((pvE M a false s).bind hold).bind (isiD T) := Eq.trans rfl rfl
@[simp] theorem pvE_comp {g it ts e : I} {own : List (Str × Nat)} : pvE M (.comp g it ts e own) st s = compD (pvI M it) (evG g) (pvTs M ts) (bnd (pvE M e false) hold) (own.map (·.2)) s := Eq.trans rfl rfl
@[simp] theorem pvE_app {o a : I} : pvE M (.app o a) st s = ((pvE M o false s).bind hold).bind fun x s => gL x (fun s => ((pvE M a false s).bind hold).bind fun y s => mAppend x y s) s := Eq.trans rfl rfl
@[simp] theorem pvE_popAt {o a : I} : pvE M (.popAt o a) st s = ((pvE M o false s).bind hold).bind fun x s => gL x (fun s => ((pvE M a false s).bind hold).bind fun y s => mPopAt x y s) s := Eq.trans rfl rfl
@[simp] theorem pvE_pop {o : I} : pvE M (.pop o) st s = ((pvE M o false s).bind hold).bind mPop := Eq.trans rfl rfl
@[simp] theorem pvE_split {o a : I} : pvE M (.split o a) st s = ((pvE M o false s).bind hold).bind fun x s => gS x (fun s => ((pvE M a false s).bind hold).bind fun y s => mSplit x y s) s := Eq.trans rfl rfl
@[simp] theorem pvE_join {o a : I} : pvE M (.join o a) st s = ((pvE M o false s).bind hold).bind fun x s => gS x (fun s => ((pvE M a false s).bind hold).bind fun y s => mJoin x y s) s := Eq.trans rfl rfl
@[simp] theorem pvE_fmt {a : I} : pvE M (.fmt a) st s = ((pvE M a false s).bind hold).bind fmtR := Eq.trans rfl rfl
@[simp] theorem pvE_rev {a : I} : pvE M (.rev a) st s = ((pvE M a false s).bind hold).bind revR := Eq.trans rfl rfl
@[simp] theorem pvE_repl {a : I} {y z : Str} : pvE M (.repl a y z) st s = ((pvE M a false s).bind hold).bind (replR y z) := Eq.trans rfl rfl
@[simp] theorem pvE_fstr {a : I} : pvE M (.fstr a) st s = (jsD (pvJ M a) Str.empty s).bind fun z s => .ok (.sh (.str z)) s := Eq.trans rfl rfl
@[simp] theorem pvE_terr {x : Str} {b : I} : pvE M (.terr x b) st s = HX.terrD labN (pvE M b false s) := Eq.trans rfl rfl
@[simp] theorem pvE_told {x : Str} {b : I} : pvE M (.told x b) st s = HX.toldD labN (pvE M b false s) := Eq.trans rfl rfl
@[simp] theorem pvE_callV {i : Nat} {tab : Str → Option Fs} {a : I} : pvE M (.callV i tab a) false s = HX.callVD (fun z => (tab z).map Fs.loose) i (pvA M a) s := Eq.trans rfl rfl
@[simp] theorem pvA_nil : pvA M .nil s = .ok [] s := Eq.trans rfl rfl
@[simp] theorem pvA_cons {a r : I} : pvA M (.cons a r) s = ((pvE M a false s).bind hold).bind fun x s => (pvA M r s).bind fun xs s => .ok (x :: xs) s := Eq.trans rfl rfl
@[simp] theorem pvJ_nil : pvJ M .nil = [] := Eq.trans rfl rfl
@[simp] theorem pvJ_cons {a r : I} : pvJ M (.cons a r) = (fun s => (pvE M a false s).bind hold) :: pvJ M r := Eq.trans rfl rfl
@[simp] theorem jsD_nil {acc : Str} : jsD [] acc s = .ok acc s := Eq.trans rfl rfl
def jsK (fs : List (S → Res R)) (acc : Str) (r : R) (s1 : S) : Res Str := match r with
  | .sh (.str y) => if lineOk (acc ++ y).length = true then jsD fs (acc ++ y) s1 else .bad
  | _ => .bad
@[simp] theorem jsD_cons {f : S → Res R} {fs : List (S → Res R)} {acc : Str} : jsD (f :: fs) acc s = (f s).bind (jsK fs acc) := Eq.trans rfl rfl
@[simp] theorem jsK_str {fs : List (S → Res R)} {acc y : Str} (h : (acc ++ y).length ≤ 16777216) : jsK fs acc (.sh (.str y)) s = jsD fs (acc ++ y) s := by
  unfold jsK
  dsimp only
  have e : lineOk (acc ++ y).length = true := by unfold lineOk; rw [decide_eq_true_iff]; exact h
  rw [if_pos e]
@[simp] theorem pvT_tru {a : I} : pvT M (.tru a) s = ((pvE M a false s).bind hold).bind truR := Eq.trans rfl rfl
@[simp] theorem pvT_not {a : I} : pvT M (.not_ a) s = (pvT M a s).bind fun c s => .ok (!c) s := Eq.trans rfl rfl
@[simp] theorem pvT_cmp {op : CmpOp} {a b : I} : pvT M (.cmp op a b) s = ((pvE M a false s).bind hold).bind fun x s => ((pvE M b false s).bind hold).bind fun y s => (cmpD op x y s).bind asB := Eq.trans rfl rfl
@[simp] theorem pvT_chn {o1 o2 : CmpOp} {a b c : I} : pvT M (.chn o1 o2 a b c) s = (pvE M (.chn o1 o2 a b c) false s).bind asB := by
  show ((pvE M a false s).bind hold).bind (fun x s => ((pvE M b false s).bind hold).bind fun y s => (chD o1 o2 x y (bnd (pvE M c false) hold) s).bind asB) = (((pvE M a false s).bind hold).bind (fun x s => ((pvE M b false s).bind hold).bind fun y s => chD o1 o2 x y (bnd (pvE M c false) hold) s)).bind asB
  symm
  rw [bind_assoc]
  congr 1; funext x s
  rw [bind_assoc]
@[simp] theorem pvT_and {a : I} : pvT M (.and_ a) s = pvAnd M a s := Eq.trans rfl rfl
@[simp] theorem pvT_or {a : I} : pvT M (.or_ a) s = pvOr M a s := Eq.trans rfl rfl
@[simp] theorem pvAnd_1 {a : I} : pvAnd M (.cons a .nil) s = pvT M a s := Eq.trans rfl rfl
@[simp] theorem pvAnd_2 {a b r : I} : pvAnd M (.cons a (.cons b r)) s = (pvT M a s).bind fun c s => sel c (pvAnd M (.cons b r) s) (.ok false s) := by
  show (pvT M a s).bind (fun c s => if c = true then _ else _) = _
  congr; funext c s; cases c <;> rfl
@[simp] theorem pvOr_1 {a : I} : pvOr M (.cons a .nil) s = pvT M a s := Eq.trans rfl rfl
@[simp] theorem pvOr_2 {a b r : I} : pvOr M (.cons a (.cons b r)) s = (pvT M a s).bind fun c s => sel c (.ok true s) (pvOr M (.cons b r) s) := by
  show (pvT M a s).bind (fun c s => if c = true then _ else _) = _
  congr; funext c s; cases c <;> rfl
@[simp] theorem pvAndV_1 {a : I} : pvAndV M (.cons a .nil) s = pvE M a false s := Eq.trans rfl rfl
@[simp] theorem pvAndV_2 {a b r : I} : pvAndV M (.cons a (.cons b r)) s = ((pvE M a false s).bind hold).bind fun x s => (truR x s).bind fun c s => sel c (pvAndV M (.cons b r) s) (.ok x s) := by
  show ((pvE M a false s).bind hold).bind (fun x s => (truR x s).bind fun c s => if c = true then _ else _) = _
  congr; funext x s; congr; funext c s; cases c <;> rfl
@[simp] theorem pvOrV_1 {a : I} : pvOrV M (.cons a .nil) s = pvE M a false s := Eq.trans rfl rfl
@[simp] theorem pvOrV_2 {a b r : I} : pvOrV M (.cons a (.cons b r)) s = ((pvE M a false s).bind hold).bind fun x s => (truR x s).bind fun c s => sel c (.ok x s) (pvOrV M (.cons b r) s) := by
  show ((pvE M a false s).bind hold).bind (fun x s => (truR x s).bind fun c s => if c = true then _ else _) = _
  congr; funext x s; congr; funext c s; cases c <;> rfl
@[simp] theorem pvO_nil : pvO M .nil s = .ok none s := Eq.trans rfl rfl
@[simp] theorem pvO_cons {a : I} : pvO M (.cons a .nil) s = ((pvE M a false s).bind hold).bind intR := Eq.trans rfl rfl
@[simp] theorem pvI_seq {a : I} : pvI M (.seq a) s = ((pvE M a false s).bind hold).bind itSeq := Eq.trans rfl rfl
@[simp] theorem pvI_rng1 {a : I} : pvI M (.rng1 a) s = (pvA M a s).bind rng1R := Eq.trans rfl rfl
@[simp] theorem pvI_rng2 {a b : I} : pvI M (.rng2 a b) s = (pvA M a s).bind rng2R := Eq.trans rfl rfl
@[simp] theorem pvTs_nil : pvTs M .nil s = .ok true s := Eq.trans rfl rfl
@[simp] theorem pvTs_cons {a : I} : pvTs M (.cons a .nil) s = pvT M a s := Eq.trans rfl rfl
@[simp] theorem pvS_pass : pvS M .pass s = .ok .nx s := Eq.trans rfl rfl
@[simp] theorem pvS_brk : pvS M .brk s = .ok .bk s := Eq.trans rfl rfl
@[simp] theorem pvS_cnt : pvS M .cnt s = .ok .ct s := Eq.trans rfl rfl
@[simp] theorem pvS_expr {a : I} : pvS M (.expr a) s = (pvE M a false s).bind exprR := Eq.trans rfl rfl
@[simp] theorem pvS_ret {a : I} : pvS M (.ret a) s = (pvE M a false s).bind fun r s => .ok (.rt r) s := Eq.trans rfl rfl
@[simp] theorem pvS_ret0 : pvS M .ret0 s = .ok (.rt (.sh .non)) s := Eq.trans rfl rfl
@[simp] theorem pvS_sif {t a b : I} : pvS M (.sif t a b) s = (pvT M t s).bind fun c s => sel c (pvB M a s) (pvB M b s) := by
  show (pvT M t s).bind (fun c s => if c = true then _ else _) = _
  congr; funext c s; cases c <;> rfl
@[simp] theorem pvS_set {i : Nat} {a : I} : pvS M (.set i a) s = (pvE M a (M.contains i) s).bind (setM (M.contains i) i) := Eq.trans rfl rfl
@[simp] theorem pvS_setLc {i : Nat} {g it ts e : I} {own : List (Str × Nat)} : pvS M (.setLc i g it ts e own) s = (compD (pvI M it) (evG g) (pvTs M ts) (bnd (pvE M e false) hold) (own.map (·.2)) s).bind (setM (M.contains i) i) := Eq.trans rfl rfl
@[simp] theorem pvS_asg {g a : I} : pvS M (.asg g a) s = ((pvE M a false s).bind hold).bind (asgR (evG g)) := Eq.trans rfl rfl
@[simp] theorem pvS_par {i j : Nat} {a b : I} : pvS M (.par i j a b) s = parD i j (holdM (M.contains i) (pvE M a (M.contains i))) (holdM (M.contains j) (pvE M b (M.contains j))) s := Eq.trans rfl rfl
/-- the second part of a pair of stores -/
def parK (i j : Nat) (g : S → Res R) (r1 : R) (s1 : S) : Res Fl := match r1 with
  | .fr d1 => (g s1).bind fun r2 s2 => ofO ((setO j r2 s2).bind fun s3 => setO i (.fr d1) s3)
  | r1 => (esc r1 s1).bind fun d1 s1 => (g s1).bind fun r2 s2 => ofO ((setO j r2 s2).bind fun s3 => setV i d1 s3)
@[simp] theorem parD_eq {i j : Nat} {f g : S → Res R} : parD i j f g s = (f s).bind (parK i j g) := Eq.trans rfl rfl
@[simp] theorem parK_sh {i j : Nat} {d : D} {g : S → Res R} : parK i j g (.sh d) s = (g s).bind fun r2 s2 => ofO ((setO j r2 s2).bind fun s3 => setV i d s3) := Eq.trans rfl rfl
@[simp] theorem parK_fr {i j : Nat} {d : D} {g : S → Res R} : parK i j g (.fr d) s = (g s).bind fun r2 s2 => ofO ((setO j r2 s2).bind fun s3 => setO i (.fr d) s3) := Eq.trans rfl rfl
@[simp] theorem parK_ob {i j k : Nat} {g : S → Res R} : parK i j g (.ob k) s = (esc (.ob k) s).bind fun d1 s1 => (g s1).bind fun r2 s2 => ofO ((setO j r2 s2).bind fun s3 => setV i d1 s3) := Eq.trans rfl rfl
@[simp] theorem setO_sh {j : Nat} {d : D} : setO j (.sh d) s = setV j d s := Eq.trans rfl rfl
@[simp] theorem pvS_for {g it body : I} : pvS M (.for_ g it body) s = (pvI M it s).bind (forLoop (evG g) (pvB M body)) := Eq.trans rfl rfl
@[simp] theorem pvS_whl {t body : I} : pvS M (.whl t body) s = whileD (pvT M t) (pvB M body) s := Eq.trans rfl rfl
@[simp] theorem pvS_raise {x : Str} : pvS M (.raise x) s = .exc x s := Eq.trans rfl rfl
@[simp] theorem pvB_nil : pvB M .nil s = .ok .nx s := Eq.trans rfl rfl
/-- one statement, then the rest -/
def thn (m : Res Fl) (g : S → Res Fl) : Res Fl := match m with
  | .ok .nx s1 => g s1
  | r => r
@[simp] theorem thn_nx {g : S → Res Fl} : thn (.ok .nx s) g = g s := Eq.trans rfl rfl
@[simp] theorem thn_rt {r : R} {g : S → Res Fl} : thn (.ok (.rt r) s) g = .ok (.rt r) s := Eq.trans rfl rfl
@[simp] theorem thn_bk {g : S → Res Fl} : thn (.ok .bk s) g = .ok .bk s := Eq.trans rfl rfl
@[simp] theorem thn_ct {g : S → Res Fl} : thn (.ok .ct s) g = .ok .ct s := Eq.trans rfl rfl
@[simp] theorem thn_exc {c : Str} {g : S → Res Fl} : thn (.exc c s) g = .exc c s := Eq.trans rfl rfl
@[simp] theorem thn_bad {g : S → Res Fl} : thn .bad g = .bad := Eq.trans rfl rfl
@[simp] theorem thn_cond {c : Bool} {a b : Res Fl} {g : S → Res Fl} : thn (sel c a b) g = sel c (thn a g) (thn b g) := by cases c <;> rfl
@[simp] theorem bind_cond {τ υ : Type} {c : Bool} {a b : Res τ} {g : τ → S → Res υ} : (sel c a b).bind g = sel c (a.bind g) (b.bind g) := by cases c <;> rfl
@[simp] theorem pvB_cons {a r : I} : pvB M (.cons a r) s = thn (pvS M a s) (pvB M r) := Eq.trans rfl rfl
@[simp] theorem pvB_tok {i : Nat} {y : Str} {a r : I} : pvB M (.tok i y a r) s = thn (((pvA M a s).bind (lstR1 y)).bind (setM (M.contains i) i)) (pvB M r) := Eq.trans rfl rfl
@[simp] theorem evG_var {i : Nat} {d : D} : evG (.var i) d s = setV i d s := Eq.trans rfl rfl
@[simp] theorem evG_tup {a : I} {d : D} : evG (.tup a) d s = tgTup (cntI a) (evGs a) d s := Eq.trans rfl rfl
@[simp] theorem evGs_nil {ds : List D} : evGs .nil ds s = if ds.isEmpty then some s else none := Eq.trans rfl rfl
@[simp] theorem evGs_cons {a r : I} {d : D} {ds : List D} : evGs (.cons a r) (d :: ds) s = (evG a d s).bind (evGs r ds) := Eq.trans rfl rfl
@[simp] theorem cntI_nil : cntI .nil = 0 := Eq.trans rfl rfl
@[simp] theorem cntI_cons {a r : I} : cntI (.cons a r) = cntI r + 1 := Eq.trans rfl rfl
@[simp] theorem tgTup_tup {n : Nat} {f : List D → S → Option S} {ds : List D} : tgTup n f (.tup ds) s = if ds.length = n then f ds s else none := Eq.trans rfl rfl
@[simp] theorem bnd_ap {τ υ : Type} {f : S → Res τ} {k : τ → S → Res υ} : bnd f k s = (f s).bind k := Eq.trans rfl rfl
/-! small steps -/
@[simp] theorem hold_sh {d : D} : hold (.sh d) s = .ok (.sh d) s := Eq.trans rfl rfl
@[simp] theorem hold_ob {i : Nat} : hold (.ob i) s = .ok (.ob i) s := Eq.trans rfl rfl
@[simp] theorem hold_lst {ds : List D} : hold (.fr (.lst ds)) s = .ok (.sh (.lst ds)) s := Eq.trans rfl rfl
@[simp] theorem hold_dct {ks ds : List D} : hold (.fr (.dct ks ds)) s = .ok (.sh (.dct ks ds)) s := Eq.trans rfl rfl
@[simp] theorem holdL_sh {d : D} : holdL (.sh d) s = .ok (.sh d) s := Eq.trans rfl rfl
@[simp] theorem holdL_ob {i : Nat} : holdL (.ob i) s = .ok (.ob i) s := Eq.trans rfl rfl
@[simp] theorem holdL_lst {ds : List D} : holdL (.fr (.lst ds)) s = .ok (.sh (.lst ds)) s := Eq.trans rfl rfl
@[simp] theorem holdL_dct {ks ds : List D} : holdL (.fr (.dct ks ds)) s = .ok (.sh (.dct ks ds)) s := Eq.trans rfl rfl
@[simp] theorem esc_sh {d : D} : esc (.sh d) s = .ok d s := Eq.trans rfl rfl
@[simp] theorem escs_nil : escs [] s = .ok [] s := Eq.trans rfl rfl
@[simp] theorem escs_cons {r : R} {rs : List R} : escs (r :: rs) s = (esc r s).bind fun d s => (escs rs s).bind fun ds s => .ok (d :: ds) s := Eq.trans rfl rfl
@[simp] theorem peek_sh' {d : D} : peek (.sh d) s = some d := Eq.trans rfl rfl
@[simp] theorem setM_t {i : Nat} {r : R} : setM true i r s = setR i r s := Eq.trans rfl rfl
@[simp] theorem setM_f {i : Nat} {r : R} : setM false i r s = (holdL r s).bind (setR i) := Eq.trans rfl rfl
@[simp] theorem holdM_t {f : S → Res R} : holdM true f = f := Eq.trans rfl rfl
@[simp] theorem holdM_f {f : S → Res R} : holdM false f = fun s => (f s).bind holdL := Eq.trans rfl rfl
@[simp] theorem itSeq_lst {ds : List D} : itSeq (.sh (.lst ds)) s = .ok ds s := Eq.trans rfl rfl
@[simp] theorem itSeq_tup {ds : List D} : itSeq (.sh (.tup ds)) s = .ok ds s := Eq.trans rfl rfl
@[simp] theorem itSeq_str {z : Str} : itSeq (.sh (.str z)) s = .ok (z.cps.toList.map fun c => D.str ⟨#[c]⟩) s := Eq.trans rfl rfl
@[simp] theorem asB_bl {b : Bool} : asB (.sh (.bl b)) s = .ok b s := Eq.trans rfl rfl
end
/-! ### calls -/
/-- what a def without lent objects gives -/
def Gv (F : Fs) (ds : List D) (d : D) : Prop := F.io = ds.map (fun _ => false) ∧ (F.run ds).loose = .ret (.sh d) []
def Gx (F : Fs) (ds : List D) (c : Str) : Prop := F.io = ds.map (fun _ => false) ∧ (F.run ds).loose = .exc c []
theorem Gv.call {F : Fs} {ds : List D} {d : D} {s : S} (h : Gv F ds d) : callD F.loose (ds.map R.sh) s = .ok (.sh d) s := by
  rw [callD_sh (F := F.loose) ds h.1]
  show (match (F.run ds).loose with
    | .ret r ns => if ns.length = 0 then retR r [] s else .bad
    | .exc c ns => if ns.length = 0 then .exc c s else .bad
    | .bad => .bad) = _
  rw [h.2]; rfl
theorem Gx.call {F : Fs} {ds : List D} {c : Str} {s : S} (h : Gx F ds c) : callD F.loose (ds.map R.sh) s = .exc c s := by
  rw [callD_sh (F := F.loose) ds h.1]
  show (match (F.run ds).loose with
    | .ret r ns => if ns.length = 0 then retR r [] s else .bad
    | .exc c ns => if ns.length = 0 then .exc c s else .bad
    | .bad => .bad) = _
  rw [h.2]; rfl
theorem Gv.of {io : List Bool} {n : Nat} {ir : I} {ds : List D} {d : D} (M : List Nat) (w : wfI M ir = true) (hio : io = ds.map (fun _ => false)) (h : ((runF io n (pvB M ir)).run ds).loose = .ret (.sh d) []) : Gv (runF io n (evB ir)) ds d := ⟨hio, pv_run M w h (by simp)⟩
theorem Gx.of {io : List Bool} {n : Nat} {ir : I} {ds : List D} {c : Str} (M : List Nat) (w : wfI M ir = true) (hio : io = ds.map (fun _ => false)) (h : ((runF io n (pvB M ir)).run ds).loose = .exc c []) : Gx (runF io n (evB ir)) ds c := ⟨hio, pv_run M w h (by simp)⟩
/-- a def's run, without lent objects -/
noncomputable def run0 (M : List Nat) (n : Nat) (ir : I) (ds : List D) : Res Fl := pvB M ir (ds.map (fun d => some (.sh d)) ++ List.replicate (n - ds.length) none)
theorem init_sh : ∀ (ds : List D) (n : Nat), init (ds.map fun _ => false) ds n = ds.map (fun d => some (.sh d)) ++ List.replicate (n - ds.length) none := fun ds n => by
  have : ∀ ds : List D, initP (ds.map fun _ => false) ds = ds.map (fun d => some (.sh d)) := fun ds => by
    induction ds with
    | nil => rfl
    | cons d ds ih => show some (.sh d) :: initP _ ds = _; rw [ih]; rfl
  unfold init
  rw [this]
theorem ioPos_f : ∀ (ds : List D) (i : Nat), ioPos (ds.map fun _ => false) i = []
  | [], _ => rfl
  | d :: ds, i => ioPos_f ds (i + 1)
theorem runF_sh {n : Nat} {ds : List D} {f : S → Res Fl} : (runF (ds.map fun _ => false) n f).run ds = outOf [] (f (ds.map (fun d => some (.sh d)) ++ List.replicate (n - ds.length) none)) := by
  unfold runF
  dsimp only
  rw [if_pos (by simp), ioPos_f, init_sh]
/-- a value is given -/
def Rets (m : Res Fl) (d : D) : Prop := (∃ s, m = .ok (.rt (.sh d)) s) ∨ (∃ s, m = .ok (.rt (.fr d)) s ∧ heapD d = true) ∨ (∃ s i, m = .ok (.rt (.ob i)) s ∧ s[i]? = some (some (.ow d)) ∧ heapD d = true) ∨ (∃ s, m = .ok .nx s ∧ d = .non)
theorem Gv.by {io : List Bool} {n : Nat} {ir : I} {ds : List D} {d : D} (M : List Nat) (w : wfI M ir = true) (hio : io = ds.map (fun _ => false)) (h : Rets (run0 M n ir ds) d) : Gv (runF io n (evB ir)) ds d := by
  refine Gv.of M w hio ?_
  subst hio
  rw [runF_sh]
  unfold run0 at h
  rcases h with ⟨s, h⟩ | ⟨s, h, hd⟩ | ⟨s, i, h, hs, hd⟩ | ⟨s, h, rfl⟩
  · rw [h]; rfl
  · rw [h]; unfold outOf outR Out.loose ioCs; dsimp only; rw [if_pos hd]
  · rw [h]; unfold outOf outR; dsimp only; rw [hs]; unfold Out.loose ioCs; dsimp only; rw [if_pos hd]
  · rw [h]; rfl
theorem Gx.by {io : List Bool} {n : Nat} {ir : I} {ds : List D} {c : Str} (M : List Nat) (w : wfI M ir = true) (hio : io = ds.map (fun _ => false)) (h : ∃ s, run0 M n ir ds = .exc c s) : Gx (runF io n (evB ir)) ds c := by
  refine Gx.of M w hio ?_
  subst hio
  rw [runF_sh]
  unfold run0 at h
  obtain ⟨s, h⟩ := h
  rw [h]; rfl
@[simp] theorem rets_sh {d e : D} {s : S} : Rets (.ok (.rt (.sh e)) s) d ↔ e = d := by
  unfold Rets
  simp
@[simp] theorem rets_lst {ds : List D} {d : D} {s : S} : Rets (.ok (.rt (.fr (.lst ds))) s) d ↔ D.lst ds = d := by
  unfold Rets
  simp
  intro e; subst e; rfl
@[simp] theorem rets_nx {d : D} {s : S} : Rets (.ok .nx s) d ↔ d = .non := by
  unfold Rets
  simp
theorem rets_cond {c : Bool} {a b : Res Fl} {d : D} : Rets (sel c a b) d ↔ (c = true → Rets a d) ∧ (c = false → Rets b d) := by
  cases c <;> simp
end AL
namespace AL
open PySem PySem.Spec PyProof.Rows L2
@[simp] theorem evVar_sh {i : Nat} {s : S} {d : D} (h : s[i]? = some (some (.sh d))) : evVar i s = .ok (.sh d) s := by unfold evVar; rw [h]
@[simp] theorem evVar_ow {i : Nat} {s : S} {d : D} (h : s[i]? = some (some (.ow d))) : evVar i s = .ok (.ob i) s := by unfold evVar; rw [h]
@[simp] theorem evVar_io {i : Nat} {s : S} {d : D} (h : s[i]? = some (some (.io d))) : evVar i s = .ok (.ob i) s := by unfold evVar; rw [h]
@[simp] theorem setV_sh0 {i : Nat} {s : S} {d e : D} (h : s[i]? = some (some (.sh e))) : setV i d s = some (s.set i (some (.sh d))) := by unfold setV; rw [h]
@[simp] theorem setV_ow0 {i : Nat} {s : S} {d e : D} (h : s[i]? = some (some (.ow e))) : setV i d s = some (s.set i (some (.sh d))) := by unfold setV; rw [h]
@[simp] theorem setV_no {i : Nat} {s : S} {d : D} (h : s[i]? = some none) : setV i d s = some (s.set i (some (.sh d))) := by unfold setV; rw [h]
@[simp] theorem setR_sh {i : Nat} {s : S} {d : D} : setR i (.sh d) s = ofO (setV i d s) := Eq.trans rfl rfl
@[simp] theorem setR_fr1 {i : Nat} {s : S} {d e : D} (h : s[i]? = some (some (.sh e))) : setR i (.fr d) s = .ok .nx (s.set i (some (.ow d))) := by unfold setR; dsimp only; rw [h]
@[simp] theorem setR_fr2 {i : Nat} {s : S} {d e : D} (h : s[i]? = some (some (.ow e))) : setR i (.fr d) s = .ok .nx (s.set i (some (.ow d))) := by unfold setR; dsimp only; rw [h]
@[simp] theorem setR_fr3 {i : Nat} {s : S} {d : D} (h : s[i]? = some none) : setR i (.fr d) s = .ok .nx (s.set i (some (.ow d))) := by unfold setR; dsimp only; rw [h]
@[simp] theorem setO_fr1' {i : Nat} {s : S} {d e : D} (h : s[i]? = some (some (.sh e))) : setO i (.fr d) s = some (s.set i (some (.ow d))) := by unfold setO; dsimp only; rw [h]
@[simp] theorem setO_fr2' {i : Nat} {s : S} {d e : D} (h : s[i]? = some (some (.ow e))) : setO i (.fr d) s = some (s.set i (some (.ow d))) := by unfold setO; dsimp only; rw [h]
@[simp] theorem setO_fr3' {i : Nat} {s : S} {d : D} (h : s[i]? = some none) : setO i (.fr d) s = some (s.set i (some (.ow d))) := by unfold setO; dsimp only; rw [h]
@[simp] theorem ofO_some {s : S} : ofO (some s) = .ok .nx s := Eq.trans rfl rfl
/-- what stands at a place -/
def ofD (o : Option D) (s : S) : Res R := match o with
  | some d => .ok (.sh d) s
  | none => .bad
@[simp] theorem ofD_some {d : D} {s : S} : ofD (some d) s = .ok (.sh d) s := Eq.trans rfl rfl
@[simp] theorem atI_nat {α : Type} {xs : List α} {n : Nat} : atI xs (n : Int) = xs[n]? := by
  unfold atI ixN
  by_cases h : n < xs.length
  · rw [if_pos (by omega), if_pos (by omega)]; simp
  · rw [if_pos (by omega), if_neg (by omega)]; simp; omega
@[simp] theorem atI_0 {α : Type} {xs : List α} : atI xs (0 : Int) = xs[0]? := atI_nat (n := 0)
@[simp] theorem atI_1 {α : Type} {xs : List α} : atI xs (1 : Int) = xs[1]? := atI_nat (n := 1)
@[simp] theorem atI_2 {α : Type} {xs : List α} : atI xs (2 : Int) = xs[2]? := atI_nat (n := 2)
@[simp] theorem atI_3 {α : Type} {xs : List α} : atI xs (3 : Int) = xs[3]? := atI_nat (n := 3)
@[simp] theorem atI_m1 {α : Type} {xs : List α} : atI xs (-1 : Int) = xs.getLast? := by
  unfold atI ixN
  rw [if_neg (by omega)]
  cases xs with
  | nil => simp
  | cons x l =>
    rw [if_pos (by simp only [List.length_cons]; omega), List.getLast?_eq_getElem?]
    have e : (-1 + (((x :: l).length : Nat) : Int)).toNat = (x :: l).length - 1 := by simp only [List.length_cons]; omega
    rw [e]; rfl
@[simp] theorem cutL_all {α : Type} {xs : List α} : cutL xs none none = xs := by unfold cutL HT.sIx; simp
@[simp] theorem cutL_drop {α : Type} {xs : List α} {n : Nat} : cutL xs (some (n : Int)) none = xs.drop n := by
  unfold cutL
  rw [HT.sIx_none, HT.sIx_nat]
  rcases Nat.le_total n xs.length with h | h
  · rw [Nat.min_eq_left h, List.take_of_length_le (by simp)]
  · rw [Nat.min_eq_right h]; simp [h]
@[simp] theorem cutL_take {α : Type} {xs : List α} {n : Nat} : cutL xs none (some (n : Int)) = xs.take n := by
  unfold cutL
  rw [HT.sIx_none, HT.sIx_nat]
  rcases Nat.le_total n xs.length with h | h
  · rw [Nat.min_eq_left h]; simp
  · rw [Nat.min_eq_right h, List.take_of_length_le h]; simp
@[simp] theorem cutL_d1 {α : Type} {xs : List α} : cutL xs (some (1 : Int)) none = xs.drop 1 := cutL_drop (n := 1)
@[simp] theorem cutL_d2 {α : Type} {xs : List α} : cutL xs (some (2 : Int)) none = xs.drop 2 := cutL_drop (n := 2)
@[simp] theorem cutL_t1 {α : Type} {xs : List α} : cutL xs none (some (1 : Int)) = xs.take 1 := cutL_take (n := 1)
@[simp] theorem cutL_t2 {α : Type} {xs : List α} : cutL xs none (some (2 : Int)) = xs.take 2 := cutL_take (n := 2)
@[simp] theorem lit_le0 {n : Nat} : ((0 : Int) ≤ (n : Int)) ↔ 0 ≤ n := by omega
@[simp] theorem le_lit0 {n : Nat} : ((n : Int) ≤ 0) ↔ n ≤ 0 := by omega
@[simp] theorem lit_lt0 {n : Nat} : ((0 : Int) < (n : Int)) ↔ 0 < n := by omega
@[simp] theorem lt_lit0 {n : Nat} : ((n : Int) < 0) ↔ n < 0 := by omega
@[simp] theorem eq_lit0 {n : Nat} : ((n : Int) = 0) ↔ n = 0 := by omega
@[simp] theorem lit_le1 {n : Nat} : ((1 : Int) ≤ (n : Int)) ↔ 1 ≤ n := by omega
@[simp] theorem le_lit1 {n : Nat} : ((n : Int) ≤ 1) ↔ n ≤ 1 := by omega
@[simp] theorem lit_lt1 {n : Nat} : ((1 : Int) < (n : Int)) ↔ 1 < n := by omega
@[simp] theorem lt_lit1 {n : Nat} : ((n : Int) < 1) ↔ n < 1 := by omega
@[simp] theorem eq_lit1 {n : Nat} : ((n : Int) = 1) ↔ n = 1 := by omega
@[simp] theorem lit_le2 {n : Nat} : ((2 : Int) ≤ (n : Int)) ↔ 2 ≤ n := by omega
@[simp] theorem le_lit2 {n : Nat} : ((n : Int) ≤ 2) ↔ n ≤ 2 := by omega
@[simp] theorem lit_lt2 {n : Nat} : ((2 : Int) < (n : Int)) ↔ 2 < n := by omega
@[simp] theorem lt_lit2 {n : Nat} : ((n : Int) < 2) ↔ n < 2 := by omega
@[simp] theorem eq_lit2 {n : Nat} : ((n : Int) = 2) ↔ n = 2 := by omega
@[simp] theorem lit_le3 {n : Nat} : ((3 : Int) ≤ (n : Int)) ↔ 3 ≤ n := by omega
@[simp] theorem le_lit3 {n : Nat} : ((n : Int) ≤ 3) ↔ n ≤ 3 := by omega
@[simp] theorem lit_lt3 {n : Nat} : ((3 : Int) < (n : Int)) ↔ 3 < n := by omega
@[simp] theorem lt_lit3 {n : Nat} : ((n : Int) < 3) ↔ n < 3 := by omega
@[simp] theorem eq_lit3 {n : Nat} : ((n : Int) = 3) ↔ n = 3 := by omega
@[simp] theorem lit_le4 {n : Nat} : ((4 : Int) ≤ (n : Int)) ↔ 4 ≤ n := by omega
@[simp] theorem le_lit4 {n : Nat} : ((n : Int) ≤ 4) ↔ n ≤ 4 := by omega
@[simp] theorem lit_lt4 {n : Nat} : ((4 : Int) < (n : Int)) ↔ 4 < n := by omega
@[simp] theorem lt_lit4 {n : Nat} : ((n : Int) < 4) ↔ n < 4 := by omega
@[simp] theorem eq_lit4 {n : Nat} : ((n : Int) = 4) ↔ n = 4 := by omega
@[simp] theorem lit_le6 {n : Nat} : ((6 : Int) ≤ (n : Int)) ↔ 6 ≤ n := by omega
@[simp] theorem le_lit6 {n : Nat} : ((n : Int) ≤ 6) ↔ n ≤ 6 := by omega
@[simp] theorem lit_lt6 {n : Nat} : ((6 : Int) < (n : Int)) ↔ 6 < n := by omega
@[simp] theorem lt_lit6 {n : Nat} : ((n : Int) < 6) ↔ n < 6 := by omega
@[simp] theorem eq_lit6 {n : Nat} : ((n : Int) = 6) ↔ n = 6 := by omega
@[simp] theorem lit_le18 {n : Nat} : ((18 : Int) ≤ (n : Int)) ↔ 18 ≤ n := by omega
@[simp] theorem le_lit18 {n : Nat} : ((n : Int) ≤ 18) ↔ n ≤ 18 := by omega
@[simp] theorem lit_lt18 {n : Nat} : ((18 : Int) < (n : Int)) ↔ 18 < n := by omega
@[simp] theorem lt_lit18 {n : Nat} : ((n : Int) < 18) ↔ n < 18 := by omega
@[simp] theorem eq_lit18 {n : Nat} : ((n : Int) = 18) ↔ n = 18 := by omega
@[simp] theorem lit_le40 {n : Nat} : ((40 : Int) ≤ (n : Int)) ↔ 40 ≤ n := by omega
@[simp] theorem le_lit40 {n : Nat} : ((n : Int) ≤ 40) ↔ n ≤ 40 := by omega
@[simp] theorem lit_lt40 {n : Nat} : ((40 : Int) < (n : Int)) ↔ 40 < n := by omega
@[simp] theorem lt_lit40 {n : Nat} : ((n : Int) < 40) ↔ n < 40 := by omega
@[simp] theorem eq_lit40 {n : Nat} : ((n : Int) = 40) ↔ n = 40 := by omega
@[simp] theorem lit_le60 {n : Nat} : ((60 : Int) ≤ (n : Int)) ↔ 60 ≤ n := by omega
@[simp] theorem le_lit60 {n : Nat} : ((n : Int) ≤ 60) ↔ n ≤ 60 := by omega
@[simp] theorem lit_lt60 {n : Nat} : ((60 : Int) < (n : Int)) ↔ 60 < n := by omega
@[simp] theorem lt_lit60 {n : Nat} : ((n : Int) < 60) ↔ n < 60 := by omega
@[simp] theorem eq_lit60 {n : Nat} : ((n : Int) = 60) ↔ n = 60 := by omega
@[simp] theorem cst_le {k n : Nat} : ((k : Int) ≤ (n : Int)) ↔ k ≤ n := Int.ofNat_le
@[simp] theorem cst_lt {k n : Nat} : ((k : Int) < (n : Int)) ↔ k < n := Int.ofNat_lt
@[simp] theorem cst_eq {k n : Nat} : ((k : Int) = (n : Int)) ↔ k = n := Int.ofNat_inj
theorem size_le {n : Nat} (h : n ≤ 100000) : n ≤ sizeLine := by unfold sizeLine; omega
theorem lineOk_iff {n : Nat} : lineOk n = true ↔ n ≤ 16777216 := by unfold lineOk; rw [decide_eq_true_iff]; rfl
section
variable {s : S} {i j : Int} {x y : Str} {xs ys : List D}
@[simp] theorem binD_add : binD .Add (.sh (.int i)) (.sh (.int j)) s = .ok (.sh (.int (i + j))) s := Eq.trans rfl rfl
@[simp] theorem binD_sub : binD .Sub (.sh (.int i)) (.sh (.int j)) s = .ok (.sh (.int (i - j))) s := Eq.trans rfl rfl
@[simp] theorem binD_mul (h : mulOk i j = true) : binD .Mult (.sh (.int i)) (.sh (.int j)) s = .ok (.sh (.int (i * j))) s := by unfold binD; simp [h]
@[simp] theorem binD_mod (h : 0 < j) : binD .Mod (.sh (.int i)) (.sh (.int j)) s = .ok (.sh (.int (i % j))) s := by unfold binD; simp [h]
@[simp] theorem binD_fdiv (h : 0 < j ∧ j.natAbs.log2 < 9000) : binD .FloorDiv (.sh (.int i)) (.sh (.int j)) s = .ok (.sh (.int (i / j))) s := by unfold binD; simp [h]
@[simp] theorem binD_cat (h : xs.length + ys.length ≤ 16777216) : binD .Add (.sh (.lst xs)) (.sh (.lst ys)) s = .ok (.fr (.lst (xs ++ ys))) s := by unfold binD; simp [lineOk_iff, h, newLst]
@[simp] theorem binD_tcat (h : xs.length + ys.length ≤ 16777216) : binD .Add (.sh (.tup xs)) (.sh (.tup ys)) s = .ok (.sh (.tup (xs ++ ys))) s := by unfold binD; simp [lineOk_iff, h]
@[simp] theorem binD_scat (h : x.length + y.length ≤ 16777216) : binD .Add (.sh (.str x)) (.sh (.str y)) s = .ok (.sh (.str (x ++ y))) s := by unfold binD; simp [lineOk_iff, h]
@[simp] theorem cmpD_lt : cmpD .Lt (.sh (.int i)) (.sh (.int j)) s = .ok (.sh (.bl (decide (i < j)))) s := Eq.trans rfl rfl
@[simp] theorem cmpD_le : cmpD .LtE (.sh (.int i)) (.sh (.int j)) s = .ok (.sh (.bl (decide (i ≤ j)))) s := Eq.trans rfl rfl
@[simp] theorem cmpD_gt : cmpD .Gt (.sh (.int i)) (.sh (.int j)) s = .ok (.sh (.bl (decide (j < i)))) s := Eq.trans rfl rfl
@[simp] theorem cmpD_ge : cmpD .GtE (.sh (.int i)) (.sh (.int j)) s = .ok (.sh (.bl (decide (j ≤ i)))) s := Eq.trans rfl rfl
@[simp] theorem cmpD_eq {d e : D} (h : (d.okE = true) ∧ (e.okE = true)) : cmpD .Eq (.sh d) (.sh e) s = .ok (.sh (.bl (d.eqv e))) s := by unfold cmpD; simp [h.1, h.2]
@[simp] theorem cmpD_ne {d e : D} (h : (d.okE = true) ∧ (e.okE = true)) : cmpD .NotEq (.sh d) (.sh e) s = .ok (.sh (.bl (!d.eqv e))) s := by unfold cmpD; simp [h.1, h.2]
@[simp] theorem cmpD_in {d : D} (h : (d.okE = true) ∧ ((D.lst xs).okE = true)) : cmpD .In (.sh d) (.sh (.lst xs)) s = .ok (.sh (.bl (inL d xs))) s := by unfold cmpD; simp [h.1, h.2]
@[simp] theorem cmpD_ni {d : D} (h : (d.okE = true) ∧ ((D.lst xs).okE = true)) : cmpD .NotIn (.sh d) (.sh (.lst xs)) s = .ok (.sh (.bl (!inL d xs))) s := by unfold cmpD; simp [h.1, h.2]
@[simp] theorem cmpD_int {d : D} (h : (d.okE = true) ∧ ((D.tup xs).okE = true)) : cmpD .In (.sh d) (.sh (.tup xs)) s = .ok (.sh (.bl (inL d xs))) s := by
  unfold cmpD
  show (if (d.okE && (D.tup xs).okE) = true then _ else _) = _
  rw [h.1, h.2]; rfl
@[simp] theorem cmpD_nit {d : D} (h : (d.okE = true) ∧ ((D.tup xs).okE = true)) : cmpD .NotIn (.sh d) (.sh (.tup xs)) s = .ok (.sh (.bl (!inL d xs))) s := by
  unfold cmpD
  show (if (d.okE && (D.tup xs).okE) = true then _ else _) = _
  rw [h.1, h.2]; rfl
@[simp] theorem cmpD_is {d : D} : cmpD .Is (.sh d) (.sh .non) s = .ok (.sh (.bl (isNonD d))) s := by cases d <;> rfl
@[simp] theorem cmpD_isn {d : D} : cmpD .IsNot (.sh d) (.sh .non) s = .ok (.sh (.bl (!isNonD d))) s := by cases d <;> rfl
@[simp] theorem truR_bl {b : Bool} : truR (.sh (.bl b)) s = .ok b s := Eq.trans rfl rfl
@[simp] theorem truR_int : truR (.sh (.int i)) s = .ok (i != 0) s := Eq.trans rfl rfl
@[simp] theorem truR_lst : truR (.sh (.lst xs)) s = .ok (!xs.isEmpty) s := Eq.trans rfl rfl
@[simp] theorem truR_tup : truR (.sh (.tup xs)) s = .ok (!xs.isEmpty) s := Eq.trans rfl rfl
@[simp] theorem truR_non : truR (.sh .non) s = .ok false s := Eq.trans rfl rfl
@[simp] theorem intR_int : intR (.sh (.int i)) s = .ok (some i) s := Eq.trans rfl rfl
@[simp] theorem negR_int : negR (.sh (.int i)) s = .ok (.sh (.int (-i))) s := Eq.trans rfl rfl
@[simp] theorem isiD_at {d : D} {T t : String} (h : tyD d = some t) : isiD T (.sh d) s = .ok (.sh (.bl (isiT T t))) s := by unfold isiD; rw [peek_sh', Option.bind_some, h]
@[simp] theorem tyD_non : tyD .non = some "NoneType" := Eq.trans rfl rfl
@[simp] theorem tyD_bl {b : Bool} : tyD (.bl b) = some "bool" := Eq.trans rfl rfl
@[simp] theorem tyD_int : tyD (.int i) = some "int" := Eq.trans rfl rfl
@[simp] theorem tyD_str : tyD (.str x) = some "str" := Eq.trans rfl rfl
@[simp] theorem tyD_tup : tyD (.tup xs) = some "tuple" := Eq.trans rfl rfl
@[simp] theorem tyD_lst : tyD (.lst xs) = some "list" := Eq.trans rfl rfl
@[simp] theorem ixD_lst : ixD (.sh (.lst xs)) (.sh (.int i)) s = ofD (atI xs i) s := by
  show (match atI xs i with | some d => Res.ok (R.sh d) s | none => .bad) = _
  cases atI xs i <;> rfl
@[simp] theorem ixD_tup : ixD (.sh (.tup xs)) (.sh (.int i)) s = ofD (atI xs i) s := by
  show (match atI xs i with | some d => Res.ok (R.sh d) s | none => .bad) = _
  cases atI xs i <;> rfl
@[simp] theorem ixD_scr {ns : List Int} : ixD (.sh (.scr ns)) (.sh (.int i)) s = ofD ((atI ns i).map D.int) s := by
  show (match atI ns i with | some d => Res.ok (R.sh (.int d)) s | none => .bad) = _
  cases atI ns i <;> rfl
@[simp] theorem ixD_str (h : x.length ≤ 16777216) : ixD (.sh (.str x)) (.sh (.int i)) s = ofD ((atI x.cps.toList i).map fun c => D.str ⟨#[c]⟩) s := by
  show (if lineOk x.length = true then _ else _) = _
  rw [if_pos (lineOk_iff.mpr h)]
  cases atI x.cps.toList i <;> rfl
@[simp] theorem slD_lst {lo hi : Option Int} : slD (.sh (.lst xs)) lo hi s = .ok (.fr (.lst (cutL xs lo hi))) s := Eq.trans rfl rfl
@[simp] theorem slD_tup {lo hi : Option Int} : slD (.sh (.tup xs)) lo hi s = .ok (.sh (.tup (cutL xs lo hi))) s := Eq.trans rfl rfl
@[simp] theorem slD_str {lo hi : Option Int} (h : x.length ≤ 16777216) : slD (.sh (.str x)) lo hi s = .ok (.sh (.str (cutS x lo hi))) s := by unfold slD; simp [lineOk_iff, h]
@[simp] theorem bLen_str (h : x.length ≤ 16777216) : Bi.fn .len [.sh (.str x)] s = .ok (.sh (.int x.length)) s := by unfold Bi.fn bLen; simp [lineOk_iff, h]
@[simp] theorem bLen_lst : Bi.fn .len [.sh (.lst xs)] s = .ok (.sh (.int xs.length)) s := Eq.trans rfl rfl
@[simp] theorem bLen_tup : Bi.fn .len [.sh (.tup xs)] s = .ok (.sh (.int xs.length)) s := Eq.trans rfl rfl
@[simp] theorem bLen_scr {ns : List Int} : Bi.fn .len [.sh (.scr ns)] s = .ok (.sh (.int ns.length)) s := Eq.trans rfl rfl
@[simp] theorem bInt_int : Bi.fn .int_ [.sh (.int i)] s = .ok (.sh (.int i)) s := Eq.trans rfl rfl
@[simp] theorem bInt_bl {b : Bool} : Bi.fn .int_ [.sh (.bl b)] s = .ok (.sh (.int (cond b 1 0))) s := by cases b <;> rfl
@[simp] theorem bBool_bl {b : Bool} : Bi.fn .bool_ [.sh (.bl b)] s = .ok (.sh (.bl b)) s := Eq.trans rfl rfl
@[simp] theorem bStr_int (h : i.natAbs.log2 < 1920) : Bi.fn .str_ [.sh (.int i)] s = .ok (.sh (.str (toString i))) s := by unfold Bi.fn bStr; simp [h]
@[simp] theorem bTup_lst : Bi.fn .tuple_ [.sh (.lst xs)] s = .ok (.sh (.tup xs)) s := Eq.trans rfl rfl
@[simp] theorem bTup_tup : Bi.fn .tuple_ [.sh (.tup xs)] s = .ok (.sh (.tup xs)) s := Eq.trans rfl rfl
@[simp] theorem bList_lst : Bi.fn .list_ [.sh (.lst xs)] s = .ok (.fr (.lst xs)) s := Eq.trans rfl rfl
@[simp] theorem bList_tup : Bi.fn .list_ [.sh (.tup xs)] s = .ok (.fr (.lst xs)) s := Eq.trans rfl rfl
@[simp] theorem bAll_map {α : Type} {l : List α} {p : α → Bool} : Bi.fn .all_ [.sh (.lst (l.map fun x => .bl (p x)))] s = .ok (.sh (.bl (l.all p))) s := by
  have e : asBls (l.map fun x => D.bl (p x)) = some (l.map p) := by
    rw [show (l.map fun x => D.bl (p x)) = (l.map p).map D.bl from by rw [List.map_map]; rfl]
    exact asBls_map _
  unfold Bi.fn bAll lstOf
  simp [e]
@[simp] theorem bAny_map {α : Type} {l : List α} {p : α → Bool} : Bi.fn .any_ [.sh (.lst (l.map fun x => .bl (p x)))] s = .ok (.sh (.bl (l.any p))) s := by
  have e : asBls (l.map fun x => D.bl (p x)) = some (l.map p) := by
    rw [show (l.map fun x => D.bl (p x)) = (l.map p).map D.bl from by rw [List.map_map]; rfl]
    exact asBls_map _
  unfold Bi.fn bAny lstOf
  simp [e]
@[simp] theorem bSum_map {α : Type} {l : List α} {p : α → Int} : Bi.fn .sum_ [.sh (.lst (l.map fun x => .int (p x)))] s = .ok (.sh (.int (l.map p).sum)) s := by
  have e : asInts (l.map fun x => D.int (p x)) = some (l.map p) := by
    rw [show (l.map fun x => D.int (p x)) = (l.map p).map D.int from by rw [List.map_map]; rfl]
    exact asInts_map _
  unfold Bi.fn bSum lstOf
  simp [e]
@[simp] theorem tupR_cons {rs : List R} : tupR rs s = (escs rs s).bind fun ds s1 => if ds.length ≤ 16777216 then .ok (.sh (.tup ds)) s1 else .bad := by
  unfold tupR; simp only [lineOk_iff]
@[simp] theorem lstR_cons {rs : List R} : lstR rs s = (escs rs s).bind fun ds s1 => if ds.length ≤ 16777216 then .ok (.fr (.lst ds)) s1 else .bad := by
  unfold lstR newLst; simp only [lineOk_iff]
@[simp] theorem lstR1_cons {rs : List R} : lstR1 y rs s = lstR (.sh (.str y) :: rs) s := Eq.trans rfl rfl
@[simp] theorem gS_str {g : S → Res R} : gS (.sh (.str x)) g s = g s := Eq.trans rfl rfl
@[simp] theorem mSplit_str (h : ((y.length == 0) = false) ∧ (x.length + 2 ≤ 16777216)) : mSplit (.sh (.str x)) (.sh (.str y)) s = .ok (.fr (.lst ((Txt.split x y).map D.str))) s := by
  unfold mSplit newLst
  simp only [peek_sh']
  exact if_pos h
@[simp] theorem mJoin_str {ys : List Str} (h : (ys.map (·.length)).sum + ys.length * x.length ≤ 16777216) : mJoin (.sh (.str x)) (.sh (.lst (ys.map D.str))) s = .ok (.sh (.str (Txt.join x ys))) s := by
  unfold mJoin lstOf
  simp [h]
@[simp] theorem fmtR_str (h : y.length ≤ 16777216) : fmtR (.sh (.str y)) s = .ok (.sh (.str y)) s := by unfold fmtR; simp [lineOk_iff, h]
@[simp] theorem fmtR_int (h : i.natAbs.log2 < 1920) : fmtR (.sh (.int i)) s = .ok (.sh (.str (toString i))) s := by unfold fmtR; simp [h]
@[simp] theorem revR_lst : revR (.sh (.lst xs)) s = .ok (.fr (.lst xs.reverse)) s := Eq.trans rfl rfl
@[simp] theorem rng1_int (h : -(2 ^ 62) ≤ i ∧ i < 2 ^ 62) : rng1R [.sh (.int i)] s = .ok ((List.range i.toNat).map fun k => D.int (k : Nat)) s := by
  unfold rng1R itRng rngOk
  simp only [peek_sh']
  rw [if_pos (by simpa using h)]
  simp
@[simp] theorem rng1_nat {n : Nat} (h : n ≤ 100000) : rng1R [.sh (.int (n : Int))] s = .ok ((List.range n).map fun k => D.int (k : Nat)) s := by
  rw [rng1_int ⟨by omega, by omega⟩]
  simp
@[simp] theorem rng2_int (h : (-(2 ^ 62) ≤ i ∧ i < 2 ^ 62) ∧ (-(2 ^ 62) ≤ j ∧ j < 2 ^ 62)) : rng2R [.sh (.int i), .sh (.int j)] s = .ok ((List.range (j - i).toNat).map fun k => D.int (i + (k : Nat))) s := by
  unfold rng2R itRng rngOk
  simp only [peek_sh']
  rw [if_pos (by constructor <;> simpa using (by first | exact h.1 | exact h.2))]
@[simp] theorem exprR_sh {d : D} : exprR (.sh d) s = .ok .nx s := Eq.trans rfl rfl
@[simp] theorem exprR_lst : exprR (.fr (.lst xs)) s = .ok .nx s := Eq.trans rfl rfl
@[simp] theorem asgR_sh {d : D} {f : D → S → Option S} : asgR f (.sh d) s = ofO (f d s) := Eq.trans rfl rfl
end
@[simp] theorem cond_okR {c : Bool} {a b : D} {s : S} : (sel c (Res.ok (R.sh a) s) (.ok (.sh b) s) : Res R) = .ok (.sh (cond c a b)) s := by cases c <;> rfl
@[simp] theorem cond_okB {c a b : Bool} {s : S} : (sel c (Res.ok a s) (.ok b s) : Res Bool) = .ok (cond c a b) s := by cases c <;> rfl
@[simp] theorem cond_okF {c : Bool} {a b : D} {s : S} : (sel c (Res.ok (Fl.rt (R.sh a)) s) (.ok (.rt (.sh b)) s) : Res Fl) = .ok (.rt (.sh (cond c a b))) s := by cases c <;> rfl
@[simp] theorem cond_bl {c a b : Bool} : cond c (D.bl a) (D.bl b) = .bl (cond c a b) := by cases c <;> rfl
/-! ### loops -/
/-- one turn of a comprehension -/
def turn (tgt : D → S → Option S) (tst : S → Res Bool) (elt : S → Res R) (vs : List Nat) (d : D) (s : S) : Res (Option D) := obind (tgt d s) fun s1 =>
  (tst s1).bind fun b s2 => sel b ((elt s2).bind fun r s3 => (esc r s3).bind fun y s4 => if okW s4 vs = true then .ok (some y) (wipeS s4 vs) else .bad)
        (if okW s2 vs = true then .ok none (wipeS s2 vs) else .bad)
@[simp] theorem sel_okO {c : Bool} {y : D} {s : S} : (sel c (Res.ok (some y) s) (.ok none s) : Res (Option D)) = .ok (cond c (some y) none) s := by cases c <;> rfl
theorem compLoop_step {tgt : D → S → Option S} {tst : S → Res Bool} {elt : S → Res R} {vs : List Nat} {d : D} {ds acc : List D} {s t : S} {o : Option D} (h : turn tgt tst elt vs d s = .ok o t) (hl : acc.length < sizeLine) :
    compLoop tgt tst elt vs (d :: ds) acc s = compLoop tgt tst elt vs ds (acc ++ o.toList) t := by
  unfold turn at h
  conv => lhs; unfold compLoop
  cases e1 : tgt d s with
  | none => rw [e1, obind_none] at h; cases h
  | some s1 =>
    rw [e1, obind_some] at h
    dsimp only
    cases e2 : tst s1 with
    | bad => rw [e2] at h; cases h
    | exc c u => rw [e2] at h; cases h
    | ok b s2 =>
      rw [e2] at h
      rw [bind_ok] at h ⊢
      cases b with
      | false =>
        rw [sel_f] at h
        rw [if_neg Bool.false_ne_true]
        by_cases c : okW s2 vs = true
        · rw [if_pos c] at h ⊢
          cases h
          rw [Option.toList, List.append_nil]
        · rw [if_neg c] at h; cases h
      | true =>
        rw [sel_t] at h
        rw [if_pos rfl]
        cases e3 : elt s2 with
        | bad => rw [e3] at h; cases h
        | exc c u => rw [e3] at h; cases h
        | ok r s3 =>
          rw [e3] at h
          rw [bind_ok] at h ⊢
          cases e4 : esc r s3 with
          | bad => rw [e4] at h; cases h
          | exc c u => rw [e4] at h; cases h
          | ok y s4 =>
            rw [e4] at h
            rw [bind_ok] at h ⊢
            by_cases c : okW s4 vs = true
            · rw [if_pos c] at h
              rw [if_pos ⟨c, hl⟩]
              cases h
              rfl
            · rw [if_neg c] at h; cases h
theorem compLoop_fm {α : Type} {tgt : D → S → Option S} {tst : S → Res Bool} {elt : S → Res R} {vs : List Nat} {s : S} {e : α → D} {f : α → Option D} : ∀ {l : List α} {acc : List D}, (∀ x ∈ l, turn tgt tst elt vs (e x) s = .ok (f x) s) → acc.length + l.length ≤ sizeLine →
    compLoop tgt tst elt vs (l.map e) acc s = .ok (acc ++ l.filterMap f) s
  | [], acc, _, _ => by unfold compLoop; simp
  | x :: l, acc, h, hl => by
    rw [List.length_cons] at hl
    rw [List.map_cons, compLoop_step (h x List.mem_cons_self) (by omega), compLoop_fm (fun y hy => h y (List.mem_cons_of_mem _ hy))]
    · cases e : f x <;> simp [e]
    · cases f x <;> simp <;> omega
theorem comp_fmG {α : Type} {it : S → Res (List D)} {tgt : D → S → Option S} {tst : S → Res Bool} {elt : S → Res R} {vs : List Nat} {s s1 s0 : S} (l : List α) (e : α → D) (f : α → Option D) (hit : it s = .ok (l.map e) s1) (hok : okW s1 vs = true) (h0 : wipeS s1 vs = s0) (hl : l.length ≤ sizeLine)
    (h : ∀ x ∈ l, turn tgt tst elt vs (e x) s0 = .ok (f x) s0) : compD it tgt tst elt vs s = .ok (.fr (.lst (l.filterMap f))) (restS s1 s0 vs) := by
  unfold compD
  subst h0
  rw [hit, bind_ok, if_pos hok, compLoop_fm h (by simpa using hl)]
  rfl
theorem comp_mG {α : Type} {it : S → Res (List D)} {tgt : D → S → Option S} {tst : S → Res Bool} {elt : S → Res R} {vs : List Nat} {s s1 s0 : S} (l : List α) (e : α → D) (g : α → D) (hit : it s = .ok (l.map e) s1) (hok : okW s1 vs = true) (h0 : wipeS s1 vs = s0) (hl : l.length ≤ sizeLine)
    (h : ∀ x ∈ l, turn tgt tst elt vs (e x) s0 = .ok (some (g x)) s0) : compD it tgt tst elt vs s = .ok (.fr (.lst (l.map g))) (restS s1 s0 vs) := by
  rw [comp_fmG l e (fun x => some (g x)) hit hok h0 hl h]
  simp
theorem comp_fG {α : Type} {it : S → Res (List D)} {tgt : D → S → Option S} {tst : S → Res Bool} {elt : S → Res R} {vs : List Nat} {s s1 s0 : S} (l : List α) (e : α → D) (q : α → Bool) (g : α → D) (hit : it s = .ok (l.map e) s1) (hok : okW s1 vs = true) (h0 : wipeS s1 vs = s0) (hl : l.length ≤ sizeLine)
    (h : ∀ x ∈ l, turn tgt tst elt vs (e x) s0 = .ok (cond (q x) (some (g x)) none) s0) : compD it tgt tst elt vs s = .ok (.fr (.lst ((l.filter q).map g))) (restS s1 s0 vs) := by
  rw [comp_fmG l e (fun x => cond (q x) (some (g x)) none) hit hok h0 hl h]
  congr 3
  clear h hl hit
  induction l with
  | nil => rfl
  | cons x l ih => cases c : q x <;> simp [c, ih]
section
variable {α : Type} {it : S → Res (List D)} {tgt : D → S → Option S} {tst : S → Res Bool} {elt : S → Res R} {vs : List Nat} {s : S} (l : List α) (e : α → D)
theorem comp_fm (f : α → Option D) (hit : it s = .ok (l.map e) s) (hok : okW s vs = true) (hl : l.length ≤ sizeLine) (h : ∀ x ∈ l, turn tgt tst elt vs (e x) (wipeS s vs) = .ok (f x) (wipeS s vs)) :
    compD it tgt tst elt vs s = .ok (.fr (.lst (l.filterMap f))) (restS s (wipeS s vs) vs) := comp_fmG l e f hit hok rfl hl h
theorem comp_m (g : α → D) (hit : it s = .ok (l.map e) s) (hok : okW s vs = true) (hl : l.length ≤ sizeLine) (h : ∀ x ∈ l, turn tgt tst elt vs (e x) (wipeS s vs) = .ok (some (g x)) (wipeS s vs)) :
    compD it tgt tst elt vs s = .ok (.fr (.lst (l.map g))) (restS s (wipeS s vs) vs) := comp_mG l e g hit hok rfl hl h
theorem comp_f (q : α → Bool) (g : α → D) (hit : it s = .ok (l.map e) s) (hok : okW s vs = true) (hl : l.length ≤ sizeLine) (h : ∀ x ∈ l, turn tgt tst elt vs (e x) (wipeS s vs) = .ok (cond (q x) (some (g x)) none) (wipeS s vs)) :
    compD it tgt tst elt vs s = .ok (.fr (.lst ((l.filter q).map g))) (restS s (wipeS s vs) vs) := comp_fG l e q g hit hok rfl hl h
end
@[simp] theorem eqv_str {x y : Str} : (D.str x).eqv (.str y) = decide (x = y) := by
  unfold D.eqv D.py PyData.eqv
  by_cases h : x = y <;> simp [h]
@[simp] theorem eqv_int {x y : Int} : (D.int x).eqv (.int y) = decide (x = y) := by
  unfold D.eqv D.py PyData.eqv
  by_cases h : x = y <;> simp [h]
@[simp] theorem eqv_bl {x y : Bool} : (D.bl x).eqv (.bl y) = decide (x = y) := by
  unfold D.eqv D.py PyData.eqv
  cases x <;> cases y <;> rfl
@[simp] theorem eqv_nn : D.non.eqv .non = true := by unfold D.eqv D.py PyData.eqv; rfl
@[simp] theorem eqv_nt {ds : List D} : D.non.eqv (.tup ds) = false := by unfold D.eqv D.py PyData.eqv; rfl
@[simp] theorem eqv_tn {ds : List D} : (D.tup ds).eqv .non = false := by unfold D.eqv D.py PyData.eqv; rfl
@[simp] theorem eqv_ns {x : Str} : D.non.eqv (.str x) = false := by unfold D.eqv D.py PyData.eqv; rfl
@[simp] theorem eqv_sn {x : Str} : (D.str x).eqv .non = false := by unfold D.eqv D.py PyData.eqv; rfl
@[simp] theorem eqv_ni {x : Int} : D.non.eqv (.int x) = false := by unfold D.eqv D.py PyData.eqv; rfl
@[simp] theorem eqv_in {x : Int} : (D.int x).eqv .non = false := by unfold D.eqv D.py PyData.eqv; rfl
@[simp] theorem eqv_ln {ds : List D} : (D.lst ds).eqv .non = false := by unfold D.eqv D.py PyData.eqv; rfl
@[simp] theorem eqv_nl {ds : List D} : D.non.eqv (.lst ds) = false := by unfold D.eqv D.py PyData.eqv; rfl
@[simp] theorem eqv_is {i : Int} {x : Str} : (D.int i).eqv (.str x) = false := by unfold D.eqv D.py PyData.eqv; rfl
@[simp] theorem eqv_si {i : Int} {x : Str} : (D.str x).eqv (.int i) = false := by unfold D.eqv D.py PyData.eqv; rfl
@[simp] theorem eqv_st {ds : List D} {x : Str} : (D.str x).eqv (.tup ds) = false := by unfold D.eqv D.py PyData.eqv; rfl
@[simp] theorem eqv_ts {ds : List D} {x : Str} : (D.tup ds).eqv (.str x) = false := by unfold D.eqv D.py PyData.eqv; rfl
@[simp] theorem eqv_ti {ds : List D} {i : Int} : (D.tup ds).eqv (.int i) = false := by unfold D.eqv D.py PyData.eqv; rfl
@[simp] theorem eqv_it {ds : List D} {i : Int} : (D.int i).eqv (.tup ds) = false := by unfold D.eqv D.py PyData.eqv; rfl
@[simp] theorem eqv_tl {ds es : List D} : (D.tup ds).eqv (.lst es) = false := by unfold D.eqv D.py PyData.eqv; rfl
@[simp] theorem eqv_lt {ds es : List D} : (D.lst ds).eqv (.tup es) = false := by unfold D.eqv D.py PyData.eqv; rfl
def eqvL : List D → List D → Bool
  | [], [] => true
  | a :: as, b :: bs => a.eqv b && eqvL as bs
  | _, _ => false
theorem eqvL_py : ∀ (as bs : List D), PyData.eqvAll (D.pys as) (D.pys bs) = eqvL as bs
  | [], [] => by simp [D.pys, PyData.eqvAll, eqvL]
  | [], b :: bs => by simp [D.pys, PyData.eqvAll, eqvL]
  | a :: as, [] => by simp [D.pys, PyData.eqvAll, eqvL]
  | a :: as, b :: bs => by simp [D.pys, PyData.eqvAll, eqvL, eqvL_py as bs, D.eqv]
@[simp] theorem eqv_tup {as bs : List D} : (D.tup as).eqv (.tup bs) = eqvL as bs := by
  rw [← eqvL_py]; unfold D.eqv D.py; simp [PyData.eqv]
@[simp] theorem eqv_lst {as bs : List D} : (D.lst as).eqv (.lst bs) = eqvL as bs := by
  rw [← eqvL_py]; unfold D.eqv D.py; simp [PyData.eqv]
@[simp] theorem eqvL_nil : eqvL [] [] = true := Eq.trans rfl rfl
@[simp] theorem eqvL_nc {b : D} {bs : List D} : eqvL [] (b :: bs) = false := Eq.trans rfl rfl
@[simp] theorem eqvL_cn {b : D} {bs : List D} : eqvL (b :: bs) [] = false := Eq.trans rfl rfl
@[simp] theorem eqvL_cons {a b : D} {as bs : List D} : eqvL (a :: as) (b :: bs) = (a.eqv b && eqvL as bs) := Eq.trans rfl rfl
/-- == of encoded things -/
def EqOk {α : Type} (e : α → D) : Prop := ∀ a b, (e a).eqv (e b) = true ↔ a = b
theorem eqvL_map {α : Type} {e : α → D} (h : EqOk e) : ∀ {l m : List α}, eqvL (l.map e) (m.map e) = true ↔ l = m
  | [], [] => by simp
  | [], b :: m => by simp
  | a :: l, [] => by simp
  | a :: l, b :: m => by rw [List.map_cons, List.map_cons, eqvL_cons, Bool.and_eq_true, h a b, eqvL_map h, List.cons.injEq]
theorem inL_map {α : Type} {e : α → D} (h : EqOk e) {x : α} : ∀ {l : List α}, inL (e x) (l.map e) = true ↔ x ∈ l
  | [] => ⟨fun z => absurd (show false = true from z) (by decide), fun z => by cases z⟩
  | a :: l => by
    show ((e a).eqv (e x) || inL (e x) (l.map e)) = true ↔ _
    rw [Bool.or_eq_true, h a x, inL_map h, List.mem_cons]
    exact ⟨fun z => z.imp Eq.symm id, fun z => z.imp Eq.symm id⟩
@[simp] theorem plain_non : D.plain .non = true := Eq.trans rfl rfl
@[simp] theorem plain_bl {b : Bool} : (D.bl b).plain = true := Eq.trans rfl rfl
@[simp] theorem plain_int {i : Int} : (D.int i).plain = true := Eq.trans rfl rfl
@[simp] theorem plain_str {x : Str} : (D.str x).plain = true := Eq.trans rfl rfl
@[simp] theorem plain_tup {ds : List D} : (D.tup ds).plain = D.plains ds := Eq.trans rfl rfl
@[simp] theorem plain_lst {ds : List D} : (D.lst ds).plain = D.plains ds := Eq.trans rfl rfl
@[simp] theorem plains_nil : D.plains [] = true := Eq.trans rfl rfl
@[simp] theorem plains_cons {d : D} {ds : List D} : D.plains (d :: ds) = (d.plain && D.plains ds) := Eq.trans rfl rfl
theorem plains_iff : ∀ {ds : List D}, D.plains ds = true ↔ ∀ d ∈ ds, d.plain = true
  | [] => by simp
  | d :: ds => by simp [plains_iff]
@[simp] theorem okE_non : D.okE .non = true := Eq.trans rfl rfl
@[simp] theorem okE_bl {b : Bool} : D.okE (.bl b) = true := Eq.trans rfl rfl
@[simp] theorem okE_int {i : Int} : D.okE (.int i) = true := Eq.trans rfl rfl
@[simp] theorem okE_str {x : Str} : D.okE (.str x) = true := Eq.trans rfl rfl
def okEs (n : Nat) (ds : List D) : Bool := D.plains ds && decide (PyData.depthAll (D.pys ds) ≤ n)
@[simp] theorem okE_lst {ds : List D} : (D.lst ds).okE = okEs 63 ds := by
  unfold D.okE okEs
  congr 1
  simp [D.py, PyData.depth]
@[simp] theorem okE_tup {ds : List D} : (D.tup ds).okE = okEs 63 ds := by
  unfold D.okE okEs
  congr 1
  simp [D.py, PyData.depth]
@[simp] theorem okEs_nil {n : Nat} : okEs n [] = true := by simp [okEs, D.plains, D.pys, PyData.depthAll]
def okN (n : Nat) (d : D) : Bool := d.plain && decide (d.py.depth ≤ n)
theorem okEs_all {n : Nat} {ds : List D} : okEs n ds = ds.all (okN n) := by
  induction ds with
  | nil => simp
  | cons d ds ih =>
    rw [List.all_cons, ← ih]
    show ((d.plain && D.plains ds) && decide (PyData.depthAll (D.pys (d :: ds)) ≤ n)) = (okN n d && okEs n ds)
    have hd : PyData.depthAll (D.pys (d :: ds)) = max d.py.depth (PyData.depthAll (D.pys ds)) := by simp [D.pys, PyData.depthAll]
    have e : decide (max d.py.depth (PyData.depthAll (D.pys ds)) ≤ n) = (decide (d.py.depth ≤ n) && decide (PyData.depthAll (D.pys ds) ≤ n)) := by
      rw [Bool.eq_iff_iff]
      simp only [Bool.and_eq_true, decide_eq_true_iff]
      exact Nat.max_le
    rw [hd, e]
    unfold okEs okN
    cases d.plain <;> cases D.plains ds <;> cases decide (d.py.depth ≤ n) <;> cases decide (PyData.depthAll (D.pys ds) ≤ n) <;> rfl
@[simp] theorem okEs_cons {n : Nat} {d : D} {ds : List D} : okEs n (d :: ds) = (okN n d && okEs n ds) := by rw [okEs_all, okEs_all, List.all_cons]
@[simp] theorem okN_non {n : Nat} : okN n .non = true := by simp [okN, D.plain, D.py, PyData.depth]
@[simp] theorem okN_bl {n : Nat} {b : Bool} : okN n (.bl b) = true := by simp [okN, D.plain, D.py, PyData.depth]
@[simp] theorem okN_int {n : Nat} {i : Int} : okN n (.int i) = true := by simp [okN, D.plain, D.py, PyData.depth]
@[simp] theorem okN_str {n : Nat} {x : Str} : okN n (.str x) = true := by simp [okN, D.plain, D.py, PyData.depth]
@[simp] theorem okN_tup {n : Nat} {ds : List D} : okN (n + 1) (.tup ds) = okEs n ds := by
  unfold okN okEs
  congr 1
  simp [D.py, PyData.depth]
@[simp] theorem okN_lst {n : Nat} {ds : List D} : okN (n + 1) (.lst ds) = okEs n ds := by
  unfold okN okEs
  congr 1
  simp [D.py, PyData.depth]
@[simp] theorem okEs_map {α : Type} {n : Nat} {l : List α} {f : α → D} : okEs n (l.map f) = l.all fun x => okN n (f x) := by
  rw [okEs_all, List.all_map]; rfl
@[simp] theorem inL_nil {d : D} : inL d [] = false := Eq.trans rfl rfl
@[simp] theorem inL_cons {d e : D} {ds : List D} : inL d (e :: ds) = (e.eqv d || inL d ds) := Eq.trans rfl rfl
@[simp] theorem flatD_non : flatD .non = true := Eq.trans rfl rfl
@[simp] theorem flatD_bl {b : Bool} : flatD (.bl b) = true := Eq.trans rfl rfl
@[simp] theorem flatD_int {i : Int} : flatD (.int i) = true := Eq.trans rfl rfl
@[simp] theorem flatD_str {x : Str} : flatD (.str x) = true := Eq.trans rfl rfl
@[simp] theorem isOwn_sh {d : D} : isOwn (some (.sh d)) = false := Eq.trans rfl rfl
@[simp] theorem isOwn_no : isOwn none = false := Eq.trans rfl rfl
@[simp] theorem wipeS_nil {s : S} : wipeS s [] = s := Eq.trans rfl rfl
@[simp] theorem wipeS_cons {s : S} {v : Nat} {vs : List Nat} : wipeS s (v :: vs) = (wipeS s vs).set v none := Eq.trans rfl rfl
@[simp] theorem restS_nil {s t : S} : restS s t [] = t := Eq.trans rfl rfl
@[simp] theorem restS_cons {s t : S} {v : Nat} {vs : List Nat} : restS s t (v :: vs) = (restS s t vs).set v (s[v]?.join) := Eq.trans rfl rfl
@[simp] theorem okW_nil {s : S} : okW s [] = true := Eq.trans rfl rfl
@[simp] theorem okW_cons {s : S} {v : Nat} {vs : List Nat} : okW s (v :: vs) = (!isOwn (s[v]?.join) && okW s vs) := Eq.trans rfl rfl
/-- a comprehension by what holds between its turns -/
theorem comp_inv {α : Type} {it : S → Res (List D)} {tgt : D → S → Option S} {tst : S → Res Bool} {elt : S → Res R} {vs : List Nat} {s s1 : S} (l : List α) (e : α → D) (P : List α → List D → S → Prop) (hit : it s = .ok (l.map e) s1) (hok : okW s1 vs = true) (h0 : P [] [] (wipeS s1 vs)) (hl : l.length ≤ sizeLine)
    (h : ∀ pre x suf acc t, l = pre ++ x :: suf → P pre acc t → ∃ o t2, turn tgt tst elt vs (e x) t = .ok o t2 ∧ P (pre ++ [x]) (acc ++ o.toList) t2) : ∃ ys t, compD it tgt tst elt vs s = .ok (.fr (.lst ys)) (restS s1 t vs) ∧ P l ys t := by
  have key : ∀ (suf pre : List α) (acc : List D) (t : S), l = pre ++ suf → acc.length ≤ pre.length → P pre acc t → ∃ ys u, compLoop tgt tst elt vs (suf.map e) acc t = .ok ys u ∧ P l ys u := by
    intro suf
    induction suf with
    | nil =>
      intro pre acc t hp _ p
      rw [List.append_nil] at hp
      subst hp
      exact ⟨acc, t, by unfold compLoop; rfl, p⟩
    | cons x suf ih =>
      intro pre acc t hp ha p
      obtain ⟨o, t2, k1, k2⟩ := h pre x suf acc t hp p
      have hlen : acc.length < sizeLine := by
        have := congrArg List.length hp
        rw [List.length_append, List.length_cons] at this
        omega
      obtain ⟨ys, u, k3, k4⟩ := ih (pre ++ [x]) (acc ++ o.toList) t2 (by rw [hp]; simp) (by cases o <;> simp <;> omega) k2
      exact ⟨ys, u, by rw [List.map_cons, compLoop_step k1 hlen]; exact k3, k4⟩
  obtain ⟨ys, u, k1, k2⟩ := key l [] [] (wipeS s1 vs) rfl (Nat.le_refl _) h0
  refine ⟨ys, u, ?_, k2⟩
  unfold compD
  rw [hit, bind_ok, if_pos hok, k1]
theorem comp_goal {α : Type} {G : Prop} {it : S → Res (List D)} {tgt : D → S → Option S} {tst : S → Res Bool} {elt : S → Res R} {vs : List Nat} {s s1 : S} {m : Res R} (hm : compD it tgt tst elt vs s = m) (l : List α) (e : α → D) (P : List α → List D → S → Prop) (hit : it s = .ok (l.map e) s1) (hok : okW s1 vs = true) (h0 : P [] [] (wipeS s1 vs)) (hl : l.length ≤ sizeLine)
    (h : ∀ pre x suf acc t, l = pre ++ x :: suf → P pre acc t → ∃ o t2, turn tgt tst elt vs (e x) t = .ok o t2 ∧ P (pre ++ [x]) (acc ++ o.toList) t2) (hG : ∀ ys t, m = .ok (.fr (.lst ys)) (restS s1 t vs) → P l ys t → G) : G := by
  obtain ⟨ys, t, h1, h2⟩ := comp_inv l e P hit hok h0 hl h
  exact hG ys t (hm ▸ h1) h2
/-- one turn of a for loop -/
def step (tgt : D → S → Option S) (body : S → Res Fl) (d : D) (s : S) : Res Fl := obind (tgt d s) body
theorem for_step {tgt : D → S → Option S} {body : S → Res Fl} {d : D} {ds : List D} {s : S} : forLoop tgt body (d :: ds) s = match step tgt body d s with
      | .ok .nx s2 => forLoop tgt body ds s2
      | .ok .ct s2 => forLoop tgt body ds s2
      | .ok .bk s2 => .ok .nx s2
      | m => m := by
  unfold step
  show (match tgt d s with
    | none => Res.bad
    | some s1 => _) = _
  cases tgt d s with
  | none => rfl
  | some s1 => rw [obind_some] <;> rfl
/-- a for loop by what holds between its turns; it may end before -/
theorem for_inv {α : Type} {tgt : D → S → Option S} {body : S → Res Fl} {s : S} (l : List α) (e : α → D) (P : List α → S → Prop) (Q : Res Fl → Prop) (h0 : P [] s)
    (h : ∀ pre x suf t, l = pre ++ x :: suf → P pre t → (∃ t2, (step tgt body (e x) t = .ok .nx t2 ∨ step tgt body (e x) t = .ok .ct t2) ∧ P (pre ++ [x]) t2) ∨ (∃ t2, step tgt body (e x) t = .ok .bk t2 ∧ Q (.ok .nx t2)) ∨ (∃ r t2, step tgt body (e x) t = .ok (.rt r) t2 ∧ Q (.ok (.rt r) t2)))
    (hq : ∀ t, P l t → Q (.ok .nx t)) : Q (forLoop tgt body (l.map e) s) := by
  have key : ∀ (suf pre : List α) (t : S), l = pre ++ suf → P pre t → Q (forLoop tgt body (suf.map e) t) := by
    intro suf
    induction suf with
    | nil =>
      intro pre t hp p
      rw [List.append_nil] at hp
      subst hp
      exact hq t p
    | cons x suf ih =>
      intro pre t hp p
      rw [List.map_cons, for_step]
      rcases h pre x suf t hp p with ⟨t2, k1 | k1, k2⟩ | ⟨t2, k1, k2⟩ | ⟨r, t2, k1, k2⟩
      · rw [k1]; exact ih (pre ++ [x]) t2 (by rw [hp]; simp) k2
      · rw [k1]; exact ih (pre ++ [x]) t2 (by rw [hp]; simp) k2
      · rw [k1]; exact k2
      · rw [k1]; exact k2
  exact key l [] s rfl h0
/-- a for loop that runs through -/
theorem for_all {α : Type} {tgt : D → S → Option S} {body : S → Res Fl} {s : S} (l : List α) (e : α → D) (P : List α → S → Prop) (h0 : P [] s)
    (h : ∀ pre x suf t, l = pre ++ x :: suf → P pre t → ∃ t2, (step tgt body (e x) t = .ok .nx t2 ∨ step tgt body (e x) t = .ok .ct t2) ∧ P (pre ++ [x]) t2) : ∃ t, forLoop tgt body (l.map e) s = .ok .nx t ∧ P l t :=
  for_inv l e P (fun m => ∃ t, m = .ok .nx t ∧ P l t) h0 (fun pre x suf t hp p => .inl (h pre x suf t hp p)) fun t p => ⟨t, rfl, p⟩
theorem for_elim {α : Type} {tgt : D → S → Option S} {body : S → Res Fl} {s : S} {ds : List D} {m : Res Fl} (hm : forLoop tgt body ds s = m) (l : List α) (e : α → D) (hd : ds = l.map e) (P : List α → S → Prop) (QQ : R → S → Prop) (h0 : P [] s)
    (h : ∀ pre x suf t, l = pre ++ x :: suf → P pre t → (∃ t2, (step tgt body (e x) t = .ok .nx t2 ∨ step tgt body (e x) t = .ok .ct t2) ∧ P (pre ++ [x]) t2) ∨ (∃ r t2, step tgt body (e x) t = .ok (.rt r) t2 ∧ QQ r t2)) :
    (∃ t, m = .ok .nx t ∧ P l t) ∨ ∃ r t, m = .ok (.rt r) t ∧ QQ r t := by
  subst hm hd
  refine for_inv l e P (fun m => (∃ t, m = .ok .nx t ∧ P l t) ∨ ∃ r t, m = .ok (.rt r) t ∧ QQ r t) h0 (fun pre x suf t hp p => ?_) fun t p => .inl ⟨t, rfl, p⟩
  rcases h pre x suf t hp p with h | ⟨r, t2, h1, h2⟩
  · exact .inl h
  · exact .inr (.inr ⟨r, t2, h1, .inr ⟨r, t2, rfl, h2⟩⟩)
theorem for_elim1 {α : Type} {tgt : D → S → Option S} {body : S → Res Fl} {s : S} {ds : List D} {m : Res Fl} (hm : forLoop tgt body ds s = m) (l : List α) (e : α → D) (hd : ds = l.map e) (P : List α → S → Prop) (h0 : P [] s)
    (h : ∀ pre x suf t, l = pre ++ x :: suf → P pre t → ∃ t2, (step tgt body (e x) t = .ok .nx t2 ∨ step tgt body (e x) t = .ok .ct t2) ∧ P (pre ++ [x]) t2) : ∃ t, m = .ok .nx t ∧ P l t := by
  subst hm hd
  exact for_all l e P h0 h
theorem for_goal {α : Type} {G : Prop} {tgt : D → S → Option S} {body : S → Res Fl} {s : S} {ds : List D} {m : Res Fl} (hm : forLoop tgt body ds s = m) (l : List α) (e : α → D) (hd : ds = l.map e) (P : List α → S → Prop) (QQ : R → S → Prop) (h0 : P [] s)
    (h : ∀ pre x suf t, l = pre ++ x :: suf → P pre t → (∃ t2, (step tgt body (e x) t = .ok .nx t2 ∨ step tgt body (e x) t = .ok .ct t2) ∧ P (pre ++ [x]) t2) ∨ (∃ r t2, step tgt body (e x) t = .ok (.rt r) t2 ∧ QQ r t2))
    (h1 : ∀ t, m = .ok .nx t → P l t → G) (h2 : ∀ r t, m = .ok (.rt r) t → QQ r t → G) : G := by
  rcases for_elim hm l e hd P QQ h0 h with ⟨t, a, b⟩ | ⟨r, t, a, b⟩
  · exact h1 t a b
  · exact h2 r t a b
theorem for_goal1 {α : Type} {G : Prop} {tgt : D → S → Option S} {body : S → Res Fl} {s : S} {ds : List D} {m : Res Fl} (hm : forLoop tgt body ds s = m) (l : List α) (e : α → D) (hd : ds = l.map e) (P : List α → S → Prop) (h0 : P [] s)
    (h : ∀ pre x suf t, l = pre ++ x :: suf → P pre t → ∃ t2, (step tgt body (e x) t = .ok .nx t2 ∨ step tgt body (e x) t = .ok .ct t2) ∧ P (pre ++ [x]) t2)
    (h1 : ∀ t, m = .ok .nx t → P l t → G) : G := by
  obtain ⟨t, a, b⟩ := for_elim1 hm l e hd P h0 h
  exact h1 t a b
theorem for_nil {tgt : D → S → Option S} {body : S → Res Fl} {s : S} : forLoop tgt body [] s = .ok .nx s := rfl
theorem for_nx {tgt : D → S → Option S} {body : S → Res Fl} {s t : S} {d : D} {ds : List D} (h : step tgt body d s = .ok .nx t) : forLoop tgt body (d :: ds) s = forLoop tgt body ds t := by rw [for_step, h]
theorem for_rt {tgt : D → S → Option S} {body : S → Res Fl} {s t : S} {d : D} {ds : List D} {r : R} (h : step tgt body d s = .ok (.rt r) t) : forLoop tgt body (d :: ds) s = .ok (.rt r) t := by rw [for_step, h]
/-- a while loop by what holds between its turns, and what grows less -/
theorem while_inv {t : S → Res Bool} {body : S → Res Fl} (P : S → Prop) (μ : S → Nat) (Q : Res Fl → Prop)
    (h : ∀ s, P s → (∃ s1, t s = .ok false s1 ∧ Q (.ok .nx s1)) ∨ (∃ s1, t s = .ok true s1 ∧ ((∃ s2, (body s1 = .ok .nx s2 ∨ body s1 = .ok .ct s2) ∧ P s2 ∧ μ s2 < μ s) ∨ (∃ s2, body s1 = .ok .bk s2 ∧ Q (.ok .nx s2)) ∨ (∃ r s2, body s1 = .ok (.rt r) s2 ∧ Q (.ok (.rt r) s2))))) {s : S} (hs : P s) : Q (whileD t body s) := by
  have key : ∀ (n : Nat) (s : S), μ s < n → P s → ∃ m, whileLoop t body n s = m ∧ m.fine ∧ Q m := by
    intro n
    induction n with
    | zero => intro s hn; omega
    | succ n ih =>
      intro s hn p
      unfold whileLoop
      rcases h s p with ⟨s1, k1, k2⟩ | ⟨s1, k1, ⟨s2, k2 | k2, k3, k4⟩ | ⟨s2, k2, k3⟩ | ⟨r, s2, k2, k3⟩⟩
      · rw [k1]; exact ⟨_, rfl, trivial, k2⟩
      · rw [k1]; simp only [bind_ok, if_true]; rw [k2]; exact ih s2 (by omega) k3
      · rw [k1]; simp only [bind_ok, if_true]; rw [k2]; exact ih s2 (by omega) k3
      · rw [k1]; simp only [bind_ok, if_true]; rw [k2]; exact ⟨_, rfl, trivial, k3⟩
      · rw [k1]; simp only [bind_ok, if_true]; rw [k2]; exact ⟨_, rfl, trivial, k3⟩
  obtain ⟨m, k1, k2, k3⟩ := key (μ s + 1) s (Nat.lt_succ_self _) hs
  rw [whileD_eq _ k1 k2]
  exact k3
/-! ### calls with one object that is lent -/
theorem call_io {F : Fs} {ds : List D} {d c c' : D} {i : Nat} {s : S} (hio : F.io = true :: ds.map (fun _ => false)) (h : (F.run (c :: ds)).loose = .ret (.sh d) [c']) (hs : s[i]? = some (some (.ow c)) ∨ s[i]? = some (some (.io c))) : callD F.loose (.ob i :: ds.map R.sh) s = .ok (.sh d) (reSV s i c') := by
  have e1 : escArgs F.io (.ob i :: ds.map R.sh) s = .ok (none :: ds.map some) s := by
    rw [hio]
    show (escArgs (ds.map fun _ => false) (ds.map R.sh) s).bind _ = _
    rw [escArgs_sh]; rfl
  have e2 : ioArgs F.io (.ob i :: ds.map R.sh) = some [i] := by
    rw [hio]
    show (ioArgs (ds.map fun _ => false) (ds.map R.sh)).map _ = _
    rw [ioArgs_sh]; rfl
  have e3 : conts s [i] = some [c] := by
    unfold conts conts
    rcases hs with hs | hs <;> rw [hs]
  unfold callD
  show (escArgs F.io _ s).bind _ = _
  rw [e1, bind_ok]
  show (match ioArgs F.io (.ob i :: ds.map R.sh) with
    | none => Res.bad
    | some ks => _) = _
  rw [e2]
  dsimp only
  rw [e3]
  dsimp only
  rw [if_pos (by simp)]
  have e4 : AL.fill (none :: ds.map some) [c] = c :: ds := by
    show c :: AL.fill (ds.map some) [] = _
    rw [fill_sh]
  rw [e4]
  show (match (F.run (c :: ds)).loose with
    | .ret r ns => _
    | .exc c ns => _
    | .bad => _) = _
  rw [h]
  rfl
end AL


set_option Elab.async false
set_option linter.all false
set_option maxRecDepth 100000
set_option maxHeartbeats 1000000
namespace AL
open PySem PySem.Spec PyProof.Rows L2 CD
def wholeB (lo hi : Int) : D → Bool
  | .int i => decide (lo ≤ i) && decide (i ≤ hi)
  | _ => false
def rowB (lo hi : Int) : D → Bool
  | .tup xs => decide (lo ≤ (xs.length : Int)) && decide ((xs.length : Int) ≤ hi)
  | _ => false
def kindB : D → Bool
  | .str x => decide (("b" : Str) = x) || decide (("w" : Str) = x)
  | _ => false
theorem is_whole_g {d : D} {lo hi : Int} (h : d.plain = true) : Gv F_is_whole [d, .int lo, .int hi] (.bl (wholeB lo hi d)) := by
  refine Gv.by M_is_whole w_is_whole rfl ?_
  cases d <;> simp [run0, ir_is_whole, isiD, tyD, isiT, D.plain, wholeB] at h ⊢
theorem is_row_g {d : D} {lo hi : Int} (h : d.plain = true) : Gv F_is_row [d, .int lo, .int hi] (.bl (rowB lo hi d)) := by
  refine Gv.by M_is_row w_is_row rfl ?_
  cases d <;> simp [run0, ir_is_row, isiD, tyD, isiT, D.plain, rowB] at h ⊢
theorem is_kind_g {d : D} (h : d.plain = true) : Gv F_is_kind [d] (.bl (kindB d)) := by
  refine Gv.by M_is_kind w_is_kind rfl ?_
  cases d <;> simp [run0, ir_is_kind, isiD, tyD, isiT, D.plain, kindB] at h ⊢
theorem is_whole_c {d : D} {lo hi : Int} {s : S} (h : d.plain = true) : callD F_is_whole.loose [.sh d, .sh (.int lo), .sh (.int hi)] s = .ok (.sh (.bl (wholeB lo hi d))) s := (is_whole_g h).call
theorem is_row_c {d : D} {lo hi : Int} {s : S} (h : d.plain = true) : callD F_is_row.loose [.sh d, .sh (.int lo), .sh (.int hi)] s = .ok (.sh (.bl (rowB lo hi d))) s := (is_row_g h).call
theorem plains_all : ∀ {ds : List D}, D.plains ds = true ↔ ∀ d ∈ ds, d.plain = true
  | [] => by simp [D.plains]
  | d :: ds => by simp [D.plains, plains_all]
def pairB (n : Nat) : D → Bool
  | .tup [a, b] => wholeB 0 ((n : Int) - 1) a && wholeB 0 ((n : Int) - 1) b
  | _ => false
def machB : D → Bool
  | .tup xs => decide (1 ≤ xs.length) && decide (xs.length ≤ 3) && xs.all (rowB 2 2) && xs.all (pairB xs.length)
  | _ => false
theorem all_plain {ds : List D} (h : D.plains ds = true) {d : D} (hd : d ∈ ds) : d.plain = true := plains_all.mp h d hd
theorem is_kind_c {d : D} {s : S} (h : d.plain = true) : callD F_is_kind.loose [.sh d] s = .ok (.sh (.bl (kindB d))) s := (is_kind_g h).call
theorem is_machine_g {d : D} (h : d.plain = true) : Gv F_is_machine [d] (.bl (machB d)) := by
  refine Gv.by M_is_machine w_is_machine rfl ?_
  cases d <;> simp [run0, ir_is_machine, is_row_c, h, rowB, machB]
  rename_i xs
  have hp : ∀ d ∈ xs, d.plain = true := fun d hd => all_plain h hd
  by_cases c : 1 ≤ xs.length ∧ xs.length ≤ 3
  · have c1 := c.1
    have c2 := c.2
    rw [comp_m xs id (fun d => .bl (rowB 2 2 d))]
    · simp [c, c1, c2]
      cases hr : xs.all (rowB 2 2) with
      | false => simp
      | true =>
        simp
        rw [comp_m xs id (fun d => .bl (pairB xs.length d))]
        · simp [c1, c2]
        · simp
        · simp
        · simp [sizeLine]; omega
        · intro x hx
          have h2 := List.all_eq_true.mp hr x hx
          cases x <;> simp [rowB] at h2
          rename_i ys
          obtain ⟨a, b, rfl⟩ : ∃ a b, ys = [a, b] := by
            match ys, h2 with
            | [a, b], _ => exact ⟨a, b, rfl⟩
            | [], h => simp at h
            | [_], h => simp at h
            | _ :: _ :: _ :: _, h => simp at h
          have hq := hp _ hx
          simp [D.plain, D.plains] at hq
          simp [turn, is_whole_c, hq, pairB]
    · simp
    · simp
    · simp [sizeLine]; omega
    · intro x hx
      simp [turn, is_row_c, hp x hx]
  · by_cases c1 : 1 ≤ xs.length
    · have c2 : ¬ xs.length ≤ 3 := fun z => c ⟨c1, z⟩
      simp [c1, c2]
    · simp [c1]
theorem is_machine_c {d : D} {s : S} (h : d.plain = true) : callD F_is_machine.loose [.sh d] s = .ok (.sh (.bl (machB d))) s := (is_machine_g h).call
def lenD : D → Nat
  | .tup xs => xs.length
  | _ => 0
/-- a text of a table -/
def rowOk (n : Nat) : D → Bool
  | .str x => decide (x.length = n) && x.cps.toList.all fun c => kindB (.str ⟨#[c]⟩)
  | _ => false
def planB : D → Bool
  | .tup [g, e, .tup t] => machB g && machB e && decide (t.length = lenD e) && t.all (rowOk (lenD g))
  | _ => false
/-- texts that are not too long -/
def tabS : D → Prop
  | .tup [_, _, .tup t] => ∀ x, D.str x ∈ t → x.length ≤ 10000
  | _ => True
theorem mach_tup {d : D} (h : machB d = true) : ∃ xs, d = .tup xs ∧ 1 ≤ xs.length ∧ xs.length ≤ 3 := by
  cases d <;> simp [machB] at h
  exact ⟨_, rfl, h.1.1.1, h.1.1.2⟩
theorem planB_3 {g e : D} {t : List D} : planB (.tup [g, e, .tup t]) = (machB g && machB e && decide (t.length = lenD e) && t.all (rowOk (lenD g))) := rfl
theorem planB_n {xs : List D} (h : xs.length ≠ 3) : planB (.tup xs) = false := by
  unfold planB
  split
  · rename_i e; cases e; simp at h
  · rfl
theorem fits_plan_g {d : D} (h : d.plain = true) (ht : tabS d) : Gv F_fits_plan [d] (.bl (planB d)) := by
  refine Gv.by M_fits_plan w_fits_plan rfl ?_
  cases d <;> simp [run0, ir_fits_plan, is_row_c, h, rowB]
  all_goals first | rfl | skip
  rename_i xs
  by_cases c : xs.length = 3
  · obtain ⟨g, e, t, rfl⟩ : ∃ g e t, xs = [g, e, t] := by
      match xs, c with
      | [g, e, t], _ => exact ⟨g, e, t, rfl⟩
    simp [D.plain, D.plains] at h
    simp [is_machine_c, h]
    cases hg : machB g with
    | false => cases t <;> simp [hg, planB]
    | true =>
      simp
      cases he : machB e with
      | false => cases t <;> simp [hg, he, planB]
      | true =>
        obtain ⟨gs, rfl, hg1, hg2⟩ := mach_tup hg
        obtain ⟨es, rfl, he1, he2⟩ := mach_tup he
        by_cases ct : ∃ t', t = .tup t'
        case neg =>
          cases t <;> first | (exfalso; exact ct ⟨_, rfl⟩) | simp [is_row_c, h, rowB, planB]
        obtain ⟨t, rfl⟩ := ct
        simp [is_row_c, h, rowB, planB_3]
        by_cases c2 : t.length = es.length
        · simp [c2, lenD]
          generalize hm : forLoop _ _ _ _ = m
          refine for_goal hm t id (by simp) (fun pre s => (∃ a, s = [some (.sh (.tup [.tup gs, .tup es, .tup t])), a, none] ∧ isOwn a = false) ∧ ∀ x ∈ pre, rowOk gs.length x = true) (fun r s => r = .sh (.bl false) ∧ ∃ x ∈ t, rowOk gs.length x = false) ⟨⟨_, rfl, rfl⟩, by simp⟩ ?_ ?_ ?_
          · rintro pre x suf s rfl ⟨⟨a, rfl, ha⟩, hall⟩
            have hx : x.plain = true := by
              have := h.2.2
              simp [D.plain, plains_all] at this
              exact this x (.inr (.inl rfl))
            have hset : setV 1 x [some (SV.sh (.tup [.tup gs, .tup es, .tup (pre ++ x :: suf)])), a, none] = some [some (SV.sh (.tup [.tup gs, .tup es, .tup (pre ++ x :: suf)])), some (.sh x), none] := by
              cases a with
              | none => simp
              | some a => cases a <;> simp [isOwn] at ha ⊢
            cases x <;> simp [step, hset, isiT, D.plain] at hx ⊢
            all_goals first | (exact ⟨_, .inr (.inl rfl), rfl⟩) | skip
            rename_i x
            have hl : x.length ≤ 10000 := ht x (by simp)
            have hl2 : x.length ≤ 16777216 := by omega
            simp [hl2]
            by_cases c4 : x.length = gs.length
            · have hx2 : x.cps.toList.length ≤ sizeLine := by
                have : x.cps.toList.length = x.length := by simp [Str.length]
                rw [this]; simp [sizeLine]; omega
              have step1 : ∀ c ∈ x.cps.toList, turn (evG (.var 2)) (pvTs M_fits_plan .nil) (bnd (pvE M_fits_plan (.call "is_kind" F_is_kind (.cons (.var 2) .nil)) false) hold) [2] (.str ⟨#[c]⟩) (wipeS [some (SV.sh (.tup [.tup gs, .tup es, .tup (pre ++ .str x :: suf)])), some (.sh (.str x)), none] [2]) =
                  .ok (some (.bl (kindB (.str ⟨#[c]⟩)))) (wipeS [some (SV.sh (.tup [.tup gs, .tup es, .tup (pre ++ .str x :: suf)])), some (.sh (.str x)), none] [2]) := fun c _ => by
                simp [turn, is_kind_c]
              simp [c4]
              rw [comp_m x.cps.toList (fun c => .str ⟨#[c]⟩) (fun c => .bl (kindB (.str ⟨#[c]⟩))) (by simp) (by simp) hx2 step1]
              cases hk : x.cps.toList.all fun c => kindB (.str ⟨#[c]⟩) with
              | true =>
                simp [hk]
                intro y hy
                rcases hy with hy | rfl
                · exact hall y hy
                · simp [rowOk, c4, hk]
              | false =>
                simp [hk]
                exact ⟨_, .inr (.inl rfl), by simp only [rowOk, hk, Bool.and_false]⟩
            · simp [c4]
              exact ⟨_, .inr (.inl rfl), by simp [rowOk, c4]⟩
          · rintro s rfl ⟨⟨a, rfl, _⟩, hall⟩
            simp
            exact ⟨⟨hg, he⟩, hall⟩
          · rintro r s rfl ⟨rfl, x, hx, hf⟩
            simp
            intro _ _
            exact ⟨x, hx, hf⟩
        · by_cases c5 : es.length ≤ t.length
          · have c6 : ¬ t.length ≤ es.length := by omega
            simp [c2, c5, c6, lenD]
          · simp [c2, c5, lenD]
  · rw [planB_n c]
    by_cases c1 : 3 ≤ xs.length
    · have c3 : ¬ xs.length ≤ 3 := by omega
      simp [c1, c3]
    · simp [c1]
end AL

namespace AL
open PySem PySem.Spec PyProof.Rows L2 CD
theorem fits_plan_c {d : D} {s : S} (h : d.plain = true) (ht : tabS d) : callD F_fits_plan.loose [.sh d] s = .ok (.sh (.bl (planB d))) s := (fits_plan_g h ht).call
theorem need_plan_g {d : D} (h : d.plain = true) (ht : tabS d) (hp : planB d = true) : Gv F_need_plan [d] .non := by
  refine Gv.by M_need_plan w_need_plan rfl ?_
  simp [run0, ir_need_plan, fits_plan_c, h, ht, hp]
theorem need_plan_x {d : D} (h : d.plain = true) (ht : tabS d) (hp : planB d = false) : Gx F_need_plan [d] "InvalidPlan" := by
  refine Gx.by M_need_plan w_need_plan rfl ?_
  simp [run0, ir_need_plan, fits_plan_c, h, ht, hp]
theorem need_plan_c {d : D} {s : S} (h : d.plain = true) (ht : tabS d) (hp : planB d = true) : callD F_need_plan.loose [.sh d] s = .ok (.sh .non) s := (need_plan_g h ht hp).call
end AL


set_option Elab.async false
set_option linter.all false
set_option maxRecDepth 100000
set_option maxHeartbeats 1000000
/-! SPB: what is drawn. -/
namespace AL
open PySem PySem.Spec PyProof.Rows L2 CD
def bagD (xs : List Int) : D := .lst (xs.map D.int)
/-- a def with one lent object: what it gives, what it leaves -/
def G1 (F : Fs) (c : D) (ds : List D) (d c' : D) : Prop := F.io = true :: ds.map (fun _ => false) ∧ (F.run (c :: ds)).loose = .ret (.sh d) [c']
theorem G1.call {F : Fs} {c c' d : D} {ds : List D} {i : Nat} {s : S} (h : G1 F c ds d c') (hs : s[i]? = some (some (.ow c)) ∨ s[i]? = some (some (.io c))) : callD F.loose (.ob i :: ds.map R.sh) s = .ok (.sh d) (reSV s i c') := call_io h.1 h.2 hs
theorem init_1 (ds : List D) (c : D) (n : Nat) : init (true :: ds.map fun _ => false) (c :: ds) n = some (.io c) :: ds.map (fun d => some (.sh d)) ++ List.replicate (n - (ds.length + 1)) none := by
  have : ∀ ds : List D, initP (ds.map fun _ => false) ds = ds.map (fun d => some (.sh d)) := fun ds => by
    induction ds with
    | nil => rfl
    | cons d ds ih => show some (.sh d) :: initP _ ds = _; rw [ih]; rfl
  unfold init
  show some (SV.io c) :: initP _ ds ++ _ = _
  rw [this]
  rfl
theorem runF_1 {n : Nat} {ds : List D} {c : D} {f : S → Res Fl} : (runF (true :: ds.map fun _ => false) n f).run (c :: ds) = outOf [0] (f (some (.io c) :: ds.map (fun d => some (.sh d)) ++ List.replicate (n - (ds.length + 1)) none)) := by
  unfold runF
  dsimp only
  rw [if_pos (by simp [-List.map_map]), init_1]
  show outOf (0 :: ioPos _ 1) _ = _
  rw [ioPos_f]
/-- a value is given, the lent object left so -/
def Rets1 (m : Res Fl) (d c' : D) : Prop := ∃ s, s[0]? = some (some (.io c')) ∧ (m = .ok (.rt (.sh d)) s ∨ (m = .ok (.rt (.fr d)) s ∧ heapD d = true) ∨ (∃ i, m = .ok (.rt (.ob i)) s ∧ s[i]? = some (some (.ow d)) ∧ heapD d = true))
theorem G1.by {io : List Bool} {n : Nat} {ir : I} {ds : List D} {c c' d : D} (M : List Nat) (w : wfI M ir = true) (hio : io = true :: ds.map (fun _ => false)) (h : Rets1 (pvB M ir (some (.io c) :: ds.map (fun d => some (.sh d)) ++ List.replicate (n - (ds.length + 1)) none)) d c') : G1 (runF io n (evB ir)) c ds d c' := by
  refine ⟨hio, pv_run M w ?_ (by simp [-List.map_map])⟩
  subst hio
  rw [runF_1]
  obtain ⟨s, hs, h⟩ := h
  have e : ioCs s [0] = some [c'] := by unfold ioCs ioCs; rw [hs]
  rcases h with h | ⟨h, hd⟩ | ⟨i, h, hi, hd⟩
  · rw [h]; unfold outOf outR; dsimp only; rw [e]; rfl
  · rw [h]; unfold outOf outR; dsimp only; rw [e]; unfold Out.loose; dsimp only; rw [if_pos hd]
  · rw [h]; unfold outOf outR; dsimp only; rw [e, hi]; unfold Out.loose; dsimp only; rw [if_pos hd]
theorem eqvAll0 : PyData.eqvAll [] [] = true := by simp [-List.map_map, PyData.eqvAll]
theorem rets1_sh {m : Res Fl} {d c' : D} {s : S} (h : m = .ok (.rt (.sh d)) s) (hs : s[0]? = some (some (.io c'))) : Rets1 m d c' := ⟨s, hs, .inl h⟩
/-- some value is given, some lent object left -/
def Rets1P (m : Res Fl) (Φ : D → D → Prop) : Prop := ∃ d c', Φ d c' ∧ Rets1 m d c'
theorem G1.ex {io : List Bool} {n : Nat} {ir : I} {ds : List D} {c : D} {Φ : D → D → Prop} (M : List Nat) (w : wfI M ir = true) (hio : io = true :: ds.map (fun _ => false)) (h : ∀ Ψ, Ψ = Φ → Rets1P (pvB M ir (some (.io c) :: ds.map (fun d => some (.sh d)) ++ List.replicate (n - (ds.length + 1)) none)) Ψ) : ∃ d c', Φ d c' ∧ G1 (runF io n (evB ir)) c ds d c' := by
  obtain ⟨d, c', h1, h2⟩ := h Φ rfl
  exact ⟨d, c', h1, G1.by M w hio h2⟩
theorem rets1P {Φ : D → D → Prop} {d c' : D} {s : S} (h : Φ d c') (hs : s[0]? = some (some (.io c'))) : Rets1P (.ok (.rt (.sh d)) s) Φ := ⟨d, c', h, rets1_sh rfl hs⟩
@[simp] theorem reSV_io {s : S} {i : Nat} {c d : D} (h : s[i]? = some (some (.io c))) : reSV s i d = s.set i (some (.io d)) := by unfold reSV; rw [h]
@[simp] theorem reSV_ow {s : S} {i : Nat} {c d : D} (h : s[i]? = some (some (.ow c))) : reSV s i d = s.set i (some (.ow d)) := by unfold reSV; rw [h]
theorem G1.io {F : Fs} {c c' d : D} {ds : List D} (h : G1 F c ds d c') : ∀ {i : Nat} {s : S}, s[i]? = some (some (.io c)) → callD F.loose (.ob i :: ds.map R.sh) s = .ok (.sh d) (s.set i (some (.io c'))) := fun hs => by rw [h.call (.inr hs), reSV_io hs]
theorem G1.ow {F : Fs} {c c' d : D} {ds : List D} (h : G1 F c ds d c') : ∀ {i : Nat} {s : S}, s[i]? = some (some (.ow c)) → callD F.loose (.ob i :: ds.map R.sh) s = .ok (.sh d) (s.set i (some (.ow c'))) := fun hs => by rw [h.call (.inl hs), reSV_ow hs]
theorem take_g (xs : List Int) (many : Int) (hm : 0 < many) : ∃ r ys, G1 F__law_take (bagD xs) [.int many] (.int r) (bagD ys) ∧ 0 ≤ r ∧ r < many := by
  cases xs with
  | nil =>
    refine ⟨0 % many, [], G1.by M__law_take w__law_take rfl ?_, Int.emod_nonneg _ (by omega), Int.emod_lt_of_pos _ hm⟩
    simp [-List.map_map, ir__law_take, M__law_take, eqvAll0, bagD, cmpD, peek, slotD, SV.d, D.eqv, D.py, D.pys, PyData.eqv, hm]
    exact rets1_sh rfl rfl
  | cons x xs =>
    refine ⟨x % many, xs, G1.by M__law_take w__law_take rfl ?_, Int.emod_nonneg _ (by omega), Int.emod_lt_of_pos _ hm⟩
    simp [-List.map_map, ir__law_take, M__law_take, eqvAll0, bagD, cmpD, peek, slotD, SV.d, D.eqv, D.py, D.pys, PyData.eqv, hm, gL, isLst, mPopAt, ownL, seqIndex?, PyData.eqvAll]
    exact rets1_sh rfl rfl
theorem choice_g (xs : List Int) (ds : List D) (h : ds ≠ []) : ∃ d ∈ ds, ∃ ys, G1 F__law_choice (bagD xs) [.lst ds] d (bagD ys) := by
  have hl : 0 < ds.length := List.length_pos_iff.mpr h
  obtain ⟨r, ys, hg, h1, h2⟩ := take_g xs ds.length (by omega)
  obtain ⟨k, rfl⟩ := Int.eq_ofNat_of_zero_le h1
  have hk : k < ds.length := by omega
  refine ⟨ds[k], List.getElem_mem hk, ys, G1.by M__law_choice w__law_choice rfl ?_⟩
  have hc := @G1.io _ _ _ _ _ hg
  simp [-List.map_map] at hc
  simp [-List.map_map, ir__law_choice, M__law_choice, hc, hk]
  exact rets1_sh rfl rfl
abbrev Mach := List (Nat × Nat)
def prD (p : Nat × Nat) : D := .tup [.int p.1, .int p.2]
def mD (m : Mach) : D := .tup (m.map prD)
def GoodM (m : Mach) : Prop := 1 ≤ m.length ∧ m.length ≤ 3 ∧ ∀ p ∈ m, p.1 < m.length ∧ p.2 < m.length
def kc (k : Bool) : Nat := cond k 119 98
def rowS (r : List Bool) : Str := ⟨(r.map kc).toArray⟩
structure Pl where
  g : Mach
  e : Mach
  t : List (List Bool)
  deriving DecidableEq
def tD (t : List (List Bool)) : D := .tup (t.map fun r => .str (rowS r))
def plD (p : Pl) : D := .tup [mD p.g, mD p.e, tD p.t]
section
variable {s : S} {p : Pl} {m : Mach} {t : List (List Bool)} {q : Nat × Nat} {n : Nat}
@[simp] theorem pl_ix0 : ixD (.sh (plD p)) (.sh (.int 0)) s = .ok (.sh (mD p.g)) s := by unfold plD; simp [-List.map_map]
@[simp] theorem pl_ix1 : ixD (.sh (plD p)) (.sh (.int 1)) s = .ok (.sh (mD p.e)) s := by unfold plD; simp [-List.map_map]
@[simp] theorem pl_ix2 : ixD (.sh (plD p)) (.sh (.int 2)) s = .ok (.sh (tD p.t)) s := by unfold plD; simp [-List.map_map]
@[simp] theorem mD_len : Bi.fn .len [.sh (mD m)] s = .ok (.sh (.int (m.length : Nat))) s := by unfold mD; simp [-List.map_map]
@[simp] theorem tD_len : Bi.fn .len [.sh (tD t)] s = .ok (.sh (.int (t.length : Nat))) s := by unfold tD; simp [-List.map_map]
@[simp] theorem mD_it : itSeq (.sh (mD m)) s = .ok (m.map prD) s := by unfold mD; simp [-List.map_map]
@[simp] theorem tD_it : itSeq (.sh (tD t)) s = .ok (t.map fun r => D.str (rowS r)) s := by unfold tD; simp [-List.map_map]
@[simp] theorem tD_list : Bi.fn .list_ [.sh (tD t)] s = .ok (.fr (.lst (t.map fun r => D.str (rowS r)))) s := by unfold tD; simp [-List.map_map]
@[simp] theorem pr_ix0 : ixD (.sh (prD q)) (.sh (.int 0)) s = .ok (.sh (.int (q.1 : Nat))) s := by unfold prD; simp [-List.map_map]
@[simp] theorem pr_ix1 : ixD (.sh (prD q)) (.sh (.int 1)) s = .ok (.sh (.int (q.2 : Nat))) s := by unfold prD; simp [-List.map_map]
@[simp] theorem mD_ix (h : n < m.length) : ixD (.sh (mD m)) (.sh (.int (n : Nat))) s = .ok (.sh (prD m[n])) s := by unfold mD; simp [-List.map_map, h]
@[simp] theorem tD_ix (h : n < t.length) : ixD (.sh (tD t)) (.sh (.int (n : Nat))) s = .ok (.sh (.str (rowS t[n]))) s := by unfold tD; simp [-List.map_map, h]
end
structure Good (p : Pl) : Prop where
  g : GoodM p.g
  e : GoodM p.e
  t : p.t.length = p.e.length
  r : ∀ r ∈ p.t, r.length = p.g.length
theorem machine_g (xs : List Int) : ∃ m ys, GoodM m ∧ G1 F__law_machine (bagD xs) [] (mD m) (bagD ys) := by
  obtain ⟨d, hd, ys, hg⟩ := choice_g xs [.int 1, .int 2, .int 2, .int 3, .int 3] (by simp [-List.map_map])
  obtain ⟨n, hn1, hn2, rfl⟩ : ∃ n : Nat, 1 ≤ n ∧ n ≤ 3 ∧ d = .int n := by
    simp [-List.map_map] at hd
    rcases hd with rfl | rfl | rfl
    · exact ⟨1, by simp [-List.map_map], by simp [-List.map_map], rfl⟩
    · exact ⟨2, by simp [-List.map_map], by simp [-List.map_map], rfl⟩
    · exact ⟨3, by simp [-List.map_map], by simp [-List.map_map], rfl⟩
  have hc := @G1.io _ _ _ _ _ hg
  simp [-List.map_map] at hc
  have key : ∃ (m : Mach) (zs : List Int), GoodM m ∧ m.length = n ∧ pvB M__law_machine ir__law_machine [some (.io (bagD xs)), none, none] = .ok (.rt (.sh (mD m))) [some (.io (bagD zs)), some (.sh (.int n)), none] := by
    have hn : n ≤ 100000 := by omega
    simp [-List.map_map, ir__law_machine, M__law_machine, hc]
    generalize hm : compD _ _ _ _ _ _ = m
    refine comp_goal (s1 := [some (.io (bagD ys)), some (.sh (.int n)), none]) hm (List.range n) (fun k => .int (k : Nat)) (fun pre acc t => ∃ (ps : Mach) (zs : List Int), t = [some (.io (bagD zs)), some (.sh (.int n)), none] ∧ acc = ps.map prD ∧ ps.length = pre.length ∧ ∀ p ∈ ps, p.1 < n ∧ p.2 < n) (by simp [-List.map_map, hn]) (by simp [-List.map_map]) ⟨[], ys, rfl, rfl, rfl, by simp [-List.map_map]⟩ (size_le (by simp [-List.map_map]; omega)) ?_ ?_
    · rintro pre x suf acc t hp ⟨ps, zs, rfl, rfl, hl, hall⟩
      obtain ⟨a, z1, ha, ha1, ha2⟩ := take_g zs n (by omega)
      obtain ⟨b, z2, hb, hb1, hb2⟩ := take_g z1 n (by omega)
      obtain ⟨a, rfl⟩ := Int.eq_ofNat_of_zero_le ha1
      obtain ⟨b, rfl⟩ := Int.eq_ofNat_of_zero_le hb1
      have ha := @G1.io _ _ _ _ _ ha
      have hb := @G1.io _ _ _ _ _ hb
      simp [-List.map_map] at ha hb
      refine ⟨some (prD (a, b)), [some (.io (bagD z2)), some (.sh (.int n)), none], ?_, ps ++ [(a, b)], z2, rfl, by simp [-List.map_map], by simp [-List.map_map, hl], ?_⟩
      · simp [-List.map_map, turn, ha, hb, prD]
      · intro p hp
        rcases List.mem_append.mp hp with hp | hp
        · exact hall p hp
        · simp [-List.map_map] at hp; subst hp; exact ⟨by omega, by omega⟩
    · rintro ys t rfl ⟨ps, zs, rfl, rfl, hl, hall⟩
      rw [List.length_range] at hl
      refine ⟨ps, ⟨by omega, by omega, by rw [hl]; exact hall⟩, hl, zs, ?_⟩
      simp [-List.map_map, mD]
  obtain ⟨m, zs, h1, h2, h3⟩ := key
  refine ⟨m, zs, h1, G1.by M__law_machine w__law_machine rfl ?_⟩
  simp only [List.map_nil, List.length_nil, Nat.reduceAdd, Nat.reduceSub, List.replicate, List.append_nil, List.cons_append, List.nil_append]
  exact rets1_sh h3 rfl

/-- a name that is free for a new value -/
def Fr (a : Option SV) : Prop := a = none ∨ ∃ d, a = some (.sh d)
theorem Fr.no : Fr none := .inl rfl
theorem Fr.sh {d : D} : Fr (some (.sh d)) := .inr ⟨d, rfl⟩
theorem setV_Fr {s : S} {i : Nat} {d : D} {a : Option SV} (h : s[i]? = some a) (ha : Fr a) : setV i d s = some (s.set i (some (.sh d))) := by
  rcases ha with rfl | ⟨e, rfl⟩
  · exact setV_no h
  · exact setV_sh0 h
theorem step_var {s : S} {i : Nat} {d : D} {a : Option SV} {body : S → Res Fl} (h : s[i]? = some a) (ha : Fr a) : step (evG (.var i)) body d s = body (s.set i (some (.sh d))) := by
  unfold step
  rw [evG_var, setV_Fr h ha, obind_some]
theorem step_tup2 {s : S} {i j : Nat} {d e : D} {a b : Option SV} {body : S → Res Fl} (h : s[i]? = some a) (ha : Fr a) (h2 : (s.set i (some (.sh d)))[j]? = some b) (hb : Fr b) : step (evG (.tup (.cons (.var i) (.cons (.var j) .nil)))) body (.tup [d, e]) s = body ((s.set i (some (.sh d))).set j (some (.sh e))) := by
  have e1 : evG (.tup (.cons (.var i) (.cons (.var j) .nil))) (.tup [d, e]) s = some ((s.set i (some (.sh d))).set j (some (.sh e))) := by
    simp [-List.map_map, setV_Fr h ha]
    simp [-List.map_map, setV_Fr h2 hb]
  unfold step
  rw [e1, obind_some]
theorem setR_Fr {s : S} {i : Nat} {d : D} {a : Option SV} (h : s[i]? = some a) (ha : Fr a) : setR i (.sh d) s = .ok .nx (s.set i (some (.sh d))) := by
  rw [setR_sh, setV_Fr h ha]; rfl
theorem setR_FrF {s : S} {i : Nat} {d : D} {a : Option SV} (h : s[i]? = some a) (ha : Fr a) : setR i (.fr d) s = .ok .nx (s.set i (some (.ow d))) := by
  rcases ha with rfl | ⟨e, rfl⟩
  · exact setR_fr3 h
  · exact setR_fr1 h
def kS (k : Bool) : Str := cond k "w" "b"
theorem tl_kS (k : Bool) : TL.tl (kS k) = [kc k] := by cases k <;> rfl
theorem len_kS (k : Bool) : (kS k).length = 1 := by cases k <;> rfl
theorem tl_rowS (r : List Bool) : TL.tl (rowS r) = r.map kc := rfl
theorem join_kS (r : List Bool) : Txt.join "" (r.map kS) = rowS r := by
  apply TL.ext_tl
  rw [TL.join_eq, TL.tl_join, tl_rowS]
  have e : TL.tl "" = [] := rfl
  rw [e, List.map_map]
  induction r with
  | nil => rfl
  | cons a r ih =>
    cases r with
    | nil => show TL.tl (kS a) = [kc a]; rw [tl_kS]
    | cons b r =>
      show TL.tl (kS a) ++ ([] ++ TL.joinL [] ((b :: r).map (TL.tl ∘ kS))) = _
      rw [ih, tl_kS]; rfl
theorem sum_kS (r : List Bool) : ((r.map kS).map (·.length)).sum = r.length := by
  rw [List.map_map]
  induction r with
  | nil => rfl
  | cons a r ih => simp only [List.map_cons, List.sum_cons, ih, Function.comp, len_kS, List.length_cons]; omega
theorem strings_g (xs : List Int) (e n : Nat) (he : e ≤ 100) (hn : n ≤ 100) : ∃ (t : List (List Bool)) (ys : List Int), t.length = e ∧ (∀ r ∈ t, r.length = n) ∧ G1 F__law_strings (bagD xs) [.int e, .int n] (tD t) (bagD ys) := by
  have key : ∃ d c', (∃ (t : List (List Bool)) (ys : List Int), t.length = e ∧ (∀ r ∈ t, r.length = n) ∧ d = tD t ∧ c' = bagD ys) ∧ G1 F__law_strings (bagD xs) [.int e, .int n] d c' := by
    have he' : e ≤ 100000 := by omega
    have hn' : n ≤ 100000 := by omega
    refine G1.ex M__law_strings w__law_strings rfl fun Ψ hΨ => ?_
    simp [-List.map_map, ir__law_strings, M__law_strings, he']
    generalize hm : forLoop _ _ _ _ = m
    refine for_goal1 hm (List.range e) (fun k => .int (k : Nat)) rfl (fun pre s => ∃ (t : List (List Bool)) (zs : List Int) (a : Option SV), s = [some (.io (bagD zs)), some (.sh (.int e)), some (.sh (.int n)), some (.ow (.lst (t.map fun r => .str (rowS r)))), a, none] ∧ Fr a ∧ t.length = pre.length ∧ ∀ r ∈ t, r.length = n) ⟨[], xs, none, rfl, .no, rfl, by simp [-List.map_map]⟩ ?_ ?_
    · rintro pre x suf s hp ⟨t, zs, a, rfl, ha, hl, hall⟩
      have hpre : pre.length < e := by have := congrArg List.length hp; simp [-List.map_map] at this; omega
      have key2 : ∀ Q : Res Fl → Prop, (∀ (r : List Bool) (z2 : List Int), r.length = n → Q (.ok .nx [some (.io (bagD z2)), some (.sh (.int e)), some (.sh (.int n)), some (.ow (.lst ((t ++ [r]).map fun r => .str (rowS r)))), some (.sh (.int x)), none])) → Q (step (evG (.var 4)) (pvB [0, 3, 5] (.cons (.expr (.app (.var 3) (.join (.cst (.str "")) (.comp (.var 5) (.rng1 (.cons (.var 2) .nil)) .nil (.call "_law_choice" F__law_choice (.cons (.var 0) (.cons (.lst (.cons (.cst (.str "b")) (.cons (.cst (.str "w")) .nil))) .nil))) [("state", 5)])))) .nil)) (.int x) [some (.io (bagD zs)), some (.sh (.int e)), some (.sh (.int n)), some (.ow (.lst (t.map fun r => .str (rowS r)))), a, none]) := by
        intro Q hQ
        rw [step_var rfl ha]
        simp [-List.map_map, gL, isLst, peek, slotD, SV.d]
        generalize hm2 : compD _ _ _ _ _ _ = m2
        refine comp_goal (s1 := [some (.io (bagD zs)), some (.sh (.int e)), some (.sh (.int n)), some (.ow (.lst (t.map fun r => .str (rowS r)))), some (.sh (.int x)), none]) hm2 (List.range n) (fun k => .int (k : Nat)) (fun pre acc s => ∃ (r : List Bool) (ws : List Int), s = [some (.io (bagD ws)), some (.sh (.int e)), some (.sh (.int n)), some (.ow (.lst (t.map fun r => .str (rowS r)))), some (.sh (.int x)), none] ∧ acc = (r.map kS).map D.str ∧ r.length = pre.length) (by simp [-List.map_map, hn']) (by simp [-List.map_map]) ⟨[], zs, rfl, rfl, rfl⟩ (size_le (by simp [-List.map_map]; omega)) ?_ ?_
        · rintro pre y suf acc s _ ⟨r, ws, rfl, rfl, hr⟩
          obtain ⟨d, hd, w2, hg⟩ := choice_g ws [.str "b", .str "w"] (by simp [-List.map_map])
          obtain ⟨k, rfl⟩ : ∃ k, d = .str (kS k) := by
            simp [-List.map_map] at hd
            rcases hd with rfl | rfl
            · exact ⟨false, rfl⟩
            · exact ⟨true, rfl⟩
          have hc := @G1.io _ _ _ _ _ hg
          simp [-List.map_map] at hc
          refine ⟨some (.str (kS k)), [some (.io (bagD w2)), some (.sh (.int e)), some (.sh (.int n)), some (.ow (.lst (t.map fun r => .str (rowS r)))), some (.sh (.int x)), none], ?_, r ++ [k], w2, rfl, by simp [-List.map_map], by simp [-List.map_map, hr]⟩
          simp [-List.map_map, turn, hc]
        · rintro ys s rfl ⟨r, ws, rfl, rfl, hr⟩
          rw [List.length_range] at hr
          have hs := sum_kS r
          have hj : ((r.map kS).map (·.length)).sum + (r.map kS).length * ("" : Str).length ≤ 16777216 := by
            have e0 : ("" : Str).length = 0 := rfl
            rw [hs, e0]; omega
          have hlt : t.length < sizeLine := by have := size_le (n := t.length + 1) (by omega); omega
          have hQ := hQ r ws hr
          simp [-List.map_map] at hQ
          simp [-List.map_map, mJoin_str hj, join_kS, mAppend, ownL, hlt, exprR]
          exact hQ
      refine key2 (fun m => ∃ t2, (m = .ok .nx t2 ∨ m = .ok .ct t2) ∧ ∃ (t : List (List Bool)) (zs : List Int) (a : Option SV), t2 = [some (.io (bagD zs)), some (.sh (.int e)), some (.sh (.int n)), some (.ow (.lst (t.map fun r => .str (rowS r)))), a, none] ∧ Fr a ∧ t.length = (pre ++ [x]).length ∧ ∀ r ∈ t, r.length = n) fun r z2 h1 => ?_
      exact ⟨_, .inl rfl, t ++ [r], z2, _, rfl, .sh, by simp [-List.map_map, hl], fun q hq => by
        rcases List.mem_append.mp hq with hq | hq
        · exact hall q hq
        · simp [-List.map_map] at hq; subst hq; exact h1⟩
    · rintro s rfl ⟨t, zs, a, rfl, ha, hl, hall⟩
      rw [List.length_range] at hl
      simp [-List.map_map, Bi.fn, bTuple, peek, slotD, SV.d]
      exact rets1P (hΨ ▸ ⟨t, zs, hl, hall, rfl, rfl⟩) rfl
  obtain ⟨d, c', ⟨t, ys, h1, h2, rfl, rfl⟩, h3⟩ := key
  exact ⟨t, ys, h1, h2, h3⟩

def known : List Pl := [⟨[(1, 0), (0, 1)], [(1, 2), (2, 1), (1, 2)], [[true, false], [false, true], [true, false]]⟩, ⟨[(1, 2), (1, 2), (1, 2)], [(0, 0)], [[false, false, true]]⟩, ⟨[(0, 0)], [(0, 0)], [[false]]⟩, ⟨[(1, 1), (1, 1)], [(1, 1), (0, 0)], [[false, false], [true, true]]⟩]
theorem known_good : ∀ p ∈ known, Good p := by
  intro p hp
  simp only [known, List.mem_cons, List.not_mem_nil, or_false] at hp
  rcases hp with rfl | rfl | rfl | rfl <;> exact ⟨⟨by decide, by decide, by decide⟩, ⟨by decide, by decide, by decide⟩, by decide, by decide⟩
theorem known_g : Gv F__law_known [] (.lst (known.map plD)) := by
  refine Gv.by M__law_known w__law_known rfl ?_
  simp [-List.map_map, run0, ir__law_known, M__law_known]
  rfl
theorem known_c {s : S} : callD F__law_known.loose [] s = .ok (.sh (.lst (known.map plD))) s := known_g.call
theorem plan_g (xs : List Int) : ∃ (p : Pl) (ys : List Int), Good p ∧ G1 F__law_plan (bagD xs) [] (plD p) (bagD ys) := by
  have key : ∃ d c', (∃ (p : Pl) (ys : List Int), Good p ∧ d = plD p ∧ c' = bagD ys) ∧ G1 F__law_plan (bagD xs) [] d c' := by
    obtain ⟨w, x1, hw, w1, w2⟩ := take_g xs 5 (by omega)
    obtain ⟨g, x2, gg, hg⟩ := machine_g x1
    obtain ⟨e, x3, ge, he⟩ := machine_g x2
    obtain ⟨d, hd, x4, hch⟩ := choice_g x3 (known.map plD) (by simp [-List.map_map, known])
    obtain ⟨p, hp, rfl⟩ := List.mem_map.mp hd
    have gp := known_good p hp
    obtain ⟨v, x5, hv, v1, v2⟩ := take_g x4 2 (by omega)
    have hw := @G1.io _ _ _ _ _ hw
    have hg := @G1.io _ _ _ _ _ hg
    have he := @G1.io _ _ _ _ _ he
    have hch := @G1.io _ _ _ _ _ hch
    have hv := @G1.io _ _ _ _ _ hv
    simp [-List.map_map] at hw hg he hch hv
    have ml : ∀ {m : Mach}, GoodM m → m.length ≤ 100 := fun h => Nat.le_trans h.2.1 (by decide)
    have str : ∀ (g e : Mach) (gg : GoodM g) (ge : GoodM e) (zs : List Int), ∃ (t : List (List Bool)) (ys : List Int), Good ⟨g, e, t⟩ ∧ ∀ {i : Nat} {s : S}, s[i]? = some (some (.io (bagD zs))) → callD F__law_strings.loose [.ob i, .sh (.int e.length), .sh (.int g.length)] s = .ok (.sh (tD t)) (s.set i (some (.io (bagD ys)))) := fun g e gg ge zs => by
      obtain ⟨t, ys, h1, h2, h3⟩ := strings_g zs e.length g.length (ml ge) (ml gg)
      exact ⟨t, ys, ⟨gg, ge, h1, h2⟩, @G1.io _ _ _ _ _ h3⟩
    refine G1.ex M__law_plan w__law_plan rfl fun Ψ hΨ => ?_
    simp [-List.map_map, ir__law_plan, M__law_plan, hw, hg, he]
    by_cases c0 : w = 0
    · subst c0
      simp [-List.map_map, known_c, hch, plD, hv]
      by_cases c1 : v = 0
      · subst c1
        simp [-List.map_map]
        exact rets1P (hΨ ▸ ⟨p, x5, gp, rfl, rfl⟩) rfl
      · obtain ⟨t, ys, ht, hs⟩ := str p.g p.e gp.g gp.e x5
        simp [-List.map_map, c1, hs]
        exact rets1P (hΨ ▸ ⟨_, ys, ht, rfl, rfl⟩) rfl
    · by_cases c1 : w = 1
      · subst c1
        obtain ⟨t, ys, ht, hs⟩ := str [(1, 0), (0, 1)] [(1, 2), (2, 1), (1, 2)] (known_good _ (by simp [-List.map_map, known]; exact .inl rfl)).g (known_good _ (by simp [-List.map_map, known]; exact .inl rfl)).e x3
        simp [-List.map_map] at hs
        simp [-List.map_map, known_c, known, plD, hs]
        exact rets1P (hΨ ▸ ⟨_, ys, ht, rfl, rfl⟩) rfl
      · obtain ⟨t, ys, ht, hs⟩ := str g e gg ge x3
        simp [-List.map_map, c0, c1, hs]
        exact rets1P (hΨ ▸ ⟨_, ys, ht, rfl, rfl⟩) rfl
  obtain ⟨d, c', ⟨p, ys, h1, rfl, rfl⟩, h2⟩ := key
  exact ⟨p, ys, h1, h2⟩
end AL


set_option Elab.async false
set_option linter.all false
set_option maxRecDepth 100000
set_option maxHeartbeats 1000000
/-! TX: texts of plans, in plain words. -/
namespace AL
open PySem PySem.Spec PyProof.Rows L2 TL
def wsp (x : Str) : List Str := Txt.split x " "
def lns (x : Str) : List Str := Txt.split x "\n"
def W (x : Str) : List (List Str) := (lns x).map wsp
def nS (n : Nat) : Str := Str.ofString (toString ((n : Nat) : Int))
def pairS (p : Nat × Nat) : Str := nS p.1 ++ ":" ++ nS p.2
def lineM (w : Str) (m : Mach) : List Str := w :: m.map pairS
def rowsOf (p : Pl) : List (List Str) := [lineM "glance" p.g, lineM "ear" p.e, "says" :: p.t.map rowS]
def textOf (p : Pl) : Str := Txt.join "\n" ((rowsOf p).map (Txt.join " "))
structure Reads (x : Str) (p : Pl) : Prop where
  good : Good p
  w : W x = rowsOf p
theorem tl_nS {n : Nat} (h : n < 10) : tl (nS n) = [48 + n] := by
  unfold nS
  rw [tl_num, numL_lt h]
theorem len_nS {n : Nat} (h : n < 10) : (nS n).length = 1 := by
  have := congrArg List.length (tl_nS h)
  rw [← len_tl] at this
  simpa using this
theorem tl_pairS {p : Nat × Nat} (h1 : p.1 < 10) (h2 : p.2 < 10) : tl (pairS p) = [48 + p.1, 58, 48 + p.2] := by
  unfold pairS
  rw [tl_append, tl_append, tl_nS h1, tl_nS h2]
  rfl
theorem split1 {y : Str} {c : Nat} (ey : tl y = [c]) (hk : y.cps.all (· < 256) = true) {parts : List Str} (hne : parts ≠ []) (hp : ∀ p ∈ parts, c ∉ tl p) : Txt.split (Txt.join y parts) y = parts := TL.split_join ey hk hne hp
theorem join_sp (x y : Str) : Txt.join y (Txt.split x y) = x := by rw [join_eq]; exact StrLaws.join_split x y
theorem tl_join_mem {y : Str} {c : Nat} : ∀ {parts : List Str}, (c ∉ tl y) → (∀ p ∈ parts, c ∉ tl p) → c ∉ tl (Txt.join y parts) := by
  intro parts hy hp
  rw [join_eq, tl_join]
  induction parts with
  | nil => simp [joinL]
  | cons a r ih =>
    cases r with
    | nil => simpa [joinL] using hp a List.mem_cons_self
    | cons b r =>
      have h2 := ih fun p h => hp p (List.mem_cons_of_mem _ h)
      show c ∉ tl a ++ (tl y ++ joinL (tl y) ((b :: r).map tl))
      simp only [List.mem_append, not_or]
      exact ⟨hp a List.mem_cons_self, hy, h2⟩
theorem W_back (x : Str) : Txt.join "\n" ((W x).map (Txt.join " ")) = x := by
  unfold W wsp lns
  rw [List.map_map]
  have : (Txt.split x "\n").map (Txt.join " " ∘ fun l => Txt.split l " ") = Txt.split x "\n" := by
    conv => rhs; rw [← List.map_id (Txt.split x "\n")]
    exact List.map_congr_left fun l _ => join_sp l " "
  rw [this, join_sp]
theorem W_text {x : Str} {p : Pl} (h : W x = rowsOf p) : x = textOf p := by
  unfold textOf
  rw [← h, W_back]
theorem W_join {ls : List (List Str)} (hne : ls ≠ []) (h1 : ∀ l ∈ ls, l ≠ [] ∧ ∀ w ∈ l, 32 ∉ tl w ∧ 10 ∉ tl w) : W (Txt.join "\n" (ls.map (Txt.join " "))) = ls := by
  unfold W lns wsp
  rw [split1 (y := "\n") (c := 10) (by decide) (by decide +kernel) (by simpa using hne) (fun p hp => ?_), List.map_map]
  · conv => rhs; rw [← List.map_id ls]
    refine List.map_congr_left fun l hl => ?_
    exact split1 (y := " ") (c := 32) (by decide) (by decide +kernel) (h1 l hl).1 fun w hw => ((h1 l hl).2 w hw).1
  · obtain ⟨l, hl, rfl⟩ := List.mem_map.mp hp
    exact tl_join_mem (by decide) fun w hw => ((h1 l hl).2 w hw).2
theorem good_lt {m : Mach} (h : GoodM m) {p : Nat × Nat} (hp : p ∈ m) : p.1 < 3 ∧ p.2 < 3 := by
  have := h.2.2 p hp
  have := h.2.1
  omega
theorem pairS_free {m : Mach} (h : GoodM m) {p : Nat × Nat} (hp : p ∈ m) {c : Nat} (hc : c < 48) : c ∉ tl (pairS p) := by
  have := good_lt h hp
  rw [tl_pairS (by omega) (by omega)]
  simp
  omega
theorem rowS_free {r : List Bool} {c : Nat} (hc : c < 98) : c ∉ tl (rowS r) := by
  rw [tl_rowS]
  simp
  constructor <;> (simp [kc]; omega)
theorem rows_free {p : Pl} (h : Good p) : ∀ l ∈ rowsOf p, l ≠ [] ∧ ∀ w ∈ l, 32 ∉ tl w ∧ 10 ∉ tl w := by
  intro l hl
  simp only [rowsOf, List.mem_cons, List.not_mem_nil, or_false] at hl
  rcases hl with rfl | rfl | rfl
  · refine ⟨by simp [lineM], fun w hw => ?_⟩
    simp only [lineM, List.mem_cons, List.mem_map] at hw
    rcases hw with rfl | ⟨q, hq, rfl⟩
    · exact ⟨by decide, by decide⟩
    · exact ⟨pairS_free h.g hq (by omega), pairS_free h.g hq (by omega)⟩
  · refine ⟨by simp [lineM], fun w hw => ?_⟩
    simp only [lineM, List.mem_cons, List.mem_map] at hw
    rcases hw with rfl | ⟨q, hq, rfl⟩
    · exact ⟨by decide, by decide⟩
    · exact ⟨pairS_free h.e hq (by omega), pairS_free h.e hq (by omega)⟩
  · refine ⟨by simp, fun w hw => ?_⟩
    simp only [List.mem_cons, List.mem_map] at hw
    rcases hw with rfl | ⟨q, hq, rfl⟩
    · exact ⟨by decide, by decide⟩
    · exact ⟨rowS_free (by omega), rowS_free (by omega)⟩
theorem W_textOf {p : Pl} (h : Good p) : W (textOf p) = rowsOf p := W_join (by simp [rowsOf]) (rows_free h)
theorem reads_text {p : Pl} (h : Good p) : Reads (textOf p) p := ⟨h, W_textOf h⟩
/-! ### the program's reader -/
def digS : List Str := ["0", "1", "2"]
def partD (p : Str) : D := if p = "0" then .int 0 else if p = "1" then .int 1 else if p = "2" then .int 2 else .str p
def wD (w : Str) : D := .tup ((Txt.split w ":").map partD)
theorem nS_0 : nS 0 = "0" := rfl
theorem nS_1 : nS 1 = "1" := rfl
theorem nS_2 : nS 2 = "2" := rfl
theorem partD_nS {n : Nat} (h : n < 3) : partD (nS n) = .int n := by
  match n, h with
  | 0, _ => rfl
  | 1, _ => rfl
  | 2, _ => rfl
theorem partD_int {p : Str} {k : Int} (h : partD p = .int k) : ∃ n : Nat, n < 3 ∧ k = n ∧ p = nS n := by
  unfold partD at h
  split at h
  · rename_i e; cases h; exact ⟨0, by omega, rfl, e⟩
  · split at h
    · rename_i e; cases h; exact ⟨1, by omega, rfl, e⟩
    · split at h
      · rename_i e; cases h; exact ⟨2, by omega, rfl, e⟩
      · cases h
theorem nS_free {n : Nat} (h : n < 3) {c : Nat} (hc : 50 < c) : c ∉ tl (nS n) := by
  rw [tl_nS (by omega)]
  simp
  omega
theorem pairS_join {p : Nat × Nat} : pairS p = Txt.join ":" [nS p.1, nS p.2] := by
  rw [join_eq]; rfl
theorem wD_pairS {p : Nat × Nat} (h1 : p.1 < 3) (h2 : p.2 < 3) : wD (pairS p) = prD p := by
  unfold wD
  rw [pairS_join, split1 (y := ":") (c := 58) (by decide) (by decide +kernel) (by simp) (by
    intro q hq
    simp only [List.mem_cons, List.not_mem_nil, or_false] at hq
    rcases hq with rfl | rfl
    · exact nS_free h1 (by omega)
    · exact nS_free h2 (by omega))]
  simp only [List.map_cons, List.map_nil, partD_nS h1, partD_nS h2]
  rfl
theorem wholeB_part {n : Nat} {p : Str} (h : wholeB 0 ((n : Int) - 1) (partD p) = true) (hn : n ≤ 3) : ∃ k : Nat, k < n ∧ p = nS k := by
  cases e : partD p with
  | int i =>
    rw [e] at h
    obtain ⟨k, h1, rfl, rfl⟩ := partD_int e
    simp [wholeB] at h
    exact ⟨k, by omega, rfl⟩
  | _ => rw [e] at h; simp [wholeB] at h
theorem pairB_wD {n : Nat} {w : Str} (h : pairB n (wD w) = true) (hn : n ≤ 3) : ∃ p : Nat × Nat, p.1 < n ∧ p.2 < n ∧ w = pairS p := by
  unfold wD at h
  match e : Txt.split w ":", h with
  | [a, b], h =>
    simp [pairB] at h
    obtain ⟨i, hi, rfl⟩ := wholeB_part h.1 hn
    obtain ⟨j, hj, rfl⟩ := wholeB_part h.2 hn
    refine ⟨(i, j), hi, hj, ?_⟩
    rw [pairS_join, ← e, join_sp]
  | [], h => simp [pairB] at h
  | [_], h => simp [pairB] at h
  | _ :: _ :: _ :: _, h => simp [pairB] at h
theorem machB_wD {ws : List Str} (h : machB (.tup (ws.map wD)) = true) : ∃ m : Mach, GoodM m ∧ ws = m.map pairS := by
  simp [machB] at h
  obtain ⟨⟨⟨h1, h2⟩, _⟩, h4⟩ := h
  have key : ∀ l : List Str, (∀ w ∈ l, pairB ws.length (wD w) = true) → ∃ m : Mach, m.length = l.length ∧ (∀ p ∈ m, p.1 < ws.length ∧ p.2 < ws.length) ∧ l = m.map pairS := by
    intro l
    induction l with
    | nil => exact fun _ => ⟨[], rfl, by simp, rfl⟩
    | cons w l ih =>
      intro hl
      obtain ⟨m, e1, e2, e3⟩ := ih fun w hw => hl w (List.mem_cons_of_mem _ hw)
      obtain ⟨p, p1, p2, rfl⟩ := pairB_wD (hl w List.mem_cons_self) h2
      refine ⟨p :: m, by simp [e1], fun q hq => ?_, by simp [← e3]⟩
      rcases List.mem_cons.mp hq with rfl | hq
      · exact ⟨p1, p2⟩
      · exact e2 q hq
  obtain ⟨m, e1, e2, e3⟩ := key ws h4
  exact ⟨m, ⟨by omega, by omega, by rw [e1]; exact e2⟩, e3⟩
theorem mD_pairs {m : Mach} (h : GoodM m) : D.tup ((m.map pairS).map wD) = mD m := by
  unfold mD
  rw [List.map_map]
  congr 1
  exact List.map_congr_left fun p hp => wD_pairS (good_lt h hp).1 (good_lt h hp).2
theorem kind_of {c : Nat} (h : kindB (.str ⟨#[c]⟩) = true) : ∃ k, c = kc k := by
  simp [kindB] at h
  rcases h with h | h
  · refine ⟨false, ?_⟩
    have := congrArg tl h
    have e : tl (Str.ofString "b") = [98] := rfl
    rw [e] at this
    have : [98] = [c] := this
    simp at this
    exact this.symm
  · refine ⟨true, ?_⟩
    have := congrArg tl h
    have e : tl (Str.ofString "w") = [119] := rfl
    rw [e] at this
    have : [119] = [c] := this
    simp at this
    exact this.symm
theorem rowOk_of {n : Nat} {w : Str} (h : rowOk n (.str w) = true) : ∃ r : List Bool, r.length = n ∧ w = rowS r := by
  simp only [rowOk, Bool.and_eq_true, decide_eq_true_iff, List.all_eq_true] at h
  have key : ∀ l : List Nat, (∀ c ∈ l, kindB (.str ⟨#[c]⟩) = true) → ∃ r : List Bool, l = r.map kc := by
    intro l
    induction l with
    | nil => exact fun _ => ⟨[], rfl⟩
    | cons c l ih =>
      intro hl
      obtain ⟨r, rfl⟩ := ih fun c hc => hl c (List.mem_cons_of_mem _ hc)
      obtain ⟨k, rfl⟩ := kind_of (hl c List.mem_cons_self)
      exact ⟨k :: r, rfl⟩
  obtain ⟨r, hr⟩ := key _ h.2
  refine ⟨r, ?_, ext_tl hr⟩
  have := congrArg List.length hr
  rw [List.length_map] at this
  rw [← this, ← h.1]
  exact (len_tl w).symm
theorem kind_kc (k : Bool) : kindB (.str ⟨#[kc k]⟩) = true := by cases k <;> decide
theorem rowOk_rowS {r : List Bool} : rowOk r.length (.str (rowS r)) = true := by
  simp only [rowOk, Bool.and_eq_true, decide_eq_true_iff, List.all_eq_true]
  refine ⟨?_, ?_⟩
  · rw [len_tl, tl_rowS, List.length_map]
  · intro c hc
    have hc : c ∈ r.map kc := hc
    obtain ⟨k, _, rfl⟩ := List.mem_map.mp hc
    exact kind_kc k
def found (ls : List (List Str)) : D := match ls with
  | [a, b, c] => .tup [.tup (a.tail.map wD), .tup (b.tail.map wD), .tup (c.tail.map D.str)]
  | _ => .non
theorem found_rows {p : Pl} (h : Good p) : found (rowsOf p) = plD p := by
  show D.tup [.tup ((p.g.map pairS).map wD), .tup ((p.e.map pairS).map wD), .tup ((p.t.map rowS).map D.str)] = _
  rw [mD_pairs h.g, mD_pairs h.e, List.map_map]
  rfl
theorem machB_mD {m : Mach} (h : GoodM m) : machB (mD m) = true := by
  simp [machB, mD]
  refine ⟨⟨⟨h.1, h.2.1⟩, fun p q hp => by simp [prD, rowB]⟩, fun p q hp => ?_⟩
  have := h.2.2 _ hp
  simp [prD, pairB, wholeB]
  omega
theorem planB_plD {p : Pl} (h : Good p) : planB (plD p) = true := by
  show (machB (mD p.g) && machB (mD p.e) && decide ((p.t.map fun r => D.str (rowS r)).length = (p.e.map prD).length) && (p.t.map fun r => D.str (rowS r)).all (rowOk (p.g.map prD).length)) = true
  rw [machB_mD h.g, machB_mD h.e]
  simp [h.t]
  intro r hr
  rw [← h.r r hr]
  exact rowOk_rowS
theorem planB_found {ls : List (List Str)} (h : planB (found ls) = true) : ∃ (p : Pl) (a b c : List Str), Good p ∧ ls = [a, b, c] ∧ a.tail = p.g.map pairS ∧ b.tail = p.e.map pairS ∧ c.tail = p.t.map rowS ∧ found ls = plD p := by
  match ls, h with
  | [a, b, c], h =>
    have h : planB (.tup [.tup (a.tail.map wD), .tup (b.tail.map wD), .tup (c.tail.map D.str)]) = true := h
    rw [planB_3] at h
    simp only [Bool.and_eq_true, decide_eq_true_iff, List.all_eq_true, lenD, List.length_map] at h
    obtain ⟨⟨⟨h1, h2⟩, h3⟩, h4⟩ := h
    obtain ⟨g, gg, eg⟩ := machB_wD h1
    obtain ⟨e, ge, ee⟩ := machB_wD h2
    have key : ∀ l : List Str, (∀ w ∈ l, rowOk a.tail.length (.str w) = true) → ∃ t : List (List Bool), t.length = l.length ∧ (∀ r ∈ t, r.length = a.tail.length) ∧ l = t.map rowS := by
      intro l
      induction l with
      | nil => exact fun _ => ⟨[], rfl, by simp, rfl⟩
      | cons w l ih =>
        intro hl
        obtain ⟨t, e1, e2, e3⟩ := ih fun w hw => hl w (List.mem_cons_of_mem _ hw)
        obtain ⟨r, r1, rfl⟩ := rowOk_of (hl w List.mem_cons_self)
        refine ⟨r :: t, by simp [e1], fun q hq => ?_, by simp [← e3]⟩
        rcases List.mem_cons.mp hq with rfl | hq
        · exact r1
        · exact e2 q hq
    obtain ⟨t, t1, t2, t3⟩ := key c.tail fun w hw => h4 _ (List.mem_map.mpr ⟨w, hw, rfl⟩)
    have gp : Good ⟨g, e, t⟩ := ⟨gg, ge, by
      show t.length = e.length
      rw [t1, h3, ee, List.length_map], fun r hr => by
      show r.length = g.length
      rw [t2 r hr, eg, List.length_map]⟩
    refine ⟨⟨g, e, t⟩, a, b, c, gp, rfl, eg, ee, t3, ?_⟩
    show D.tup [.tup (a.tail.map wD), .tup (b.tail.map wD), .tup (c.tail.map D.str)] = _
    rw [eg, ee, t3, mD_pairs gg, mD_pairs ge, List.map_map]
    rfl
  | [], h => cases h
  | [_], h => cases h
  | [_, _], h => cases h
  | _ :: _ :: _ :: _ :: _, h => cases h
end AL


set_option Elab.async false
set_option linter.all false
set_option maxRecDepth 100000
set_option maxHeartbeats 1000000
/-! SP11: the program's texts, and the law's. -/
namespace AL
open PySem PySem.Spec PyProof.Rows L2 CD TL
@[simp] theorem len_app {x y : Str} : (x ++ y).length = x.length + y.length := by
  rw [len_tl, len_tl, len_tl, tl_append, List.length_append]
@[simp] theorem empty_app {x : Str} : Str.empty ++ x = x := ext_tl (by rw [tl_append]; rfl)
@[simp] theorem ofS_nS {n : Nat} : Str.ofString (toString ((n : Nat) : Int)) = nS n := Eq.trans rfl rfl
@[simp] theorem ofS_nR {n : Nat} : Str.ofString (((n : Nat) : Int).repr) = nS n := Eq.trans rfl rfl
theorem joinL_len {S : List Nat} : ∀ {ps : List (List Nat)} {p : List Nat}, p ∈ ps → p.length ≤ (joinL S ps).length
  | [a], p, h => by simp [-List.map_map] at h; subst h; exact Nat.le_refl _
  | a :: b :: r, p, h => by
    show _ ≤ (a ++ (S ++ joinL S (b :: r))).length
    rcases List.mem_cons.mp h with rfl | h
    · simp [-List.map_map]
    · have := joinL_len (S := S) h
      simp only [List.length_append]; omega
theorem joinL_cnt {c : Nat} : ∀ {ps : List (List Nat)}, ps.length ≤ (joinL [c] ps).length + 1
  | [] => by simp [-List.map_map]
  | [a] => by simp [-List.map_map]
  | a :: b :: r => by
    show _ ≤ (a ++ ([c] ++ joinL [c] (b :: r))).length + 1
    have := joinL_cnt (c := c) (ps := b :: r)
    simp only [List.length_append, List.length_cons, List.length_nil] at this ⊢
    omega
theorem part_len {x y p : Str} (h : p ∈ Txt.split x y) : p.length ≤ x.length := by
  have e : tl x = joinL (tl y) ((Txt.split x y).map tl) := by
    rw [← tl_join, ← join_eq, join_sp]
  rw [len_tl, len_tl, e]
  exact joinL_len (List.mem_map.mpr ⟨p, h, rfl⟩)
theorem split_cnt {x y : Str} {c : Nat} (hy : tl y = [c]) : (Txt.split x y).length ≤ x.length + 1 := by
  have e : tl x = joinL (tl y) ((Txt.split x y).map tl) := by
    rw [← tl_join, ← join_eq, join_sp]
  rw [len_tl, e, hy]
  have := joinL_cnt (c := c) (ps := (Txt.split x y).map tl)
  rwa [List.length_map] at this
theorem sum_pairS {m : Mach} (h : ∀ p ∈ m, p.1 < 3 ∧ p.2 < 3) : ((m.map pairS).map (·.length)).sum = 3 * m.length := by
  induction m with
  | nil => rfl
  | cons p m ih =>
    have h1 := h p List.mem_cons_self
    simp only [List.map_cons, List.sum_cons, List.length_cons]
    rw [ih fun q hq => h q (List.mem_cons_of_mem _ hq), len_tl, tl_pairS (by omega) (by omega)]
    simp [-List.map_map]; omega
theorem log_lt {n : Nat} (h : n < 3) : n.log2 < 1920 := by
  match n, h with
  | 0, _ => decide
  | 1, _ => decide
  | 2, _ => decide
theorem line_ok {m : Mach} (h : GoodM m) {w : Str} (hw : w.length ≤ 100) : ((lineM w m).map (·.length)).sum + (lineM w m).length * (" " : Str).length ≤ 200 := by
  have e : (" " : Str).length = 1 := rfl
  have := sum_pairS fun p hp => good_lt h hp
  have := h.2.1
  simp only [lineM, List.map_cons, List.sum_cons, List.length_cons, List.length_map, e]
  omega
theorem len_join {y : Str} : ∀ {ps : List Str}, (Txt.join y ps).length ≤ (ps.map (·.length)).sum + ps.length * y.length := by
  intro ps
  rw [join_eq, len_tl, tl_join]
  induction ps with
  | nil => simp [-List.map_map, joinL]
  | cons a r ih =>
    cases r with
    | nil =>
      show (tl a).length ≤ _
      rw [← len_tl]
      simp only [List.map_cons, List.map_nil, List.sum_cons, List.sum_nil]
      omega
    | cons b r =>
      show (tl a ++ (tl y ++ joinL (tl y) ((b :: r).map tl))).length ≤ _
      rw [List.length_append, List.length_append, ← len_tl, ← len_tl]
      simp only [List.map_cons, List.sum_cons, List.length_cons] at ih ⊢
      rw [Nat.add_mul]
      simp only [Nat.add_mul] at ih ⊢
      omega
theorem rows_ok {p : Pl} (hp : Good p) : ((("says" : Str) :: p.t.map rowS).map (·.length)).sum + (("says" : Str) :: p.t.map rowS).length * (" " : Str).length ≤ 200 := by
  have e : (" " : Str).length = 1 := rfl
  have e2 : ("says" : Str).length = 4 := rfl
  have h3 : p.t.length ≤ 3 := by rw [hp.t]; exact hp.e.2.1
  have key : ∀ l : List (List Bool), (∀ r ∈ l, r.length = p.g.length) → ((l.map rowS).map (·.length)).sum ≤ 3 * l.length := by
    intro l
    induction l with
    | nil => simp [-List.map_map]
    | cons r l ih =>
      intro h
      have := ih fun q hq => h q (List.mem_cons_of_mem _ hq)
      have h1 := h r List.mem_cons_self
      have h2 := hp.g.2.1
      have e3 : (rowS r).length = r.length := by rw [len_tl, tl_rowS, List.length_map]
      simp only [List.map_cons, List.sum_cons, List.length_cons, e3]
      omega
  have := key p.t hp.r
  simp only [List.map_cons, List.sum_cons, List.length_cons, List.length_map, e, e2]
  omega
theorem text_len {p : Pl} (hp : Good p) : (textOf p).length ≤ 700 := by
  have h1 := line_ok hp.g (w := "glance") (by decide +kernel)
  have h2 := line_ok hp.e (w := "ear") (by decide +kernel)
  have h3 := rows_ok hp
  have l1 := @len_join " " (lineM "glance" p.g)
  have l2 := @len_join " " (lineM "ear" p.e)
  have l3 := @len_join " " (("says" : Str) :: p.t.map rowS)
  have l4 := @len_join "\n" ((rowsOf p).map (Txt.join " "))
  have e : ("\n" : Str).length = 1 := rfl
  unfold textOf
  simp only [rowsOf, List.map_cons, List.map_nil, List.sum_cons, List.sum_nil, List.length_cons, List.length_nil, e] at l4 h3 l3 ⊢
  omega
theorem as_text_g {p : Pl} (hp : Good p) : Gv F_as_text [plD p] (.str (textOf p)) := by
  refine Gv.by M_as_text w_as_text rfl ?_
  have key : ∀ (rows : List Str) (w : Str) (m : Mach) (hm : GoodM m) (hw : w.length ≤ 100) (hr : rows.length ≤ 10) (a b : Option SV) (ha : Fr a) (hb : Fr b) (tl : I), step (evG (.tup (.cons (.var 2) (.cons (.var 3) .nil)))) (pvB [4, 5] (.cons (.set 1 (.bin .Add (.var 1) (.lst (.cons (.join (.cst (.str " ")) (.bin .Add (.lst (.cons (.var 2) .nil)) (.comp (.var 4) (.seq (.var 3)) .nil (.fstr (.cons (.fmt (.ix (.var 4) (.cst (.int 0)))) (.cons (.cst (.str ":")) (.cons (.fmt (.ix (.var 4) (.cst (.int 1)))) .nil)))) [("pair", 4)]))) .nil)))) .nil)) (.tup [.str w, mD m]) [some (.sh (plD p)), some (.sh (.lst (rows.map D.str))), a, b, none, none] =
      .ok .nx [some (.sh (plD p)), some (.sh (.lst ((rows ++ [Txt.join " " (lineM w m)]).map D.str))), some (.sh (.str w)), some (.sh (mD m)), none, none] := by
    intro rows w m hm hw hr a b ha hb _
    rw [step_tup2 rfl ha rfl hb]
    have hl := line_ok hm hw
    have h3 : m.length ≤ 3 := hm.2.1
    simp [-List.map_map]
    rw [comp_m m prD (fun p => .str (pairS p)) (by simp [-List.map_map]) (by simp [-List.map_map]) (size_le (by omega)) ?_]
    · have hj : ((lineM w m).map (·.length)).sum + (lineM w m).length * (" " : Str).length ≤ 16777216 := by omega
      have e : D.str w :: m.map (fun p => D.str (pairS p)) = (lineM w m).map D.str := by simp [lineM, List.map_map]
      have h4 : 1 + m.length ≤ 16777216 := by omega
      have h5 : rows.length + 1 ≤ 16777216 := by omega
      simp [-List.map_map, h4, e, mJoin_str hj, h5]
    · intro q hq
      have h1 := good_lt hm hq
      have l1 := log_lt h1.1
      have l2 := log_lt h1.2
      have n1 := len_nS (n := q.1) (by omega)
      have n2 := len_nS (n := q.2) (by omega)
      have n3 : (":" : Str).length = 1 := rfl
      simp [-List.map_map, turn, l1, l2, n1, n2, n3, pairS]
  have k1 := key [] "glance" p.g hp.g (by decide +kernel) (by simp [-List.map_map]) none none .no .no .nil
  have k2 := key [Txt.join " " (lineM "glance" p.g)] "ear" p.e hp.e (by decide +kernel) (by simp [-List.map_map]) (some (.sh (.str "glance"))) (some (.sh (mD p.g))) .sh .sh .nil
  simp [-List.map_map, run0, ir_as_text, M_as_text]
  simp [-List.map_map] at k1 k2
  rw [for_nx k1, for_nx k2, for_nil]
  have h3 : p.t.length ≤ 3 := by rw [hp.t]; exact hp.e.2.1
  simp [-List.map_map]
  rw [comp_m p.t (fun r => .str (rowS r)) (fun r => .str (rowS r)) (by simp [-List.map_map]) (by simp [-List.map_map]) (size_le (by omega)) ?_]
  · have hg : ((lineM "glance" p.g).map (·.length)).sum + (lineM "glance" p.g).length * (" " : Str).length ≤ 200 := line_ok hp.g (by decide +kernel)
    have hs := rows_ok hp
    have l1 := @len_join " " (lineM "glance" p.g)
    have l2 := @len_join " " (lineM "ear" p.e)
    have l3 := @len_join " " (("says" : Str) :: p.t.map rowS)
    have h2 := line_ok hp.e (w := "ear") (by decide +kernel)
    have e : ("\n" : Str).length = 1 := rfl
    have e1 : D.str "says" :: p.t.map (fun r => D.str (rowS r)) = (("says" : Str) :: p.t.map rowS).map D.str := by simp [List.map_map]
    have j1 : ((("says" : Str) :: p.t.map rowS).map (·.length)).sum + (("says" : Str) :: p.t.map rowS).length * (" " : Str).length ≤ 16777216 := by omega
    have h4 : 1 + p.t.length ≤ 16777216 := by omega
    have e2 : [D.str (Txt.join " " (lineM "glance" p.g)), D.str (Txt.join " " (lineM "ear" p.e)), D.str (Txt.join " " ("says" :: p.t.map rowS))] = ((rowsOf p).map (Txt.join " ")).map D.str := rfl
    have j2 : (((rowsOf p).map (Txt.join " ")).map (·.length)).sum + ((rowsOf p).map (Txt.join " ")).length * ("\n" : Str).length ≤ 16777216 := by
      simp only [rowsOf, List.map_cons, List.map_nil, List.sum_cons, List.sum_nil, List.length_cons, List.length_nil, e] at l3 hs ⊢
      omega
    have m1 : ∀ s, mJoin (.sh (.str " ")) (.sh (.lst (D.str "says" :: p.t.map (fun r => D.str (rowS r))))) s = .ok (.sh (.str (Txt.join " " (("says" : Str) :: p.t.map rowS)))) s := fun s => by rw [e1]; exact mJoin_str j1
    have m2 : ∀ s, mJoin (.sh (.str "\n")) (.sh (.lst [D.str (Txt.join " " (lineM "glance" p.g)), D.str (Txt.join " " (lineM "ear" p.e)), D.str (Txt.join " " (("says" : Str) :: p.t.map rowS))])) s = .ok (.sh (.str (textOf p))) s := fun s => by rw [e2]; exact mJoin_str j2
    simp [-List.map_map, h4, m1, m2]
  · intro r hr
    simp [-List.map_map, turn]
theorem as_text_c {p : Pl} {s : S} (hp : Good p) : callD F_as_text.loose [.sh (plD p)] s = .ok (.sh (.str (textOf p))) s := (as_text_g hp).call
end AL


set_option Elab.async false
set_option linter.all false
set_option maxRecDepth 100000
set_option maxHeartbeats 1000000
/-! SP12: the program's reader of texts. -/
namespace AL
open PySem PySem.Spec PyProof.Rows L2 CD TL
theorem plains_map {α : Type} {l : List α} {f : α → D} (h : ∀ x ∈ l, (f x).plain = true) : D.plains (l.map f) = true := plains_iff.mpr fun d hd => by
  obtain ⟨x, hx, rfl⟩ := List.mem_map.mp hd
  exact h x hx
theorem plain_mD {m : Mach} : (mD m).plain = true := by
  unfold mD
  rw [plain_tup]
  exact plains_map fun p _ => by simp [-List.map_map, prD]
theorem plain_tD {t : List (List Bool)} : (tD t).plain = true := by
  unfold tD
  rw [plain_tup]
  exact plains_map fun p _ => by simp [-List.map_map]
theorem plain_plD {p : Pl} : (plD p).plain = true := by
  unfold plD
  simp [-List.map_map, plain_mD, plain_tD]
theorem len_rowS {r : List Bool} : (rowS r).length = r.length := by rw [len_tl, tl_rowS, List.length_map]
theorem tabS_plD {p : Pl} (h : Good p) : tabS (plD p) := by
  show ∀ x, D.str x ∈ p.t.map (fun r => D.str (rowS r)) → x.length ≤ 10000
  intro x hx
  obtain ⟨r, hr, e⟩ := List.mem_map.mp hx
  cases e
  rw [len_rowS, h.r r hr]
  have := h.g.2.1
  omega
theorem need_pl {p : Pl} {s : S} (h : Good p) : callD F_need_plan.loose [.sh (plD p)] s = .ok (.sh .non) s := need_plan_c plain_plD (tabS_plD h) (planB_plD h)
theorem plan_text_g {p : Pl} (h : Good p) : Gv F_plan_text [plD p] (.str (textOf p)) := by
  refine Gv.by M_plan_text w_plan_text rfl ?_
  simp [-List.map_map, run0, ir_plan_text, need_pl h, as_text_c h]
theorem plan_text_c {p : Pl} {s : S} (h : Good p) : callD F_plan_text.loose [.sh (plD p)] s = .ok (.sh (.str (textOf p))) s := (plan_text_g h).call
theorem bInt_lit {y : Str} {n : Int} {s : S} (h : PySem.intText? y = some n) (hl : y.length ≤ 640) : Bi.fn .int_ [.sh (.str y)] s = .ok (.sh (.int n)) s := by
  unfold Bi.fn bInt
  simp [-List.map_map, hl, h]
theorem bInt_0 {s : S} : Bi.fn .int_ [.sh (.str "0")] s = .ok (.sh (.int 0)) s := bInt_lit (by decide +kernel) (by decide +kernel)
theorem bInt_1 {s : S} : Bi.fn .int_ [.sh (.str "1")] s = .ok (.sh (.int 1)) s := bInt_lit (by decide +kernel) (by decide +kernel)
theorem bInt_2 {s : S} : Bi.fn .int_ [.sh (.str "2")] s = .ok (.sh (.int 2)) s := bInt_lit (by decide +kernel) (by decide +kernel)
theorem pair_in_g {w : Str} (h : w.length ≤ 10000) : Gv F_pair_in [.str w] (wD w) := by
  refine Gv.by M_pair_in w_pair_in rfl ?_
  have c1 : ((":" : Str).length == 0) = false := rfl
  have hc := @split_cnt w ":" 58 (by decide)
  have h2 : w.length + 2 ≤ 16777216 := by omega
  simp [-List.map_map, run0, ir_pair_in, M_pair_in, mSplit_str ⟨c1, h2⟩]
  rw [comp_m (Txt.split w ":") D.str partD (by simp [-List.map_map]) (by simp [-List.map_map]) (size_le (by omega)) ?_]
  · simp [-List.map_map, wD]
  · intro p hp
    by_cases e0 : p = "0"
    · subst e0; simp [-List.map_map, turn, bInt_0, partD]
    · by_cases e1 : p = "1"
      · subst e1
        simp [-List.map_map, turn, bInt_1, partD, e0]
      · by_cases e2 : p = "2"
        · subst e2
          simp [-List.map_map, turn, bInt_2, partD, e0, e1]
        · simp [-List.map_map, turn, partD, e0, e1, e2, Ne.symm e0, Ne.symm e1, Ne.symm e2]
theorem pair_in_c {w : Str} {s : S} (h : w.length ≤ 10000) : callD F_pair_in.loose [.sh (.str w)] s = .ok (.sh (wD w)) s := (pair_in_g h).call
theorem plain_wD {w : Str} : (wD w).plain = true := by
  unfold wD
  rw [plain_tup]
  refine plains_map fun p _ => ?_
  unfold partD
  split
  · simp [-List.map_map]
  · split
    · simp [-List.map_map]
    · split <;> simp [-List.map_map]
/-- a text read as a plan, or not -/
theorem reads_found {x : Str} {p : Pl} (h : Reads x p) : found (W x) = plD p ∧ x = textOf p := ⟨by rw [h.w, found_rows h.good], W_text h.w⟩
theorem reads_of {x : Str} (hp : planB (found (W x)) = true) : ∃ p : Pl, Good p ∧ found (W x) = plD p ∧ (x = textOf p ↔ Reads x p) := by
  obtain ⟨p, a, b, c, gp, e, h1, h2, h3, h4⟩ := planB_found hp
  refine ⟨p, gp, h4, fun hx => ?_, fun h => W_text h.w⟩
  subst hx
  exact reads_text gp
theorem plD_inj {p q : Pl} (h : plD p = plD q) : p = q := by
  have prI : ∀ a b : Nat × Nat, prD a = prD b → a = b := fun a b e => by
    simp [-List.map_map, prD] at e
    exact Prod.ext e.1 e.2
  have mI : ∀ a b : Mach, mD a = mD b → a = b := fun a b e => by
    simp only [mD, D.tup.injEq] at e
    exact (List.map_inj_right (fun x y q => prI x y q)).mp e
  have kI : ∀ a b : Bool, kc a = kc b → a = b := fun a b e => by cases a <;> cases b <;> first | rfl | cases e
  have rI : ∀ a b : List Bool, D.str (rowS a) = D.str (rowS b) → a = b := fun a b e => by
    have e1 : rowS a = rowS b := D.str.inj e
    have e2 : a.map kc = b.map kc := congrArg tl e1
    exact (List.map_inj_right (fun x y q => kI x y q)).mp e2
  cases p with
  | mk g e t =>
    cases q with
    | mk g' e' t' =>
      simp only [plD, D.tup.injEq, List.cons.injEq, and_true] at h
      obtain ⟨h1, h2, h3⟩ := h
      have h3 : t.map (fun r => D.str (rowS r)) = t'.map (fun r => D.str (rowS r)) := by simpa only [tD, D.tup.injEq] using h3
      rw [mI _ _ h1, mI _ _ h2, (List.map_inj_right (fun x y q => rI x y q)).mp h3]
theorem len3 {α : Type} {l : List α} (h : l.length = 3) : ∃ a b c, l = [a, b, c] := by
  match l, h with
  | [a, b, c], _ => exact ⟨a, b, c, rfl⟩
theorem len_W {x : Str} (hx : x.length ≤ 9000) : ∀ l ∈ lns x, l.length ≤ 9000 ∧ (wsp l).length ≤ 9001 ∧ ∀ w ∈ wsp l, w.length ≤ 9000 := fun l hl => by
  have h1 := part_len hl
  have h2 := @split_cnt l " " 32 (by decide)
  exact ⟨by omega, by unfold wsp; omega, fun w hw => by have := part_len hw; omega⟩
theorem text_in_main {x : Str} (hx : x.length ≤ 9000) (G : Res Fl → Prop) (h1 : ∀ p s, Reads x p → G (.ok (.rt (.sh (plD p))) s)) (h2 : ∀ s, (¬∃ p, Reads x p) → G (.exc "InvalidText" s)) : G (run0 M_text_in 7 ir_text_in [.str x]) := by
  have c1 : (("\n" : Str).length == 0) = false := rfl
  have c2 : ((" " : Str).length == 0) = false := rfl
  have hc := @split_cnt x "\n" 10 (by decide)
  have h3 : x.length + 2 ≤ 16777216 := by omega
  have hL := len_W (x := x) (by omega)
  simp [-List.map_map, run0, ir_text_in, M_text_in, isiT, mSplit_str ⟨c1, h3⟩]
  rw [comp_m (lns x) D.str (fun l => .lst ((wsp l).map D.str)) (by simp [-List.map_map, mSplit_str ⟨c1, h3⟩, lns]) (by simp [-List.map_map]) (size_le (by unfold lns; omega)) ?_]
  · simp [-List.map_map]
    by_cases c3 : (lns x).length = 3
    · obtain ⟨a, b, c, e⟩ := len3 c3
      have eW : W x = [wsp a, wsp b, wsp c] := by unfold W; rw [e]; rfl
      rw [e]
      rw [e] at hL
      have la := hL a (by simp [-List.map_map])
      have lb := hL b (by simp [-List.map_map])
      have lc := hL c (by simp [-List.map_map])
      simp [-List.map_map]
      rw [comp_m [a, b] (fun l => .lst ((wsp l).map D.str)) (fun l => .tup ((wsp l).tail.map wD)) (by simp [-List.map_map]) (by simp [-List.map_map]) (size_le (by simp [-List.map_map])) ?_]
      · have ef : D.tup [.tup ((wsp a).tail.map wD), .tup ((wsp b).tail.map wD), .tup ((wsp c).tail.map D.str)] = found (W x) := by rw [eW]; rfl
        have pl : (found (W x)).plain = true := by
          rw [← ef]
          simp only [plain_tup, plains_cons, plains_nil, Bool.and_true]
          rw [plains_map fun w _ => plain_wD, plains_map fun w _ => plain_wD, plains_map fun w _ => plain_str]
          rfl
        have tb : tabS (found (W x)) := by
          rw [← ef]
          intro w hw
          obtain ⟨v, hv, e⟩ := List.mem_map.mp hw
          cases e
          have := lc.2.2 w (List.mem_of_mem_tail hv)
          omega
        have ef2 : D.tup [.tup ((wsp a).map wD).tail, .tup ((wsp b).map wD).tail, .tup ((wsp c).map D.str).tail] = found (W x) := by rw [← ef, List.map_tail, List.map_tail, List.map_tail]
        simp [-List.map_map]
        rw [ef2]
        simp [-List.map_map, fits_plan_c pl tb]
        cases hb : planB (found (W x)) with
        | false =>
          simp [-List.map_map]
          refine h2 _ ?_
          rintro ⟨p, hp⟩
          rw [(reads_found hp).1, planB_plD hp.good] at hb
          cases hb
        | true =>
          obtain ⟨p, gp, e1, e2⟩ := reads_of hb
          rw [e1]
          simp [-List.map_map, as_text_c gp]
          by_cases c5 : textOf p = x
          · simp [-List.map_map, c5]
            exact h1 p _ (e2.mp c5.symm)
          · simp [-List.map_map, c5]
            refine h2 _ ?_
            rintro ⟨q, hq⟩
            have := (reads_found hq).1
            rw [e1] at this
            rw [plD_inj this] at c5
            exact c5 (W_text hq.w).symm
      · intro l hl
        have ll : l.length ≤ 9000 ∧ (wsp l).length ≤ 9001 ∧ ∀ (w : Str), w ∈ wsp l → w.length ≤ 9000 := by
          simp [-List.map_map] at hl
          rcases hl with rfl | rfl
          · exact la
          · exact lb
        simp [-List.map_map, turn]
        rw [comp_m (wsp l).tail D.str wD (by simp [-List.map_map]) (by simp [-List.map_map]) (size_le (by simp [-List.map_map]; omega)) ?_]
        · simp [-List.map_map]
        · intro w hw
          have := ll.2.2 w (List.mem_of_mem_tail hw)
          simp [-List.map_map, turn, pair_in_c (w := w) (by omega)]
    · simp [-List.map_map, c3]
      refine h2 _ ?_
      rintro ⟨p, hp⟩
      have := congrArg List.length hp.w
      simp [-List.map_map, W, rowsOf] at this
      exact c3 this
  · intro l hl
    have h4 : l.length + 2 ≤ 16777216 := by have := (hL l hl).1; omega
    simp [-List.map_map, turn, mSplit_str ⟨c2, h4⟩, wsp]
theorem text_in_g {x : Str} (hx : x.length ≤ 9000) : (∀ p, Reads x p → Gv F_text_in [.str x] (plD p)) ∧ ((¬∃ p, Reads x p) → Gx F_text_in [.str x] "InvalidText") := by
  have un : ∀ p q, Reads x p → Reads x q → p = q := fun p q hp hq => plD_inj (by rw [← (reads_found hp).1, (reads_found hq).1])
  constructor
  · intro p hp
    refine Gv.by M_text_in w_text_in rfl ?_
    refine text_in_main hx (fun m => Rets m (plD p)) (fun q s hq => ?_) fun s hn => absurd ⟨p, hp⟩ hn
    rw [un q p hq hp]
    simp [-List.map_map]
  · intro hn
    refine Gx.by M_text_in w_text_in rfl ?_
    exact text_in_main hx (fun m => ∃ s, m = .exc "InvalidText" s) (fun q s hq => absurd ⟨q, hq⟩ hn) fun s _ => ⟨s, rfl⟩
theorem read_g {x : Str} (hx : x.length ≤ 9000) : (∀ p, Reads x p → Gv F_read_plan [.str x] (plD p)) ∧ ((¬∃ p, Reads x p) → Gx F_read_plan [.str x] "InvalidText") := by
  constructor
  · intro p hp
    refine Gv.by M_read_plan w_read_plan rfl ?_
    have := @Gv.call _ _ _ [some (.sh (.str x))] ((text_in_g hx).1 p hp)
    simp [-List.map_map] at this
    simp [-List.map_map, run0, ir_read_plan, this]
  · intro hn
    refine Gx.by M_read_plan w_read_plan rfl ?_
    have := @Gx.call _ _ _ [some (.sh (.str x))] ((text_in_g hx).2 hn)
    simp [-List.map_map] at this
    simp [-List.map_map, run0, ir_read_plan, this]
/-- a value that is no text -/
theorem read_odd {d : D} (h : d.plain = true) (hd : ∀ x, d ≠ .str x) : Gx F_read_plan [d] "InvalidText" := by
  have h1 : Gx F_text_in [d] "InvalidText" := by
    refine Gx.by M_text_in w_text_in rfl ?_
    cases d <;> first | (exact absurd rfl (hd _)) | (cases h; done) | simp [-List.map_map, run0, ir_text_in, M_text_in, isiT]
  refine Gx.by M_read_plan w_read_plan rfl ?_
  have := @Gx.call _ _ _ [some (.sh d)] h1
  simp [-List.map_map] at this
  simp [-List.map_map, run0, ir_read_plan, this]
end AL


set_option Elab.async false
set_option linter.all false
set_option maxRecDepth 100000
set_option maxHeartbeats 1000000
/-! SPL11: the law's own texts and reader. -/
namespace AL
open PySem PySem.Spec PyProof.Rows L2 CD TL
theorem sum_len_join {p : Pl} (hp : Good p) : (((rowsOf p).map (Txt.join " ")).map (·.length)).sum + ((rowsOf p).map (Txt.join " ")).length * ("\n" : Str).length ≤ 16777216 := by
  have hg := line_ok hp.g (w := "glance") (by decide +kernel)
  have h2 := line_ok hp.e (w := "ear") (by decide +kernel)
  have hs := rows_ok hp
  have l1 := @len_join " " (lineM "glance" p.g)
  have l2 := @len_join " " (lineM "ear" p.e)
  have l3 := @len_join " " (("says" : Str) :: p.t.map rowS)
  have e : ("\n" : Str).length = 1 := rfl
  simp only [rowsOf, List.map_cons, List.map_nil, List.sum_cons, List.sum_nil, List.length_cons, List.length_nil, e] at l3 hs ⊢
  omega
theorem law_text_g {p : Pl} (hp : Good p) : Gv F__law_text [plD p] (.str (textOf p)) := by
  refine Gv.by M__law_text w__law_text rfl ?_
  have key : ∀ (rows : List Str) (w : Str) (m : Mach) (hm : GoodM m) (hw : w.length ≤ 100) (hr : rows.length ≤ 10) (a b : Option SV) (ha : Fr a) (hb : Fr b), step (evG (.tup (.cons (.var 2) (.cons (.var 3) .nil)))) (pvB [1, 4] (.cons (.expr (.app (.var 1) (.join (.cst (.str " ")) (.bin .Add (.lst (.cons (.var 2) .nil)) (.comp (.var 4) (.seq (.var 3)) .nil (.bin .Add (.bin .Add (.bi .str_ (.cons (.ix (.var 4) (.cst (.int 0))) .nil)) (.cst (.str ":"))) (.bi .str_ (.cons (.ix (.var 4) (.cst (.int 1))) .nil))) [("pair", 4)]))))) .nil)) (.tup [.str w, mD m]) [some (.sh (plD p)), some (.ow (.lst (rows.map D.str))), a, b, none] =
      .ok .nx [some (.sh (plD p)), some (.ow (.lst ((rows ++ [Txt.join " " (lineM w m)]).map D.str))), some (.sh (.str w)), some (.sh (mD m)), none] := by
    intro rows w m hm hw hr a b ha hb
    rw [step_tup2 rfl ha rfl hb]
    have hl := line_ok hm hw
    have h3 : m.length ≤ 3 := hm.2.1
    simp [-List.map_map, gL, isLst, peek, slotD, SV.d]
    rw [comp_m m prD (fun p => .str (pairS p)) (by simp [-List.map_map]) (by simp [-List.map_map]) (size_le (by omega)) ?_]
    · have hj : ((lineM w m).map (·.length)).sum + (lineM w m).length * (" " : Str).length ≤ 16777216 := by omega
      have e : D.str w :: m.map (fun p => D.str (pairS p)) = (lineM w m).map D.str := by simp [lineM, List.map_map]
      have h4 : 1 + m.length ≤ 16777216 := by omega
      have h5 : rows.length < sizeLine := by have := size_le (n := rows.length + 1) (by omega); omega
      simp [-List.map_map, h4, e, mJoin_str hj, mAppend, ownL, h5, exprR]
    · intro q hq
      have h1 := good_lt hm hq
      have l1 := log_lt h1.1
      have l2 := log_lt h1.2
      have n1 := len_nS (n := q.1) (by omega)
      have n2 := len_nS (n := q.2) (by omega)
      have n3 : (":" : Str).length = 1 := rfl
      simp [-List.map_map, turn, l1, l2, n1, n2, n3, pairS]
  have k1 := key [] "glance" p.g hp.g (by decide +kernel) (by simp [-List.map_map]) none none .no .no
  have k2 := key [Txt.join " " (lineM "glance" p.g)] "ear" p.e hp.e (by decide +kernel) (by simp [-List.map_map]) (some (.sh (.str "glance"))) (some (.sh (mD p.g))) .sh .sh
  simp [-List.map_map, run0, ir__law_text, M__law_text]
  simp [-List.map_map] at k1 k2
  rw [for_nx k1, for_nx k2, for_nil]
  have h3 : p.t.length ≤ 3 := by rw [hp.t]; exact hp.e.2.1
  have hs := rows_ok hp
  have e1 : D.str "says" :: p.t.map (fun r => D.str (rowS r)) = (("says" : Str) :: p.t.map rowS).map D.str := by simp [List.map_map]
  have j1 : ((("says" : Str) :: p.t.map rowS).map (·.length)).sum + (("says" : Str) :: p.t.map rowS).length * (" " : Str).length ≤ 16777216 := by omega
  have h4 : 1 + p.t.length ≤ 16777216 := by omega
  have e2 : [D.str (Txt.join " " (lineM "glance" p.g)), D.str (Txt.join " " (lineM "ear" p.e)), D.str (Txt.join " " (("says" : Str) :: p.t.map rowS))] = ((rowsOf p).map (Txt.join " ")).map D.str := rfl
  have j2 := sum_len_join hp
  have m1 : ∀ s, mJoin (.sh (.str " ")) (.sh (.lst (D.str "says" :: p.t.map (fun r => D.str (rowS r))))) s = .ok (.sh (.str (Txt.join " " (("says" : Str) :: p.t.map rowS)))) s := fun s => by rw [e1]; exact mJoin_str j1
  have m2 : ∀ s, mJoin (.sh (.str "\n")) (.sh (.lst [D.str (Txt.join " " (lineM "glance" p.g)), D.str (Txt.join " " (lineM "ear" p.e)), D.str (Txt.join " " (("says" : Str) :: p.t.map rowS))])) s = .ok (.sh (.str (textOf p))) s := fun s => by rw [e2]; exact mJoin_str j2
  simp [-List.map_map, h4, m1, m2, binD, peek, slotD, SV.d, lineOk, sizeLine, newLst]
theorem law_text_c {p : Pl} {s : S} (hp : Good p) : callD F__law_text.loose [.sh (plD p)] s = .ok (.sh (.str (textOf p))) s := (law_text_g hp).call
theorem strEq : EqOk D.str := fun a b => by simp [-List.map_map]
def goods (n : Nat) : List Str := (List.range n).map nS
theorem in_goods {n : Nat} {x : Str} : inL (.str x) ((goods n).map D.str) = true ↔ ∃ i < n, x = nS i := by
  rw [inL_map strEq]
  simp [-List.map_map, goods, eq_comm]
theorem in_goods_no {n : Nat} {x : Str} (h : ¬∃ i < n, x = nS i) : inL (.str x) ((goods n).map D.str) = false := by
  rw [← Bool.not_eq_true]
  exact fun z => h (in_goods.mp z)
theorem goods_take {n : Nat} (h : n ≤ 3) : [D.str "0", D.str "1", D.str "2"].take n = (goods n).map D.str := by
  match n, h with
  | 0, _ => rfl
  | 1, _ => rfl
  | 2, _ => rfl
  | 3, _ => rfl
theorem bInt_nS {i : Nat} {s : S} (h : i < 3) : Bi.fn .int_ [.sh (.str (nS i))] s = .ok (.sh (.int i)) s := by
  match i, h with
  | 0, _ => exact bInt_0
  | 1, _ => exact bInt_1
  | 2, _ => exact bInt_2
def okPart (n : Nat) (w : Str) : Prop := ∃ p : Nat × Nat, p.1 < n ∧ p.2 < n ∧ w = pairS p
theorem part_str {w : Str} {c0 c1 c2 : Nat} (e : w.cps.toList = [c0, c1, c2]) {n : Nat} (hn : n ≤ 3) : okPart n w ↔ (⟨#[c1]⟩ : Str) = ":" ∧ (∃ i < n, (⟨#[c0]⟩ : Str) = nS i) ∧ ∃ i < n, (⟨#[c2]⟩ : Str) = nS i := by
  have one : ∀ (c i : Nat), i < 10 → ((⟨#[c]⟩ : Str) = nS i ↔ c = 48 + i) := fun c i hi => by
    constructor
    · intro h
      have := congrArg tl h
      rw [tl_nS hi] at this
      have : [c] = [48 + i] := this
      simpa [-List.map_map] using this
    · intro h
      subst h
      exact ext_tl (tl_nS hi).symm
  have col : (⟨#[c1]⟩ : Str) = ":" ↔ c1 = 58 := by
    constructor
    · intro h
      have := congrArg tl h
      have : [c1] = [58] := this
      simpa [-List.map_map] using this
    · intro h; subst h; rfl
  constructor
  · rintro ⟨p, h1, h2, rfl⟩
    have := tl_pairS (p := p) (by omega) (by omega)
    have e' : [c0, c1, c2] = [48 + p.1, 58, 48 + p.2] := by rw [← e]; exact this
    simp [-List.map_map] at e'
    exact ⟨col.mpr e'.2.1, ⟨p.1, h1, (one _ _ (by omega)).mpr e'.1⟩, p.2, h2, (one _ _ (by omega)).mpr e'.2.2⟩
  · rintro ⟨h1, ⟨i, hi, h2⟩, j, hj, h3⟩
    refine ⟨(i, j), hi, hj, ext_tl ?_⟩
    rw [tl_pairS (by omega) (by omega)]
    have a := col.mp h1
    have b := (one _ _ (by omega)).mp h2
    have c := (one _ _ (by omega)).mp h3
    show w.cps.toList = _
    rw [e, a, b, c]
theorem machine_in_main {ws : List Str} {w : Str} (h0 : ws ≠ []) (hw : ∀ x ∈ ws, x.length ≤ 9000) (hl : ws.length ≤ 10000) (G : Res Fl → Prop) (h1 : ∀ m s, GoodM m → ws = lineM w m → G (.ok (.rt (.sh (mD m))) s)) (h2 : ∀ s, (¬∃ m, GoodM m ∧ ws = lineM w m) → G (.ok (.rt (.sh .non)) s)) :
    G (run0 M__law_machine_in 5 ir__law_machine_in [.lst (ws.map D.str), .str w]) := by
  obtain ⟨v, vs, rfl⟩ := List.exists_cons_of_ne_nil h0
  simp [-List.map_map, run0, ir__law_machine_in, M__law_machine_in]
  by_cases ev : v = w
  · subst ev
    simp [-List.map_map]
    by_cases c1 : 1 ≤ vs.length ∧ vs.length ≤ 3
    · have c2 : (2 : Int) ≤ (vs.length : Int) + 1 := by omega
      have c3 : (vs.length : Int) + 1 ≤ 4 := by omega
      simp [-List.map_map, c2, c3, goods_take c1.2]
      generalize hS : [some (SV.sh (D.lst (D.str v :: List.map D.str vs))), some (SV.sh (D.str v)), none, some (SV.sh (D.lst (List.map D.str (goods vs.length)))), some (SV.ow (D.lst []))] = s0
      generalize hm : forLoop _ _ _ _ = m
      refine for_goal hm vs D.str rfl (fun pre s => ∃ (ms : Mach) (a : Option SV), s = [some (SV.sh (D.lst (D.str v :: List.map D.str vs))), some (SV.sh (D.str v)), a, some (SV.sh (D.lst (List.map D.str (goods vs.length)))), some (SV.ow (D.lst (ms.map prD)))] ∧ Fr a ∧ pre = ms.map pairS ∧ ∀ q ∈ ms, q.1 < vs.length ∧ q.2 < vs.length) (fun r s => r = .sh .non ∧ ∃ x ∈ vs, ¬okPart vs.length x) ⟨[], none, hS.symm, .no, rfl, by simp [-List.map_map]⟩ ?_ ?_ ?_
      · rintro pre x suf s hp ⟨ms, a, rfl, ha, hpre, hall⟩
        have hx : x ∈ vs := by rw [hp]; simp [-List.map_map]
        have hxl : x.length ≤ 9000 := hw x (List.mem_cons_of_mem _ hx)
        have hx2 : x.length ≤ 16777216 := by omega
        rw [step_var rfl ha]
        by_cases c4 : x.length = 3
        · obtain ⟨c0, c1', c2', e⟩ := len3 (show x.cps.toList.length = 3 by rw [← c4]; rfl)
          have hpt := part_str e c1.2
          by_cases d1 : (⟨#[c1']⟩ : Str) = ":"
          · by_cases d0 : ∃ i < vs.length, (⟨#[c0]⟩ : Str) = nS i
            · by_cases d2 : ∃ i < vs.length, (⟨#[c2']⟩ : Str) = nS i
              · left
                have i0 := in_goods.mpr d0
                have i2 := in_goods.mpr d2
                obtain ⟨p, p1, p2, hxp⟩ := hpt.mpr ⟨d1, d0, d2⟩
                obtain ⟨i, hi, e0⟩ := d0
                obtain ⟨j, hj, e2⟩ := d2
                have hij : (⟨#[c0]⟩ : Str) = nS p.1 ∧ (⟨#[c2']⟩ : Str) = nS p.2 := by
                  have t1 : tl x = [48 + p.1, 58, 48 + p.2] := by rw [hxp]; exact tl_pairS (by omega) (by omega)
                  have t2 : tl x = [c0, c1', c2'] := e
                  rw [t1] at t2
                  simp [-List.map_map] at t2
                  exact ⟨ext_tl (by rw [tl_nS (by omega), t2.1]), ext_tl (by rw [tl_nS (by omega), t2.2.2])⟩
                have hms : ms.length < sizeLine := by
                  have := congrArg List.length hpre
                  have h3 := congrArg List.length hp
                  simp [-List.map_map] at this h3
                  have := size_le (n := ms.length + 1) (by omega)
                  omega
                rw [hij.1] at i0
                rw [hij.2] at i2
                refine ⟨_, .inl ?_, ms ++ [p], _, rfl, Fr.sh (d := .str x), by rw [hpre, hxp]; simp [-List.map_map], fun q hq => ?_⟩
                · simp [-List.map_map, hx2, c4, e, d1, hij.1, hij.2, i0, i2, bInt_nS (show p.1 < 3 by omega), bInt_nS (show p.2 < 3 by omega), gL, isLst, peek, slotD, SV.d, mAppend, ownL, hms, prD]
                · rcases List.mem_append.mp hq with hq | hq
                  · exact hall q hq
                  · simp [-List.map_map] at hq; subst hq; exact ⟨p1, p2⟩
              · right
                have i0 := in_goods.mpr d0
                have i2 := in_goods_no d2
                exact ⟨_, _, by simp [-List.map_map, hx2, c4, e, d1, i0, i2]; exact rfl, rfl, x, hx, fun z => d2 (hpt.mp z).2.2⟩
            · right
              have i0 := in_goods_no d0
              exact ⟨_, _, by simp [-List.map_map, hx2, c4, e, d1, i0]; exact rfl, rfl, x, hx, fun z => d0 (hpt.mp z).2.1⟩
          · right
            exact ⟨_, _, by simp [-List.map_map, hx2, c4, e, d1]; exact rfl, rfl, x, hx, fun z => d1 (hpt.mp z).1⟩
        · right
          refine ⟨_, _, by simp [-List.map_map, hx2, c4]; exact rfl, rfl, x, hx, ?_⟩
          rintro ⟨p, p1, p2, rfl⟩
          apply c4
          rw [len_tl, tl_pairS (by omega) (by omega)]
          rfl
      · rintro s rfl ⟨ms, a, rfl, ha, hpre, hall⟩
        have hml : ms.length = vs.length := by rw [hpre, List.length_map]
        simp [-List.map_map, Bi.fn, bTuple, peek, slotD, SV.d]
        exact h1 ms _ ⟨by omega, by omega, by rw [hml]; exact hall⟩ (by rw [hpre]; rfl)
      · rintro r s rfl ⟨rfl, x, hx, hn⟩
        simp [-List.map_map]
        refine h2 _ ?_
        rintro ⟨m, gm, e⟩
        simp [-List.map_map, lineM] at e
        rw [e] at hx hn
        obtain ⟨p, hp, rfl⟩ := List.mem_map.mp hx
        rw [List.length_map] at hn
        exact hn ⟨p, (gm.2.2 p hp).1, (gm.2.2 p hp).2, rfl⟩
    · have hn : ¬∃ m, GoodM m ∧ v :: vs = lineM v m := by
        rintro ⟨m, gm, e⟩
        simp [-List.map_map, lineM] at e
        rw [e, List.length_map] at c1
        exact c1 ⟨gm.1, gm.2.1⟩
      by_cases c2 : (2 : Int) ≤ (vs.length : Int) + 1
      · have c3 : ¬ (vs.length : Int) + 1 ≤ 4 := fun z => c1 ⟨by omega, by omega⟩
        simp [-List.map_map, c2, c3]
        exact h2 _ hn
      · simp [-List.map_map, c2]
        exact h2 _ hn
  · simp [-List.map_map, ev]
    refine h2 _ ?_
    rintro ⟨m, _, e⟩
    simp [-List.map_map, lineM] at e
    exact ev e.1
theorem machine_in_g {ws : List Str} {w : Str} (h0 : ws ≠ []) (hw : ∀ x ∈ ws, x.length ≤ 9000) (hl : ws.length ≤ 10000) : (∀ m, GoodM m → ws = lineM w m → Gv F__law_machine_in [.lst (ws.map D.str), .str w] (mD m)) ∧ ((¬∃ m, GoodM m ∧ ws = lineM w m) → Gv F__law_machine_in [.lst (ws.map D.str), .str w] .non) := by
  have un : ∀ m m', GoodM m → GoodM m' → lineM w m = lineM w m' → mD m = mD m' := fun m m' g g' e => by
    simp [-List.map_map, lineM] at e
    rw [← mD_pairs g, ← mD_pairs g', e]
  constructor
  · intro m gm e
    refine Gv.by M__law_machine_in w__law_machine_in rfl ?_
    refine machine_in_main h0 hw hl (fun r => Rets r (mD m)) (fun m' s g' e' => ?_) fun s hn => absurd ⟨m, gm, e⟩ hn
    rw [un m' m g' gm (e'.symm.trans e)]
    simp [-List.map_map]
  · intro hn
    refine Gv.by M__law_machine_in w__law_machine_in rfl ?_
    exact machine_in_main h0 hw hl (fun r => Rets r .non) (fun m' s g' e' => absurd ⟨m', g', e'⟩ hn) fun s _ => by simp [-List.map_map]
theorem machine_in_c {ws : List Str} {w : Str} (h0 : ws ≠ []) (hw : ∀ x ∈ ws, x.length ≤ 9000) (hl : ws.length ≤ 10000) : ∃ o : Option Mach, (∀ m, o = some m → GoodM m ∧ ws = lineM w m) ∧ (o = none → ¬∃ m, GoodM m ∧ ws = lineM w m) ∧ ∀ s, callD F__law_machine_in.loose [.sh (.lst (ws.map D.str)), .sh (.str w)] s = .ok (.sh (match o with | some m => mD m | none => .non)) s := by
  by_cases h : ∃ m, GoodM m ∧ ws = lineM w m
  · obtain ⟨m, g, e⟩ := h
    exact ⟨some m, (fun m' q => by cases q; exact ⟨g, e⟩), (fun q => nomatch q), fun s => ((machine_in_g h0 hw hl).1 m g e).call⟩
  · exact ⟨none, (fun m' q => nomatch q), (fun _ => h), fun s => ((machine_in_g h0 hw hl).2 h).call⟩
theorem spl_ne (S : List Nat) : ∀ (l : List Nat) (k : Nat) (acc : List Nat), spl S k acc l ≠ []
  | [], k, acc => by rw [spl_nil]; simp [-List.map_map]
  | c :: r, 0, acc => by
    cases h : pre S (c :: r) with
    | true => rw [spl_hit h]; simp [-List.map_map]
    | false => rw [spl_miss h]; exact spl_ne S r 0 _
  | c :: r, k + 1, acc => spl_ne S r k acc
theorem split_ne {x y : Str} {c : Nat} (hy : tl y = [c]) (hk : y.cps.all (· < 256) = true) : Txt.split x y ≠ [] := by
  intro h
  have e := split_spl x y (by rw [hy]; simp [-List.map_map]) (kind_ok hk)
  rw [h] at e
  exact spl_ne _ _ _ _ e.symm
@[simp] theorem isNon_mD {m : Mach} : isNonD (mD m) = false := Eq.trans rfl rfl
@[simp] theorem isNon_non : isNonD .non = true := Eq.trans rfl rfl
theorem rows_of {n : Nat} : ∀ {ws : List Str}, (∀ w ∈ ws, rowOk n (.str w) = true) → ∃ t : List (List Bool), (∀ r ∈ t, r.length = n) ∧ ws = t.map rowS
  | [], _ => ⟨[], by simp [-List.map_map], rfl⟩
  | w :: ws, h => by
    obtain ⟨t, h1, h2⟩ := rows_of fun v hv => h v (List.mem_cons_of_mem _ hv)
    obtain ⟨r, r1, rfl⟩ := rowOk_of (h w List.mem_cons_self)
    refine ⟨r :: t, fun q hq => ?_, by rw [h2]; rfl⟩
    rcases List.mem_cons.mp hq with rfl | hq
    · exact r1
    · exact h1 q hq
theorem law_read_main {x : Str} (hx : x.length ≤ 9000) (G : Res Fl → Prop) (h1 : ∀ p s, Reads x p → G (.ok (.rt (.sh (plD p))) s)) (h2 : ∀ s, (¬∃ p, Reads x p) → G (.ok (.rt (.sh .non)) s)) : G (run0 M__law_read 7 ir__law_read [.str x]) := by
  have c1 : (("\n" : Str).length == 0) = false := rfl
  have c2 : ((" " : Str).length == 0) = false := rfl
  have hc := @split_cnt x "\n" 10 (by decide)
  have h3 : x.length + 2 ≤ 16777216 := by omega
  have hL := len_W (x := x) (by omega)
  simp [-List.map_map, run0, ir__law_read, M__law_read, isiT, mSplit_str ⟨c1, h3⟩]
  rw [comp_m (lns x) D.str (fun l => .lst ((wsp l).map D.str)) (by simp [-List.map_map, mSplit_str ⟨c1, h3⟩, lns]) (by simp [-List.map_map]) (size_le (by unfold lns; omega)) ?_]
  · simp [-List.map_map]
    by_cases c3 : (lns x).length = 3
    · obtain ⟨a, b, c, e⟩ := len3 c3
      have eW : W x = [wsp a, wsp b, wsp c] := by unfold W; rw [e]; rfl
      rw [e]
      rw [e] at hL
      have la := hL a (by simp [-List.map_map])
      have lb := hL b (by simp [-List.map_map])
      have lc := hL c (by simp [-List.map_map])
      have na : wsp a ≠ [] := split_ne (y := " ") (c := 32) (by decide) (by decide +kernel)
      have nb : wsp b ≠ [] := split_ne (y := " ") (c := 32) (by decide) (by decide +kernel)
      have nc : wsp c ≠ [] := split_ne (y := " ") (c := 32) (by decide) (by decide +kernel)
      obtain ⟨og, g1, g2, g3⟩ := machine_in_c (w := "glance") na (fun w hw => la.2.2 w hw) (by omega)
      obtain ⟨oe, e1, e2, e3⟩ := machine_in_c (w := "ear") nb (fun w hw => lb.2.2 w hw) (by omega)
      have no : ∀ {P : Prop}, (∀ p, Good p → wsp a = lineM "glance" p.g → wsp b = lineM "ear" p.e → wsp c = ("says" : Str) :: p.t.map rowS → False) → ¬∃ p, Reads x p := fun h ⟨p, hp⟩ => by
        have := hp.w
        rw [eW] at this
        simp only [rowsOf, List.cons.injEq, and_true] at this
        exact h p hp.good this.1 this.2.1 this.2.2
      obtain ⟨w2, ws2, ec⟩ := List.exists_cons_of_ne_nil nc
      rw [ec] at lc no
      simp [-List.map_map, ec]
      by_cases es : w2 = "says"
      · subst es
        simp [-List.map_map, g3, e3]
        cases og with
        | none =>
          simp [-List.map_map]
          exact h2 _ (no (P := True) fun p gp q1 q2 q3 => g2 rfl ⟨p.g, gp.g, q1⟩)
        | some g =>
          obtain ⟨gg, ga⟩ := g1 g rfl
          simp [-List.map_map]
          cases oe with
          | none =>
            simp [-List.map_map]
            exact h2 _ (no (P := True) fun p gp q1 q2 q3 => e2 rfl ⟨p.e, gp.e, q2⟩)
          | some e' =>
            obtain ⟨ge, eb⟩ := e1 e' rfl
            have un1 : ∀ p : Pl, Good p → wsp a = lineM "glance" p.g → p.g.length = g.length := fun p gp q => by
              rw [ga] at q
              have := congrArg List.length q
              simp [-List.map_map, lineM] at this
              exact this.symm
            have un2 : ∀ p : Pl, Good p → wsp b = lineM "ear" p.e → p.e.length = e'.length := fun p gp q => by
              rw [eb] at q
              have := congrArg List.length q
              simp [-List.map_map, lineM] at this
              exact this.symm
            simp [-List.map_map]
            by_cases c5 : ws2.length = e'.length
            · simp [-List.map_map, c5]
              generalize hS : [some (SV.sh (D.str x)), some (SV.sh (D.lst [D.lst (List.map D.str (wsp a)), D.lst (List.map D.str (wsp b)), D.lst (D.str (Str.ofString "says") :: List.map D.str ws2)])), none, some (SV.sh (mD g)), some (SV.sh (mD e')), none, none] = s0
              generalize hm : forLoop _ _ _ _ = m
              refine for_goal hm ws2 D.str rfl (fun pre s => ∃ (v : Option SV), s = [some (SV.sh (D.str x)), some (SV.sh (D.lst [D.lst (List.map D.str (wsp a)), D.lst (List.map D.str (wsp b)), D.lst (D.str (Str.ofString "says") :: List.map D.str ws2)])), v, some (SV.sh (mD g)), some (SV.sh (mD e')), none, none] ∧ Fr v ∧ ∀ w ∈ pre, rowOk g.length (.str w) = true) (fun r s => r = .sh .non ∧ ∃ w ∈ ws2, rowOk g.length (.str w) = false) ⟨none, hS.symm, .no, by simp [-List.map_map]⟩ ?_ ?_ ?_
              · rintro pre w suf s hp ⟨v, rfl, hv, hall⟩
                have hw : w ∈ ws2 := by rw [hp]; simp [-List.map_map]
                have hwl : w.length ≤ 9000 := lc.2.2 w (List.mem_cons_of_mem _ hw)
                have hw2 : w.length ≤ 16777216 := by omega
                rw [step_var rfl hv]
                simp [-List.map_map, hw2]
                by_cases c7 : w.length = g.length
                · simp [-List.map_map, c7]
                  rw [comp_f w.cps.toList (fun c => .str ⟨#[c]⟩) (fun c => !kindB (.str ⟨#[c]⟩)) (fun c => .str ⟨#[c]⟩) (by simp [-List.map_map]) (by simp [-List.map_map]) (size_le (by
                    have : w.cps.toList.length = w.length := by simp [-List.map_map, Str.length]
                    omega)) ?_]
                  · cases hk : w.cps.toList.all fun c => kindB (.str ⟨#[c]⟩) with
                    | true =>
                      have hf : w.cps.toList.filter (fun c => !kindB (.str ⟨#[c]⟩)) = [] := by
                        rw [List.filter_eq_nil_iff]
                        intro c hc
                        simp [-List.map_map, List.all_eq_true.mp hk c hc]
                      left
                      refine ⟨_, .inl ?_, some (.sh (.str w)), rfl, .sh, fun v hv => ?_⟩
                      · simp [-List.map_map, hf]
                      · rcases hv with hv | hv
                        · exact hall v hv
                        · subst hv; simp only [rowOk, c7, hk]; simp [-List.map_map]
                    | false =>
                      obtain ⟨c, hc, hc2⟩ : ∃ c ∈ w.cps.toList, kindB (.str ⟨#[c]⟩) = false := by
                        obtain ⟨c, hc, hc2⟩ := List.all_eq_false.mp hk
                        exact ⟨c, hc, by simpa [-List.map_map] using hc2⟩
                      have hf : w.cps.toList.filter (fun c => !kindB (.str ⟨#[c]⟩)) ≠ [] := by
                        intro z
                        have := List.filter_eq_nil_iff.mp z c hc
                        simp [-List.map_map, hc2] at this
                      obtain ⟨c', cs, ef⟩ := List.exists_cons_of_ne_nil hf
                      right
                      simp [-List.map_map, ef]
                      exact ⟨w, hw, by simp only [rowOk, hk, Bool.and_false]⟩
                  · intro c hc
                    simp [-List.map_map, turn, kindB]
                · simp [-List.map_map, c7]
                  refine ⟨w, hw, by simp [-List.map_map, rowOk, c7]⟩
              · rintro s rfl ⟨v, rfl, hv, hall⟩
                obtain ⟨t, t1, t2⟩ := rows_of hall
                have gp : Good ⟨g, e', t⟩ := ⟨gg, ge, by
                  show t.length = e'.length
                  rw [← c5, t2, List.length_map], t1⟩
                have eP : D.tup [mD g, mD e', .tup (ws2.map D.str)] = plD ⟨g, e', t⟩ := by
                  rw [t2, List.map_map]; rfl
                simp [-List.map_map]
                rw [eP]
                refine h1 _ _ ⟨gp, ?_⟩
                rw [eW, ga, eb, ec, t2]
                rfl
              · rintro r s rfl ⟨rfl, w, hw, hf⟩
                simp [-List.map_map]
                refine h2 _ (no (P := True) fun p gp q1 q2 q3 => ?_)
                simp [-List.map_map] at q3
                rw [q3] at hw
                obtain ⟨r, hr, rfl⟩ := List.mem_map.mp hw
                rw [← un1 p gp q1, ← gp.r r hr, rowOk_rowS] at hf
                cases hf
            · simp [-List.map_map, c5]
              refine h2 _ (no (P := True) fun p gp q1 q2 q3 => c5 ?_)
              simp [-List.map_map] at q3
              rw [q3, List.length_map, gp.t, un2 p gp q2]
      · simp [-List.map_map, es]
        refine h2 _ (no (P := True) fun p gp q1 q2 q3 => ?_)
        simp [-List.map_map] at q3
        exact es q3.1
    · simp [-List.map_map, c3]
      refine h2 _ ?_
      rintro ⟨p, hp⟩
      have := congrArg List.length hp.w
      simp [-List.map_map, W, rowsOf] at this
      exact c3 this
  · intro l hl
    have h4 : l.length + 2 ≤ 16777216 := by have := (hL l hl).1; omega
    simp [-List.map_map, turn, mSplit_str ⟨c2, h4⟩, wsp]
end AL


set_option Elab.async false
set_option linter.all false
set_option maxRecDepth 100000
set_option maxHeartbeats 1000000
/-! SPM11: bent texts, told errors. -/
namespace AL
open PySem PySem.Spec PyProof.Rows L2 CD TL
theorem law_read_c {x : Str} (hx : x.length ≤ 9000) : ∃ o : Option Pl, (∀ p, o = some p → Reads x p) ∧ (o = none → ¬∃ p, Reads x p) ∧ ∀ s, callD F__law_read.loose [.sh (.str x)] s = .ok (.sh (match o with | some p => plD p | none => .non)) s := by
  have un : ∀ p q, Reads x p → Reads x q → p = q := fun p q hp hq => plD_inj (by rw [← (reads_found hp).1, (reads_found hq).1])
  by_cases h : ∃ p, Reads x p
  · obtain ⟨p, hp⟩ := h
    refine ⟨some p, (fun m' q => by cases q; exact hp), (fun q => nomatch q), fun s => ?_⟩
    have g : Gv F__law_read [.str x] (plD p) := by
      refine Gv.by M__law_read w__law_read rfl ?_
      refine law_read_main hx (fun m => Rets m (plD p)) (fun q s hq => ?_) fun s hn => absurd ⟨p, hp⟩ hn
      rw [un q p hq hp]
      simp [-List.map_map]
    exact g.call
  · refine ⟨none, (fun m' q => nomatch q), (fun _ => h), fun s => ?_⟩
    have g : Gv F__law_read [.str x] .non := by
      refine Gv.by M__law_read w__law_read rfl ?_
      exact law_read_main hx (fun m => Rets m .non) (fun q s hq => absurd ⟨q, hq⟩ h) fun s _ => by simp [-List.map_map]
    exact g.call
def tot (ls : List Str) : Nat := (ls.map (·.length)).sum + ls.length
theorem tot_app {a b : List Str} : tot (a ++ b) = tot a + tot b := by
  unfold tot
  simp only [List.map_append, List.sum_append, List.length_append]
  omega
theorem tot_one {a : Str} : tot [a] = a.length + 1 := by simp [-List.map_map, tot]
theorem tot_rev {a : List Str} : tot a.reverse = tot a := by
  unfold tot
  rw [List.map_reverse, List.sum_reverse, List.length_reverse]
theorem tot_cut {a : List Str} (n : Nat) : tot (a.take n) + tot (a.drop n) = tot a := by rw [← tot_app, List.take_append_drop]
theorem tot_drop {a : List Str} (n : Nat) : tot (a.drop (n + 1)) ≤ tot (a.drop n) := by
  rw [← List.drop_drop]
  have := @tot_cut (a.drop n) 1
  omega
theorem len_le_tot {a : List Str} : a.length ≤ tot a := by unfold tot; omega
theorem join_tot {y : Str} (hy : y.length ≤ 1) {ls : List Str} : (Txt.join y ls).length ≤ tot ls := by
  have := @len_join y ls
  unfold tot
  have : ls.length * y.length ≤ ls.length * 1 := Nat.mul_le_mul_left _ hy
  omega
theorem joinL_tot {c : Nat} : ∀ {ps : List (List Nat)}, ps ≠ [] → (joinL [c] ps).length + 1 = (ps.map List.length).sum + ps.length
  | [], h => absurd rfl h
  | [a], _ => by simp [-List.map_map, joinL]
  | a :: b :: r, _ => by
    have := joinL_tot (c := c) (ps := b :: r) (by simp [-List.map_map])
    show (a ++ ([c] ++ joinL [c] (b :: r))).length + 1 = _
    simp only [List.length_append, List.length_cons, List.length_nil, List.map_cons, List.sum_cons] at this ⊢
    omega
theorem split_tot {x y : Str} {c : Nat} (hy : tl y = [c]) (hk : y.cps.all (· < 256) = true) : tot (Txt.split x y) = x.length + 1 := by
  have e : tl x = joinL (tl y) ((Txt.split x y).map tl) := by rw [← tl_join, ← join_eq, join_sp]
  have h := joinL_tot (c := c) (ps := (Txt.split x y).map tl) (by simpa [-List.map_map] using split_ne hy hk)
  rw [← hy, ← e] at h
  unfold tot
  rw [len_tl, h, List.length_map, List.map_map]
  congr 2
theorem len_cutS {x : Str} {lo hi : Option Int} : (cutS x lo hi).length ≤ x.length := by
  rw [len_tl, len_tl]
  unfold cutS
  show ((x.cps.toList.drop _).take _).length ≤ _
  rw [List.length_take, List.length_drop]
  show _ ≤ x.cps.toList.length
  omega
@[simp] theorem cutL_drop1 {α : Type} {xs : List α} {n : Nat} : cutL xs (some ((n : Int) + 1)) none = xs.drop (n + 1) := cutL_drop (n := n + 1)
theorem mJoin_of {y : Str} {ds : List D} {ys : List Str} {s : S} (h : ds = ys.map D.str) (hy : y.length ≤ 1) (hc : tot ys ≤ 100000) : mJoin (.sh (.str y)) (.sh (.lst ds)) s = .ok (.sh (.str (Txt.join y ys))) s := by
  subst h
  refine mJoin_str ?_
  have : ys.length * y.length ≤ ys.length * 1 := Nat.mul_le_mul_left _ hy
  unfold tot at hc
  omega
theorem bent_g (xs : List Int) (x : Str) (hx : x.length ≤ 4000) : ∃ y ys, y.length ≤ 2 * x.length + 30 ∧ G1 F__law_bent (bagD xs) [.str x] (.str y) (bagD ys) := by
  have key : ∃ d c', (∃ y ys, y.length ≤ 2 * x.length + 30 ∧ d = .str y ∧ c' = bagD ys) ∧ G1 F__law_bent (bagD xs) [.str x] d c' := by
    have c1 : (("\n" : Str).length == 0) = false := rfl
    have h3 : x.length + 2 ≤ 16777216 := by omega
    have h4 : x.length ≤ 16777216 := by omega
    have hne : Txt.split x "\n" ≠ [] := split_ne (y := "\n") (c := 10) (by decide) (by decide +kernel)
    have ht : tot (Txt.split x "\n") = x.length + 1 := split_tot (y := "\n") (c := 10) (by decide) (by decide +kernel)
    have hlen : 0 < (Txt.split x "\n").length := List.length_pos_iff.mpr hne
    have hlt := @len_le_tot (Txt.split x "\n")
    obtain ⟨k, x1, hk, k1, k2⟩ := take_g xs ((x.length : Int) + 1) (by omega)
    obtain ⟨j, x2, hj, j1, j2⟩ := take_g x1 ((Txt.split x "\n").length : Int) (by omega)
    obtain ⟨w, x3, hw, w1, w2⟩ := take_g x2 7 (by omega)
    obtain ⟨d1, hd1, x4, hch⟩ := choice_g x3 [.str " ", .str "0", .str "1", .str "\n", .str "b", .str "3", .str ":"] (by simp [-List.map_map])
    obtain ⟨a1, ha1, rfl⟩ : ∃ a, a.length = 1 ∧ d1 = .str a := by
      simp [-List.map_map] at hd1
      rcases hd1 with rfl | rfl | rfl | rfl | rfl | rfl | rfl <;> exact ⟨_, rfl, rfl⟩
    obtain ⟨d2, hd2, x5, hco⟩ := choice_g x3 [.str "", .str "glance 0:0", .str "ear 0:0", .str "says b", .str "says", .str "glance", .str "ear 0:1 1:0", .str "Says b", .str "ear 00:0", .str "says b w"] (by simp [-List.map_map])
    obtain ⟨a2, ha2, rfl⟩ : ∃ a, a.length ≤ 11 ∧ d2 = .str a := by
      simp [-List.map_map] at hd2
      rcases hd2 with rfl | rfl | rfl | rfl | rfl | rfl | rfl | rfl | rfl | rfl <;> exact ⟨_, by decide +kernel, rfl⟩
    obtain ⟨k, rfl⟩ := Int.eq_ofNat_of_zero_le k1
    obtain ⟨j, rfl⟩ := Int.eq_ofNat_of_zero_le j1
    have hk := @G1.io _ _ _ _ _ hk
    have hj := @G1.io _ _ _ _ _ hj
    have hw := @G1.io _ _ _ _ _ hw
    have hch := @G1.io _ _ _ _ _ hch
    have hco := @G1.io _ _ _ _ _ hco
    simp [-List.map_map] at hk hj hw hch hco
    refine G1.ex M__law_bent w__law_bent rfl fun Ψ hΨ => ?_
    simp [-List.map_map, ir__law_bent, M__law_bent, mSplit_str ⟨c1, h3⟩, h4, hk, hj, hw]
    have cut := @tot_cut (Txt.split x "\n") j
    have dr := @tot_drop (Txt.split x "\n") j
    by_cases q0 : w = 0
    · subst q0
      have l1 := @len_cutS x none (some (k : Int))
      have l2 := @len_cutS x (some (k : Int)) none
      have l3 : (cutS x none (some (k : Int))).length + a1.length ≤ 16777216 := by omega
      have l4 : (cutS x none (some (k : Int))).length + 1 + (cutS x (some (k : Int)) none).length ≤ 16777216 := by omega
      have l5 : (cutS x none (some (k : Int))).length + 1 ≤ 16777216 := by omega
      simp [-List.map_map, h4, hch, ha1, l5, l4]
      exact rets1P (hΨ ▸ ⟨_, x4, by rw [len_app, len_app]; omega, rfl, rfl⟩) rfl
    · by_cases q1 : w = 1
      · subst q1
        have l1 := @len_cutS x none (some (k : Int))
        have l2 := @len_cutS x (some ((k : Int) + 1)) none
        have l4 : (cutS x none (some (k : Int))).length + (cutS x (some ((k : Int) + 1)) none).length ≤ 16777216 := by omega
        simp [-List.map_map, h4, l4]
        exact rets1P (hΨ ▸ ⟨_, x3, by rw [len_app]; omega, rfl, rfl⟩) rfl
      · by_cases q2 : w = 2
        · subst q2
          have t1 : tot ((Txt.split x "\n").take j ++ [a2] ++ (Txt.split x "\n").drop j) ≤ 2 * x.length + 30 := by
            rw [tot_app, tot_app, tot_one]; omega
          have t2 := @len_le_tot ((Txt.split x "\n").take j ++ [a2] ++ (Txt.split x "\n").drop j)
          have e : ((Txt.split x "\n").map D.str).take j ++ D.str a2 :: ((Txt.split x "\n").map D.str).drop j = ((Txt.split x "\n").take j ++ [a2] ++ (Txt.split x "\n").drop j).map D.str := by simp [-List.map_map, List.map_take, List.map_drop]
          have m1 : ∀ s, mJoin (.sh (.str "\n")) (.sh (.lst (((Txt.split x "\n").map D.str).take j ++ D.str a2 :: ((Txt.split x "\n").map D.str).drop j))) s = .ok (.sh (.str (Txt.join "\n" ((Txt.split x "\n").take j ++ [a2] ++ (Txt.split x "\n").drop j)))) s := fun s => mJoin_of e (by decide +kernel) (by omega)
          have b1 : min j (Txt.split x "\n").length + 1 ≤ 16777216 := by omega
          have b2 : min j (Txt.split x "\n").length + 1 + ((Txt.split x "\n").length - j) ≤ 16777216 := by omega
          simp [-List.map_map, hco, b1, b2, m1]
          have := @join_tot "\n" (by decide +kernel) ((Txt.split x "\n").take j ++ [a2] ++ (Txt.split x "\n").drop j)
          exact rets1P (hΨ ▸ ⟨_, x5, by first | omega | (simp [-List.map_map] at this t1 ⊢; omega), rfl, rfl⟩) rfl
        · by_cases q3 : w = 3
          · subst q3
            have t1 : tot ((Txt.split x "\n").take j ++ [a2] ++ (Txt.split x "\n").drop (j + 1)) ≤ 2 * x.length + 30 := by
              rw [tot_app, tot_app, tot_one]; omega
            have e : ((Txt.split x "\n").map D.str).take j ++ D.str a2 :: ((Txt.split x "\n").map D.str).drop (j + 1) = ((Txt.split x "\n").take j ++ [a2] ++ (Txt.split x "\n").drop (j + 1)).map D.str := by simp [-List.map_map, List.map_take, List.map_drop]
            have m1 : ∀ s, mJoin (.sh (.str "\n")) (.sh (.lst (((Txt.split x "\n").map D.str).take j ++ D.str a2 :: ((Txt.split x "\n").map D.str).drop (j + 1)))) s = .ok (.sh (.str (Txt.join "\n" ((Txt.split x "\n").take j ++ [a2] ++ (Txt.split x "\n").drop (j + 1))))) s := fun s => mJoin_of e (by decide +kernel) (by omega)
            have b1 : min j (Txt.split x "\n").length + 1 ≤ 16777216 := by omega
            have b2 : min j (Txt.split x "\n").length + 1 + ((Txt.split x "\n").length - (j + 1)) ≤ 16777216 := by omega
            simp [-List.map_map, hco, b1, b2, m1]
            have := @join_tot "\n" (by decide +kernel) ((Txt.split x "\n").take j ++ [a2] ++ (Txt.split x "\n").drop (j + 1))
            exact rets1P (hΨ ▸ ⟨_, x5, by first | omega | (simp [-List.map_map] at this t1 ⊢; omega), rfl, rfl⟩) rfl
          · by_cases q4 : w = 4
            · subst q4
              have t1 : tot ((Txt.split x "\n").take j ++ (Txt.split x "\n").drop (j + 1)) ≤ 2 * x.length + 30 := by
                rw [tot_app]; omega
              have e : ((Txt.split x "\n").map D.str).take j ++ ((Txt.split x "\n").map D.str).drop (j + 1) = ((Txt.split x "\n").take j ++ (Txt.split x "\n").drop (j + 1)).map D.str := by simp [-List.map_map, List.map_take, List.map_drop]
              have m1 : ∀ s, mJoin (.sh (.str "\n")) (.sh (.lst (((Txt.split x "\n").map D.str).take j ++ ((Txt.split x "\n").map D.str).drop (j + 1)))) s = .ok (.sh (.str (Txt.join "\n" ((Txt.split x "\n").take j ++ (Txt.split x "\n").drop (j + 1))))) s := fun s => mJoin_of e (by decide +kernel) (by omega)
              have b2 : min j (Txt.split x "\n").length + ((Txt.split x "\n").length - (j + 1)) ≤ 16777216 := by omega
              simp [-List.map_map, b2, m1]
              have := @join_tot "\n" (by decide +kernel) ((Txt.split x "\n").take j ++ (Txt.split x "\n").drop (j + 1))
              exact rets1P (hΨ ▸ ⟨_, x3, by first | omega | (simp [-List.map_map] at this t1 ⊢; omega), rfl, rfl⟩) rfl
            · by_cases q5 : w = 5
              · subst q5
                have t1 : tot (Txt.split x "\n").reverse ≤ 2 * x.length + 30 := by
                  rw [tot_rev]; omega
                have e : ((Txt.split x "\n").map D.str).reverse = ((Txt.split x "\n").reverse).map D.str := by simp [-List.map_map, List.map_reverse]
                have m1 : ∀ s, mJoin (.sh (.str "\n")) (.sh (.lst ((Txt.split x "\n").map D.str).reverse)) s = .ok (.sh (.str (Txt.join "\n" (Txt.split x "\n").reverse))) s := fun s => mJoin_of e (by decide +kernel) (by omega)
                simp [-List.map_map, m1]
                have := @join_tot "\n" (by decide +kernel) ((Txt.split x "\n").reverse)
                exact rets1P (hΨ ▸ ⟨_, x3, by omega, rfl, rfl⟩) rfl
              · have hr : (Txt.replace x "0" "1").length ≤ 2 * x.length + 30 := by
                  have e1 : ("0" : Str) = ⟨#[48]⟩ := rfl
                  rw [e1, StrLaws.replace_one, ← join_eq]
                  have h1 := @join_tot "1" (by decide +kernel) (Txt.split x ⟨#[48]⟩)
                  have h2 : tot (Txt.split x ⟨#[48]⟩) = x.length + 1 := split_tot (y := ⟨#[48]⟩) (c := 48) rfl (by decide +kernel)
                  omega
                have hb : x.length + (x.length + 1) * ("1" : Str).length ≤ 16777216 := by
                  have : ("1" : Str).length = 1 := rfl
                  rw [this]; omega
                simp [-List.map_map, q0, q1, q2, q3, q4, q5, replR, hb]
                exact rets1P (hΨ ▸ ⟨_, x3, hr, rfl, rfl⟩) rfl
  obtain ⟨d, c', ⟨y, ys, h1, rfl, rfl⟩, h2⟩ := key
  exact ⟨y, ys, h1, h2⟩
end AL


set_option Elab.async false
set_option linter.all false
set_option maxRecDepth 100000
set_option maxHeartbeats 1000000
/-! SPD: the bags of a script. -/
namespace AL
open PySem PySem.Spec PyProof.Rows L2 CD
theorem pv_runFr {m : List Bool} {n : Nat} {ir : I} {ds : List D} {d : D} {ns : List D} (M : List Nat) (w : wfI M ir = true) (h : (runF m n (pvB M ir)).run ds = .ret (.fr d) ns) : (runF m n (evB ir)).run ds = .ret (.fr d) ns := by
  unfold runF at h ⊢
  dsimp only at h ⊢
  split at h
  · rename_i c
    rw [if_pos c]
    have k := (pv_all M ir w).B (init m ds n) (init m ds n) fun i => .inl ⟨rfl, fun _ d => init_now⟩
    cases e : pvB M ir (init m ds n) with
    | bad => rw [e] at h; cases h
    | exc c t => rw [e] at h; unfold outOf at h; dsimp only at h; split at h <;> cases h
    | ok fl t' =>
      rw [e] at h k
      obtain ⟨fl2, t, e2, he, hfl⟩ := k
      rw [e2]
      have key : ∀ r r', Rr M t r r' → outOf (ioPos m 0) (.ok (.rt r') t') = .ret (.fr d) ns → outOf (ioPos m 0) (.ok (.rt r) t) = .ret (.fr d) ns := fun r r' hr h => by
        unfold outOf at h ⊢
        dsimp only at h ⊢
        rw [ioCs_ag he]
        rcases outR_ag (pos := ioPos m 0) he hr with q | ⟨d', _, q1, q2⟩
        · rw [q]; exact h
        · rw [q2] at h
          cases hc : ioCs t' (ioPos m 0) with
          | none => rw [hc] at h; simp [-List.map_map] at h
          | some ns => rw [hc] at h; simp [-List.map_map] at h
      cases hfl with
      | same fl =>
        cases fl with
        | nx => unfold outOf at h; dsimp only at h; split at h <;> cases h
        | bk => cases h
        | ct => cases h
        | rt r => exact key r r (.hd (.same _)) h
      | rt hr => exact key _ _ hr h
  · cases h
def Bd (n : Nat) (i : Int) : Prop := i.natAbs < 2 ^ n
theorem Bd.mul {a b : Nat} {i j : Int} (h : Bd a i) (k : Bd b j) : Bd (a + b) (i * j) := by
  unfold Bd at *
  rw [Int.natAbs_mul, Nat.pow_add]
  exact Nat.mul_lt_mul'' h k
theorem Bd.add {a b : Nat} {i j : Int} (h : Bd a i) (k : Bd b j) : Bd (a + b + 1) (i + j) := by
  unfold Bd at *
  have h1 := Int.natAbs_add_le i j
  have h2 : 2 ^ a ≤ 2 ^ (a + b) := Nat.pow_le_pow_right (by omega) (by omega)
  have h3 : 2 ^ b ≤ 2 ^ (a + b) := Nat.pow_le_pow_right (by omega) (by omega)
  rw [Nat.pow_succ]
  omega
theorem Bd.log {a : Nat} {i : Int} (h : Bd a i) : i.natAbs.log2 ≤ a := by
  unfold Bd at h
  by_cases z : i.natAbs = 0
  · rw [z]; simp [-List.map_map]
  · have := (Nat.log2_lt z).mpr h
    omega
theorem Bd.ok {a b : Nat} {i j : Int} (h : Bd a i) (k : Bd b j) (hab : a + b < 1000000) : mulOk i j = true := by
  unfold mulOk
  have := h.log
  have := k.log
  simp [-List.map_map]
  omega
theorem Bd.nat {n a : Nat} (h : n < 2 ^ a) : Bd a (n : Int) := by unfold Bd; simpa [-List.map_map] using h
theorem Bd.mod {a : Nat} {i p : Int} (h : 0 < p) (k : p < 2 ^ a) : Bd a (i % p) := by
  unfold Bd
  have h1 := Int.emod_nonneg i (show p ≠ 0 by omega)
  have h2 := Int.emod_lt_of_pos i h
  have h3 : ((2 ^ a : Nat) : Int) = (2 : Int) ^ a := by simp [-List.map_map]
  omega
theorem cell_g (ns : List Int) (k : Nat) (hk : k < 1000) : ∃ c, Gv F__law_cell [.scr ns, .int k] (.int c) := by
  have m1 : mulOk 7919 (k : Int) = true := Bd.ok (a := 13) (b := 10) (by unfold Bd; decide) (Bd.nat (by omega)) (by omega)
  by_cases h : k < ns.length
  · refine ⟨ns[k], Gv.by M__law_cell w__law_cell rfl ?_⟩
    simp [-List.map_map, run0, ir__law_cell, M__law_cell, h]
  · by_cases h0 : ns.length = 0
    · refine ⟨7919 * k + 101, Gv.by M__law_cell w__law_cell rfl ?_⟩
      have : ns = [] := List.eq_nil_of_length_eq_zero h0
      subst this
      simp [-List.map_map, run0, ir__law_cell, M__law_cell, m1]
    · have h1' : (0 : Int) < ns.length := by omega
      have h2 : k % ns.length < ns.length := Nat.mod_lt _ (by omega)
      have e : (k : Int) % (ns.length : Int) = ((k % ns.length : Nat) : Int) := by simp [-List.map_map]
      have h3 : atI ns ((k : Int) % (ns.length : Int)) = some ns[k % ns.length] := by rw [e, atI_nat]; simp [-List.map_map, h2]
      refine ⟨ns[k % ns.length] % 1000003 + 7919 * k, Gv.by M__law_cell w__law_cell rfl ?_⟩
      simp [-List.map_map, run0, ir__law_cell, M__law_cell, m1, h, h0, binD_mod h1', h3]
theorem cell_c (ns : List Int) (k : Nat) (hk : k < 1000) : ∃ c : Int, ∀ s, callD F__law_cell.loose [.sh (.scr ns), .sh (.int k)] s = .ok (.sh (.int c)) s := by
  obtain ⟨c, h⟩ := cell_g ns k hk
  exact ⟨c, fun s => h.call⟩
def primes : List Int := [2147483647, 2147483629, 2147483587, 2147483579, 2147483563, 2147483549, 2147483543, 2147483497]
theorem primes_at (i : Int) : ∃ p : Int, 0 < p ∧ p < 2 ^ 31 ∧ atI [D.int 2147483647, .int 2147483629, .int 2147483587, .int 2147483579, .int 2147483563, .int 2147483549, .int 2147483543, .int 2147483497] (i % 8) = some (.int p) := by
  have h1 := Int.emod_nonneg i (show (8 : Int) ≠ 0 by omega)
  have h2 := Int.emod_lt_of_pos i (show (0 : Int) < 8 by omega)
  obtain ⟨n, e⟩ := Int.eq_ofNat_of_zero_le h1
  rw [e, atI_nat]
  have hn : n < 8 := by omega
  match n, hn with
  | 0, _ => exact ⟨_, by decide, by decide, rfl⟩
  | 1, _ => exact ⟨_, by decide, by decide, rfl⟩
  | 2, _ => exact ⟨_, by decide, by decide, rfl⟩
  | 3, _ => exact ⟨_, by decide, by decide, rfl⟩
  | 4, _ => exact ⟨_, by decide, by decide, rfl⟩
  | 5, _ => exact ⟨_, by decide, by decide, rfl⟩
  | 6, _ => exact ⟨_, by decide, by decide, rfl⟩
  | 7, _ => exact ⟨_, by decide, by decide, rfl⟩
theorem draws_g (ns : List Int) (k : Nat) (hk : k < 1000) : ∃ xs : List Int, F__law_draws.run [.scr ns, .int k, .int 150, .int 27720] = .ret (.fr (bagD xs)) [] := by
  obtain ⟨c, hc⟩ := cell_c ns k hk
  have key : ∃ (xs : List Int) (s : S), pvB M__law_draws ir__law_draws [some (.sh (.scr ns)), some (.sh (.int k)), some (.sh (.int 150)), some (.sh (.int 27720)), none, none, none, none, none, none] = .ok (.rt (.ob 7)) s ∧ s[7]? = some (some (.ow (bagD xs))) := by
    suffices h : ∀ Q : Res Fl → Prop, (∀ (xs : List Int) (s : S), s[7]? = some (some (.ow (bagD xs))) → Q (.ok (.rt (.ob 7)) s)) → Q (pvB M__law_draws ir__law_draws [some (.sh (.scr ns)), some (.sh (.int k)), some (.sh (.int 150)), some (.sh (.int 27720)), none, none, none, none, none, none]) from
      h (fun m => ∃ (xs : List Int) (s : S), m = .ok (.rt (.ob 7)) s ∧ s[7]? = some (some (.ow (bagD xs)))) fun xs s h => ⟨xs, s, rfl, h⟩
    intro Q hQ
    have loop : ∀ (r : Int) (m : Res Fl), forLoop (evG (.var 8)) (pvB [7] (.cons (.set 9 (.bin .Mult (.bin .Mod (.var 5) (.ix (.var 4) (.bin .Mod (.var 8) (.cst (.int 8))))) (.bin .Add (.cst (.int 48271)) (.bin .Mult (.bin .Mult (.cst (.int 2)) (.var 8)) (.var 8))))) (.cons (.set 9 (.bin .Add (.bin .Add (.var 9) (.bin .Mult (.bin .Mult (.cst (.int 7919)) (.bin .Add (.var 8) (.cst (.int 1)))) (.bin .Add (.var 8) (.cst (.int 1))))) (.bin .Mult (.cst (.int 104729)) (.var 1)))) (.cons (.set 9 (.bin .Mod (.var 9) (.ix (.var 4) (.bin .Mod (.bin .Add (.bin .Mult (.cst (.int 3)) (.var 8)) (.var 1)) (.cst (.int 8)))))) (.cons (.set 9 (.bin .Mod (.bin .Mult (.bin .Mult (.var 9) (.var 9)) (.var 9)) (.ix (.var 4) (.bin .Mod (.bin .Add (.var 8) (.cst (.int 5))) (.cst (.int 8)))))) (.cons (.sif (.cmp .Gt (.var 6) (.cst (.int 0))) (.cons (.set 9 (.var 6)) .nil) .nil) (.cons (.expr (.app (.var 7) (.bin .Mod (.var 9) (.var 3)))) (.cons (.set 6 (.bin .FloorDiv (.var 6) (.var 3))) .nil))))))))
        ((List.range 150).map fun k => .int (k : Nat)) [some (.sh (.scr ns)), some (.sh (.int k)), some (.sh (.int 150)), some (.sh (.int 27720)), some (.sh (.tup [D.int 2147483647, .int 2147483629, .int 2147483587, .int 2147483579, .int 2147483563, .int 2147483549, .int 2147483543, .int 2147483497])), some (.sh (.int c)), some (.sh (.int r)), some (.ow (.lst [])), none, none] = m →
        ∃ (xs : List Int) (r' : Int) (a b : Option SV), m = .ok .nx [some (.sh (.scr ns)), some (.sh (.int k)), some (.sh (.int 150)), some (.sh (.int 27720)), some (.sh (.tup [D.int 2147483647, .int 2147483629, .int 2147483587, .int 2147483579, .int 2147483563, .int 2147483549, .int 2147483543, .int 2147483497])), some (.sh (.int c)), some (.sh (.int r')), some (.ow (bagD xs)), a, b] := by
      intro r m hm
      refine for_goal1 hm (List.range 150) _ rfl (fun pre s => ∃ (xs : List Int) (r' : Int) (a b : Option SV), s = [some (.sh (.scr ns)), some (.sh (.int k)), some (.sh (.int 150)), some (.sh (.int 27720)), some (.sh (.tup [D.int 2147483647, .int 2147483629, .int 2147483587, .int 2147483579, .int 2147483563, .int 2147483549, .int 2147483543, .int 2147483497])), some (.sh (.int c)), some (.sh (.int r')), some (.ow (bagD xs)), a, b] ∧ Fr a ∧ Fr b ∧ xs.length = pre.length) ⟨[], r, none, none, rfl, .no, .no, rfl⟩ ?_ ?_
      · rintro pre j suf s hp ⟨xs, r', a, b, rfl, ha, hb, hl⟩
        have hj : j < 150 ∧ pre.length < 150 := by
          have h1 : j ∈ List.range 150 := by rw [hp]; simp [-List.map_map]
          have h2 := congrArg List.length hp
          simp [-List.map_map] at h1 h2
          omega
        obtain ⟨p1, a1, b1, e1⟩ := primes_at j
        obtain ⟨p2, a2, b2, e2⟩ := primes_at (3 * j + k)
        obtain ⟨p3, a3, b3, e3⟩ := primes_at (j + 5)
        have dj : Bd 8 (j : Int) := Bd.nat (by omega)
        have dk : Bd 10 (k : Int) := Bd.nat (by omega)
        have dj1 : Bd 8 ((j : Int) + 1) := by unfold Bd; omega
        have d2 : Bd 2 2 := by unfold Bd; decide
        have mA : mulOk 2 (j : Int) = true := d2.ok dj (by omega)
        have mB : mulOk (2 * (j : Int)) j = true := (d2.mul dj).ok dj (by omega)
        have mC : mulOk (c % p1) (48271 + 2 * (j : Int) * j) = true := (Bd.mod a1 b1).ok ((show Bd 16 48271 by unfold Bd; decide).add ((d2.mul dj).mul dj)) (by omega)
        have mD' : mulOk 7919 ((j : Int) + 1) = true := (show Bd 13 7919 by unfold Bd; decide).ok dj1 (by omega)
        have mE : mulOk (7919 * ((j : Int) + 1)) ((j : Int) + 1) = true := ((show Bd 13 7919 by unfold Bd; decide).mul dj1).ok dj1 (by omega)
        have mF : mulOk 104729 (k : Int) = true := (show Bd 17 104729 by unfold Bd; decide).ok dk (by omega)
        have mG : mulOk 3 (j : Int) = true := (show Bd 2 3 by unfold Bd; decide).ok dj (by omega)
        have mH : ∀ X : Int, mulOk (X % p2) (X % p2) = true := fun X => (Bd.mod a2 b2).ok (Bd.mod a2 b2) (by omega)
        have mI : ∀ X : Int, mulOk ((X % p2) * (X % p2)) (X % p2) = true := fun X => ((Bd.mod a2 b2).mul (Bd.mod a2 b2)).ok (Bd.mod a2 b2) (by omega)
        have hlen : xs.length < sizeLine := by have := size_le (n := xs.length + 1) (by omega); omega
        have h9 : ∀ (d : D) (s : S), s[9]? = some b → setV 9 d s = some (s.set 9 (some (.sh d))) := fun d s h => setV_Fr h hb
        rw [step_var rfl ha]
        have hf : ∀ (i : Int) (s : S), binD .FloorDiv (.sh (.int i)) (.sh (.int 27720)) s = .ok (.sh (.int (i / 27720))) s := fun i s => binD_fdiv ⟨by omega, by decide +kernel⟩
        by_cases hr : 0 < r'
        · refine ⟨_, .inl ?_, xs ++ [r' % 27720], r' / 27720, _, _, rfl, Fr.sh (d := .int j), Fr.sh (d := .int r'), by simp [-List.map_map, hl]⟩
          simp [-List.map_map, e1, e2, e3, a1, a2, a3, mA, mB, mC, mD', mE, mF, mG, mH, mI, h9, hr, gL, isLst, peek, slotD, SV.d, mAppend, ownL, bagD, hlen, exprR, hf]
        · suffices hs : ∃ v : Int, pvB [7] (.cons (.set 9 (.bin .Mult (.bin .Mod (.var 5) (.ix (.var 4) (.bin .Mod (.var 8) (.cst (.int 8))))) (.bin .Add (.cst (.int 48271)) (.bin .Mult (.bin .Mult (.cst (.int 2)) (.var 8)) (.var 8))))) (.cons (.set 9 (.bin .Add (.bin .Add (.var 9) (.bin .Mult (.bin .Mult (.cst (.int 7919)) (.bin .Add (.var 8) (.cst (.int 1)))) (.bin .Add (.var 8) (.cst (.int 1))))) (.bin .Mult (.cst (.int 104729)) (.var 1)))) (.cons (.set 9 (.bin .Mod (.var 9) (.ix (.var 4) (.bin .Mod (.bin .Add (.bin .Mult (.cst (.int 3)) (.var 8)) (.var 1)) (.cst (.int 8)))))) (.cons (.set 9 (.bin .Mod (.bin .Mult (.bin .Mult (.var 9) (.var 9)) (.var 9)) (.ix (.var 4) (.bin .Mod (.bin .Add (.var 8) (.cst (.int 5))) (.cst (.int 8)))))) (.cons (.sif (.cmp .Gt (.var 6) (.cst (.int 0))) (.cons (.set 9 (.var 6)) .nil) .nil) (.cons (.expr (.app (.var 7) (.bin .Mod (.var 9) (.var 3)))) (.cons (.set 6 (.bin .FloorDiv (.var 6) (.var 3))) .nil))))))) [some (.sh (.scr ns)), some (.sh (.int k)), some (.sh (.int 150)), some (.sh (.int 27720)), some (.sh (.tup [D.int 2147483647, .int 2147483629, .int 2147483587, .int 2147483579, .int 2147483563, .int 2147483549, .int 2147483543, .int 2147483497])), some (.sh (.int c)), some (.sh (.int r')), some (.ow (bagD xs)), some (.sh (.int j)), b] =
            .ok .nx [some (.sh (.scr ns)), some (.sh (.int k)), some (.sh (.int 150)), some (.sh (.int 27720)), some (.sh (.tup [D.int 2147483647, .int 2147483629, .int 2147483587, .int 2147483579, .int 2147483563, .int 2147483549, .int 2147483543, .int 2147483497])), some (.sh (.int c)), some (.sh (.int (r' / 27720))), some (.ow (bagD (xs ++ [v % 27720]))), some (.sh (.int j)), some (.sh (.int v))] by
            obtain ⟨v, hs⟩ := hs
            exact ⟨_, .inl hs, xs ++ [v % 27720], r' / 27720, _, _, rfl, Fr.sh (d := .int j), Fr.sh (d := .int v), by simp [-List.map_map, hl]⟩
          refine ⟨((c % p1 * (48271 + 2 * (j : Int) * j) + 7919 * ((j : Int) + 1) * ((j : Int) + 1) + 104729 * (k : Int)) % p2) * ((c % p1 * (48271 + 2 * (j : Int) * j) + 7919 * ((j : Int) + 1) * ((j : Int) + 1) + 104729 * (k : Int)) % p2) * ((c % p1 * (48271 + 2 * (j : Int) * j) + 7919 * ((j : Int) + 1) * ((j : Int) + 1) + 104729 * (k : Int)) % p2) % p3, ?_⟩
          simp [-List.map_map, e1, e2, e3, a1, a2, a3, mA, mB, mC, mD', mE, mF, mG, mH, mI, h9, hr, gL, isLst, peek, slotD, SV.d, mAppend, ownL, bagD, hlen, exprR, hf]
      · rintro s rfl ⟨xs, r', a, b, rfl, _, _, _⟩
        exact ⟨xs, r', a, b, rfl⟩
    simp [-List.map_map, ir__law_draws, M__law_draws, hc, binD, peek]
    cases decide (1000000000000000000 ≤ c) with
    | true =>
      simp [-List.map_map]
      generalize hm : forLoop _ _ _ _ = m
      obtain ⟨xs, r', a, b, rfl⟩ := loop _ _ hm
      simp [-List.map_map]
      exact hQ xs _ rfl
    | false =>
      simp [-List.map_map]
      generalize hm : forLoop _ _ _ _ = m
      obtain ⟨xs, r', a, b, rfl⟩ := loop _ _ hm
      simp [-List.map_map]
      exact hQ xs _ rfl
  obtain ⟨xs, s, h1, h2⟩ := key
  refine ⟨xs, pv_runFr M__law_draws w__law_draws ?_⟩
  have e := runF_sh (n := 10) (ds := [.scr ns, .int k, .int 150, .int 27720]) (f := pvB M__law_draws ir__law_draws)
  refine e.trans ?_
  show outOf [] (pvB M__law_draws ir__law_draws [some (.sh (.scr ns)), some (.sh (.int k)), some (.sh (.int 150)), some (.sh (.int 27720)), none, none, none, none, none, none]) = _
  rw [h1]
  unfold outOf outR
  dsimp only
  rw [h2]
  rfl
theorem bag_g (ns : List Int) (k : Nat) (hk : k < 1000) : ∃ xs : List Int, ∀ s, callD F__law_bag [.sh (.scr ns), .sh (.int k)] s = .ok (.fr (bagD xs)) s := by
  obtain ⟨xs, h⟩ := draws_g ns k hk
  refine ⟨xs, fun s => ?_⟩
  have hc : ∀ s, callD F__law_draws [.sh (.scr ns), .sh (.int k), .sh (.int 150), .sh (.int 27720)] s = .ok (.fr (bagD xs)) s := fun s => by
    have := callD_sh (F := F__law_draws) (s := s) [.scr ns, .int k, .int 150, .int 27720] rfl
    rw [h] at this
    exact this
  have hr : F__law_bag.run [.scr ns, .int k] = .ret (.fr (bagD xs)) [] := by
    have e := runF_sh (n := 2) (ds := [.scr ns, .int k]) (f := evB ir__law_bag)
    refine e.trans ?_
    have e2 : evB ir__law_bag [some (.sh (.scr ns)), some (.sh (.int k))] = .ok (.rt (.fr (bagD xs))) [some (.sh (.scr ns)), some (.sh (.int k))] := by
      simp [-List.map_map, ir__law_bag, evB, evS, evE, evA, seqD, hc, ret1]
    show outOf [] (evB ir__law_bag [some (.sh (.scr ns)), some (.sh (.int k))]) = _
    rw [e2]
    rfl
  have := callD_sh (F := F__law_bag) (s := s) [.scr ns, .int k] rfl
  rw [hr] at this
  exact this
end AL


set_option Elab.async false
set_option linter.all false
set_option maxRecDepth 100000
set_option maxHeartbeats 1000000
/-! LW11: law k11 in plain words. -/
namespace AL
open PySem PySem.Spec PyProof.Rows L2 CD TL
theorem lab_text : labN "InvalidText" = some "text" := by decide +kernel
theorem lab_plan : labN "InvalidPlan" = some "plan" := by decide +kernel
theorem terr_ok {r : R} {s : S} : HX.terrD labN (.ok r s) = .ok (.sh (.str "")) s := rfl
theorem terr_exc {c r : Str} {s : S} (h : labN c = some r) : HX.terrD labN (.exc c s) = .ok (.sh (.str r)) s := by
  unfold HX.terrD
  dsimp only
  rw [h]
theorem told_exc {c r : Str} {s : S} (h : labN c = some r) : HX.toldD labN (.exc c s) = .ok (.sh (.tup [.non, .str r])) s := by
  unfold HX.toldD
  dsimp only
  rw [h]
theorem told_ok {d : D} {s : S} : HX.toldD labN (.ok (.sh d) s) = .ok (.sh (.tup [d, .str ""])) s := rfl
def oneD : D := .tup [.tup [.int 0, .int 0]]
def pairD2 : D := .tup [.tup [.int 1, .int 0], .tup [.int 0, .int 1]]
def badPl : List D := [.non, .tup [oneD, oneD], .tup [oneD, oneD, .lst [.str "b"]], .tup [oneD, oneD, .tup [.str "bb"]], .tup [oneD, oneD, .tup [.str "x"]], .tup [pairD2, oneD, .tup [.str "b"]],
  .tup [.tup [.tup [.int 1, .int 0]], oneD, .tup [.str "b"]], .tup [.tup [.tup [.bl true, .int 0], .tup [.int 0, .int 1]], oneD, .tup [.str "bw"]], .tup [.tup [], oneD, .tup [.str ""]], .tup [oneD, oneD, .tup []]]
theorem bad_g : Gv F__law_bad_plans [] (.lst badPl) := by
  refine Gv.by M__law_bad_plans w__law_bad_plans rfl ?_
  simp [-List.map_map, run0, ir__law_bad_plans, M__law_bad_plans, badPl, oneD, pairD2]
theorem bad_c {s : S} : callD F__law_bad_plans.loose [] s = .ok (.sh (.lst badPl)) s := bad_g.call
theorem bad_no : ∀ d ∈ badPl, d.plain = true ∧ tabS d ∧ planB d = false := by
  have key : ∀ d ∈ badPl, (d.plain = true ∧ planB d = false) := by decide +kernel
  intro d hd
  refine ⟨(key d hd).1, ?_, (key d hd).2⟩
  simp only [badPl, List.mem_cons, List.not_mem_nil, or_false] at hd
  rcases hd with rfl | rfl | rfl | rfl | rfl | rfl | rfl | rfl | rfl | rfl
  all_goals first
    | trivial
    | (intro x hx; simp [-List.map_map] at hx; done)
    | (intro x hx; simp [-List.map_map] at hx; rw [hx]; decide +kernel)
theorem plan_text_bad {d : D} (h : d ∈ badPl) : Gx F_plan_text [d] "InvalidPlan" := by
  obtain ⟨h1, h2, h3⟩ := bad_no d h
  have hx := @Gx.call _ _ _ [some (.sh d)] (need_plan_x h1 h2 h3)
  simp [-List.map_map] at hx
  refine Gx.by M_plan_text w_plan_text rfl ?_
  simp [-List.map_map, run0, ir_plan_text, hx]
/-- all are refused -/
theorem refused_g {x name c : Str} {F : Fs} {odds : List D} (ht : tabV_k11 x = some F) (hl : labN c = some name) (hs : odds.length ≤ 100) (h : ∀ d ∈ odds, Gx F [d] c) : Gv F__law_all_refused_k11 [.fn x, .lst odds, .str name] (.bl true) := by
  refine Gv.by M__law_all_refused_k11 w__law_all_refused_k11 rfl ?_
  simp [-List.map_map, run0, ir__law_all_refused_k11, M__law_all_refused_k11]
  rw [comp_f odds id (fun _ => false) id (by simp [-List.map_map]) (by simp [-List.map_map]) (size_le (by omega)) ?_]
  · have hf : odds.filter (fun _ => false) = [] := List.filter_eq_nil_iff.mpr (by simp [-List.map_map])
    simp [-List.map_map, hf]
  · intro d hd
    have hx := @Gx.call _ _ _ [some (.sh (.fn x)), some (.sh (.lst odds)), some (.sh (.str name)), some (.sh d)] (h d hd)
    simp [-List.map_map] at hx
    simp [-List.map_map, turn, HX.callVD, ht, hx, terr_exc hl]
theorem refused_c {x name c : Str} {F : Fs} {odds : List D} (ht : tabV_k11 x = some F) (hl : labN c = some name) (hs : odds.length ≤ 100) (h : ∀ d ∈ odds, Gx F [d] c) {s : S} : callD F__law_all_refused_k11.loose [.sh (.fn x), .sh (.lst odds), .sh (.str name)] s = .ok (.sh (.bl true)) s := (refused_g ht hl hs h).call
/-- no plan is read from a text with these words -/
theorem no_reads {x : Str} (h : ∀ p, Good p → W x ≠ rowsOf p) : ¬∃ p, Reads x p := fun ⟨p, hp⟩ => h p hp.good hp.w
theorem no_len {x : Str} (h : (W x).length ≠ 3) : ¬∃ p, Reads x p := no_reads fun p _ e => h (by rw [e]; rfl)
theorem text_nl {p : Pl} (hp : Good p) : ¬∃ q, Reads (textOf p ++ "\n") q := by
  have e : textOf p ++ "\n" = Txt.join "\n" (((rowsOf p) ++ [[("" : Str)]]).map (Txt.join " ")) := by
    apply ext_tl
    unfold textOf
    rw [tl_append, join_eq, join_eq, tl_join, tl_join]
    simp [-List.map_map, rowsOf, joinL]
    rfl
  refine no_len ?_
  rw [e, W_join (by simp [-List.map_map]) ?_]
  · simp [-List.map_map, rowsOf]
  · intro l hl
    rcases List.mem_append.mp hl with hl | hl
    · exact rows_free hp l hl
    · simp [-List.map_map] at hl
      subst hl
      exact ⟨by simp [-List.map_map], fun w hw => by simp [-List.map_map] at hw; subst hw; exact ⟨by decide, by decide⟩⟩
theorem text_sp {p : Pl} (hp : Good p) : ¬∃ q, Reads (" " ++ textOf p) q := by
  have e : " " ++ textOf p = Txt.join "\n" ([("" : Str) :: lineM "glance" p.g, lineM "ear" p.e, ("says" : Str) :: p.t.map rowS].map (Txt.join " ")) := by
    apply ext_tl
    unfold textOf
    rw [tl_append, join_eq, join_eq, tl_join, tl_join]
    simp only [rowsOf, List.map_cons, List.map_nil, joinL]
    rw [join_eq " " (("" : Str) :: _), tl_join]
    simp only [lineM, List.map_cons, joinL, join_eq, tl_join]
    simp [-List.map_map]
    rfl
  refine no_reads fun q gq => ?_
  rw [e, W_join (by simp [-List.map_map]) ?_]
  · intro h
    simp [-List.map_map, rowsOf, lineM] at h
    exact absurd h.1.1 (by decide +kernel)
  · intro l hl
    simp only [List.mem_cons, List.not_mem_nil, or_false] at hl
    have h1 := rows_free hp (lineM "glance" p.g) (by simp [-List.map_map, rowsOf])
    rcases hl with rfl | rfl | rfl
    · exact ⟨by simp [-List.map_map], fun w hw => by
        rcases List.mem_cons.mp hw with rfl | hw
        · exact ⟨by decide, by decide⟩
        · exact h1.2 w hw⟩
    · exact rows_free hp _ (by simp [-List.map_map, rowsOf])
    · exact rows_free hp _ (by simp [-List.map_map, rowsOf])
theorem text_es {p : Pl} (hp : Good p) : ¬∃ q, Reads (textOf p ++ " ") q := by
  have e : textOf p ++ " " = Txt.join "\n" ([lineM "glance" p.g, lineM "ear" p.e, (("says" : Str) :: p.t.map rowS) ++ [("" : Str)]].map (Txt.join " ")) := by
    have jl : ∀ l : List Str, l ≠ [] → tl (Txt.join " " (l ++ [("" : Str)])) = tl (Txt.join " " l) ++ [32] := by
      intro l hl
      rw [join_eq, join_eq, tl_join, tl_join]
      induction l with
      | nil => exact absurd rfl hl
      | cons a r ih =>
        cases r with
        | nil => rfl
        | cons b r =>
          have := ih (by simp [-List.map_map])
          simp only [List.cons_append, List.map_cons, joinL] at this ⊢
          rw [this]
          simp [-List.map_map]
    apply ext_tl
    unfold textOf
    rw [tl_append, join_eq, join_eq, tl_join, tl_join]
    simp only [rowsOf, List.map_cons, List.map_nil, joinL]
    rw [jl _ (by simp [-List.map_map])]
    simp [-List.map_map]
    rfl
  refine no_reads fun q gq => ?_
  rw [e, W_join (by simp [-List.map_map]) ?_]
  · intro h
    simp [-List.map_map, rowsOf] at h
    have h3 := h.2.2
    have hm : ("" : Str) ∈ q.t.map rowS := by rw [← h3]; simp [-List.map_map]
    obtain ⟨r, hr, e2⟩ := List.mem_map.mp hm
    have h4 := gq.r r hr
    have h5 := gq.g.1
    have h6 := congrArg Str.length e2
    rw [len_rowS, h4] at h6
    have h7 : ("" : Str).length = 0 := rfl
    omega
  · intro l hl
    simp only [List.mem_cons, List.not_mem_nil, or_false] at hl
    have h1 := rows_free hp (("says" : Str) :: p.t.map rowS) (by simp [-List.map_map, rowsOf])
    rcases hl with rfl | rfl | rfl
    · exact rows_free hp _ (by simp [-List.map_map, rowsOf])
    · exact rows_free hp _ (by simp [-List.map_map, rowsOf])
    · exact ⟨by simp [-List.map_map], fun w hw => by
        rcases List.mem_append.mp hw with hw | hw
        · exact h1.2 w hw
        · simp [-List.map_map] at hw; subst hw; exact ⟨by decide, by decide⟩⟩
end AL


set_option Elab.async false
set_option linter.all false
set_option maxRecDepth 100000
set_option maxHeartbeats 2000000
/-! LX11: law k11, its run in plain words. -/
namespace AL
open PySem PySem.Spec PyProof.Rows L2 CD TL
theorem prD_eq : EqOk prD := fun a b => by
  simp [-List.map_map, prD]
  exact ⟨fun h => Prod.ext h.1 h.2, fun h => by rw [h]; exact ⟨rfl, rfl⟩⟩
theorem rowD_eq : EqOk (fun r : List Bool => D.str (rowS r)) := fun a b => by
  simp [-List.map_map]
  constructor
  · intro h
    have e2 : a.map kc = b.map kc := congrArg tl h
    exact (List.map_inj_right (fun x y q => by cases x <;> cases y <;> first | rfl | cases q)).mp e2
  · intro h; rw [h]
theorem mD_eq : EqOk mD := fun a b => by
  unfold mD
  rw [eqv_tup, eqvL_map prD_eq]
theorem plD_eq : EqOk plD := fun a b => by
  unfold plD
  rw [eqv_tup]
  simp only [eqvL_cons, eqvL_nil, Bool.and_eq_true, and_true]
  rw [mD_eq, mD_eq]
  unfold tD
  rw [eqv_tup, eqvL_map rowD_eq]
  cases a; cases b
  simp [-List.map_map]
theorem okN_prD {n : Nat} {p : Nat × Nat} : okN (n + 1) (prD p) = true := by simp [-List.map_map, prD]
theorem okN_mD {n : Nat} {m : Mach} : okN (n + 2) (mD m) = true := by
  unfold mD
  simp [-List.map_map, okN_prD]
theorem okN_tD {n : Nat} {t : List (List Bool)} : okN (n + 1) (tD t) = true := by
  unfold tD
  simp [-List.map_map]
theorem okN_plD {n : Nat} {p : Pl} : okN (n + 3) (plD p) = true := by
  unfold plD
  simp [-List.map_map, okN_mD, okN_tD]
theorem okE_plD {p : Pl} : (plD p).okE = true := by
  unfold plD
  rw [okE_tup]
  simp [-List.map_map, okN_mD (n := 61), okN_tD (n := 62)]
theorem chk_no {x : Str} (h : (planB (found (W x)) && decide ((W x).map List.head? = [some ("glance" : Str), some "ear", some "says"])) = false) : ¬∃ p, Reads x p := by
  rintro ⟨p, hp⟩
  rw [(reads_found hp).1, planB_plD hp.good, hp.w] at h
  simp [-List.map_map, rowsOf, lineM] at h
theorem read_no {x : Str} (hx : x.length ≤ 9000) (h : ¬∃ p, Reads x p) : Gx F_read_plan [.str x] "InvalidText" := (read_g hx).2 h
theorem odds1 {p : Pl} (hp : Good p) : ∀ d ∈ [D.non, .int 5, .lst [.str "glance 0:0"], .bl true, .str "", .str "\n\n", .str (textOf p ++ "\n"), .str (" " ++ textOf p), .str (textOf p ++ " ")], Gx F_read_plan [d] "InvalidText" := by
  have hl := text_len hp
  have e1 : ("\n" : Str).length = 1 := rfl
  have e2 : (" " : Str).length = 1 := rfl
  intro d hd
  simp only [List.mem_cons, List.not_mem_nil, or_false] at hd
  rcases hd with rfl | rfl | rfl | rfl | rfl | rfl | rfl | rfl | rfl
  · exact read_odd rfl (fun x h => nomatch h)
  · exact read_odd rfl (fun x h => nomatch h)
  · exact read_odd rfl (fun x h => nomatch h)
  · exact read_odd rfl (fun x h => nomatch h)
  · exact read_no (by decide +kernel) (chk_no (by decide +kernel))
  · exact read_no (by decide +kernel) (chk_no (by decide +kernel))
  · exact read_no (by rw [len_app]; omega) (text_nl hp)
  · exact read_no (by rw [len_app]; omega) (text_sp hp)
  · exact read_no (by rw [len_app]; omega) (text_es hp)
def odds2 : List D := [.str "glance 0:0\near 0:0\nsays", .str "glance 0:1\near 0:0\nsays b", .str "glance 0:0\near 0:0\nsays bw", .str "glance 0:0\near 0:0\nsays B", .str "ear 0:0\nglance 0:0\nsays b", .str "glance 00:0\near 0:0\nsays b", .str "glance 0:0:0\near 0:0\nsays b", .str "glance\near 0:0\nsays "]
theorem odds2_no : ∀ d ∈ odds2, Gx F_read_plan [d] "InvalidText" := by
  intro d hd
  simp only [odds2, List.mem_cons, List.not_mem_nil, or_false] at hd
  rcases hd with rfl | rfl | rfl | rfl | rfl | rfl | rfl | rfl <;> exact read_no (by decide +kernel) (chk_no (by decide +kernel))
def dueP : Pl := ⟨[(1, 0), (0, 1)], [(0, 0)], [[true, false]]⟩
theorem dueP_good : Good dueP := ⟨⟨by decide, by decide, by decide⟩, ⟨by decide, by decide, by decide⟩, by decide, by decide⟩
theorem dueP_text : textOf dueP = "glance 1:0 0:1\near 0:0\nsays wb" := by decide +kernel
theorem read_text_c {p : Pl} {s : S} (hp : Good p) : callD F_read_plan.loose [.sh (.str (textOf p))] s = .ok (.sh (plD p)) s := ((read_g (by have := text_len hp; omega)).1 p (reads_text hp)).call
/-- what a bent text is told -/
theorem told_same {x : Str} (hx : x.length ≤ 9000) : ∃ d : D, (∀ s, callD F__law_read.loose [.sh (.str x)] s = .ok (.sh d) s) ∧ (∀ s, HX.toldD labN (callD F_read_plan.loose [.sh (.str x)] s) = .ok (.sh (cond (isNonD d) (.tup [.non, .str "text"]) (.tup [d, .str ""]))) s) ∧ (∀ s, cmpD .NotEq (.sh (cond (isNonD d) (.tup [.non, .str "text"]) (.tup [d, .str ""]))) (.sh (cond (isNonD d) (.tup [.non, .str "text"]) (.tup [d, .str ""]))) s = .ok (.sh (.bl false)) s) := by
  obtain ⟨o, h1, h2, h3⟩ := law_read_c hx
  cases o with
  | none =>
    refine ⟨.non, h3, fun s => ?_, fun s => by simp [-List.map_map]⟩
    have := @Gx.call _ _ _ s ((read_g hx).2 (h2 rfl))
    simp [-List.map_map] at this
    rw [this, told_exc lab_text]
    rfl
  | some p =>
    refine ⟨plD p, h3, fun s => ?_, fun s => ?_⟩
    case refine_2 =>
      have h0 : isNonD (plD p) = false := rfl
      simp [-List.map_map, h0, okN_plD (n := 60), (plD_eq p p).mpr rfl]
    have := @Gv.call _ _ _ s ((read_g hx).1 p (h1 p rfl))
    simp [-List.map_map] at this
    rw [this, told_ok]
    rfl
theorem for_goalN {α : Type} {G : Prop} {tgt : D → S → Option S} {body : S → Res Fl} {s : S} {ds : List D} {m : Res Fl} (hm : forLoop tgt body ds s = m) (l : List α) (e : α → D) (hd : ds = l.map e) (P : List α → S → Prop) (h0 : P [] s)
    (h : ∀ pre x suf t, l = pre ++ x :: suf → P pre t → ∃ t2, step tgt body (e x) t = .ok .nx t2 ∧ P (pre ++ [x]) t2)
    (h1 : ∀ t, m = .ok .nx t → P l t → G) : G := for_goal1 hm l e hd P h0 (fun pre x suf t a b => by
  obtain ⟨t2, q1, q2⟩ := h pre x suf t a b
  exact ⟨t2, .inl q1, q2⟩) h1
def FrB (a : Option SV) : Prop := a = none ∨ (∃ d, a = some (.sh d)) ∨ ∃ d, a = some (.ow d)
theorem setR_FrB {s : S} {i : Nat} {d : D} {a : Option SV} (h : s[i]? = some a) (ha : FrB a) : setR i (.fr d) s = .ok .nx (s.set i (some (.ow d))) := by
  rcases ha with rfl | ⟨e, rfl⟩ | ⟨e, rfl⟩
  · exact setR_fr3 h
  · exact setR_fr1 h
  · exact setR_fr2 h
theorem law_run (ns : List Int) : Gv F_law_k11 [.scr ns] (.bl true) := by
  refine Gv.by M_law_k11 w_law_k11 rfl ?_
  simp [-List.map_map, run0, ir_law_k11, M_law_k11]
  generalize hm : forLoop _ _ _ _ = m
  refine for_goalN hm (List.range 8) (fun k => .int (k : Nat)) rfl (fun pre s => ∃ a1 a3 a4 a5 a6 a7 a8 a9, s = [some (.sh (.scr ns)), a1, none, a3, a4, a5, a6, a7, a8, a9] ∧ Fr a1 ∧ Fr a3 ∧ FrB a4 ∧ Fr a5 ∧ Fr a6 ∧ Fr a7 ∧ Fr a8 ∧ Fr a9) ⟨none, none, none, none, none, none, none, none, rfl, .no, .no, .inl rfl, .no, .no, .no, .no, .no⟩ ?_ ?_
  · rintro pre k suf s hp ⟨a1, a3, a4, a5, a6, a7, a8, a9, rfl, f1, f3, f4, f5, f6, f7, f8, f9⟩
    have hk : k < 1000 := by
      have h1 : k ∈ List.range 8 := by rw [hp]; simp [-List.map_map]
      simp [-List.map_map] at h1
      omega
    obtain ⟨xs, hbag⟩ := bag_g ns k hk
    obtain ⟨p, ys, gp, hpl⟩ := plan_g xs
    have hpl := @G1.ow _ _ _ _ _ hpl
    simp [-List.map_map] at hpl
    have r4 : ∀ (d : D) (s : S), s[4]? = some a4 → setR 4 (.fr d) s = .ok .nx (s.set 4 (some (.ow d))) := fun d s h => setR_FrB h f4
    have v5 : ∀ (d : D) (s : S), s[5]? = some a5 → setV 5 d s = some (s.set 5 (some (.sh d))) := fun d s h => setV_Fr h f5
    have v6 : ∀ (d : D) (s : S), s[6]? = some a6 → setV 6 d s = some (s.set 6 (some (.sh d))) := fun d s h => setV_Fr h f6
    rw [step_var rfl f1]
    simp [-List.map_map, hbag, r4, v5, v6, hpl, law_text_c gp, plan_text_c gp, read_text_c gp, okE_plD, (plD_eq p p).mpr rfl]
    generalize hm2 : forLoop _ _ _ _ = m2
    refine for_goalN hm2 (List.range 6) (fun k => .int (k : Nat)) rfl (fun pre s => ∃ a3 xs a7 a9, s = [some (.sh (.scr ns)), some (.sh (.int k)), none, a3, some (.ow (bagD xs)), some (.sh (plD p)), some (.sh (.str (textOf p))), a7, a8, a9] ∧ Fr a3 ∧ Fr a7 ∧ Fr a9) ⟨a3, ys, a7, a9, rfl, f3, f7, f9⟩ ?_ ?_
    · rintro pre2 j suf2 s hp2 ⟨b3, zs, b7, b9, rfl, g3, g7, g9⟩
      have tl := text_len gp
      obtain ⟨x1, z1, l1, h1⟩ := bent_g zs (textOf p) (by omega)
      obtain ⟨x2, z2, l2, h2⟩ := bent_g z1 x1 (by omega)
      have h1 := @G1.ow _ _ _ _ _ h1
      have h2 := @G1.ow _ _ _ _ _ h2
      simp [-List.map_map] at h1 h2
      have v9 : ∀ (d : D) (s : S), s[9]? = some b9 → setV 9 d s = some (s.set 9 (some (.sh d))) := fun d s h => setV_Fr h g9
      have v3 : ∀ (d : D) (s : S), s[3]? = some b3 → setV 3 d s = some (s.set 3 (some (.sh d))) := fun d s h => setV_Fr h g3
      obtain ⟨d1, d11, d12, d13⟩ := told_same (x := x1) (by omega)
      obtain ⟨d2, d21, d22, d23⟩ := told_same (x := x2) (by omega)
      rw [step_var rfl g7]
      by_cases c : j < 3
      · simp [-List.map_map, c, h1, v9, v3, d11, d12, d13]
        exact ⟨_, z1, _, _, ⟨rfl, rfl, rfl, rfl⟩, .sh, .sh, .sh⟩
      · simp [-List.map_map, c, h1, h2, v9, v3, d21, d22, d23]
        exact ⟨_, z2, _, _, ⟨rfl, rfl, rfl, rfl⟩, .sh, .sh, .sh⟩
    · rintro s rfl ⟨b3, zs, b7, b9, rfl, g3, g7, g9⟩
      have tl := text_len gp
      have l1 : (textOf p).length + 1 ≤ 16777216 := by omega
      have l2 : 1 + (textOf p).length ≤ 16777216 := by omega
      have e1 : ("\n" : Str).length = 1 := rfl
      have e2 : (" " : Str).length = 1 := rfl
      simp [-List.map_map, e1, e2, l1, l2]
      generalize hm3 : forLoop _ _ _ _ = m3
      refine for_goalN hm3 [D.non, .int 5, .lst [.str "glance 0:0"], .bl true, .str "", .str "\n\n", .str (textOf p ++ "\n"), .str (" " ++ textOf p), .str (textOf p ++ " ")] id (by simp [-List.map_map]) (fun pre s => ∃ a8, s = [some (.sh (.scr ns)), some (.sh (.int k)), none, b3, some (.ow (bagD zs)), some (.sh (plD p)), some (.sh (.str (textOf p))), b7, a8, b9] ∧ Fr a8) ⟨a8, rfl, f8⟩ ?_ ?_
      · rintro pre3 d suf3 s hp3 ⟨c8, rfl, k8⟩
        have hx := odds1 gp d (by rw [hp3]; simp [-List.map_map])
        rw [id, step_var rfl k8]
        have hc := fun s => @Gx.call _ _ _ s hx
        simp [-List.map_map] at hc
        simp [-List.map_map, hc, terr_exc lab_text]
        exact .sh
      · rintro s rfl ⟨c8, rfl, k8⟩
        have hr := fun s => @refused_c "plan_text" "plan" "InvalidPlan" F_plan_text badPl (by unfold tabV_k11; rw [if_neg (by decide +kernel), if_pos rfl]) lab_plan (by decide +kernel) (fun d hd => plan_text_bad hd) s
        simp [-List.map_map, bad_c, hr]
        exact ⟨_, _, _, _, _, _, _, _, ⟨rfl, rfl, rfl, rfl, rfl, rfl, rfl, rfl⟩, .sh, g3, .inr (.inr ⟨_, rfl⟩), .sh, .sh, g7, k8, g9⟩
  · rintro s rfl ⟨a1, a3, a4, a5, a6, a7, a8, a9, rfl, f1, f3, f4, f5, f6, f7, f8, f9⟩
    have hr := fun s => @refused_c "read_plan" "text" "InvalidText" F_read_plan odds2 (by unfold tabV_k11; rw [if_pos rfl]) lab_text (by decide +kernel) odds2_no s
    have v3 : ∀ (d : D) (s : S), s[3]? = some a3 → setV 3 d s = some (s.set 3 (some (.sh d))) := fun d s h => setV_Fr h f3
    have hpt := fun s => plan_text_c (s := s) dueP_good
    have hrt := fun s => read_text_c (s := s) dueP_good
    rw [dueP_text] at hpt hrt
    have eD : D.tup [.tup [.tup [.int 1, .int 0], .tup [.int 0, .int 1]], .tup [.tup [.int 0, .int 0]], .tup [.str "wb"]] = plD dueP := rfl
    rw [← eD] at hpt hrt
    simp only [odds2] at hr
    simp [-List.map_map, hr, v3, hpt, hrt, told_ok]
end AL
namespace AL
open PySem PySem.Spec PyProof.Rows L2 CD
theorem run_true {F : Fs} {ds : List D} (h : Gv F ds (.bl true)) : F.run ds = .ret (.sh (.bl true)) [] := by
  have h2 := h.2
  cases e : F.run ds with
  | bad => rw [e] at h2; cases h2
  | exc c ns => rw [e] at h2; cases h2
  | ret r ns =>
    rw [e] at h2
    cases r with
    | sh d => exact h2
    | io k => cases h2
    | fr d =>
      unfold Out.loose at h2
      dsimp only at h2
      split at h2
      · rename_i c; cases h2; cases c
      · cases h2
theorem law_run_k11 (ns : List Int) (_ : ns.length ≤ 63) (_ : ∀ z ∈ ns, Builtin.Int.intBits z ≤ 1048576) : Gv F_law_k11 [.scr ns] (.bl true) := law_run ns
end AL


set_option Elab.async false
set_option linter.all false
set_option maxRecDepth 100000
set_option maxHeartbeats 0
namespace K11
open PySem PySem.Spec PyProof.Rows L2
def top (i : Nat) : Stmt := PySem.Challenge.pw_anyline_k11_texts_of_plans.main.body.getD i (.Pass ⟨0, 0, 0, 0⟩)
def d_is_whole : He.DefD := ⟨("is_whole", none), "is_whole", "is_whole", defArgs (top 16), defBody (top 16), defScope (top 16), [], []⟩
def d_is_row : He.DefD := ⟨("is_row", none), "is_row", "is_row", defArgs (top 17), defBody (top 17), defScope (top 17), [], []⟩
def d_is_kind : He.DefD := ⟨("is_kind", none), "is_kind", "is_kind", defArgs (top 18), defBody (top 18), defScope (top 18), [], []⟩
def d_is_machine : He.DefD := ⟨("is_machine", none), "is_machine", "is_machine", defArgs (top 19), defBody (top 19), defScope (top 19), [], []⟩
def d_fits_plan : He.DefD := ⟨("fits_plan", none), "fits_plan", "fits_plan", defArgs (top 20), defBody (top 20), defScope (top 20), [], []⟩
def d_need_plan : He.DefD := ⟨("need_plan", none), "need_plan", "need_plan", defArgs (top 21), defBody (top 21), defScope (top 21), [], []⟩
def d_as_text : He.DefD := ⟨("as_text", none), "as_text", "as_text", defArgs (top 23), defBody (top 23), defScope (top 23), [], []⟩
def d_plan_text : He.DefD := ⟨("plan_text", none), "plan_text", "plan_text", defArgs (top 24), defBody (top 24), defScope (top 24), [], []⟩
def d_pair_in : He.DefD := ⟨("pair_in", none), "pair_in", "pair_in", defArgs (top 25), defBody (top 25), defScope (top 25), [], []⟩
def d_text_in : He.DefD := ⟨("text_in", none), "text_in", "text_in", defArgs (top 26), defBody (top 26), defScope (top 26), [], []⟩
def d_read_plan : He.DefD := ⟨("read_plan", none), "read_plan", "read_plan", defArgs (top 27), defBody (top 27), defScope (top 27), [], []⟩
def d__law_cell : He.DefD := ⟨("_law_cell", none), "_law_cell", "_law_cell", defArgs (top 29), defBody (top 29), defScope (top 29), [], []⟩
def d__law_draws : He.DefD := ⟨("_law_draws", none), "_law_draws", "_law_draws", defArgs (top 30), defBody (top 30), defScope (top 30), [], []⟩
def d__law_bag : He.DefD := ⟨("_law_bag", none), "_law_bag", "_law_bag", defArgs (top 31), defBody (top 31), defScope (top 31), [], []⟩
def d__law_take : He.DefD := ⟨("_law_take", none), "_law_take", "_law_take", defArgs (top 32), defBody (top 32), defScope (top 32), [], []⟩
def d__law_choice : He.DefD := ⟨("_law_choice", none), "_law_choice", "_law_choice", defArgs (top 33), defBody (top 33), defScope (top 33), [], []⟩
def d__law_known : He.DefD := ⟨("_law_known", none), "_law_known", "_law_known", defArgs (top 34), defBody (top 34), defScope (top 34), [], []⟩
def d__law_machine : He.DefD := ⟨("_law_machine", none), "_law_machine", "_law_machine", defArgs (top 35), defBody (top 35), defScope (top 35), [], []⟩
def d__law_strings : He.DefD := ⟨("_law_strings", none), "_law_strings", "_law_strings", defArgs (top 36), defBody (top 36), defScope (top 36), [], []⟩
def d__law_plan : He.DefD := ⟨("_law_plan", none), "_law_plan", "_law_plan", defArgs (top 37), defBody (top 37), defScope (top 37), [], []⟩
def d__law_named_error : He.DefD := ⟨("_law_named_error", none), "_law_named_error", "_law_named_error", defArgs (top 38), defBody (top 38), defScope (top 38), [], []⟩
def d__law_error : He.DefD := ⟨("_law_error", none), "_law_error", "_law_error", defArgs (top 39), defBody (top 39), defScope (top 39), [], []⟩
def d__law_told : He.DefD := ⟨("_law_told", none), "_law_told", "_law_told", defArgs (top 40), defBody (top 40), defScope (top 40), [], []⟩
def d__law_all_refused : He.DefD := ⟨("_law_all_refused", none), "_law_all_refused", "_law_all_refused", defArgs (top 41), defBody (top 41), defScope (top 41), [], []⟩
def d__law_bad_plans : He.DefD := ⟨("_law_bad_plans", none), "_law_bad_plans", "_law_bad_plans", defArgs (top 42), defBody (top 42), defScope (top 42), [], []⟩
def d__law_text : He.DefD := ⟨("_law_text", none), "_law_text", "_law_text", defArgs (top 43), defBody (top 43), defScope (top 43), [], []⟩
def d__law_machine_in : He.DefD := ⟨("_law_machine_in", none), "_law_machine_in", "_law_machine_in", defArgs (top 44), defBody (top 44), defScope (top 44), [], []⟩
def d__law_read : He.DefD := ⟨("_law_read", none), "_law_read", "_law_read", defArgs (top 45), defBody (top 45), defScope (top 45), [], []⟩
def d__law_bent : He.DefD := ⟨("_law_bent", none), "_law_bent", "_law_bent", defArgs (top 46), defBody (top 46), defScope (top 46), [], []⟩
def d_law : He.DefD := ⟨("law", none), "law", "law", defArgs (top 47), defBody (top 47), defScope (top 47), [], []⟩
def fn : List He.DefD := [d_is_whole, d_is_row, d_is_kind, d_is_machine, d_fits_plan, d_need_plan, d_as_text, d_plan_text, d_pair_in, d_text_in, d_read_plan, d__law_cell, d__law_draws, d__law_bag, d__law_take, d__law_choice, d__law_known, d__law_machine, d__law_strings, d__law_plan, d__law_named_error, d__law_error, d__law_told, d__law_all_refused, d__law_bad_plans, d__law_text, d__law_machine_in, d__law_read, d__law_bent, d_law]
def fa : List He.Fa := [.glo "is_whole", .glo "is_row", .glo "is_kind", .glo "is_machine", .glo "fits_plan", .glo "need_plan", .glo "as_text", .glo "plan_text", .glo "pair_in", .glo "text_in", .glo "read_plan", .glo "_law_cell", .glo "_law_draws", .glo "_law_bag", .glo "_law_take", .glo "_law_choice", .glo "_law_known", .glo "_law_machine", .glo "_law_strings", .glo "_law_plan", .glo "_law_named_error", .glo "_law_error", .glo "_law_told", .glo "_law_all_refused", .glo "_law_bad_plans", .glo "_law_text", .glo "_law_machine_in", .glo "_law_read", .glo "_law_bent", .glo "law", .free "ValueError", .free "all", .free "bool", .free "int", .free "isinstance", .free "len", .free "list", .free "range", .free "str", .free "tuple", .free "zip", .glo "LineError", .glo "InvalidPlan", .glo "InvalidLine", .glo "InvalidWords", .glo "InvalidNumber", .glo "InvalidIndex", .glo "InvalidRing", .glo "InvalidCell", .glo "InvalidText", .glo "InvalidSlips", .glo "Silent", .glo "Unlike", .glo "NothingToUndo", .exc "LineError", .exc "InvalidPlan", .exc "InvalidLine", .exc "InvalidWords", .exc "InvalidNumber", .exc "InvalidIndex", .exc "InvalidRing", .exc "InvalidCell", .exc "InvalidText", .exc "InvalidSlips", .exc "Silent", .exc "Unlike", .exc "NothingToUndo", .int "STATES" 3]
def md : AL.Md := ⟨["all", "bool", "int", "isinstance", "len", "list", "range", "str", "tuple"], [("STATES", .int 3), ("plan_text", .fn "plan_text"), ("read_plan", .fn "read_plan")], ["InvalidPlan", "InvalidText"]⟩
def lamDefs : List Str := ["_law_all_refused", "law"]
structure Wd (K : PySem.W.Frag) (mg : Str → Option Value) (base : Heap) (T : List (Addr × Str)) : Prop where
  M : AL.MOk K mg md
  df : ∀ (i : Nat) (d : He.DefD), fn[i]? = some d → ∃ fd, FunD K d.name d.qual d.params d.body d.scope (d.dvs K) (d.kws K) (He.fAd K d.at_) fd
  glo : ∀ x, fa.any (AL.isGlo x) = true → mg x = some (.ref (He.ga K x))
  fre : ∀ x, fa.any (AL.isFree x) = true → mg x = none
  lab : HX.labB K = true
  lam : ∀ x ∈ lamDefs, AL.LamAt K mg base T (x ++ ".<locals>.") (He.fAd K (x, none))
section
variable {P : Program} {w : World} {K : PySem.W.Frag} {mg : Str → Option Value} {base : Heap} {T : List (Addr × Str)}
theorem cls_glo (Z : Wd K mg base T) : ∀ c ∈ HX.neC, mg c = some (.ref (He.ga K c)) := fun c hc => Z.glo c (List.all_eq_true.mp (show (HX.neC.all fun c => fa.any (AL.isGlo c)) = true by decide +kernel) c hc)
theorem ne_call (Z : Wd K mg base T) : HX.NeCall P w K mg base (He.ga K "LineError") "_law_named_error" 1 := by
  intro Y a C oe bs r e i q1 q2 q3 e1 e2 e3 e4 e5 L hp hot hr hz hf hg hN hv hd hcd
  subst e1 e2 e3 e4 e5
  obtain ⟨fd, F⟩ := Z.df 20 d__law_named_error rfl
  have hb : Binds Y.K fd ["e"] [] := F.bindsN fun _ _ _ _ _ _ us hl => match us, hl with | [_], _ => rfl
  have kp := F.kp
  obtain ⟨oc, od, dV, kV, doc, pm, an, cdv, ct, osl, rfl, lk, hcdn, _, _⟩ := F.ex
  obtain ⟨b0, b1, b2, b3, b4, b5, b6, b7, b8, b9, b10, b11, rfl⟩ : ∃ b0 b1 b2 b3 b4 b5 b6 b7 b8 b9 b10 b11 : Bool, bs = [b0, b1, b2, b3, b4, b5, b6, b7, b8, b9, b10, b11] := by
    match bs, L.len with
    | [b0, b1, b2, b3, b4, b5, b6, b7, b8, b9, b10, b11], _ => exact ⟨b0, b1, b2, b3, b4, b5, b6, b7, b8, b9, b10, b11, rfl⟩
  refine HX.pe_callHS (k := 0) (N := ["e", "some", "labels", "label", "good"]) (pe1 := "e") hp hot hr hg (by decide) (Z.glo _ (by decide +kernel)) kp lk hcdn (C8.fnScope_by (by decide +kernel)) hb hN hv hd hcd fun A outer s H Q hot2 hr2 hQ => ?_
  have hc : L2H.HotC (L2H.cxH CX0 Y.prog Y.w Y.K Y.mg Y.base ["e", "some", "labels", "label", "good"] "_law_named_error" (defScope (top 38)) (He.fAd Y.K ("_law_named_error", none)) cdv A outer s H E0 (a, oe)) := ⟨(a, oe), hot2, List.mem_singleton.mpr rfl⟩
  have nk : ∀ (j : Nat) (y : Str) (b : Bool), HX.neC[j]? = some y → [b0, b1, b2, b3, b4, b5, b6, b7, b8, b9, b10, b11][j]? = some b → (defScope (top 38)).names.lookup y = some .globalImplicit → (y == ("__debug__" : Str)) = false → HX.NeOk (L2H.cxH CX0 Y.prog Y.w Y.K Y.mg Y.base ["e", "some", "labels", "label", "good"] "_law_named_error" (defScope (top 38)) (He.fAd Y.K ("_law_named_error", none)) cdv A outer s H E0 (a, oe)) a C oe y b := fun j y b h1 h2 h3 h4 => by
    obtain ⟨C2, g1, g2⟩ := L.at_ j y b h1 h2
    exact ⟨List.mem_singleton.mpr rfl, L.cls, hz, hf, (show (defScope (top 38)).names.lookup ("isinstance" : Str) = some .globalImplicit from by decide +kernel), Z.fre _ (by decide +kernel), h3, h4, ⟨_, g1, ⟨_, rfl⟩, g2⟩⟩
  have hbody : ∃ t, PSs (L2H.cxH CX0 Y.prog Y.w Y.K Y.mg Y.base ["e", "some", "labels", "label", "good"] "_law_named_error" (defScope (top 38)) (He.fAd Y.K ("_law_named_error", none)) cdv A outer s H E0 (a, oe)) (defBody (top 38)) t ∧ ∀ (E : Ends) (H : Hp), (∀ H2, HX.Gw H H2 → E.rt (.str r) H2) → t E (L2.start ["e", "some", "labels", "label", "good"] [.ref a]) H :=
    HX.ne_body (scope := HX.lastComp (defBody (top 38))) (own := [("label", 3), ("good", 4)]) hc rfl (show (defScope (top 38)).names.lookup ("e" : Str) = some .local from by decide +kernel) (show (defScope (top 38)).names.lookup ("some" : Str) = some .local from by decide +kernel) (show (defScope (top 38)).names.lookup ("labels" : Str) = some .local from by decide +kernel) (show (defScope (top 38)).names.lookup ("zip" : Str) = some .globalImplicit from by decide +kernel) (Z.fre _ (by decide +kernel)) (AL.blk_of (show AL.blkB ["e", "some", "labels", "label", "good"] (defScope (top 38)) (HX.lastComp (defBody (top 38))) [("label", 3), ("good", 4)] = true from by decide +kernel)) rfl (show (relS (HX.lastComp (defBody (top 38))) (defScope (top 38))).names.lookup ("label" : Str) = some .local from by decide +kernel) (show (relS (HX.lastComp (defBody (top 38))) (defScope (top 38))).names.lookup ("good" : Str) = some .local from by decide +kernel) (by decide) (by decide)
    (nk 0 _ _ rfl rfl (by decide +kernel) (by decide)) (nk 1 _ _ rfl rfl (by decide +kernel) (by decide)) (nk 2 _ _ rfl rfl (by decide +kernel) (by decide)) (nk 3 _ _ rfl rfl (by decide +kernel) (by decide)) (nk 4 _ _ rfl rfl (by decide +kernel) (by decide)) (nk 5 _ _ rfl rfl (by decide +kernel) (by decide)) (nk 6 _ _ rfl rfl (by decide +kernel) (by decide)) (nk 7 _ _ rfl rfl (by decide +kernel) (by decide)) (nk 8 _ _ rfl rfl (by decide +kernel) (by decide)) (nk 9 _ _ rfl rfl (by decide +kernel) (by decide)) (nk 10 _ _ rfl rfl (by decide +kernel) (by decide)) (nk 11 _ _ rfl rfl (by decide +kernel) (by decide)) L.txt L.sz
  obtain ⟨t, ht, hq⟩ := hbody
  exact ⟨t, ht, hq _ H hQ⟩
theorem try__law_error {k : Nat} (Z : Wd K mg base T) (hk : 1 ≤ k) : AL.TryK P w K mg base k "_law_error" false := by
  obtain ⟨fd, F⟩ := Z.df 21 d__law_error rfl
  exact ⟨He.ga K "LineError", "_law_named_error", HX.TryFn.mono (j := 1) ⟨⟨_, fd, _, _, _, F, Z.glo _ (by decide +kernel), F.bindsN fun _ _ _ _ _ _ us hl => match us, hl with | [_], _ => rfl, C8.fnScope_by (by decide +kernel), by decide +kernel, by decide +kernel, fun _ => by decide +kernel, fun _ => by decide +kernel, by decide +kernel, by decide +kernel, fun _ => ⟨_, _, _, _, _, _, _, _, _, _, _, _, _, _, _, _, _, _, _, _, rfl⟩, (fun h => nomatch h)⟩, Z.fre _ (by decide +kernel), Z.fre _ (by decide +kernel), Z.glo _ (by decide +kernel), ne_call Z⟩ hk, HX.labOk_of Z.lab (cls_glo Z)⟩
theorem try__law_told {k : Nat} (Z : Wd K mg base T) (hk : 1 ≤ k) : AL.TryK P w K mg base k "_law_told" true := by
  obtain ⟨fd, F⟩ := Z.df 22 d__law_told rfl
  exact ⟨He.ga K "LineError", "_law_named_error", HX.TryFn.mono (j := 1) ⟨⟨_, fd, _, _, _, F, Z.glo _ (by decide +kernel), F.bindsN fun _ _ _ _ _ _ us hl => match us, hl with | [_], _ => rfl, C8.fnScope_by (by decide +kernel), by decide +kernel, by decide +kernel, (fun h => nomatch h), (fun h => nomatch h), by decide +kernel, by decide +kernel, (fun h => nomatch h), fun _ => ⟨_, _, _, _, _, _, _, _, _, _, _, _, _, _, _, _, _, _, rfl⟩⟩, Z.fre _ (by decide +kernel), Z.fre _ (by decide +kernel), Z.glo _ (by decide +kernel), ne_call Z⟩ hk, HX.labOk_of Z.lab (cls_glo Z)⟩
theorem has_is_whole (Z : Wd K mg base T) : AL.Has P w K mg base T 1 "is_whole" CD.F_is_whole := by
  obtain ⟨fd, F⟩ := Z.df 0 d_is_whole rfl
  refine AL.has_def (lm := false) (N := ["value", "low", "high"]) (ps := ["value", "low", "high"]) Z.M F (Z.glo _ (by decide +kernel)) (F.bindsN fun _ _ _ _ _ _ us hl => match us, hl with | [_, _, _], _ => rfl) (C8.fnScope_by (by decide +kernel)) rfl (fun h => by cases h) (by decide +kernel) ?_
  unfold CD.ir_is_whole
  simp only [AL.Nd, and_true, true_and]
theorem has_is_row (Z : Wd K mg base T) : AL.Has P w K mg base T 1 "is_row" CD.F_is_row := by
  obtain ⟨fd, F⟩ := Z.df 1 d_is_row rfl
  refine AL.has_def (lm := false) (N := ["value", "low", "high"]) (ps := ["value", "low", "high"]) Z.M F (Z.glo _ (by decide +kernel)) (F.bindsN fun _ _ _ _ _ _ us hl => match us, hl with | [_, _, _], _ => rfl) (C8.fnScope_by (by decide +kernel)) rfl (fun h => by cases h) (by decide +kernel) ?_
  unfold CD.ir_is_row
  simp only [AL.Nd, and_true, true_and]
theorem has_is_kind (Z : Wd K mg base T) : AL.Has P w K mg base T 1 "is_kind" CD.F_is_kind := by
  obtain ⟨fd, F⟩ := Z.df 2 d_is_kind rfl
  refine AL.has_def (lm := false) (N := ["value"]) (ps := ["value"]) Z.M F (Z.glo _ (by decide +kernel)) (F.bindsN fun _ _ _ _ _ _ us hl => match us, hl with | [_], _ => rfl) (C8.fnScope_by (by decide +kernel)) rfl (fun h => by cases h) (by decide +kernel) ?_
  unfold CD.ir_is_kind
  simp only [AL.Nd, and_true, true_and]
theorem has_is_machine (Z : Wd K mg base T) : AL.Has P w K mg base T 2 "is_machine" CD.F_is_machine := by
  obtain ⟨fd, F⟩ := Z.df 3 d_is_machine rfl
  refine AL.has_def (lm := false) (N := ["value", "pair"]) (ps := ["value"]) Z.M F (Z.glo _ (by decide +kernel)) (F.bindsN fun _ _ _ _ _ _ us hl => match us, hl with | [_], _ => rfl) (C8.fnScope_by (by decide +kernel)) rfl (fun h => by cases h) (by decide +kernel) ?_
  unfold CD.ir_is_machine
  simp only [AL.Nd, and_true, true_and]
  repeat' apply And.intro
  all_goals first | exact (has_is_row Z).mono (by decide) | exact (has_is_whole Z).mono (by decide)
theorem has_fits_plan (Z : Wd K mg base T) : AL.Has P w K mg base T 3 "fits_plan" CD.F_fits_plan := by
  obtain ⟨fd, F⟩ := Z.df 4 d_fits_plan rfl
  refine AL.has_def (lm := false) (N := ["value", "row", "kind"]) (ps := ["value"]) Z.M F (Z.glo _ (by decide +kernel)) (F.bindsN fun _ _ _ _ _ _ us hl => match us, hl with | [_], _ => rfl) (C8.fnScope_by (by decide +kernel)) rfl (fun h => by cases h) (by decide +kernel) ?_
  unfold CD.ir_fits_plan
  simp only [AL.Nd, and_true, true_and]
  repeat' apply And.intro
  all_goals first | exact (has_is_row Z).mono (by decide) | exact (has_is_machine Z).mono (by decide) | exact (has_is_kind Z).mono (by decide)
theorem has_need_plan (Z : Wd K mg base T) : AL.Has P w K mg base T 4 "need_plan" CD.F_need_plan := by
  obtain ⟨fd, F⟩ := Z.df 5 d_need_plan rfl
  refine AL.has_def (lm := false) (N := ["value"]) (ps := ["value"]) Z.M F (Z.glo _ (by decide +kernel)) (F.bindsN fun _ _ _ _ _ _ us hl => match us, hl with | [_], _ => rfl) (C8.fnScope_by (by decide +kernel)) rfl (fun h => by cases h) (by decide +kernel) ?_
  unfold CD.ir_need_plan
  simp only [AL.Nd, and_true, true_and]
  repeat' apply And.intro
  all_goals first | exact (has_fits_plan Z).mono (by decide)
theorem has_as_text (Z : Wd K mg base T) : AL.Has P w K mg base T 1 "as_text" CD.F_as_text := by
  obtain ⟨fd, F⟩ := Z.df 6 d_as_text rfl
  refine AL.has_def (lm := false) (N := ["plan", "rows", "word", "machine", "pair", "row"]) (ps := ["plan"]) Z.M F (Z.glo _ (by decide +kernel)) (F.bindsN fun _ _ _ _ _ _ us hl => match us, hl with | [_], _ => rfl) (C8.fnScope_by (by decide +kernel)) rfl (fun h => by cases h) (by decide +kernel) ?_
  unfold CD.ir_as_text
  simp only [AL.Nd, and_true, true_and]
theorem has_plan_text (Z : Wd K mg base T) : AL.Has P w K mg base T 5 "plan_text" CD.F_plan_text := by
  obtain ⟨fd, F⟩ := Z.df 7 d_plan_text rfl
  refine AL.has_def (lm := false) (N := ["plan"]) (ps := ["plan"]) Z.M F (Z.glo _ (by decide +kernel)) (F.bindsN fun _ _ _ _ _ _ us hl => match us, hl with | [_], _ => rfl) (C8.fnScope_by (by decide +kernel)) rfl (fun h => by cases h) (by decide +kernel) ?_
  unfold CD.ir_plan_text
  simp only [AL.Nd, and_true, true_and]
  repeat' apply And.intro
  all_goals first | exact (has_need_plan Z).mono (by decide) | exact (has_as_text Z).mono (by decide)
theorem has_pair_in (Z : Wd K mg base T) : AL.Has P w K mg base T 1 "pair_in" CD.F_pair_in := by
  obtain ⟨fd, F⟩ := Z.df 8 d_pair_in rfl
  refine AL.has_def (lm := false) (N := ["word", "parts", "part"]) (ps := ["word"]) Z.M F (Z.glo _ (by decide +kernel)) (F.bindsN fun _ _ _ _ _ _ us hl => match us, hl with | [_], _ => rfl) (C8.fnScope_by (by decide +kernel)) rfl (fun h => by cases h) (by decide +kernel) ?_
  unfold CD.ir_pair_in
  simp only [AL.Nd, and_true, true_and]
theorem has_text_in (Z : Wd K mg base T) : AL.Has P w K mg base T 4 "text_in" CD.F_text_in := by
  obtain ⟨fd, F⟩ := Z.df 9 d_text_in rfl
  refine AL.has_def (lm := false) (N := ["text", "rows", "machines", "found", "line", "row", "word"]) (ps := ["text"]) Z.M F (Z.glo _ (by decide +kernel)) (F.bindsN fun _ _ _ _ _ _ us hl => match us, hl with | [_], _ => rfl) (C8.fnScope_by (by decide +kernel)) rfl (fun h => by cases h) (by decide +kernel) ?_
  unfold CD.ir_text_in
  simp only [AL.Nd, and_true, true_and]
  repeat' apply And.intro
  all_goals first | exact (has_pair_in Z).mono (by decide) | exact (has_fits_plan Z).mono (by decide) | exact (has_as_text Z).mono (by decide)
theorem has_read_plan (Z : Wd K mg base T) : AL.Has P w K mg base T 5 "read_plan" CD.F_read_plan := by
  obtain ⟨fd, F⟩ := Z.df 10 d_read_plan rfl
  refine AL.has_def (lm := false) (N := ["text"]) (ps := ["text"]) Z.M F (Z.glo _ (by decide +kernel)) (F.bindsN fun _ _ _ _ _ _ us hl => match us, hl with | [_], _ => rfl) (C8.fnScope_by (by decide +kernel)) rfl (fun h => by cases h) (by decide +kernel) ?_
  unfold CD.ir_read_plan
  simp only [AL.Nd, and_true, true_and]
  repeat' apply And.intro
  all_goals first | exact (has_text_in Z).mono (by decide)
theorem has__law_cell (Z : Wd K mg base T) : AL.Has P w K mg base T 1 "_law_cell" CD.F__law_cell := by
  obtain ⟨fd, F⟩ := Z.df 11 d__law_cell rfl
  refine AL.has_def (lm := false) (N := ["script", "k"]) (ps := ["script", "k"]) Z.M F (Z.glo _ (by decide +kernel)) (F.bindsN fun _ _ _ _ _ _ us hl => match us, hl with | [_, _], _ => rfl) (C8.fnScope_by (by decide +kernel)) rfl (fun h => by cases h) (by decide +kernel) ?_
  unfold CD.ir__law_cell
  simp only [AL.Nd, and_true, true_and]
theorem has__law_draws (Z : Wd K mg base T) : AL.Has P w K mg base T 2 "_law_draws" CD.F__law_draws := by
  obtain ⟨fd, F⟩ := Z.df 12 d__law_draws rfl
  refine AL.has_def (lm := false) (N := ["script", "k", "many", "base", "primes", "cell", "rest", "row", "j", "mash"]) (ps := ["script", "k", "many", "base"]) Z.M F (Z.glo _ (by decide +kernel)) (F.bindsN fun _ _ _ _ _ _ us hl => match us, hl with | [_, _, _, _], _ => rfl) (C8.fnScope_by (by decide +kernel)) rfl (fun h => by cases h) (by decide +kernel) ?_
  unfold CD.ir__law_draws
  simp only [AL.Nd, and_true, true_and]
  repeat' apply And.intro
  all_goals first | exact (has__law_cell Z).mono (by decide)
theorem has__law_bag (Z : Wd K mg base T) : AL.Has P w K mg base T 3 "_law_bag" CD.F__law_bag := by
  obtain ⟨fd, F⟩ := Z.df 13 d__law_bag rfl
  refine AL.has_def (lm := false) (N := ["script", "k"]) (ps := ["script", "k"]) Z.M F (Z.glo _ (by decide +kernel)) (F.bindsN fun _ _ _ _ _ _ us hl => match us, hl with | [_, _], _ => rfl) (C8.fnScope_by (by decide +kernel)) rfl (fun h => by cases h) (by decide +kernel) ?_
  unfold CD.ir__law_bag
  simp only [AL.Nd, and_true, true_and]
  repeat' apply And.intro
  all_goals first | exact (has__law_draws Z).mono (by decide)
theorem has__law_take (Z : Wd K mg base T) : AL.Has P w K mg base T 1 "_law_take" CD.F__law_take := by
  obtain ⟨fd, F⟩ := Z.df 14 d__law_take rfl
  refine AL.has_def (lm := false) (N := ["bag", "many", "draw"]) (ps := ["bag", "many"]) Z.M F (Z.glo _ (by decide +kernel)) (F.bindsN fun _ _ _ _ _ _ us hl => match us, hl with | [_, _], _ => rfl) (C8.fnScope_by (by decide +kernel)) rfl (fun h => by cases h) (by decide +kernel) ?_
  unfold CD.ir__law_take
  simp only [AL.Nd, and_true, true_and]
theorem has__law_choice (Z : Wd K mg base T) : AL.Has P w K mg base T 2 "_law_choice" CD.F__law_choice := by
  obtain ⟨fd, F⟩ := Z.df 15 d__law_choice rfl
  refine AL.has_def (lm := false) (N := ["bag", "some"]) (ps := ["bag", "some"]) Z.M F (Z.glo _ (by decide +kernel)) (F.bindsN fun _ _ _ _ _ _ us hl => match us, hl with | [_, _], _ => rfl) (C8.fnScope_by (by decide +kernel)) rfl (fun h => by cases h) (by decide +kernel) ?_
  unfold CD.ir__law_choice
  simp only [AL.Nd, and_true, true_and]
  repeat' apply And.intro
  all_goals first | exact (has__law_take Z).mono (by decide)
theorem has__law_known (Z : Wd K mg base T) : AL.Has P w K mg base T 1 "_law_known" CD.F__law_known := by
  obtain ⟨fd, F⟩ := Z.df 16 d__law_known rfl
  refine AL.has_def (lm := false) (N := ["parity", "ahead", "alone"]) (ps := []) Z.M F (Z.glo _ (by decide +kernel)) (F.bindsN fun _ _ _ _ _ _ us hl => match us, hl with | [], _ => rfl) (C8.fnScope_by (by decide +kernel)) rfl (fun h => by cases h) (by decide +kernel) ?_
  unfold CD.ir__law_known
  simp only [AL.Nd, and_true, true_and]
theorem has__law_machine (Z : Wd K mg base T) : AL.Has P w K mg base T 3 "_law_machine" CD.F__law_machine := by
  obtain ⟨fd, F⟩ := Z.df 17 d__law_machine rfl
  refine AL.has_def (lm := false) (N := ["bag", "size", "state"]) (ps := ["bag"]) Z.M F (Z.glo _ (by decide +kernel)) (F.bindsN fun _ _ _ _ _ _ us hl => match us, hl with | [_], _ => rfl) (C8.fnScope_by (by decide +kernel)) rfl (fun h => by cases h) (by decide +kernel) ?_
  unfold CD.ir__law_machine
  simp only [AL.Nd, and_true, true_and]
  repeat' apply And.intro
  all_goals first | exact (has__law_choice Z).mono (by decide) | exact (has__law_take Z).mono (by decide)
theorem has__law_strings (Z : Wd K mg base T) : AL.Has P w K mg base T 3 "_law_strings" CD.F__law_strings := by
  obtain ⟨fd, F⟩ := Z.df 18 d__law_strings rfl
  refine AL.has_def (lm := false) (N := ["bag", "ears", "size", "rows", "at", "state"]) (ps := ["bag", "ears", "size"]) Z.M F (Z.glo _ (by decide +kernel)) (F.bindsN fun _ _ _ _ _ _ us hl => match us, hl with | [_, _, _], _ => rfl) (C8.fnScope_by (by decide +kernel)) rfl (fun h => by cases h) (by decide +kernel) ?_
  unfold CD.ir__law_strings
  simp only [AL.Nd, and_true, true_and]
  repeat' apply And.intro
  all_goals first | exact (has__law_choice Z).mono (by decide)
theorem has__law_plan (Z : Wd K mg base T) : AL.Has P w K mg base T 4 "_law_plan" CD.F__law_plan := by
  obtain ⟨fd, F⟩ := Z.df 19 d__law_plan rfl
  refine AL.has_def (lm := false) (N := ["bag", "way", "glance", "ear", "table"]) (ps := ["bag"]) Z.M F (Z.glo _ (by decide +kernel)) (F.bindsN fun _ _ _ _ _ _ us hl => match us, hl with | [_], _ => rfl) (C8.fnScope_by (by decide +kernel)) rfl (fun h => by cases h) (by decide +kernel) ?_
  unfold CD.ir__law_plan
  simp only [AL.Nd, and_true, true_and]
  repeat' apply And.intro
  all_goals first | exact (has__law_take Z).mono (by decide) | exact (has__law_machine Z).mono (by decide) | exact (has__law_choice Z).mono (by decide) | exact (has__law_known Z).mono (by decide) | exact (has__law_strings Z).mono (by decide)
theorem tab_ok (Z : Wd K mg base T) : ∀ z F, CD.tabV_k11 z = some F → AL.Has P w K mg base T 5 z F := by
  intro z F h
  unfold CD.tabV_k11 at h
  split at h
  · rename_i e; subst e; cases h; exact (has_read_plan Z).mono (by decide)
  split at h
  · rename_i e; subst e; cases h; exact (has_plan_text Z).mono (by decide)
  cases h
theorem has__law_all_refused (Z : Wd K mg base T) : AL.Has P w K mg base T 8 "_law_all_refused" CD.F__law_all_refused_k11 := by
  obtain ⟨fd, F⟩ := Z.df 23 d__law_all_refused rfl
  refine AL.has_def (lm := true) (N := ["call", "odds", "name", "odd"]) (ps := ["call", "odds", "name"]) Z.M F (Z.glo _ (by decide +kernel)) (F.bindsN fun _ _ _ _ _ _ us hl => match us, hl with | [_, _, _], _ => rfl) (C8.fnScope_by (by decide +kernel)) rfl (fun _ => Z.lam _ (by decide +kernel)) (by decide +kernel) ?_
  unfold CD.ir__law_all_refused_k11
  simp only [AL.Nd, and_true, true_and]
  repeat' apply And.intro
  all_goals first | exact fun z F h => (tab_ok Z z F h).mono (by decide) | exact (try__law_error Z (by decide)) | decide
theorem has__law_bad_plans (Z : Wd K mg base T) : AL.Has P w K mg base T 1 "_law_bad_plans" CD.F__law_bad_plans := by
  obtain ⟨fd, F⟩ := Z.df 24 d__law_bad_plans rfl
  refine AL.has_def (lm := false) (N := ["some", "one", "pair"]) (ps := []) Z.M F (Z.glo _ (by decide +kernel)) (F.bindsN fun _ _ _ _ _ _ us hl => match us, hl with | [], _ => rfl) (C8.fnScope_by (by decide +kernel)) rfl (fun h => by cases h) (by decide +kernel) ?_
  unfold CD.ir__law_bad_plans
  simp only [AL.Nd, and_true, true_and]
theorem has__law_text (Z : Wd K mg base T) : AL.Has P w K mg base T 1 "_law_text" CD.F__law_text := by
  obtain ⟨fd, F⟩ := Z.df 25 d__law_text rfl
  refine AL.has_def (lm := false) (N := ["plan_so", "rows", "word", "machine", "pair"]) (ps := ["plan_so"]) Z.M F (Z.glo _ (by decide +kernel)) (F.bindsN fun _ _ _ _ _ _ us hl => match us, hl with | [_], _ => rfl) (C8.fnScope_by (by decide +kernel)) rfl (fun h => by cases h) (by decide +kernel) ?_
  unfold CD.ir__law_text
  simp only [AL.Nd, and_true, true_and]
theorem has__law_machine_in (Z : Wd K mg base T) : AL.Has P w K mg base T 1 "_law_machine_in" CD.F__law_machine_in := by
  obtain ⟨fd, F⟩ := Z.df 26 d__law_machine_in rfl
  refine AL.has_def (lm := false) (N := ["parts", "word", "part", "good", "found"]) (ps := ["parts", "word"]) Z.M F (Z.glo _ (by decide +kernel)) (F.bindsN fun _ _ _ _ _ _ us hl => match us, hl with | [_, _], _ => rfl) (C8.fnScope_by (by decide +kernel)) rfl (fun h => by cases h) (by decide +kernel) ?_
  unfold CD.ir__law_machine_in
  simp only [AL.Nd, and_true, true_and]
theorem has__law_read (Z : Wd K mg base T) : AL.Has P w K mg base T 2 "_law_read" CD.F__law_read := by
  obtain ⟨fd, F⟩ := Z.df 27 d__law_read rfl
  refine AL.has_def (lm := false) (N := ["text", "lines", "row", "glance", "ear", "line", "sign"]) (ps := ["text"]) Z.M F (Z.glo _ (by decide +kernel)) (F.bindsN fun _ _ _ _ _ _ us hl => match us, hl with | [_], _ => rfl) (C8.fnScope_by (by decide +kernel)) rfl (fun h => by cases h) (by decide +kernel) ?_
  unfold CD.ir__law_read
  simp only [AL.Nd, and_true, true_and]
  repeat' apply And.intro
  all_goals first | exact (has__law_machine_in Z).mono (by decide)
theorem has__law_bent (Z : Wd K mg base T) : AL.Has P w K mg base T 3 "_law_bent" CD.F__law_bent := by
  obtain ⟨fd, F⟩ := Z.df 28 d__law_bent rfl
  refine AL.has_def (lm := false) (N := ["bag", "text", "some", "lines", "at", "spot", "way"]) (ps := ["bag", "text"]) Z.M F (Z.glo _ (by decide +kernel)) (F.bindsN fun _ _ _ _ _ _ us hl => match us, hl with | [_, _], _ => rfl) (C8.fnScope_by (by decide +kernel)) rfl (fun h => by cases h) (by decide +kernel) ?_
  unfold CD.ir__law_bent
  simp only [AL.Nd, and_true, true_and]
  repeat' apply And.intro
  all_goals first | exact (has__law_choice Z).mono (by decide) | exact (has__law_take Z).mono (by decide)
theorem law_fn (Z : Wd K mg base T) {fd : FuncData} (F : FunD K d_law.name d_law.qual d_law.params d_law.body d_law.scope (d_law.dvs K) (d_law.kws K) (He.fAd K d_law.at_) fd) : FnOk P w K mg base (L2N.CX P w) 9 (He.fAd K d_law.at_) fd ["script"] (AL.spF K mg T CD.F_law_k11) := by
  refine AL.fn_def (lm := true) (N := ["script", "k", "some", "due", "bag", "one", "text", "turn", "odd", "bent"]) (ps := ["script"]) Z.M F (C8.fnScope_by (by decide +kernel)) rfl (fun _ => Z.lam _ (by decide +kernel)) (by decide +kernel) ?_
  unfold CD.ir_law_k11
  simp only [AL.Nd, and_true, true_and]
  repeat' apply And.intro
  all_goals first | exact (has__law_bag Z).mono (by decide) | exact (has__law_plan Z).mono (by decide) | exact (has__law_text Z).mono (by decide) | exact (has_plan_text Z).mono (by decide) | exact (has_read_plan Z).mono (by decide) | exact (has__law_bent Z).mono (by decide) | exact (has__law_read Z).mono (by decide) | exact (has__law_all_refused Z).mono (by decide) | exact (has__law_bad_plans Z).mono (by decide) | exact (try__law_error Z (by decide)) | exact (try__law_told Z (by decide)) | decide
end
theorem plain (ns : List Int) (hl : ns.length ≤ 63) (hb : ∀ z ∈ ns, Builtin.Int.intBits z ≤ 1048576) : CD.F_law_k11.run [.scr ns] = .ret (.sh (.bl true)) [] := AL.run_true (AL.law_run_k11 ns hl hb)
abbrev R : PySem.W.OpenRow := PySem.W.OpenLaw.row PySem.Challenge.rw_anyline_k11_texts_of_plans
def tf : List He.Defn := [("_law_all_refused", none), ("law", none)]
abbrev hk : PySem.W.Hook := He.hookX 5 fa fn [] tf (HX.exB tf)
def ob (s : PySem.W.SharedT) : He.AlX := He.obsX 5 fa fn [] tf (HX.exB tf) (HandSHeadRun.getT s)
theorem ob_eq (s : PySem.W.SharedT) : ob s = hk.obs s.abs := He.obsX_eq (HandSHeadRun.getT_eq s)
def loose0 : List PySem.Str := ["LineError", "InvalidPlan", "InvalidLine", "InvalidWords", "InvalidNumber", "InvalidIndex", "InvalidRing", "InvalidCell", "InvalidText", "InvalidSlips", "Silent", "Unlike", "NothingToUndo", "is_whole", "is_row", "is_kind", "is_machine", "fits_plan", "need_plan", "as_text", "plan_text", "pair_in", "text_in", "read_plan", "_law_cell", "_law_draws", "_law_bag", "_law_take", "_law_choice", "_law_known"]
def loose1 : List PySem.Str := ["_law_machine", "_law_strings", "_law_plan", "_law_named_error", "_law_error", "_law_told", "_law_all_refused", "_law_bad_plans", "_law_text", "_law_machine_in", "_law_read", "_law_bent", "STATES"]
def loose : List PySem.Str := loose0 ++ loose1
theorem run (w : World) : HandSHeadRun.RunEq R (PySem.W.view R.prog [47]) hk ob 6000 loose w := by
  intro os
  kernel_rfl
theorem facts {w : World} {K : PySem.W.Frag} {h : Heap} {mg : Str → Option Value} {f : Addr} (X : K.In h) (G : h.Ns mainGlobals mg) (hfa : mg ("law" : Str) = some (.ref f)) (c : He.SaysX fa fn [] tf (HX.exB tf) w h K) :
    LamX.LawAtS PySem.Challenge.rw_anyline_k11_texts_of_plans w K (L2N.CX (PySem.Challenge.rw_anyline_k11_texts_of_plans).prog w) 9 63 "script" mg f h := by
  have cD : He.SaysD fa fn K := congrArg (fun z : He.AlT => z.1) c.t
  have hf : ∀ f ∈ fa, f.ok K = true := fun f hm => cD.facts hm
  obtain ⟨fd, F⟩ := cD.def_ 29 (d := d_law) rfl
  have e := hfa.symm.trans (HX.glo_of (fa := fa) X G hf "law" (by decide +kernel))
  cases e
  have hx := (Bool.and_eq_true _ _).mp (show (HX.labB K && decide ((tf.map fun p => (He.cT K p).2).Nodup)) = true from c.more)
  have hnd : (tf.map fun p => (He.cT K p).2).Nodup := of_decide_eq_true hx.2
  have b := FunD.bindsA (ps := ["script"]) F fun _ _ _ _ _ _ us hl => match us, hl with | [_], _ => rfl
  refine ⟨fd, tf.map (He.cT K), AL.spF K mg (HX.tabT K tf) CD.F_law_k11, fun p hp => ?_, fun p hp => ?_, fun p hp => ?_, fun s v => b s [v] rfl, fun H a ns hl hb hT hS => HX.law_sp rfl (plain ns hl hb) (fun p hp => ?_) hS, fun base KB GB TB => law_fn (T := HX.tabT K tf) ⟨AL.MOk.of X G hf (by decide +kernel), fun i d hd => cD.def_ i hd, HX.glo_of X G hf, HX.fre_of X G hf, hx.1, fun x hxm => ?_⟩ F⟩
  · obtain ⟨q, hq, rfl⟩ := List.mem_map.mp hp; exact c.empty q hq
  · obtain ⟨q, hq, rfl⟩ := List.mem_map.mp hp; exact c.out q hq
  · obtain ⟨q, hq, rfl⟩ := List.mem_map.mp hp; exact PySem.W.codeHd_of_K X (c.hd q hq)
  · obtain ⟨q, hq, rfl⟩ := List.mem_map.mp hp; exact LamX.TabS.nil (hT _ (List.mem_map.mpr ⟨q, hq, rfl⟩))
  · have TB2 : ∀ p ∈ tf, LamX.TabB base mg (He.cT K p).1 (He.cT K p).2 := fun p hp => TB _ (List.mem_map.mpr ⟨p, hp, rfl⟩)
    have hxm : x ∈ (["_law_all_refused", "law"] : List Str) := hxm
    simp only [List.mem_cons, List.not_mem_nil, or_false] at hxm
    rcases hxm with rfl | rfl
    · obtain ⟨fd2, F2⟩ := cD.def_ 23 (d := d__law_all_refused) rfl
      exact HX.lamAt_of hnd TB2 (by decide +kernel) F2
    · obtain ⟨fd2, F2⟩ := cD.def_ 29 (d := d_law) rfl
      exact HX.lamAt_of hnd TB2 (by decide +kernel) F2
end K11
open PySem PySem.W PySem.Calls PyProof.Rows
theorem PySem.Challenge.cw_anyline_k11_texts_of_plans_holds : PySem.Challenge.rw_anyline_k11_texts_of_plans.Holds := by
  w_on; o_law
  refine HandSHeadRun.head_any (r := OpenLaw.row PySem.Challenge.rw_anyline_k11_texts_of_plans) (q := view (OpenLaw.row PySem.Challenge.rw_anyline_k11_texts_of_plans).prog [47]) (H := K11.hk) (ob := K11.ob) (M := 6000) (loose := K11.loose) (d := HandSHeadRun.topDef (OpenLaw.row PySem.Challenge.rw_anyline_k11_texts_of_plans).prog 47) (kwd := []) K11.ob_eq
    (by kernel_rfl) (fun s => by kernel_rfl) K11.run (by kernel_rfl) (by kernel_rfl) (by kernel_rfl) (by rfl) (by first | assumption | decide +kernel) (by decide +kernel) ⟨rfl, rfl, rfl, rfl, rfl, by decide +kernel⟩ ?hw ?hc
  case hw => w_witness2
  case hc =>
    refine LamX.walk_ofTsE (l := PySem.Challenge.rw_anyline_k11_texts_of_plans) (n := 63) (k := 9) (x := "script") (CX := fun w => L2N.CX (PySem.Challenge.rw_anyline_k11_texts_of_plans).prog w) rfl (by decide) (by kernel_rfl) ⟨rfl, by decide, by decide⟩ ?F (fun _ _ _ _ _ z => HX.cx_none z)
    intro w mg fa h Y G hmg0
    obtain ⟨K, KX, c⟩ := Y
    have hmg : mg ("law" : PySem.Str) = some (.ref fa) := by
      have e : (HandSHeadRun.topDef (OpenLaw.row PySem.Challenge.rw_anyline_k11_texts_of_plans).prog 47).name = ("law" : PySem.Str) := by kernel_rfl
      rw [← e]
      exact hmg0
    exact ⟨K, KX, K11.facts KX G hmg c⟩



