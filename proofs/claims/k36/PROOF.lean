import PyProof.Rows.All
import Wide.All
import OpenK.AllK
import Wide.FinOn
import HandS.ForMost
import HandS.ForExc
import HandS.IsInst
import HandS.Property
import HandS.Star
import HandS.SortInts
import HandS.Wide
import HandS.ClsMeth
import HandS.Zip
import HandS.TupAny
import HandS.Flow
import PyProof.LongRange
import HandS.NoneIn
import HandS.Codes
import HandS.MethStar
import HandS.SetFor
import HandS.SetBool
import HandS.Strs
import KE.GoesMore
import PyProof.EnumMake
import HandS.Style
import HandS.OwnEq
import PyProof.NeKinds
import HandS.TupMul
import KE.KOpsOwn
import HandS.Conv
import HandS.ExcInit
import HandS.ExcField
import KE.KExcInit
import PyProof.ExcBaseAll.RuntimeError
import PyProof.ExcBaseAll.OverflowError
import PyProof.ExcBaseAll.LookupError
import HandS.ExcIs
import HandS.Exc
import KE.KExcIs
import HandS.TryMany
import KE.KMinBuiltin
import HandS.SortKw
import HandS.SortRule
import KE.KRevSl
import HandS.More
import PyProof.MinMaxWalk
import PyProof.WalkInts
import HandS.TupSets
import HandS.Deep
import PyProof.WalksMore
import KE.GoesZip
import HandS.Text
import HandS.FStr
import KE.KxField
import HandS.ReplaceLit
import HandS.ReplaceDef
import PySem.Challenge.RW_rankeffect_k36_exchanges_lead_everywhere
set_option Elab.async false
set_option linter.all false
set_option maxRecDepth 100000
set_option maxHeartbeats 1000000
/-! Layer D, part 0: data, states, judgements. -/
namespace Dl
open PySem PySem.Spec PyProof.Rows L2
abbrev St := L2.St
/-- data without the heap -/
inductive D where
  | non | bl (b : Bool) | int (i : Int) | str (x : Str)
  | tup (ds : List D) | lst (ds : List D) | obj (c : Str) (ns : List Str) (ds : List D) | scr (ns : List Int) | dic | cls (c : Str)
mutual
/-- the value v stands for the datum d, by what B knows -/
inductive At (K : PySem.W.Frag) (mg : Str → Option Value) (B : Hp) : V → D → Prop
  | non : At K mg B .non .non
  | bl (b : Bool) : At K mg B (.bl b) (.bl b)
  | int (i : Int) : At K mg B (.int i) (.int i)
  | str (x : Str) : At K mg B (.str x) (.str x)
  | tup {a : Addr} {xs : List V} {ds : List D} : SqT K B a xs → AtL K mg B xs ds → At K mg B (.ref a) (.tup ds)
  | lst {a : Addr} {xs : List V} {ds : List D} : B a = some (.lst xs) → AtL K mg B xs ds → At K mg B (.ref a) (.lst ds)
  | scr {a : Addr} {ns : List Int} : SqL K B a (ns.map V.int) → At K mg B (.ref a) (.scr ns)
  | dic {a : Addr} : B a = some (.dK []) → At K mg B (.ref a) .dic
  | cls {C : Addr} {c : Str} : mg c = some (.ref C) → At K mg B (.ref C) (.cls c)
  | obj {a C dx : Addr} {fs : List (Str × V)} {c : Str} {ns : List Str} {ds : List D} : mg c = some (.ref C) → B a = some (.ins C dx fs) → fs.map (·.1) = ns → AtL K mg B (fs.map (·.2)) ds → At K mg B (.ref a) (.obj c ns ds)
inductive AtL (K : PySem.W.Frag) (mg : Str → Option Value) (B : Hp) : List V → List D → Prop
  | nil : AtL K mg B [] []
  | cons {x : V} {d : D} {xs : List V} {ds : List D} : At K mg B x d → AtL K mg B xs ds → AtL K mg B (x :: xs) (d :: ds)
end
theorem seqT {K : PySem.W.Frag} {H H' : Hp} {a : Addr} {xs : List V} (e : Same H H') (h : SqT K H a xs) : SqT K H' a xs := by
  rcases h with (h | ⟨o, h⟩) | h
  · exact .inl (.inl (e _ _ h))
  · exact .inl (.inr ⟨o, e _ _ h⟩)
  · exact .inr h
section
variable {K : PySem.W.Frag} {mg : Str → Option Value} {B B' : Hp}
mutual
theorem At.mono (e : Same B B') : ∀ {v : V} {d : D}, At K mg B v d → At K mg B' v d
  | _, _, .non => .non
  | _, _, .bl b => .bl b
  | _, _, .int i => .int i
  | _, _, .str x => .str x
  | _, _, .tup h r => .tup (seqT e h) (AtL.mono e r)
  | _, _, .lst h r => .lst (e _ _ h) (AtL.mono e r)
  | _, _, .scr h => .scr (e.seq h)
  | _, _, .dic h => .dic (e _ _ h)
  | _, _, .cls h => .cls h
  | _, _, .obj h1 h2 h3 r => .obj h1 (e _ _ h2) h3 (AtL.mono e r)
theorem AtL.mono (e : Same B B') : ∀ {xs : List V} {ds : List D}, AtL K mg B xs ds → AtL K mg B' xs ds
  | _, _, .nil => .nil
  | _, _, .cons r t => .cons (At.mono e r) (AtL.mono e t)
end
theorem AtL.length : ∀ {xs : List V} {ds : List D}, AtL K mg B xs ds → xs.length = ds.length
  | _, _, .nil => rfl
  | _, _, .cons _ t => congrArg (· + 1) (AtL.length t)
theorem AtL.app : ∀ {xs ys : List V} {ds es : List D}, AtL K mg B xs ds → AtL K mg B ys es → AtL K mg B (xs ++ ys) (ds ++ es)
  | _, _, _, _, .nil, s => s
  | _, _, _, _, .cons r t, s => .cons r (AtL.app t s)
theorem AtL.get : ∀ {xs : List V} {ds : List D} {i : Nat} {d : D}, AtL K mg B xs ds → ds[i]? = some d → ∃ x, xs[i]? = some x ∧ At K mg B x d
  | _, _, _, _, .nil, e => by simp at e
  | _, _, 0, d, .cons r _, e => by simp at e; subst e; exact ⟨_, rfl, r⟩
  | _, _, i + 1, d, .cons _ t, e => by
    obtain ⟨x, h1, h2⟩ := AtL.get (i := i) (d := d) t (by simpa using e)
    exact ⟨x, by simpa using h1, h2⟩
theorem AtL.get' : ∀ {xs : List V} {ds : List D} {i : Nat} {x : V}, AtL K mg B xs ds → xs[i]? = some x → ∃ d, ds[i]? = some d ∧ At K mg B x d
  | _, _, _, _, .nil, e => by simp at e
  | _, _, 0, d, .cons r _, e => by simp at e; subst e; exact ⟨_, rfl, r⟩
  | _, _, i + 1, d, .cons _ t, e => by
    obtain ⟨x, h1, h2⟩ := AtL.get' (i := i) (x := d) t (by simpa using e)
    exact ⟨x, by simpa using h1, h2⟩
theorem AtL.drop : ∀ {xs : List V} {ds : List D} (n : Nat), AtL K mg B xs ds → AtL K mg B (xs.drop n) (ds.drop n)
  | _, _, 0, r => r
  | _, _, _ + 1, .nil => .nil
  | _, _, n + 1, .cons _ t => AtL.drop n t
theorem AtL.take : ∀ {xs : List V} {ds : List D} (n : Nat), AtL K mg B xs ds → AtL K mg B (xs.take n) (ds.take n)
  | _, _, 0, _ => .nil
  | _, _, _ + 1, .nil => .nil
  | _, _, n + 1, .cons r t => .cons r (AtL.take n t)
theorem AtL.set {x : V} {d : D} (r : At K mg B x d) : ∀ {xs : List V} {ds : List D} (i : Nat), AtL K mg B xs ds → AtL K mg B (xs.set i x) (ds.set i d)
  | _, _, _, .nil => .nil
  | _, _, 0, .cons _ t => .cons r t
  | _, _, i + 1, .cons q t => .cons q (AtL.set r i t)
theorem AtL.rev : ∀ {xs : List V} {ds : List D}, AtL K mg B xs ds → AtL K mg B xs.reverse ds.reverse
  | _, _, .nil => .nil
  | _, _, .cons r t => by
    rw [List.reverse_cons, List.reverse_cons]
    exact (AtL.rev t).app (.cons r .nil)
theorem At.int_inv {v : V} {i : Int} (h : At K mg B v (.int i)) : v = .int i := by cases h; rfl
theorem At.bl_inv {v : V} {b : Bool} (h : At K mg B v (.bl b)) : v = .bl b := by cases h; rfl
theorem At.non_inv {v : V} (h : At K mg B v .non) : v = .non := by cases h; rfl
theorem At.tup_inv {v : V} {ds : List D} (h : At K mg B v (.tup ds)) : ∃ a xs, v = .ref a ∧ SqT K B a xs ∧ AtL K mg B xs ds := by
  cases h with | tup h r => exact ⟨_, _, rfl, h, r⟩
theorem At.lst_inv {v : V} {ds : List D} (h : At K mg B v (.lst ds)) : ∃ a xs, v = .ref a ∧ B a = some (.lst xs) ∧ AtL K mg B xs ds := by
  cases h with | lst h r => exact ⟨_, _, rfl, h, r⟩
theorem At.scr_inv {v : V} {ns : List Int} (h : At K mg B v (.scr ns)) : ∃ a, v = .ref a ∧ SqL K B a (ns.map V.int) := by
  cases h with | scr h => exact ⟨_, rfl, h⟩
theorem At.obj_inv {v : V} {c : Str} {ns : List Str} {ds : List D} (h : At K mg B v (.obj c ns ds)) : ∃ a C dx fs, v = .ref a ∧ mg c = some (.ref C) ∧ B a = some (.ins C dx fs) ∧ fs.map (·.1) = ns ∧ AtL K mg B (fs.map (·.2)) ds := by
  cases h with | obj h1 h2 h3 r => exact ⟨_, _, _, _, rfl, h1, h2, h3, r⟩
theorem AtL.ints : ∀ {xs : List V} {ns : List Int}, AtL K mg B xs (ns.map D.int) → xs = ns.map V.int
  | [], [], _ => rfl
  | _ :: _, _ :: _, .cons r t => by rw [r.int_inv, AtL.ints t]; rfl
theorem AtL.of_ints : ∀ ns : List Int, AtL K mg B (ns.map V.int) (ns.map D.int)
  | [] => .nil
  | n :: ns => .cons (.int n) (AtL.of_ints ns)
end
/-! ### slots, results -/
/-- what a slot holds: nothing known, a datum, a list of one's own (r: the caller's, handed by reference), an instance of one's own -/
inductive Sl where
  | no | val (d : D) | own (r : Bool) (ds : List D) | oin (r : Bool) (c : Str) (ns : List Str) (ds : List D)
abbrev En := List Sl
def Sl.isOwn : Sl → Bool
  | .own _ _ => true | .oin _ _ _ _ => true | _ => false
def Sl.isRef : Sl → Bool
  | .own r _ => r | .oin r _ _ _ => r | _ => false
inductive Res (α : Type) where
  | ok (a : α) (e : En) | exc (x : D) (e : En) | bad
abbrev M (α : Type) := En → Res α
def Res.wp {α : Type} (r : Res α) (Q : α → En → Prop) (E : D → En → Prop) : Prop := match r with
  | .ok a e => Q a e | .exc x e => E x e | .bad => False
def bd {α β : Type} (m : M α) (f : α → M β) : M β := fun e => match m e with
  | .ok a e' => f a e' | .exc x e' => .exc x e' | .bad => .bad
def pu {α : Type} (a : α) : M α := fun e => .ok a e
def li {α : Type} (o : Option α) : M α := fun e => match o with
  | some a => .ok a e | none => .bad
theorem wp_bd {α β : Type} {m : M α} {f : α → M β} {e : En} {Q : β → En → Prop} {E : D → En → Prop} : (bd m f e).wp Q E ↔ (m e).wp (fun a e' => (f a e').wp Q E) E := by
  unfold bd
  cases m e <;> exact Iff.rfl
theorem Res.wp.imp {α : Type} {r : Res α} {Q Q' : α → En → Prop} {E E' : D → En → Prop} (h : r.wp Q E) (hQ : ∀ a e, Q a e → Q' a e) (hE : ∀ x e, E x e → E' x e) : r.wp Q' E' := by
  cases r with
  | ok a e => exact hQ a e h
  | exc x e => exact hE x e h
  | bad => exact h
theorem wp_li {α : Type} {o : Option α} {e : En} {Q : α → En → Prop} {E : D → En → Prop} (h : (li o e).wp Q E) : ∃ a, o = some a ∧ Q a e := by
  cases o with
  | none => exact h.elim
  | some a => exact ⟨a, rfl, h⟩
/-! ### states -/
/-- the entry of a def: what was known, the heap, the addresses of what is handed by reference, the slots -/
structure Ent where
  B0 : Hp
  H0 : Hp
  R : List Addr
  s0 : St
def OwnA (Z : Ent) (B : Hp) (i : Nat) (r : Bool) (a : Addr) : Prop := B a = none ∧ (r = false → Z.H0 a = none) ∧ (r = true → a ∈ Z.R ∧ Z.s0[i]? = some (some (.ref a)))
def SlAt (K : PySem.W.Frag) (mg : Str → Option Value) (Z : Ent) (B H : Hp) (i : Nat) (o : Option (Option V)) : Sl → Prop
  | .no => True
  | .val d => ∃ v, o = some (some v) ∧ At K mg B v d
  | .own r ds => ∃ a xs, o = some (some (.ref a)) ∧ H a = some (.lst xs) ∧ AtL K mg B xs ds ∧ OwnA Z B i r a
  | .oin r c ns ds => ∃ a C dx fs, o = some (some (.ref a)) ∧ mg c = some (.ref C) ∧ H a = some (.ins C dx fs) ∧ fs.map (·.1) = ns ∧ AtL K mg B (fs.map (·.2)) ds ∧ OwnA Z B i r a
def ownAt (e : En) (i : Nat) : Prop := ∃ s, e[i]? = some s ∧ s.isOwn = true
structure SR (K : PySem.W.Frag) (mg : Str → Option Value) (Z : Ent) (B : Hp) (σ : St) (H : Hp) (e : En) : Prop where
  le : Same Z.B0 B
  bh : Same B H
  fh : ∀ a o, Z.H0 a = some o → a ∉ Z.R → H a = some o
  nb : ∀ a o, B a = some o → Z.B0 a = some o ∨ Z.H0 a = none
  dm : ∀ a o, Z.H0 a = some o → ∃ o', H a = some o'
  ln : σ.length = e.length
  sl : ∀ i s, e[i]? = some s → SlAt K mg Z B H i σ[i]? s
  ds : ∀ i j a, i ≠ j → ownAt e i → ownAt e j → σ[i]? = some (some (.ref a)) → σ[j]? ≠ some (some (.ref a))
/-- no slot of one's own is at p -/
def Free (σ : St) (e : En) (p : Addr) : Prop := ∀ i, ownAt e i → σ[i]? ≠ some (some (.ref p))
section
variable {K : PySem.W.Frag} {mg : Str → Option Value} {Z : Ent} {B B' : Hp} {σ : St} {H H' : Hp} {e e' : En} {p : Addr} {o : HO}
theorem SlAt.mono {i : Nat} {q : Option (Option V)} {s : Sl} (h : SlAt K mg Z B H i q s) (l : Same B B') (hb : ∀ a o, s.isOwn = true → q = some (some (.ref a)) → H a = some o → B a = none → B' a = none ∧ H' a = some o) : SlAt K mg Z B' H' i q s := by
  cases s with
  | no => trivial
  | val d =>
    obtain ⟨v, e, r⟩ := h
    exact ⟨v, e, r.mono l⟩
  | own r ds =>
    obtain ⟨a, xs, e, h1, h2, h3⟩ := h
    obtain ⟨z1, z2⟩ := hb a _ rfl e h1 h3.1
    exact ⟨a, xs, e, z2, h2.mono l, z1, h3.2⟩
  | oin r c ns ds =>
    obtain ⟨a, C, dx, fs, e, h0, h1, h2, h3, h4⟩ := h
    obtain ⟨z1, z2⟩ := hb a _ rfl e h1 h4.1
    exact ⟨a, C, dx, fs, e, h0, z2, h2, h3.mono l, z1, h4.2⟩
theorem SlAt.at_own {i : Nat} {q : Option (Option V)} {s : Sl} (h : SlAt K mg Z B H i q s) (hs : s.isOwn = true) : ∃ a o, q = some (some (.ref a)) ∧ H a = some o ∧ OwnA Z B i s.isRef a := by
  cases s with
  | no => cases hs
  | val d => cases hs
  | own r ds =>
    obtain ⟨a, xs, e, h1, h2, h3⟩ := h
    exact ⟨a, _, e, h1, h3⟩
  | oin r c ns ds =>
    obtain ⟨a, C, dx, fs, e, h0, h1, h2, h3, h4⟩ := h
    exact ⟨a, _, e, h1, h4⟩
/-- a new object is known from now on -/
theorem SR.new (S : SR K mg Z B σ H e) (hp : H p = none) : SR K mg Z (upd B p o) σ (upd H p o) e ∧ Same B (upd B p o) := by
  have hB : B p = none := S.bh.free hp
  have h0 : Z.H0 p = none := by
    cases q : Z.H0 p with
    | none => rfl
    | some u =>
      obtain ⟨o', z⟩ := S.dm p u q
      rw [hp] at z; cases z
  have l : Same B (upd B p o) := fun b u q => by rw [upd_ne (ne_of_none q hB)]; exact q
  refine ⟨⟨S.le.trans l, fun b u q => ?_, fun b u q n => ?_, fun b u q => ?_, fun b u q => ?_, S.ln, fun i s q => (S.sl i s q).mono l fun a u _ _ h1 h2 => ?_, S.ds⟩, l⟩
  · by_cases hb : b = p
    · subst hb; rw [upd_same] at q ⊢; exact q
    · rw [upd_ne hb] at q ⊢; exact S.bh b u q
  · rw [upd_ne (ne_of_none (S.fh b u q n) hp)]; exact S.fh b u q n
  · by_cases hb : b = p
    · subst hb; exact .inr h0
    · rw [upd_ne hb] at q; exact S.nb b u q
  · obtain ⟨o', z⟩ := S.dm b u q
    exact ⟨o', by rw [upd_ne (ne_of_none z hp)]; exact z⟩
  · have ne := ne_of_none h1 hp
    exact ⟨by rw [upd_ne ne]; exact h2, by rw [upd_ne ne]; exact h1⟩
/-- a new object that is not known yet -/
theorem SR.newO (S : SR K mg Z B σ H e) (hp : H p = none) : SR K mg Z B σ (upd H p o) e ∧ B p = none ∧ Z.H0 p = none ∧ Free σ e p := by
  have hB : B p = none := S.bh.free hp
  have h0 : Z.H0 p = none := by
    cases q : Z.H0 p with
    | none => rfl
    | some u =>
      obtain ⟨o', z⟩ := S.dm p u q
      rw [hp] at z; cases z
  refine ⟨⟨S.le, fun b u q => ?_, fun b u q n => ?_, S.nb, fun b u q => ?_, S.ln, fun i s q => (S.sl i s q).mono (Same.refl B) fun a u _ _ h1 h2 => ?_, S.ds⟩, hB, h0, fun i ⟨s, q, hs⟩ z => ?_⟩
  · rw [upd_ne (ne_of_none (S.bh b u q) hp)]; exact S.bh b u q
  · rw [upd_ne (ne_of_none (S.fh b u q n) hp)]; exact S.fh b u q n
  · obtain ⟨o', z⟩ := S.dm b u q
    exact ⟨o', by rw [upd_ne (ne_of_none z hp)]; exact z⟩
  · exact ⟨h2, by rw [upd_ne (ne_of_none h1 hp)]; exact h1⟩
  · obtain ⟨a, u, e1, h1, _⟩ := (S.sl i s q).at_own hs
    rw [z] at e1
    cases e1
    rw [hp] at h1; cases h1
/-- what stands is known from now on -/
theorem SR.freeze (S : SR K mg Z B σ H e) (hp : H p = some o) (hB : B p = none) (h0 : Z.H0 p = none) (hf : Free σ e p) : SR K mg Z (upd B p o) σ H e ∧ Same B (upd B p o) := by
  have l : Same B (upd B p o) := fun b u q => by rw [upd_ne (ne_of_none q hB)]; exact q
  refine ⟨⟨S.le.trans l, fun b u q => ?_, S.fh, fun b u q => ?_, S.dm, S.ln, fun i s q => (S.sl i s q).mono l fun a u hs e1 h1 h2 => ?_, S.ds⟩, l⟩
  · by_cases hb : b = p
    · subst hb; rw [upd_same] at q; cases q; exact hp
    · rw [upd_ne hb] at q; exact S.bh b u q
  · by_cases hb : b = p
    · subst hb; exact .inr h0
    · rw [upd_ne hb] at q; exact S.nb b u q
  · have ne : a ≠ p := fun z => hf i ⟨s, q, hs⟩ (by rw [e1, z])
    exact ⟨by rw [upd_ne ne]; exact h2, h1⟩
theorem ownAt_set {i j : Nat} {s : Sl} (h : ownAt (e.set i s) j) : (j = i ∧ s.isOwn = true) ∨ (j ≠ i ∧ ownAt e j) := by
  obtain ⟨s', q, hs⟩ := h
  by_cases hj : j = i
  · subst hj
    rw [List.getElem?_set] at q
    simp at q
    obtain ⟨_, rfl⟩ := q
    exact .inl ⟨rfl, hs⟩
  · rw [List.getElem?_set_ne (Ne.symm hj)] at q
    exact .inr ⟨hj, s', q, hs⟩
/-- a slot is stored: a datum -/
theorem SR.set {i : Nat} {v : V} {d : D} (S : SR K mg Z B σ H e) (r : At K mg B v d) : SR K mg Z B (σ.set i (some v)) H (e.set i (.val d)) := by
  refine ⟨S.le, S.bh, S.fh, S.nb, S.dm, by simp [S.ln], fun j s q => ?_, fun j k a hjk hj hk e1 => ?_⟩
  · by_cases hj : j = i
    · subst hj
      rw [List.getElem?_set] at q ⊢
      simp only [if_true] at q ⊢
      split at q
      · cases q
        rename_i hlt
        rw [if_pos (by rw [S.ln]; exact hlt)]
        exact ⟨v, rfl, r⟩
      · cases q
    · rw [List.getElem?_set_ne (Ne.symm hj)] at q ⊢
      exact S.sl j s q
  · rcases ownAt_set hj with ⟨_, z⟩ | ⟨n1, hj'⟩
    · cases z
    · rcases ownAt_set hk with ⟨_, z⟩ | ⟨n2, hk'⟩
      · cases z
      · rw [List.getElem?_set_ne (Ne.symm n1)] at e1
        rw [List.getElem?_set_ne (Ne.symm n2)]
        exact S.ds j k a hjk hj' hk' e1
/-- a slot is stored: something new of one's own at p -/
theorem SR.setO {i : Nat} {s : Sl} (S : SR K mg Z B σ H e) (hf : Free σ e p) (hs : i < e.length → SlAt K mg Z B H i (some (some (.ref p))) s) : SR K mg Z B (σ.set i (some (.ref p))) H (e.set i s) := by
  refine ⟨S.le, S.bh, S.fh, S.nb, S.dm, by simp [S.ln], fun j s' q => ?_, fun j k a hjk hj hk e1 => ?_⟩
  · by_cases hj : j = i
    · subst hj
      rw [List.getElem?_set] at q ⊢
      simp only [if_true] at q ⊢
      split at q
      · cases q
        rename_i hlt
        rw [if_pos (by rw [S.ln]; exact hlt)]
        exact hs hlt
      · cases q
    · rw [List.getElem?_set_ne (Ne.symm hj)] at q ⊢
      exact S.sl j s' q
  · rcases ownAt_set hj with ⟨z1, _⟩ | ⟨n1, hj'⟩
    · subst z1
      rcases ownAt_set hk with ⟨z2, _⟩ | ⟨n2, hk'⟩
      · exact absurd z2.symm hjk
      · rw [List.getElem?_set] at e1
        simp only [if_true] at e1
        split at e1
        · cases e1
          rw [List.getElem?_set_ne (Ne.symm n2)]
          exact hf k hk'
        · cases e1
    · rw [List.getElem?_set_ne (Ne.symm n1)] at e1
      rcases ownAt_set hk with ⟨z2, _⟩ | ⟨n2, hk'⟩
      · subst z2
        rw [List.getElem?_set]
        simp only [if_true]
        split
        · intro z
          cases z
          exact hf j hj' e1
        · intro z; cases z
      · rw [List.getElem?_set_ne (Ne.symm n2)]
        exact S.ds j k a hjk hj' hk' e1
/-- what a slot holds is told less -/
theorem SR.weak {i : Nat} {s : Sl} (S : SR K mg Z B σ H e) (hs : i < e.length → SlAt K mg Z B H i σ[i]? s) (ho : s.isOwn = true → ownAt e i) : SR K mg Z B σ H (e.set i s) := by
  refine ⟨S.le, S.bh, S.fh, S.nb, S.dm, by simp [S.ln], fun j s' q => ?_, fun j k a hjk hj hk e1 => ?_⟩
  · by_cases hj : j = i
    · subst hj
      rw [List.getElem?_set] at q
      simp only [if_true] at q
      split at q
      · cases q
        rename_i hlt
        exact hs hlt
      · cases q
    · rw [List.getElem?_set_ne (Ne.symm hj)] at q
      exact S.sl j s' q
  · have z1 : ownAt e j := (ownAt_set hj).elim (fun z => z.1 ▸ ho z.2) fun z => z.2
    have z2 : ownAt e k := (ownAt_set hk).elim (fun z => z.1 ▸ ho z.2) fun z => z.2
    exact S.ds j k a hjk z1 z2 e1
/-- an object of one's own is written -/
theorem SR.write {i : Nat} {s : Sl} {a : Addr} {o : HO} (S : SR K mg Z B σ H e) (hi : ownAt e i) (ha : σ[i]? = some (some (.ref a))) (hs : SlAt K mg Z B (upd H a o) i σ[i]? s) (ho : s.isOwn = true) : SR K mg Z B σ (upd H a o) (e.set i s) := by
  obtain ⟨s0, q0, hs0⟩ := hi
  obtain ⟨a', o', e1, h1, hB, hr, hr'⟩ := (S.sl i s0 q0).at_own hs0
  rw [ha] at e1
  cases e1
  refine ⟨S.le, fun b u q => ?_, fun b u q n => ?_, S.nb, fun b u q => ?_, by simp [S.ln], fun j s' q => ?_, fun j k b hjk hj hk e2 => ?_⟩
  · rw [upd_ne (ne_of_none q hB)]; exact S.bh b u q
  · have ne : b ≠ a := fun z => by
      subst z
      cases hrf : s0.isRef with
      | false => rw [hr hrf] at q; cases q
      | true => exact n (hr' hrf).1
    rw [upd_ne ne]; exact S.fh b u q n
  · by_cases hb : b = a
    · subst hb; exact ⟨o, upd_same⟩
    · obtain ⟨o', z⟩ := S.dm b u q
      exact ⟨o', by rw [upd_ne hb]; exact z⟩
  · by_cases hj : j = i
    · subst hj
      rw [List.getElem?_set] at q
      simp only [if_true] at q
      split at q
      · cases q; exact hs
      · cases q
    · rw [List.getElem?_set_ne (Ne.symm hj)] at q
      refine (S.sl j s' q).mono (Same.refl B) fun b u hs' e2 h2 h3 => ⟨h3, ?_⟩
      have ne : b ≠ a := fun z => by
        subst z
        exact S.ds i j b (Ne.symm hj) ⟨s0, q0, hs0⟩ ⟨s', q, hs'⟩ ha e2
      rw [upd_ne ne]; exact h2
  · have z1 : ownAt e j := (ownAt_set hj).elim (fun z => z.1 ▸ ⟨s0, q0, hs0⟩) fun z => z.2
    have z2 : ownAt e k := (ownAt_set hk).elim (fun z => z.1 ▸ ⟨s0, q0, hs0⟩) fun z => z.2
    exact S.ds j k b hjk z1 z2 e2
end
/-! ### judgements -/
/-- an exception that carries one field -/
def XAt (K : PySem.W.Frag) (mg : Str → Option Value) (B H : Hp) (x : D) (cls : Value) (dd : Option Addr) : Prop :=
  ∃ c n d C a v, x = .obj c [n] [d] ∧ mg c = some (.ref C) ∧ cls = .ref C ∧ dd = some a ∧ B a = some (.xd [(n, v)]) ∧ At K mg B v d
def PV (K : PySem.W.Frag) (mg : Str → Option Value) (Z : Ent) (B : Hp) (σ : St) (Q : VK) : D → En → Prop := fun d e' => ∀ v B' H', SR K mg Z B' σ H' e' → Same B B' → At K mg B' v d → Q v H'
def PX (K : PySem.W.Frag) (mg : Str → Option Value) (Z : Ent) (B : Hp) (σ : St) (W : WX) : D → En → Prop := fun x e' => ∀ cls dd B' H', SR K mg Z B' σ H' e' → Same B B' → XAt K mg B' H' x cls dd → W cls dd σ H'
def PB (K : PySem.W.Frag) (mg : Str → Option Value) (Z : Ent) (B : Hp) (σ : St) (Q : Bool → Hp → Prop) : Bool → En → Prop := fun b e' => ∀ B' H', SR K mg Z B' σ H' e' → Same B B' → Q b H'
def PL (K : PySem.W.Frag) (mg : Str → Option Value) (Z : Ent) (B : Hp) (σ : St) (Q : List V → Hp → Prop) : List D → En → Prop := fun ds e' => ∀ vs B' H', SR K mg Z B' σ H' e' → Same B B' → AtL K mg B' vs ds → Q vs H'
/-- a new list, not known yet -/
def PN (K : PySem.W.Frag) (mg : Str → Option Value) (Z : Ent) (B : Hp) (σ : St) (Q : VK) : List D → En → Prop := fun ds e' => ∀ p xs B' H', SR K mg Z B' σ H' e' → Same B B' → H' p = some (.lst xs) → AtL K mg B' xs ds → B' p = none → Z.H0 p = none → Free σ e' p → Q (.ref p) H'
inductive Fl where
  | nx | rt (d : D) | bk | ct | rn (ds : List D)
def PF (K : PySem.W.Frag) (mg : Str → Option Value) (Z : Ent) (B : Hp) (Y : Ends) : Fl → En → Prop := fun f e' => match f with
  | .nx => ∀ σ' B' H', SR K mg Z B' σ' H' e' → Same B B' → Y.nx σ' H'
  | .rt d => ∀ v σ' B' H', SR K mg Z B' σ' H' e' → Same B B' → At K mg B' v d → Y.rt v H'
  | .bk => ∀ σ' B' H', SR K mg Z B' σ' H' e' → Same B B' → Y.bk σ' H'
  | .ct => ∀ σ' B' H', SR K mg Z B' σ' H' e' → Same B B' → Y.ct σ' H'
  | .rn ds => ∀ p xs σ' B' H', SR K mg Z B' σ' H' e' → Same B B' → H' p = some (.lst xs) → AtL K mg B' xs ds → B' p = none → Z.H0 p = none → Free σ' e' p → Y.rt (.ref p) H'
def PXs (K : PySem.W.Frag) (mg : Str → Option Value) (Z : Ent) (B : Hp) (W : WX) : D → En → Prop := fun x e' => ∀ cls dd σ' B' H', SR K mg Z B' σ' H' e' → Same B B' → XAt K mg B' H' x cls dd → W cls dd σ' H'
def EvD (K : PySem.W.Frag) (mg : Str → Option Value) (W : WX) (te : TE) (f : M D) : Prop := ∀ Z B σ H e (Q : VK), SR K mg Z B σ H e → (f e).wp (PV K mg Z B σ Q) (PX K mg Z B σ W) → te σ H Q
def EvB (K : PySem.W.Frag) (mg : Str → Option Value) (W : WX) (tt : TT) (f : M Bool) : Prop := ∀ Z B σ H e (Q : Bool → Hp → Prop), SR K mg Z B σ H e → (f e).wp (PB K mg Z B σ Q) (PX K mg Z B σ W) → tt σ H Q
def EvL (K : PySem.W.Frag) (mg : Str → Option Value) (W : WX) (ta : TA) (f : M (List D)) : Prop := ∀ Z B σ H e (Q : List V → Hp → Prop), SR K mg Z B σ H e → (f e).wp (PL K mg Z B σ Q) (PX K mg Z B σ W) → ta σ H Q
def EvN (K : PySem.W.Frag) (mg : Str → Option Value) (W : WX) (te : TE) (f : M (List D)) : Prop := ∀ Z B σ H e (Q : VK), SR K mg Z B σ H e → (f e).wp (PN K mg Z B σ Q) (PX K mg Z B σ W) → te σ H Q
def EvS (K : PySem.W.Frag) (mg : Str → Option Value) (W : WX) (ts : TS) (f : M Fl) : Prop := ∀ Z B σ H e (Y : Ends), SR K mg Z B σ H e → (f e).wp (PF K mg Z B Y) (PXs K mg Z B W) → ts Y σ H
def PED (X : Cx) (W : WX) (a : Expr) (f : M D) : Prop := ∃ te, PE X a te ∧ EvD X.K X.mg W te f
def PBD (X : Cx) (W : WX) (a : Expr) (f : M Bool) : Prop := ∃ tt, PT X a tt ∧ EvB X.K X.mg W tt f
def PAD (X : Cx) (W : WX) (as : List Expr) (f : M (List D)) : Prop := ∃ ta, PA X as ta ∧ EvL X.K X.mg W ta f
def PND (X : Cx) (W : WX) (a : Expr) (f : M (List D)) : Prop := ∃ te, PE X a te ∧ EvN X.K X.mg W te f
def PSD (X : Cx) (W : WX) (st : Stmt) (f : M Fl) : Prop := ∃ ts, PS X st ts ∧ EvS X.K X.mg W ts f
def PSsD (X : Cx) (W : WX) (st : List Stmt) (f : M Fl) : Prop := ∃ ts, PSs X st ts ∧ EvS X.K X.mg W ts f
section
variable {K : PySem.W.Frag} {mg : Str → Option Value} {Z : Ent} {B B1 : Hp} {σ : St} {W : WX}
theorem PV.up {Q : VK} {d : D} {e : En} (l : Same B B1) (h : PV K mg Z B σ Q d e) : PV K mg Z B1 σ Q d e := fun v B' H' S l' a => h v B' H' S (l.trans l') a
theorem PX.up {d : D} {e : En} (l : Same B B1) (h : PX K mg Z B σ W d e) : PX K mg Z B1 σ W d e := fun c dd B' H' S l' a => h c dd B' H' S (l.trans l') a
theorem PB.up {Q : Bool → Hp → Prop} {d : Bool} {e : En} (l : Same B B1) (h : PB K mg Z B σ Q d e) : PB K mg Z B1 σ Q d e := fun B' H' S l' => h B' H' S (l.trans l')
theorem PL.up {Q : List V → Hp → Prop} {d : List D} {e : En} (l : Same B B1) (h : PL K mg Z B σ Q d e) : PL K mg Z B1 σ Q d e := fun v B' H' S l' a => h v B' H' S (l.trans l') a
theorem PN.up {Q : VK} {d : List D} {e : En} (l : Same B B1) (h : PN K mg Z B σ Q d e) : PN K mg Z B1 σ Q d e := fun p xs B' H' S l' a => h p xs B' H' S (l.trans l') a
theorem PF.up {Y : Ends} {f : Fl} {e : En} (l : Same B B1) (h : PF K mg Z B Y f e) : PF K mg Z B1 Y f e := by
  cases f with
  | nx => exact fun σ' B' H' S l' => h σ' B' H' S (l.trans l')
  | rt d => exact fun v σ' B' H' S l' a => h v σ' B' H' S (l.trans l') a
  | bk => exact fun σ' B' H' S l' => h σ' B' H' S (l.trans l')
  | ct => exact fun σ' B' H' S l' => h σ' B' H' S (l.trans l')
  | rn ds => exact fun p xs σ' B' H' S l' a1 a2 a3 a4 a5 => h p xs σ' B' H' S (l.trans l') a1 a2 a3 a4 a5
theorem PXs.up {x : D} {e : En} (l : Same B B1) (h : PXs K mg Z B W x e) : PXs K mg Z B1 W x e := fun c dd σ' B' H' S l' a => h c dd σ' B' H' S (l.trans l') a
theorem PXs.at {x : D} {e : En} (h : PXs K mg Z B W x e) : PX K mg Z B σ W x e := fun c dd B' H' S l' a => h c dd σ B' H' S l' a
theorem upV {r : Res D} {Q : VK} (l : Same B B1) (h : r.wp (PV K mg Z B σ Q) (PX K mg Z B σ W)) : r.wp (PV K mg Z B1 σ Q) (PX K mg Z B1 σ W) := h.imp (fun _ _ => PV.up l) fun _ _ => PX.up l
theorem upB {r : Res Bool} {Q : Bool → Hp → Prop} (l : Same B B1) (h : r.wp (PB K mg Z B σ Q) (PX K mg Z B σ W)) : r.wp (PB K mg Z B1 σ Q) (PX K mg Z B1 σ W) := h.imp (fun _ _ => PB.up l) fun _ _ => PX.up l
theorem upN {r : Res (List D)} {Q : VK} (l : Same B B1) (h : r.wp (PN K mg Z B σ Q) (PX K mg Z B σ W)) : r.wp (PN K mg Z B1 σ Q) (PX K mg Z B1 σ W) := h.imp (fun _ _ => PN.up l) fun _ _ => PX.up l
theorem upF {r : Res Fl} {Y : Ends} (l : Same B B1) (h : r.wp (PF K mg Z B Y) (PXs K mg Z B W)) : r.wp (PF K mg Z B1 Y) (PXs K mg Z B1 W) := h.imp (fun _ _ => PF.up l) fun _ _ => PXs.up l
/-! ### the simplest rules -/
variable {ta tb te : TE} {fa fb : M D}
theorem EvD.then {α : Type} {P : α → En → Prop} {E : D → En → Prop} {g : D → M α} (ha : EvD K mg W ta fa) {H : Hp} {e : En} {Q : VK} (S : SR K mg Z B σ H e) (h : (bd fa g e).wp P E) (hE : ∀ x e', E x e' → PX K mg Z B σ W x e')
    (k : ∀ d e' v B' H', SR K mg Z B' σ H' e' → Same B B' → At K mg B' v d → (g d e').wp P E → Q v H') : ta σ H Q := by
  refine ha Z B σ H e Q S ((wp_bd.mp h).imp (fun d e' q v B' H' S' l a => k d e' v B' H' S' l a q) fun x e' q => hE x e' q)
theorem EvB.then {α : Type} {P : α → En → Prop} {E : D → En → Prop} {tt : TT} {fa : M Bool} {g : Bool → M α} (ha : EvB K mg W tt fa) {H : Hp} {e : En} {Q : Bool → Hp → Prop} (S : SR K mg Z B σ H e) (h : (bd fa g e).wp P E) (hE : ∀ x e', E x e' → PX K mg Z B σ W x e')
    (k : ∀ d e' B' H', SR K mg Z B' σ H' e' → Same B B' → (g d e').wp P E → Q d H') : tt σ H Q := by
  refine ha Z B σ H e Q S ((wp_bd.mp h).imp (fun d e' q B' H' S' l => k d e' B' H' S' l q) fun x e' q => hE x e' q)
theorem EvL.then {α : Type} {P : α → En → Prop} {E : D → En → Prop} {tt : TA} {fa : M (List D)} {g : List D → M α} (ha : EvL K mg W tt fa) {H : Hp} {e : En} {Q : List V → Hp → Prop} (S : SR K mg Z B σ H e) (h : (bd fa g e).wp P E) (hE : ∀ x e', E x e' → PX K mg Z B σ W x e')
    (k : ∀ d e' v B' H', SR K mg Z B' σ H' e' → Same B B' → AtL K mg B' v d → (g d e').wp P E → Q v H') : tt σ H Q := by
  refine ha Z B σ H e Q S ((wp_bd.mp h).imp (fun d e' q v B' H' S' l a => k d e' v B' H' S' l a q) fun x e' q => hE x e' q)
theorem EvN.then {α : Type} {P : α → En → Prop} {E : D → En → Prop} {fa : M (List D)} {g : List D → M α} (ha : EvN K mg W ta fa) {H : Hp} {e : En} {Q : VK} (S : SR K mg Z B σ H e) (h : (bd fa g e).wp P E) (hE : ∀ x e', E x e' → PX K mg Z B σ W x e')
    (k : ∀ d e' p xs B' H', SR K mg Z B' σ H' e' → Same B B' → H' p = some (.lst xs) → AtL K mg B' xs d → B' p = none → Z.H0 p = none → Free σ e' p → (g d e').wp P E → Q (.ref p) H') : ta σ H Q := by
  refine ha Z B σ H e Q S ((wp_bd.mp h).imp (fun d e' q p xs B' H' S' l a1 a2 a3 a4 a5 => k d e' p xs B' H' S' l a1 a2 a3 a4 a5 q) fun x e' q => hE x e' q)
end
end Dl
set_option maxHeartbeats 1000000
/-! Layer D, part 1: expressions. -/
namespace Dl
open PySem PySem.Spec PyProof.Rows L2
def orM {α : Type} (a b : M α) : M α := fun e => match a e with
  | .bad => b e | r => r
theorem wp_or {α : Type} {a b : M α} {e : En} {Q : α → En → Prop} {E : D → En → Prop} (h : (orM a b e).wp Q E) : (a e).wp Q E ∨ (b e).wp Q E := by
  unfold orM at h
  cases q : a e with
  | ok x e' => rw [q] at h; exact .inl h
  | exc x e' => rw [q] at h; exact .inl h
  | bad => rw [q] at h; exact .inr h
def OpD (K : PySem.W.Frag) (mg : Str → Option Value) (W : WX) (r : R2) (o : D → D → M D) : Prop := ∀ Z B σ H e x y a b (Q : VK), SR K mg Z B σ H e → At K mg B x a → At K mg B y b → (o a b e).wp (PV K mg Z B σ Q) (PX K mg Z B σ W) → r x y H Q
def ClD (K : PySem.W.Frag) (mg : Str → Option Value) (W : WX) (r : List V → Hp → VK → Prop) (o : List D → M D) : Prop := ∀ Z B σ H e xs as (Q : VK), SR K mg Z B σ H e → AtL K mg B xs as → (o as e).wp (PV K mg Z B σ Q) (PX K mg Z B σ W) → r xs H Q
theorem OpD.or {K : PySem.W.Frag} {mg : Str → Option Value} {W : WX} {r r' : R2} {o o' : D → D → M D} (h : OpD K mg W r o) (h' : OpD K mg W r' o') : OpD K mg W (fun x y H Q => r x y H Q ∨ r' x y H Q) (fun a b => orM (o a b) (o' a b)) :=
  fun Z B σ H e x y a b Q S ha hb q => (wp_or q).elim (fun q => .inl (h Z B σ H e x y a b Q S ha hb q)) fun q => .inr (h' Z B σ H e x y a b Q S ha hb q)
theorem ClD.or {K : PySem.W.Frag} {mg : Str → Option Value} {W : WX} {r r' : List V → Hp → VK → Prop} {o o' : List D → M D} (h : ClD K mg W r o) (h' : ClD K mg W r' o') : ClD K mg W (fun x H Q => r x H Q ∨ r' x H Q) (fun a => orM (o a) (o' a)) :=
  fun Z B σ H e x a Q S ha q => (wp_or q).elim (fun q => .inl (h Z B σ H e x a Q S ha q)) fun q => .inr (h' Z B σ H e x a Q S ha q)
/-! ### ints -/
def opI (c : Int → Int → Bool) (g : Int → Int → D) : D → D → M D := fun a b => li (match a, b with
  | .int i, .int j => if c i j = true then some (g i j) else none
  | _, _ => none)
def dAdd : D → D → M D := opI (fun _ _ => true) fun i j => .int (i + j)
def dSub : D → D → M D := opI (fun _ _ => true) fun i j => .int (i - j)
def cMul (i j : Int) : Bool := decide ((-(2 ^ 64) < i ∧ i < 2 ^ 64) ∨ (-(2 ^ 64) < j ∧ j < 2 ^ 64)) || decide (i.natAbs.log2 + j.natAbs.log2 < 1000000)
def dMul : D → D → M D := opI cMul fun i j => .int (i * j)
def dMod : D → D → M D := opI (fun _ j => decide (0 < j)) fun i j => .int (i % j)
def dDiv : D → D → M D := opI (fun _ j => decide (0 < j ∧ j.natAbs.log2 < 9000)) fun i j => .int (i / j)
def dPow : D → D → M D := opI (fun i j => decide (0 ≤ j ∧ j ≤ 1000000 ∧ i.natAbs < 2 ^ 64)) fun i j => .int (i ^ j.toNat)
def dLt : D → D → M D := opI (fun _ _ => true) fun i j => .bl (decide (i < j))
def dLe : D → D → M D := opI (fun _ _ => true) fun i j => .bl (decide (i ≤ j))
def dGt : D → D → M D := opI (fun _ _ => true) fun i j => .bl (decide (j < i))
def dGe : D → D → M D := opI (fun _ _ => true) fun i j => .bl (decide (j ≤ i))
section
variable {K : PySem.W.Frag} {mg : Str → Option Value} {W : WX}
theorem opI_wp {c : Int → Int → Bool} {g : Int → Int → D} {a b : D} {e : En} {Q : D → En → Prop} {E : D → En → Prop} (h : (opI c g a b e).wp Q E) : ∃ i j, a = .int i ∧ b = .int j ∧ c i j = true ∧ Q (g i j) e := by
  obtain ⟨d, h1, h2⟩ := wp_li h
  cases a with
  | int i =>
    cases b with
    | int j =>
      have h1 : (if c i j = true then some (g i j) else none) = some d := h1
      split at h1
      · cases h1; exact ⟨i, j, rfl, rfl, by assumption, h2⟩
      · cases h1
    | _ => cases h1
  | _ => cases h1
theorem opD_I {C : Int → Int → Prop} {g : Int → Int → V} {gd : Int → Int → D} {c : Int → Int → Bool} (hc : ∀ i j, c i j = true → C i j) (hg : ∀ B i j, At K mg B (g i j) (gd i j)) : OpD K mg W (rI C g) (opI c gd) := by
  intro Z B σ H e x y a b Q S ha hb q
  obtain ⟨i, j, rfl, rfl, h1, h2⟩ := opI_wp q
  exact ⟨i, j, ha.int_inv, hb.int_inv, hc i j h1, h2 _ B H S (Same.refl B) (hg B i j)⟩
theorem opD_I0 {g : Int → Int → V} {gd : Int → Int → D} {c : Int → Int → Bool} (hg : ∀ B i j, At K mg B (g i j) (gd i j)) : OpD K mg W (rI0 g) (opI c gd) := by
  intro Z B σ H e x y a b Q S ha hb q
  obtain ⟨i, j, rfl, rfl, h1, h2⟩ := opI_wp q
  exact ⟨i, j, ha.int_inv, hb.int_inv, h2 _ B H S (Same.refl B) (hg B i j)⟩
theorem od_add : OpD K mg W (rI0 fun i j => .int (i + j)) dAdd := opD_I0 fun _ _ _ => .int _
theorem od_sub : OpD K mg W (rI0 fun i j => .int (i - j)) dSub := opD_I0 fun _ _ _ => .int _
theorem od_mod : OpD K mg W (rI (fun _ j => 0 < j) fun i j => .int (i % j)) dMod := opD_I (fun _ _ h => of_decide_eq_true h) fun _ _ _ => .int _
theorem od_div : OpD K mg W (rI CDivW fun i j => .int (i / j)) dDiv := opD_I (fun _ j h => (of_decide_eq_true h : 0 < j ∧ j.natAbs.log2 < 9000)) fun _ _ _ => .int _
theorem od_pow : OpD K mg W (rI CPow fun i j => .int (i ^ j.toNat)) dPow := opD_I (fun i j h => (of_decide_eq_true h : 0 ≤ j ∧ j ≤ 1000000 ∧ i.natAbs < 2 ^ 64)) fun _ _ _ => .int _
theorem od_lt : OpD K mg W (rI0 fun i j => .bl (decide (i < j))) dLt := opD_I0 fun _ _ _ => .bl _
theorem od_le : OpD K mg W (rI0 fun i j => .bl (decide (i ≤ j))) dLe := opD_I0 fun _ _ _ => .bl _
theorem od_gt : OpD K mg W (rI0 fun i j => .bl (decide (j < i))) dGt := opD_I0 fun _ _ _ => .bl _
theorem od_ge : OpD K mg W (rI0 fun i j => .bl (decide (j ≤ i))) dGe := opD_I0 fun _ _ _ => .bl _
def CMulU (i j : Int) : Prop := CMul i j ∨ CMulW i j
theorem od_mul : OpD K mg W (rI CMulU fun i j => .int (i * j)) dMul := opD_I (fun i j h => by
  unfold cMul at h
  rcases Bool.or_eq_true _ _ ▸ h with h | h
  · exact Or.inl (of_decide_eq_true h : (-(2 ^ 64) < i ∧ i < 2 ^ 64) ∨ (-(2 ^ 64) < j ∧ j < 2 ^ 64))
  · exact Or.inr (of_decide_eq_true h : i.natAbs.log2 + j.natAbs.log2 < 1000000)) fun _ _ _ => .int _
end
theorem op_mulU {X : Cx} : OpR X (binaryOp .Mult) (rI CMulU fun i j => .int (i * j)) := L2.opI fun i j _ _ _ _ _ hc q => mul_int q (Or.elim (show CMul i j ∨ CMulW i j from hc) (fun h => h.ok) fun h => h.ok)
/-! ### lists and tuples -/
def dCatL : D → D → M D := fun a b => li (match a, b with
  | .lst xs, .lst ys => if xs.length + ys.length ≤ 16777216 then some (.lst (xs ++ ys)) else none
  | _, _ => none)
section
variable {K : PySem.W.Frag} {mg : Str → Option Value} {W : WX}
theorem sz {n : Nat} (h : n ≤ 16777216) : n ≤ sizeLine := by rw [sizeLine_eq]; exact h
theorem od_catL : OpD K mg W rCat dCatL := by
  intro Z B σ H e x y a b Q S ha hb q
  obtain ⟨d, h1, h2⟩ := wp_li q
  cases a with
  | lst as =>
    cases b with
    | lst bs =>
      have h1 : (if as.length + bs.length ≤ 16777216 then some (D.lst (as ++ bs)) else none) = some d := h1
      split at h1
      · cases h1
        obtain ⟨p, xs, rfl, e1, r1⟩ := ha.lst_inv
        obtain ⟨p2, ys, rfl, e2, r2⟩ := hb.lst_inv
        refine ⟨p, p2, xs, ys, rfl, rfl, S.bh _ _ e1, S.bh _ _ e2, sz (by rw [r1.length, r2.length]; assumption), fun q hq => ?_⟩
        obtain ⟨S', l⟩ := S.new (o := .lst (xs ++ ys)) hq
        exact h2 _ _ _ S' l (.lst upd_same ((r1.mono l).app (r2.mono l)))
      · cases h1
    | _ => cases h1
  | _ => cases h1
end
/-! ### names, constants, operators -/
def fVar (i : Nat) : M D := fun e => match e[i]? with
  | some (.val d) => .ok d e | _ => .bad
def fC (d : D) : M D := fun e => .ok d e
def f2 (o : D → D → M D) (fa fb : M D) : M D := bd fa fun a => bd fb fun b => o a b
def fB (fa : M D) : M Bool := bd fa fun d => li (match d with
  | .bl b => some b | _ => none)
def fNot (fa : M Bool) : M Bool := bd fa fun b => pu (!b)
def fAnd (fa fb : M Bool) : M Bool := bd fa fun b => if b = true then fb else pu false
def fOr (fa fb : M Bool) : M Bool := bd fa fun b => if b = true then pu true else fb
def fBl (fa : M Bool) : M D := bd fa fun b => pu (.bl b)
def fIf {α : Type} (c : M Bool) (fa fb : M α) : M α := bd c fun b => if b = true then fa else fb
section
variable {X : Cx} {W : WX} {a b : Expr} {fa fb : M D} {ga gb : M Bool} {pos : Pos}
theorem ped_var (i : Nat) {x : Str} (hN : X.N[i]? = some x := by rfl) (hv : Vis X.env.scope x := by first | exact Or.inl rfl | exact Or.inr (Or.inl rfl) | exact Or.inr (Or.inr rfl)) (hd : (x == ("__debug__" : Str)) = false := by decide)
    (hcd : (x == ("__classdict__" : Str)) = false := by decide) : PED X W (.Name x pos) (fVar i) := by
  refine ⟨_, pe_var hN hv hd hcd, fun Z B σ H e Q S h => ?_⟩
  unfold fVar at h
  cases q : e[i]? with
  | none => rw [q] at h; exact False.elim h
  | some s =>
    rw [q] at h
    cases s with
    | val d =>
      obtain ⟨v, ev, r⟩ := S.sl i _ q
      exact ⟨v, ev, h v B H S (Same.refl B) r⟩
    | _ => exact False.elim h
theorem ped_c {v : V} {d : D} (h : PE X a (tC v)) (r : ∀ B, At X.K X.mg B v d) : PED X W a (fC d) := ⟨_, h, fun Z B σ H e Q S q => q v B H S (Same.refl B) (r B)⟩
theorem ped_int {i j pos} : PED X W (.Constant (.int i) j pos) (fC (.int i)) := ped_c pe_int fun _ => .int _
theorem ped_bl {b j pos} : PED X W (.Constant (.bool b) j pos) (fC (.bl b)) := ped_c pe_bl fun _ => .bl _
theorem ped_non {j pos} : PED X W (.Constant .none j pos) (fC .non) := ped_c pe_non fun _ => .non
theorem ped_str {x j pos} : PED X W (.Constant (.str x) j pos) (fC (.str x)) := ped_c pe_str fun _ => .str _
theorem evD_op {K : PySem.W.Frag} {mg : Str → Option Value} {ta tb : TE} {r : R2} {o : D → D → M D} (ea : EvD K mg W ta fa) (eb : EvD K mg W tb fb) (hd : OpD K mg W r o) : EvD K mg W (tOp r ta tb) (f2 o fa fb) := by
  intro Z B σ H e Q S h
  refine ea.then S h (fun x e' q => q) fun d e1 v B1 H1 S1 l1 a1 h1 => ?_
  refine eb.then S1 h1 (fun x e' q => PX.up l1 q) fun d2 e2 v2 B2 H2 S2 l2 a2 h2 => ?_
  exact hd Z B2 σ H2 e2 v v2 d d2 Q S2 (a1.mono l2) a2 (upV (l1.trans l2) h2)
theorem ped_op {op : Operator} {r : R2} {o : D → D → M D} (ho : OpR X (binaryOp op) r) (hd : OpD X.K X.mg W r o) (ha : PED X W a fa) (hb : PED X W b fb) : PED X W (.BinOp a op b pos) (f2 o fa fb) := by
  obtain ⟨ta, pa, ea⟩ := ha
  obtain ⟨tb, pb, eb⟩ := hb
  exact ⟨_, pe_op ho pa pb, evD_op ea eb hd⟩
theorem ped_un {op : UnaryOp} {r : V → Hp → VK → Prop} {o : D → M D} (ho : UnR X (unaryOp op) r) (hd : ∀ Z B σ H e x d (Q : VK), SR X.K X.mg Z B σ H e → At X.K X.mg B x d → (o d e).wp (PV X.K X.mg Z B σ Q) (PX X.K X.mg Z B σ W) → r x H Q) (ha : PED X W a fa) : PED X W (.UnaryOp op a pos) (bd fa o) := by
  obtain ⟨ta, pa, ea⟩ := ha
  refine ⟨_, pe_un ho pa, fun Z B σ H e Q S h => ?_⟩
  refine ea.then S h (fun x e' q => q) fun d e1 v B1 H1 S1 l1 a1 h1 => ?_
  exact hd Z B1 σ H1 e1 v d Q S1 a1 (upV l1 h1)
def dNeg : D → M D := fun d => li (match d with
  | .int i => some (.int (-i)) | _ => none)
theorem ped_neg (ha : PED X W a fa) : PED X W (.UnaryOp .USub a pos) (bd fa dNeg) := by
  refine ped_un un_neg (fun Z B σ H e x d Q S r h => ?_) ha
  obtain ⟨z, h1, h2⟩ := wp_li h
  cases d with
  | int i =>
    cases h1
    exact ⟨i, r.int_inv, h2 _ B H S (Same.refl B) (.int _)⟩
  | _ => cases h1
/-- a comparison by its operator's rule, as a value -/
theorem ped_cmp {op : CmpOp} {r : R2} {o : D → D → M D} (ho : OpR X (compareOp op) r) (hd : OpD X.K X.mg W r o) (ha : PED X W a fa) (hb : PED X W b fb) (h1 : behindInMarks op b = false := by first | exact nobehind _ (by decide) (by decide) | rfl) : PED X W (.Compare a [op] [b] pos) (f2 o fa fb) := by
  obtain ⟨ta, pa, ea⟩ := ha
  obtain ⟨tb, pb, eb⟩ := hb
  exact ⟨_, pe_cmpR ho pa pb h1, evD_op ea eb hd⟩
/-- an expression that gives a bool, as a test -/
theorem evB_of {K : PySem.W.Frag} {mg : Str → Option Value} {ta : TE} (ea : EvD K mg W ta fa) : EvB K mg W (tB ta) (fB fa) := by
  intro Z B σ H e Q S h
  refine ea.then S h (fun x e' q => q) fun d e1 v B1 H1 S1 l1 a1 h1 => ?_
  obtain ⟨b, hb, h2⟩ := wp_li h1
  cases d with
  | bl c =>
    cases hb
    exact ⟨_, a1.bl_inv, h2 B1 H1 S1 l1⟩
  | _ => cases hb
theorem pbd_cmp {op : CmpOp} {r : R2} {o : D → D → M D} (ho : OpR X (compareOp op) r) (hd : OpD X.K X.mg W r o) (ha : PED X W a fa) (hb : PED X W b fb) (h1 : behindInMarks op b = false := by first | exact nobehind _ (by decide) (by decide) | rfl) : PBD X W (.Compare a [op] [b] pos) (fB (f2 o fa fb)) := by
  obtain ⟨ta, pa, ea⟩ := ha
  obtain ⟨tb, pb, eb⟩ := hb
  exact ⟨_, pt_cmpR ho pa pb h1, evB_of (evD_op ea eb hd)⟩
theorem pbd_val (ha : PED X W a fa) (he : ∀ whole, isTrue a X.env whole = (do let v ← whole; standAt a.pos; holding [v] (truthy v)) := by intro _; rfl) : PBD X W a (fB fa) := by
  obtain ⟨ta, pa, ea⟩ := ha
  exact ⟨_, pt_val pa he, evB_of ea⟩
theorem pbd_not (ha : PBD X W a ga) : PBD X W (.UnaryOp .Not a pos) (fNot ga) := by
  obtain ⟨ta, pa, ea⟩ := ha
  refine ⟨_, pt_not pa, fun Z B σ H e Q S h => ?_⟩
  exact ea.then S h (fun x e' q => q) fun d e1 B1 H1 S1 l1 h1 => h1 B1 H1 S1 l1
def PWD (X : Cx) (W : WX) (a : Expr) (f : M Bool) : Prop := ∃ tt, PW X a tt ∧ EvB X.K X.mg W tt f
theorem PWD.pt (h : PWD X W a ga) : PBD X W a ga := by
  obtain ⟨ta, pa, ea⟩ := h
  exact ⟨_, pa.pt, ea⟩
theorem pwd_and1 (h : PBD X W a ga) : PWD X W (.BoolOp .And [a] pos) ga := by
  obtain ⟨ta, pa, ea⟩ := h
  exact ⟨_, pw_and1 pa, ea⟩
theorem pwd_or1 (h : PBD X W a ga) : PWD X W (.BoolOp .Or [a] pos) ga := by
  obtain ⟨ta, pa, ea⟩ := h
  exact ⟨_, pw_or1 pa, ea⟩
variable {rest : List Expr}
theorem pwd_and (ha : PBD X W a ga) (hb : PWD X W (.BoolOp .And (b :: rest) pos) gb) : PWD X W (.BoolOp .And (a :: b :: rest) pos) (fAnd ga gb) := by
  obtain ⟨ta, pa, ea⟩ := ha
  obtain ⟨tb, pb, eb⟩ := hb
  refine ⟨_, pw_and pa pb, fun Z B σ H e Q S h => ?_⟩
  refine ea.then S h (fun x e' q => q) fun d e1 B1 H1 S1 l1 h1 => ?_
  cases d with
  | true => exact eb Z B1 σ H1 e1 Q S1 (upB l1 h1)
  | false => exact h1 B1 H1 S1 l1
theorem pwd_or (ha : PBD X W a ga) (hb : PWD X W (.BoolOp .Or (b :: rest) pos) gb) : PWD X W (.BoolOp .Or (a :: b :: rest) pos) (fOr ga gb) := by
  obtain ⟨ta, pa, ea⟩ := ha
  obtain ⟨tb, pb, eb⟩ := hb
  refine ⟨_, pw_or pa pb, fun Z B σ H e Q S h => ?_⟩
  refine ea.then S h (fun x e' q => q) fun d e1 B1 H1 S1 l1 h1 => ?_
  cases d with
  | true => exact h1 B1 H1 S1 l1
  | false => exact eb Z B1 σ H1 e1 Q S1 (upB l1 h1)
/-- as values: all but the last are bools -/
def fAndV (fa fb : M D) : M D := bd (fB fa) fun b => if b = true then fb else pu (.bl false)
theorem ped_one {op} (ha : PED X W a fa) : PED X W (.BoolOp op [a] pos) fa := by
  obtain ⟨ta, pa, ea⟩ := ha
  exact ⟨_, pe_one pa, ea⟩
theorem ped_and (ha : PED X W a fa) (hb : PED X W (.BoolOp .And (b :: rest) pos) fb) : PED X W (.BoolOp .And (a :: b :: rest) pos) (fAndV fa fb) := by
  obtain ⟨ta, pa, ea⟩ := ha
  obtain ⟨tb, pb, eb⟩ := hb
  refine ⟨_, pe_and pa pb, fun Z B σ H e Q S h => ?_⟩
  have h' := wp_bd.mp h
  refine ea.then S h' (fun x e' q => q) fun d e1 v B1 H1 S1 l1 a1 h1 => ?_
  obtain ⟨c, hc, h2⟩ := wp_li h1
  cases d with
  | bl c' =>
    cases hc
    refine ⟨c, a1.bl_inv, ?_⟩
    cases c with
    | true => exact eb Z B1 σ H1 e1 Q S1 (upV l1 h2)
    | false => exact h2 _ B1 H1 S1 l1 (.bl _)
  | _ => cases hc
theorem ped_not (ha : PED X W a fa) : PED X W (.UnaryOp .Not a pos) (fBl (fNot (fB fa))) := by
  obtain ⟨ta, pa, ea⟩ := ha
  refine ⟨_, pe_not pa, fun Z B σ H e Q S h => ?_⟩
  have h' := wp_bd.mp (wp_bd.mp (wp_bd.mp h))
  refine ea Z B σ H e _ S (h'.imp (fun d e1 q v B1 H1 S1 l1 a1 => ?_) fun x e' q => q)
  obtain ⟨c, hc, h2⟩ := wp_li q
  cases d with
  | bl c' =>
    cases hc
    exact ⟨c, a1.bl_inv, h2 _ B1 H1 S1 l1 (.bl _)⟩
  | _ => cases hc
theorem ped_ifExp {c : Expr} {gc : M Bool} (hc : PBD X W c gc) (ha : PED X W a fa) (hb : PED X W b fb) : PED X W (.IfExp c a b pos) (fIf gc fa fb) := by
  obtain ⟨tc, pc, ec⟩ := hc
  obtain ⟨ta, pa, ea⟩ := ha
  obtain ⟨tb, pb, eb⟩ := hb
  refine ⟨_, pe_ifExp pc pa pb, fun Z B σ H e Q S h => ?_⟩
  refine ec.then S h (fun x e' q => q) fun d e1 B1 H1 S1 l1 h1 => ?_
  cases d with
  | true => exact ea Z B1 σ H1 e1 Q S1 (upV l1 h1)
  | false => exact eb Z B1 σ H1 e1 Q S1 (upV l1 h1)
end
/-! ### argument lists, displays -/
def fNil : M (List D) := pu []
def fCons (fa : M D) (fr : M (List D)) : M (List D) := bd fa fun d => bd fr fun ds => pu (d :: ds)
def fStar (fa : M (List D)) (fr : M (List D)) : M (List D) := bd fa fun d => bd fr fun ds => pu (d ++ ds)
/-- the items of a list or a tuple -/
def dItems : D → M (List D) := fun d => li (match d with
  | .lst xs => some xs | .tup xs => some xs | _ => none)
def fLst (fa : M (List D)) : M (List D) := bd fa fun ds => li (if ds.length ≤ 16777216 then some ds else none)
def fL (fa : M (List D)) : M D := bd fa fun ds => pu (.lst ds)
def fTup (fa : M (List D)) : M D := bd fa fun ds => li (if ds.length ≤ 16777216 then some (.tup ds) else none)
section
variable {X : Cx} {W : WX} {a : Expr} {es : List Expr} {fa : M D} {fr : M (List D)} {pos : Pos}
theorem pad_nil : PAD X W [] fNil := ⟨_, pa_nil, fun Z B σ H e Q S h => h [] B H S (Same.refl B) .nil⟩
theorem pad_cons (ha : PED X W a fa) (hr : PAD X W es fr) (hs : starEach (a :: es) X.env = (false, eval a X.env) :: starEach es X.env := by rfl) : PAD X W (a :: es) (fCons fa fr) := by
  obtain ⟨ta, pa, ea⟩ := ha
  obtain ⟨tr, pr, er⟩ := hr
  refine ⟨_, pa_cons pa pr hs, fun Z B σ H e Q S h => ?_⟩
  refine ea.then S h (fun x e' q => q) fun d e1 v B1 H1 S1 l1 a1 h1 => ?_
  refine er.then S1 h1 (fun x e' q => PX.up l1 q) fun ds e2 vs B2 H2 S2 l2 a2 h2 => ?_
  exact h2 _ B2 H2 S2 (l1.trans l2) (.cons (a1.mono l2) a2)
theorem dItems_at {K : PySem.W.Frag} {mg : Str → Option Value} {B : Hp} {v : V} {d : D} {ds : List D} {e : En} {P : List D → En → Prop} {E : D → En → Prop} (r : At K mg B v d) (h : (dItems d e).wp P E) : ∃ ds p xs, P ds e ∧ v = .ref p ∧ (SqT K B p xs ∨ SqL K B p xs) ∧ AtL K mg B xs ds := by
  obtain ⟨ds, h1, h2⟩ := wp_li h
  cases d with
  | lst ys =>
    cases h1
    obtain ⟨p, xs, rfl, e1, r1⟩ := r.lst_inv
    exact ⟨_, p, xs, h2, rfl, .inr (SqL.of e1), r1⟩
  | tup ys =>
    cases h1
    obtain ⟨p, xs, rfl, e1, r1⟩ := r.tup_inv
    exact ⟨_, p, xs, h2, rfl, .inl e1, r1⟩
  | _ => cases h1
theorem pad_star {p : Pos} (ha : PED X W a fa) (hr : PAD X W es fr) (hs : starEach (.Starred a p :: es) X.env = (true, eval a X.env) :: starEach es X.env := by rfl) : PAD X W (.Starred a p :: es) (fStar (bd fa dItems) fr) := by
  obtain ⟨ta, pa, ea⟩ := ha
  obtain ⟨tr, pr, er⟩ := hr
  refine ⟨_, StX.pa_star pa pr hs, fun Z B σ H e Q S h => ?_⟩
  have h' := wp_bd.mp h
  refine ea.then S h' (fun x e' q => q) fun d e1 v B1 H1 S1 l1 a1 h1 => ?_
  obtain ⟨ds, p, xs, h2, rfl, sq, r1⟩ := dItems_at (ds := []) a1 h1
  refine ⟨p, xs, rfl, sq.imp (fun z => seqT S1.bh z) (fun z => S1.bh.seq z), ?_⟩
  refine er.then S1 h2 (fun x e' q => PX.up l1 q) fun es e2 vs B2 H2 S2 l2 a2 h3 => ?_
  exact h3 _ B2 H2 S2 (l1.trans l2) ((r1.mono l2).app a2)
theorem pnd_lst (h : PAD X W es fr) : PND X W (.List es pos) (fLst fr) := by
  obtain ⟨tr, pr, er⟩ := h
  refine ⟨_, pe_lst pr, fun Z B σ H e Q S h => ?_⟩
  refine er.then S h (fun x e' q => q) fun ds e1 vs B1 H1 S1 l1 a1 h1 => ?_
  obtain ⟨d, h2, h3⟩ := wp_li h1
  split at h2
  · cases h2
    refine ⟨sz (by rw [a1.length]; assumption), fun p hp => ?_⟩
    obtain ⟨S2, hB, h0, hf⟩ := S1.newO (o := .lst vs) hp
    exact h3 p vs B1 _ S2 l1 upd_same a1 hB h0 hf
  · cases h2
/-- a new list becomes known -/
theorem ped_new (h : PND X W a fr) : PED X W a (fL fr) := by
  obtain ⟨tr, pr, er⟩ := h
  refine ⟨_, pr, fun Z B σ H e Q S h => ?_⟩
  refine er.then S h (fun x e' q => q) fun ds e1 p xs B1 H1 S1 l1 h1 a1 hB h0 hf h3 => ?_
  obtain ⟨S2, l2⟩ := S1.freeze h1 hB h0 hf
  exact h3 _ _ _ S2 (l1.trans l2) (.lst upd_same (a1.mono l2))
theorem ped_tup {x1} (h : PAD X W es fr) : PED X W (.Tuple es x1 pos) (fTup fr) := by
  obtain ⟨tr, pr, er⟩ := h
  refine ⟨_, pe_tup pr, fun Z B σ H e Q S h => ?_⟩
  refine er.then S h (fun x e' q => q) fun ds e1 vs B1 H1 S1 l1 a1 h1 => ?_
  obtain ⟨d, h2, h3⟩ := wp_li h1
  split at h2
  · cases h2
    refine ⟨sz (by rw [a1.length]; assumption), fun p hp => ?_⟩
    obtain ⟨S2, l2⟩ := S1.new (o := .tup vs) hp
    exact h3 _ _ _ S2 (l1.trans l2) (.tup (SqT.of upd_same) (a1.mono l2))
  · cases h2
end
/-! ### items and slices -/
def dAt : D → D → M D := fun a b => li (match a, b with
  | .lst xs, .int i => atI xs i
  | .tup xs, .int i => atI xs i
  | .scr ns, .int i => (atI ns i).map D.int
  | _, _ => none)
def cutD (xs : List D) (lo hi : Option Int) : List D := (xs.drop (HT.sIx xs.length 0 lo)).take (HT.sIx xs.length xs.length hi - HT.sIx xs.length 0 lo)
def fPart (fa : Option (M D)) : M (Option Int) := match fa with
  | none => pu none
  | some fa => bd fa fun d => li (match d with
    | .int i => some (some i) | _ => none)
section
variable {K : PySem.W.Frag} {mg : Str → Option Value} {W : WX} {B : Hp}
theorem AtL.atI {xs : List V} {ds : List D} {i : Int} {d : D} (h : AtL K mg B xs ds) (e : L2.atI ds i = some d) : ∃ v, L2.atI xs i = some v ∧ At K mg B v d := by
  unfold L2.atI at e ⊢
  rw [h.length]
  cases q : ixN ds.length i with
  | none => rw [q] at e; cases e
  | some j =>
    rw [q] at e
    obtain ⟨x, h1, h2⟩ := h.get (show ds[j]? = some d from e)
    exact ⟨x, h1, h2⟩
theorem atI_map {α β : Type} (f : α → β) (xs : List α) (i : Int) : L2.atI (xs.map f) i = (L2.atI xs i).map f := by
  unfold L2.atI
  rw [List.length_map]
  cases ixN xs.length i with
  | none => rfl
  | some j => show (xs.map f)[j]? = (xs[j]?).map f; rw [List.getElem?_map]
theorem od_at : OpD K mg W (fun x y H Q => rIxL K x y H Q ∨ rIxT K x y H Q) dAt := by
  intro Z B σ H e x y a b Q S ha hb q
  obtain ⟨d, h1, h2⟩ := wp_li q
  cases b with
  | int i =>
    cases a with
    | lst as =>
      obtain ⟨p, xs, rfl, e1, r1⟩ := ha.lst_inv
      obtain ⟨v, e2, r2⟩ := r1.atI (show L2.atI as i = some d from h1)
      exact .inl ⟨p, xs, i, v, rfl, hb.int_inv, SqL.of (S.bh _ _ e1), e2, h2 v B H S (Same.refl B) r2⟩
    | tup as =>
      obtain ⟨p, xs, rfl, e1, r1⟩ := ha.tup_inv
      obtain ⟨v, e2, r2⟩ := r1.atI (show L2.atI as i = some d from h1)
      exact .inr ⟨p, xs, i, v, rfl, hb.int_inv, seqT S.bh e1, e2, h2 v B H S (Same.refl B) r2⟩
    | scr ns =>
      obtain ⟨p, rfl, e1⟩ := ha.scr_inv
      have h1 : (L2.atI ns i).map D.int = some d := h1
      cases q2 : L2.atI ns i with
      | none => rw [q2] at h1; cases h1
      | some n =>
        rw [q2] at h1
        cases h1
        exact .inl ⟨p, _, i, .int n, rfl, hb.int_inv, S.bh.seq e1, by rw [atI_map, q2]; rfl, h2 _ B H S (Same.refl B) (.int n)⟩
    | _ => cases h1
  | _ => cases a <;> cases h1
theorem AtL.cut {xs : List V} {ds : List D} (h : AtL K mg B xs ds) (lo hi : Option Int) : AtL K mg B (cutV xs lo hi) (cutD ds lo hi) := by
  unfold cutV cutD
  rw [h.length]
  exact (h.drop _).take _
end
section
variable {X : Cx} {W : WX} {a b : Expr} {fa fb : M D} {pos p2 : Pos}
theorem ped_ix (ha : PED X W a fa) (hb : PED X W b fb) (hs : PlainIx b := by exact fun _ _ => rfl) : PED X W (.Subscript a b pos) (f2 dAt fa fb) := by
  obtain ⟨ta, pa, ea⟩ := ha
  obtain ⟨tb, pb, eb⟩ := hb
  exact ⟨_, pe_ix (IxR.or ix_list ix_tup) pa pb hs, evD_op ea eb od_at⟩
def POD (X : Cx) (W : WX) (a : Option Expr) (f : M (Option Int)) : Prop := ∃ to, PO X a to ∧ ∀ Z B σ H e (Q : Option Int → Hp → Prop), SR X.K X.mg Z B σ H e → (f e).wp (fun o e' => ∀ B' H', SR X.K X.mg Z B' σ H' e' → Same B B' → Q o H') (PX X.K X.mg Z B σ W) → to σ H Q
theorem pod_none : POD X W none (fPart none) := ⟨_, po_none, fun Z B σ H e Q S h => h B H S (Same.refl B)⟩
theorem pod_some (ha : PED X W a fa) : POD X W (some a) (fPart (some fa)) := by
  obtain ⟨ta, pa, ea⟩ := ha
  refine ⟨_, po_some pa, fun Z B σ H e Q S h => ?_⟩
  refine ea.then S h (fun x e' q => q) fun d e1 v B1 H1 S1 l1 a1 h1 => ?_
  obtain ⟨o, h2, h3⟩ := wp_li h1
  cases d with
  | int i =>
    cases h2
    exact ⟨i, a1.int_inv, h3 B1 H1 S1 l1⟩
  | _ => cases h2
end
/-! ### calls of built-ins -/
section
variable {X : Cx} {W : WX} {es : List Expr} {e : Expr} {fr : M (List D)} {pos p : Pos} {x : Str} {id T : String} {r : List V → Hp → VK → Prop} {o : List D → M D}
theorem evC {K : PySem.W.Frag} {mg : Str → Option Value} {ta : TA} (ea : EvL K mg W ta fr) (hd : ClD K mg W r o) : EvD K mg W (tCB r ta) (bd fr o) := by
  intro Z B σ H e Q S h
  refine ea.then S h (fun x e' q => q) fun ds e1 vs B1 H1 S1 l1 a1 h1 => ?_
  exact hd Z B1 σ H1 e1 vs ds Q S1 a1 (upV l1 h1)
theorem ped_callB (hc : CallR X (.builtin id) r) (hd : ClD X.K X.mg W r o) (hm : X.mg x = none) (hv : bootBuiltins x = some (.builtin id)) (ha : PAD X W (e :: es) fr) (hg : Gl X x := by rfl) (hn : x ≠ "__name__" := by decide) (hdb : (x == ("__debug__" : Str)) = false := by decide)
    (he : starEach (e :: es) X.env = (false, eval e X.env) :: starEach es X.env := by rfl) (hpl : (backTo pos (starEach es X.env)).any (·.1) = false := by rfl) : PED X W (.Call (.Name x p) (e :: es) [] pos) (bd fr o) := by
  obtain ⟨ta, pa, ea⟩ := ha
  exact ⟨_, pe_callB hc hg hm hv pa hn hdb he hpl, evC ea hd⟩
theorem ped_callTy (hc : CallR X (.type T) r) (hd : ClD X.K X.mg W r o) (hm : X.mg x = none) (hv : bootBuiltins x = some (.type T)) (ha : PAD X W (e :: es) fr) (hg : Gl X x := by rfl) (hn : x ≠ "__name__" := by decide) (hdb : (x == ("__debug__" : Str)) = false := by decide)
    (he : starEach (e :: es) X.env = (false, eval e X.env) :: starEach es X.env := by rfl) (hpl : (backTo pos (starEach es X.env)).any (·.1) = false := by rfl) : PED X W (.Call (.Name x p) (e :: es) [] pos) (bd fr o) := by
  obtain ⟨ta, pa, ea⟩ := ha
  exact ⟨_, pe_callTy hc hg hm hv pa hn hdb he hpl, evC ea hd⟩
end
end Dl
set_option maxHeartbeats 1000000
/-! Layer D, part 2: calls, defs, statements. -/
namespace Dl
open PySem PySem.Spec PyProof.Rows L2
/-! ### arguments: data, or what is one's own, by reference -/
inductive Ar where
  | d (d : D) | o (i : Nat)
inductive AtR (K : PySem.W.Frag) (mg : Str → Option Value) (B : Hp) (σ : St) (e : En) : V → Ar → Prop
  | d {v : V} {d : D} : At K mg B v d → AtR K mg B σ e v (.d d)
  | o {v : V} {i : Nat} : ownAt e i → σ[i]? = some (some v) → AtR K mg B σ e v (.o i)
theorem pget {α β : Type} {F : α → β → Prop} : ∀ {xs : List α} {ys : List β} {i : Nat} {y : β}, Paired F xs ys → ys[i]? = some y → ∃ x, xs[i]? = some x ∧ F x y
  | _, _, _, _, .nil, e => by simp at e
  | _, _, 0, _, .cons r _, e => by simp at e; subst e; exact ⟨_, rfl, r⟩
  | _, _, i + 1, y, .cons _ t, e => by
    obtain ⟨x, h1, h2⟩ := pget (i := i) (y := y) t (by simpa using e)
    exact ⟨x, by simpa using h1, h2⟩
def PR (K : PySem.W.Frag) (mg : Str → Option Value) (Z : Ent) (B : Hp) (σ : St) (Q : List V → Hp → Prop) : List Ar → En → Prop := fun as e' => ∀ vs B' H', SR K mg Z B' σ H' e' → Same B B' → Paired (AtR K mg B' σ e') vs as → Q vs H'
def EvR (K : PySem.W.Frag) (mg : Str → Option Value) (W : WX) (ta : TA) (f : M (List Ar)) : Prop := ∀ Z B σ H e (Q : List V → Hp → Prop), SR K mg Z B σ H e → (f e).wp (PR K mg Z B σ Q) (PX K mg Z B σ W) → ta σ H Q
def PRD (X : Cx) (W : WX) (as : List Expr) (f : M (List Ar)) : Prop := ∃ ta, PA X as ta ∧ EvR X.K X.mg W ta f
def isO (i : Nat) : M Unit := fun e => match e[i]? with
  | some (.own _ _) => .ok () e | some (.oin _ _ _ _) => .ok () e | _ => .bad
theorem isO_wp {i : Nat} {e : En} {Q : Unit → En → Prop} {E : D → En → Prop} (h : (isO i e).wp Q E) : ownAt e i ∧ Q () e := by
  unfold isO at h
  cases q : e[i]? with
  | none => rw [q] at h; exact False.elim h
  | some s =>
    rw [q] at h
    cases s with
    | own r ds => exact ⟨⟨_, q, rfl⟩, h⟩
    | oin r c ns ds => exact ⟨⟨_, q, rfl⟩, h⟩
    | _ => exact False.elim h
def rNil : M (List Ar) := pu []
def rD (fa : M D) (fr : M (List Ar)) : M (List Ar) := bd fa fun d => bd fr fun ds => pu (.d d :: ds)
def rO (i : Nat) (fr : M (List Ar)) : M (List Ar) := bd (isO i) fun _ => bd fr fun ds => bd (isO i) fun _ => pu (.o i :: ds)
section
variable {X : Cx} {W : WX} {a : Expr} {es : List Expr} {fa : M D} {fr : M (List Ar)} {pos : Pos}
theorem prd_nil : PRD X W [] rNil := ⟨_, pa_nil, fun Z B σ H e Q S h => h [] B H S (Same.refl B) .nil⟩
theorem AtR.mono {K : PySem.W.Frag} {mg : Str → Option Value} {B B' : Hp} {σ : St} {e e' : En} {v : V} {r : Ar} (h : AtR K mg B σ e v r) (l : Same B B') (he : ∀ i, r = .o i → ownAt e' i) : AtR K mg B' σ e' v r := by
  cases h with
  | d h => exact .d (h.mono l)
  | o h1 h2 => exact .o (he _ rfl) h2
theorem prd_d (ha : PED X W a fa) (hr : PRD X W es fr) (hs : starEach (a :: es) X.env = (false, eval a X.env) :: starEach es X.env := by rfl) : PRD X W (a :: es) (rD fa fr) := by
  obtain ⟨ta, pa, ea⟩ := ha
  obtain ⟨tr, pr, er⟩ := hr
  refine ⟨_, pa_cons pa pr hs, fun Z B σ H e Q S h => ?_⟩
  refine ea.then S h (fun x e' q => q) fun d e1 v B1 H1 S1 l1 a1 h1 => ?_
  refine er Z B1 σ H1 e1 _ S1 ((wp_bd.mp h1).imp (fun ds e2 h2 vs B2 H2 S2 l2 a2 => ?_) fun x e' q => PX.up l1 q)
  exact h2 _ B2 H2 S2 (l1.trans l2) (.cons (.d (a1.mono l2)) a2)
theorem prd_o (i : Nat) {x : Str} (hr : PRD X W es fr) (hN : X.N[i]? = some x := by rfl) (hv : Vis X.env.scope x := by first | exact Or.inl rfl | exact Or.inr (Or.inl rfl) | exact Or.inr (Or.inr rfl)) (hd : (x == ("__debug__" : Str)) = false := by decide)
    (hcd : (x == ("__classdict__" : Str)) = false := by decide) (hs : starEach (.Name x pos :: es) X.env = (false, eval (.Name x pos) X.env) :: starEach es X.env := by rfl) : PRD X W (.Name x pos :: es) (rO i fr) := by
  obtain ⟨tr, pr, er⟩ := hr
  refine ⟨_, pa_cons (pe_var hN hv hd hcd) pr hs, fun Z B σ H e Q S h => ?_⟩
  obtain ⟨h0, h⟩ := isO_wp (wp_bd.mp h)
  obtain ⟨s, q, hs⟩ := h0
  obtain ⟨p, o, e1, _⟩ := (S.sl i s q).at_own hs
  refine ⟨.ref p, e1, ?_⟩
  refine er Z B σ H e _ S ((wp_bd.mp h).imp (fun ds e2 h2 vs B2 H2 S2 l2 a2 => ?_) fun x e' q => q)
  obtain ⟨h3, h4⟩ := isO_wp (wp_bd.mp h2)
  exact h4 _ B2 H2 S2 l2 (.cons (.o h3 e1) a2)
end
/-! ### the promise of a def -/
def spD (K : PySem.W.Frag) (mg : Str → Option Value) (F : En → Res D) : Sp := fun vs H Q E => ∃ B R e, SR K mg ⟨B, H, R, vs.map some⟩ B (vs.map some) H e ∧
  (F e).wp (fun d e' => ∀ v B' H', SR K mg ⟨B, H, R, vs.map some⟩ B' (vs.map some) H' e' → At K mg B' v d → Q v H') fun x e' => ∀ cls dd B' H', SR K mg ⟨B, H, R, vs.map some⟩ B' (vs.map some) H' e' → XAt K mg B' H' x cls dd → E cls dd H'
/-- .. of a def that gives a new list out -/
def spN (K : PySem.W.Frag) (mg : Str → Option Value) (F : En → Res (List D)) : Sp := fun vs H Q E => ∃ B R e, SR K mg ⟨B, H, R, vs.map some⟩ B (vs.map some) H e ∧
  (F e).wp (fun ds e' => ∀ p xs B' H', SR K mg ⟨B, H, R, vs.map some⟩ B' (vs.map some) H' e' → H' p = some (.lst xs) → AtL K mg B' xs ds → B' p = none → H p = none → Q (.ref p) H') fun x e' => ∀ cls dd B' H', SR K mg ⟨B, H, R, vs.map some⟩ B' (vs.map some) H' e' → XAt K mg B' H' x cls dd → E cls dd H'
def toRef : Sl → Sl
  | .own _ ds => .own true ds | .oin _ c ns ds => .oin true c ns ds | _ => .no
def reRef (r : Bool) : Sl → Sl
  | .own _ ds => .own r ds | .oin _ c ns ds => .oin r c ns ds | _ => .no
def toSl (e : En) : Ar → Sl
  | .d d => .val d | .o i => toRef (e.getD i .no)
def findO : List Ar → En → Nat → Option Sl
  | .o k :: as, s :: os, i => if k = i then some s else findO as os i
  | .d _ :: as, _ :: os, i => findO as os i
  | _, _, _ => none
def putG (g : Nat → Sl → Sl) : Nat → En → En
  | _, [] => [] | n, s :: e => g n s :: putG g (n + 1) e
def putO (as : List Ar) (os : En) (e : En) : En := putG (fun i s => match findO as os i with
  | some s' => reRef s.isRef s' | none => s) 0 e
def owns : List Ar → List Nat
  | [] => [] | .o i :: as => i :: owns as | .d _ :: as => owns as
def noDup : List Nat → Bool
  | [] => true | i :: r => !r.contains i && noDup r
def callR (F : En → Res D) (as : List Ar) : M D := fun e => if noDup (owns as) = true then (match F (as.map (toSl e)) with
  | .ok d os => .ok d (putO as os e) | .exc x os => .exc x (putO as os e) | .bad => .bad) else .bad
def callN (F : En → Res (List D)) (as : List Ar) : M (List D) := fun e => if noDup (owns as) = true then (match F (as.map (toSl e)) with
  | .ok d os => .ok d (putO as os e) | .exc x os => .exc x (putO as os e) | .bad => .bad) else .bad
theorem putG_get {g : Nat → Sl → Sl} : ∀ {e : En} {n i : Nat}, (putG g n e)[i]? = (e[i]?).map (g (n + i))
  | [], n, i => by simp [putG]
  | s :: e, n, 0 => by simp [putG]
  | s :: e, n, i + 1 => by
    have := putG_get (g := g) (e := e) (n := n + 1) (i := i)
    simp only [putG, List.getElem?_cons_succ, this]
    congr 2
    omega
theorem putG_len {g : Nat → Sl → Sl} : ∀ {e : En} {n : Nat}, (putG g n e).length = e.length
  | [], n => rfl
  | s :: e, n => by simp [putG, putG_len (e := e)]
theorem findO_some : ∀ {as : List Ar} {os : En} {i : Nat} {s : Sl}, findO as os i = some s → ∃ j : Nat, as[j]? = some (Ar.o i) ∧ os[j]? = some s
  | .o k :: as, s :: os, i, s', h => by
    unfold findO at h
    split at h
    · rename_i hk; cases h; exact ⟨0, by simp [hk], rfl⟩
    · obtain ⟨j, h1, h2⟩ := findO_some h; exact ⟨j + 1, by simpa using h1, by simpa using h2⟩
  | .d _ :: as, s :: os, i, s', h => by
    unfold findO at h
    obtain ⟨j, h1, h2⟩ := findO_some h; exact ⟨j + 1, by simpa using h1, by simpa using h2⟩
  | [], _, _, _, h => by cases h
  | .o _ :: _, [], _, _, h => by cases h
  | .d _ :: _, [], _, _, h => by cases h
theorem findO_none : ∀ {as : List Ar} {os : En} {i j : Nat}, findO as os i = none → os.length = as.length → as[j]? ≠ some (Ar.o i)
  | .o k :: as, s :: os, i, j, h, hl => by
    unfold findO at h
    split at h
    · cases h
    · rename_i hk
      cases j with
      | zero => simp [hk]
      | succ j => simpa using findO_none (j := j) h (by simpa using hl)
  | .d _ :: as, s :: os, i, j, h, hl => by
    unfold findO at h
    cases j with
    | zero => simp
    | succ j => simpa using findO_none (j := j) h (by simpa using hl)
  | [], _, _, _, _, _ => by simp
  | .o _ :: _, [], _, _, _, hl => by cases hl
  | .d _ :: _, [], _, _, _, hl => by cases hl
theorem mem_owns : ∀ {as : List Ar} {i j : Nat}, as[j]? = some (.o i) → i ∈ owns as
  | .o k :: as, i, 0, h => by simp at h; simp [owns, h]
  | .o k :: as, i, j + 1, h => by simp [owns, mem_owns (as := as) (j := j) (by simpa using h)]
  | .d _ :: as, i, 0, h => by simp at h
  | .d _ :: as, i, j + 1, h => by simpa [owns] using mem_owns (as := as) (j := j) (by simpa using h)
theorem noDup_inj : ∀ {as : List Ar} {i j k : Nat}, noDup (owns as) = true → as[j]? = some (.o i) → as[k]? = some (.o i) → j = k
  | .o m :: as, i, j, k, h, h1, h2 => by
    simp only [owns, noDup, Bool.and_eq_true, Bool.not_eq_true'] at h
    cases j with
    | zero =>
      cases k with
      | zero => rfl
      | succ k =>
        have e : m = i := by simpa using h1
        have := mem_owns (as := as) (j := k) (by simpa using h2)
        subst e
        simp [this] at h
    | succ j =>
      cases k with
      | zero =>
        have e : m = i := by simpa using h2
        have := mem_owns (as := as) (j := j) (by simpa using h1)
        subst e
        simp [this] at h
      | succ k => exact congrArg (· + 1) (noDup_inj h.2 (by simpa using h1) (by simpa using h2))
  | .d _ :: as, i, j, k, h, h1, h2 => by
    cases j with
    | zero => simp at h1
    | succ j =>
      cases k with
      | zero => simp at h2
      | succ k => exact congrArg (· + 1) (noDup_inj (as := as) h (by simpa using h1) (by simpa using h2))
  | [], _, _, _, _, h, _ => by simp at h
section
variable {K : PySem.W.Frag} {mg : Str → Option Value} {Z : Ent} {B B' : Hp} {σ : St} {H H' : Hp} {e e' : En}
/-- behind a call: what the callee leaves, in the caller's state -/
theorem SR.after {R : List Addr} {s0 σ' : St} {os : En} (S : SR K mg Z B σ H e) (S' : SR K mg ⟨B, H, R, s0⟩ B' σ' H' os) (hl : e'.length = e.length) (hR : ∀ a ∈ R, Z.H0 a = none ∨ a ∈ Z.R)
    (hs : ∀ i s', e'[i]? = some s' → (e[i]? = some s' ∧ ∀ a, s'.isOwn = true → σ[i]? = some (some (.ref a)) → a ∉ R) ∨ (SlAt K mg Z B' H' i σ[i]? s' ∧ (s'.isOwn = true → ownAt e i))) : SR K mg Z B' σ H' e' := by
  have back : ∀ a o, H a = some o → B a = none → B' a = none := fun a o h n => by
    cases q : B' a with
    | none => rfl
    | some u =>
      rcases S'.nb a u q with z | z
      · have z : B a = some u := z
        rw [n] at z; cases z
      · have z : H a = none := z
        rw [h] at z; cases z
  have own : ∀ i, ownAt e' i → ownAt e i := fun i ⟨s', q, ho⟩ => by
    rcases hs i s' q with z | z
    · exact ⟨s', z.1, ho⟩
    · exact z.2 ho
  refine ⟨S.le.trans S'.le, S'.bh, fun a o h n => S'.fh a o (S.fh a o h n) fun m => ?_, fun a o h => ?_, fun a o h => ?_, S.ln.trans hl.symm, fun i s' q => ?_, fun i j a hij hi hj => S.ds i j a hij (own i hi) (own j hj)⟩
  · rcases hR a m with z | z
    · rw [h] at z; cases z
    · exact n z
  · rcases S'.nb a o h with z | z
    · exact S.nb a o z
    · refine .inr ?_
      cases q : Z.H0 a with
      | none => rfl
      | some u =>
        obtain ⟨o', w⟩ := S.dm a u q
        rw [show H a = none from z] at w; cases w
  · obtain ⟨o', w⟩ := S.dm a o h
    exact S'.dm a o' w
  · rcases hs i s' q with z | z
    · refine (S.sl i s' z.1).mono S'.le fun a o ho h1 h2 h3 => ⟨back a o h2 h3, S'.fh a o h2 (z.2 a ho h1)⟩
    · exact z.1
def ownR (σ : St) : List Ar → List Addr
  | [] => [] | .d _ :: as => ownR σ as | .o i :: as => match σ[i]? with
    | some (some (.ref a)) => a :: ownR σ as | _ => ownR σ as
theorem mem_ownR {σ : St} : ∀ {as : List Ar} {a : Addr}, a ∈ ownR σ as ↔ ∃ j i : Nat, as[j]? = some (Ar.o i) ∧ σ[i]? = some (some (V.ref a))
  | [], a => by simp [ownR]
  | .d _ :: as, a => by
    have ih := mem_ownR (σ := σ) (as := as) (a := a)
    simp only [ownR, ih]
    constructor
    · rintro ⟨j, i, h1, h2⟩; exact ⟨j + 1, i, by simpa using h1, h2⟩
    · rintro ⟨j, i, h1, h2⟩
      cases j with
      | zero => simp at h1
      | succ j => exact ⟨j, i, by simpa using h1, h2⟩
  | .o k :: as, a => by
    have ih := mem_ownR (σ := σ) (as := as) (a := a)
    constructor
    · intro h
      unfold ownR at h
      split at h
      · rename_i b hb
        rcases List.mem_cons.mp h with z | z
        · subst z; exact ⟨0, k, rfl, hb⟩
        · obtain ⟨j, i, h1, h2⟩ := ih.mp z; exact ⟨j + 1, i, by simpa using h1, h2⟩
      · obtain ⟨j, i, h1, h2⟩ := ih.mp h; exact ⟨j + 1, i, by simpa using h1, h2⟩
    · rintro ⟨j, i, h1, h2⟩
      cases j with
      | zero =>
        have e : k = i := by simpa using h1
        subst e
        unfold ownR
        rw [h2]
        exact List.mem_cons_self
      | succ j =>
        have z := ih.mpr ⟨j, i, by simpa using h1, h2⟩
        unfold ownR
        split
        · exact List.mem_cons_of_mem _ z
        · exact z
theorem SR.enter {vs : List V} {as : List Ar} (S : SR K mg Z B σ H e) (r : Paired (AtR K mg B σ e) vs as) (nd : noDup (owns as) = true) : SR K mg ⟨B, H, ownR σ as, vs.map some⟩ B (vs.map some) H (as.map (toSl e)) := by
  refine ⟨Same.refl B, S.bh, fun a o h _ => h, fun a o h => .inl h, fun a o h => ⟨o, h⟩, by simp [Paired.length r], fun j s q => ?_, fun j k a hjk hj hk e1 e2 => ?_⟩
  · rw [List.getElem?_map] at q
    cases ha : as[j]? with
    | none => rw [ha] at q; cases q
    | some x =>
      rw [ha] at q
      obtain ⟨v, hv, rv⟩ := pget r ha
      have q : toSl e x = s := Option.some.inj q
      subst q
      have hv' : (vs.map some)[j]? = some (some v) := by rw [List.getElem?_map, hv]; rfl
      rw [hv']
      cases rv with
      | d h => exact ⟨v, rfl, h⟩
      | @o i h1 h2 =>
        obtain ⟨s, q, hs⟩ := h1
        have gd : e.getD i .no = s := by rw [List.getD_eq_getElem?_getD, q]; rfl
        have z := S.sl i s q
        cases s with
        | own r ds =>
          obtain ⟨a, xs, e1, p1, p2, p3⟩ := z
          rw [h2] at e1
          cases e1
          show SlAt K mg _ B H j _ (toRef (e.getD i .no))
          rw [gd]
          exact ⟨a, xs, rfl, p1, p2, p3.1, (fun z => nomatch z), fun _ => ⟨mem_ownR.mpr ⟨j, i, ha, h2⟩, hv'⟩⟩
        | oin r c ns ds =>
          obtain ⟨a, C, dx, fs, e1, p0, p1, p2, p3, p4⟩ := z
          rw [h2] at e1
          cases e1
          show SlAt K mg _ B H j _ (toRef (e.getD i .no))
          rw [gd]
          exact ⟨a, C, dx, fs, rfl, p0, p1, p2, p3, p4.1, (fun z => nomatch z), fun _ => ⟨mem_ownR.mpr ⟨j, i, ha, h2⟩, hv'⟩⟩
        | no => cases hs
        | val d => cases hs
  · have key : ∀ j, ownAt (as.map (toSl e)) j → (vs.map some)[j]? = some (some (.ref a)) → ∃ i, as[j]? = some (.o i) ∧ ownAt e i ∧ σ[i]? = some (some (.ref a)) := fun j ⟨s, q, hs⟩ e1 => by
      rw [List.getElem?_map] at q
      cases ha : as[j]? with
      | none => rw [ha] at q; cases q
      | some x =>
        rw [ha] at q
        obtain ⟨v, hv, rv⟩ := pget r ha
        have q : toSl e x = s := Option.some.inj q
        subst q
        rw [List.getElem?_map, hv] at e1
        cases e1
        cases rv with
        | d h => cases hs
        | @o i h1 h2 => exact ⟨i, rfl, h1, h2⟩
    obtain ⟨i, a1, o1, s1⟩ := key j hj e1
    obtain ⟨i2, a2, o2, s2⟩ := key k hk e2
    by_cases hi : i = i2
    · subst hi
      exact hjk (noDup_inj nd a1 a2)
    · exact S.ds i i2 a hi o1 o2 s1 s2
theorem SR.leave {vs : List V} {as : List Ar} {os : En} (S : SR K mg Z B σ H e) (r : Paired (AtR K mg B σ e) vs as) (S' : SR K mg ⟨B, H, ownR σ as, vs.map some⟩ B' (vs.map some) H' os) : SR K mg Z B' σ H' (putO as os e) := by
  have hl : os.length = as.length := by rw [← S'.ln, List.length_map, Paired.length r]
  refine S.after S' (by unfold putO; exact putG_len) (fun a m => ?_) fun i s' q => ?_
  · obtain ⟨j, i, h1, h2⟩ := mem_ownR.mp m
    obtain ⟨v, hv, rv⟩ := pget r h1
    cases rv with
    | o h3 h4 =>
      obtain ⟨s, q, hs⟩ := h3
      obtain ⟨a', o, e1, _, _, p2, p3⟩ := (S.sl i s q).at_own hs
      rw [h2] at e1
      cases e1
      cases hr : s.isRef with
      | false => exact .inl (p2 hr)
      | true => exact .inr (p3 hr).1
  · unfold putO at q
    rw [putG_get] at q
    cases hi : e[i]? with
    | none => rw [hi] at q; cases q
    | some s =>
      rw [hi] at q
      have q := Option.some.inj q
      simp only [Nat.zero_add] at q
      cases hf : findO as os i with
      | none =>
        rw [hf] at q
        subst q
        refine .inl ⟨rfl, fun a ho e1 m => ?_⟩
        obtain ⟨j, i2, h1, h2⟩ := mem_ownR.mp m
        by_cases h : i2 = i
        · subst h; exact findO_none hf hl h1
        · obtain ⟨v, hv, rv⟩ := pget r h1
          cases rv with
          | o h3 h4 => exact S.ds i2 i a h h3 ⟨s, hi, ho⟩ h2 e1
      | some s2 =>
        rw [hf] at q
        subst q
        obtain ⟨j, h1, h2⟩ := findO_some hf
        obtain ⟨v, hv, rv⟩ := pget r h1
        cases rv with
        | o h3 h4 =>
          refine .inr ⟨?_, fun _ => h3⟩
          obtain ⟨s0, q0, hs0⟩ := h3
          rw [hi] at q0
          cases q0
          obtain ⟨a, o, e1, _, _, p2, p3⟩ := (S.sl i s hi).at_own hs0
          have z := S'.sl j s2 h2
          have hv' : (vs.map some)[j]? = some (some v) := by rw [List.getElem?_map, hv]; rfl
          rw [hv'] at z
          rw [h4] at e1
          cases e1
          cases s2 with
          | own r ds =>
            obtain ⟨a', xs, e2, w1, w2, w3⟩ := z
            cases e2
            exact ⟨a, xs, h4, w1, w2, w3.1, p2, p3⟩
          | oin r c ns ds =>
            obtain ⟨a', C, dx, fs, e2, w0, w1, w2, w3, w4⟩ := z
            cases e2
            exact ⟨a, C, dx, fs, h4, w0, w1, w2, w3, w4.1, p2, p3⟩
          | no => trivial
          | val d => trivial
/-- a def's promise, kept at a call -/
theorem callR_ok {W : WX} {F : En → Res D} {vs : List V} {as : List Ar} {Q : VK} (S : SR K mg Z B σ H e) (r : Paired (AtR K mg B σ e) vs as) (h : (callR F as e).wp (PV K mg Z B σ Q) (PX K mg Z B σ W)) : spD K mg F vs H Q (fun c d H' => W c d σ H') := by
  unfold callR at h
  split at h
  · rename_i nd
    refine ⟨B, ownR σ as, as.map (toSl e), S.enter r nd, ?_⟩
    cases q : F (as.map (toSl e)) with
    | ok d os =>
      rw [q] at h
      exact fun v B' H' S' a => h v B' H' (S.leave r S') S'.le a
    | exc x os =>
      rw [q] at h
      exact fun cls dd B' H' S' a => h cls dd B' H' (S.leave r S') S'.le a
    | bad => rw [q] at h; exact False.elim h
  · exact False.elim h
theorem ownAt_putO {as : List Ar} {os : En} {i : Nat} (h : ownAt (putO as os e) i) (hl : os.length = as.length) (r : ∃ vs, Paired (AtR K mg B σ e) vs as) : ownAt e i := by
  obtain ⟨s, q, hs⟩ := h
  obtain ⟨vs, r⟩ := r
  unfold putO at q
  rw [putG_get] at q
  cases hi : e[i]? with
  | none => rw [hi] at q; cases q
  | some s0 =>
    rw [hi] at q
    have q := Option.some.inj q
    simp only [Nat.zero_add] at q
    cases hf : findO as os i with
    | none => rw [hf] at q; subst q; exact ⟨_, hi, hs⟩
    | some s2 =>
      obtain ⟨j, h1, h2⟩ := findO_some hf
      obtain ⟨v, hv, rv⟩ := pget r h1
      cases rv with
      | o h3 h4 => exact h3
theorem callN_ok {W : WX} {F : En → Res (List D)} {vs : List V} {as : List Ar} {Q : VK} (S : SR K mg Z B σ H e) (r : Paired (AtR K mg B σ e) vs as) (h : (callN F as e).wp (PN K mg Z B σ Q) (PX K mg Z B σ W)) : spN K mg F vs H Q (fun c d H' => W c d σ H') := by
  unfold callN at h
  split at h
  · rename_i nd
    refine ⟨B, ownR σ as, as.map (toSl e), S.enter r nd, ?_⟩
    cases q : F (as.map (toSl e)) with
    | ok d os =>
      rw [q] at h
      intro p xs B' H' S' a1 a2 a3 a4
      have hl : os.length = as.length := by rw [← S'.ln, List.length_map, Paired.length r]
      refine h p xs B' H' (S.leave r S') S'.le a1 a2 a3 ?_ fun i hi ei => ?_
      · cases q2 : Z.H0 p with
        | none => rfl
        | some u =>
          obtain ⟨o', z⟩ := S.dm p u q2
          rw [a4] at z; cases z
      · obtain ⟨s, q3, hs⟩ := ownAt_putO hi hl ⟨vs, r⟩
        obtain ⟨a, o, e1, e2, _⟩ := (S.sl i s q3).at_own hs
        rw [ei] at e1
        cases e1
        rw [a4] at e2; cases e2
    | exc x os =>
      rw [q] at h
      exact fun cls dd B' H' S' a => h cls dd B' H' (S.leave r S') S'.le a
    | bad => rw [q] at h; exact False.elim h
  · exact False.elim h
end
/-! ### running a callee, whatever it lets out is wished for at the caller's slots -/
section
variable {X : Cx} {W : WX} {k : Nat} {f C : Addr} {sp : Sp} {x m : Str} {p pos apos : Pos} {e o : Expr} {es : List Expr} {te ta : TE} {t : TA}
theorem run_R {pins : List (Addr × Obj)} {σ : St} {H : Hp} {s : Shared} {Q : VK} {us : List Value} {vs : List V} (F : FnR X.prog X.w X.K X.mg X.base (L2.CX X.prog X.w) k f sp) (hr : Room k X.A) (tk : Takes X W) (I : Inv X pins σ H s) (r : Vals vs us) (h : sp vs H Q (fun c d H' => W c d σ H')) :
    codeAny (model X.prog X.w) X.A (.call (.ref f) ⟨us, []⟩) (fun r s' => match r with | .ok (.ret v) => EP X pins σ Q v s' | .ok _ => False | .error e => X.xe e s') s := by
  refine codeAny_mono (F X.A X.stack s H us vs Q _ hr I.env0 r h) fun res s' hq => ?_
  cases res with
  | error er => exact tk er s' (XE.of_call I (fun _ _ _ z => z) hq)
  | ok fl => cases fl with
    | ret u => exact I.after hq
    | next => exact False.elim hq
    | brk => exact False.elim hq
    | cont => exact False.elim hq
/-- what a call asks: the arguments, then the promise -/
def tCW (W : WX) (sp : Sp) (t : TA) : TE := fun σ H Q => t σ H fun vs H1 => sp vs H1 Q fun c d H' => W c d σ H'
theorem pe_callW (F : FnR X.prog X.w X.K X.mg X.base (L2.CX X.prog X.w) k f sp) (hr : Room k X.A) (tk : Takes X W) (hg : Gl X x) (hm : X.mg x = some (.ref f)) (hk : PySem.W.keepIn X.K (.ref f) = true) (ha : PA X (e :: es) t)
    (hdb : (x == ("__debug__" : Str)) = false := by decide) (he : starEach (e :: es) X.env = (false, eval e X.env) :: starEach es X.env := by rfl) (hpl : (backTo pos (starEach es X.env)).any (·.1) = false := by rfl) : PE X (.Call (.Name x p) (e :: es) [] pos) (tCW W sp t) := by
  refine ⟨fun pins s σ H Q I h => wpAny_Call_Name_kw (ld_glob I hg hm ?_ hdb)⟩
  exact PySem.W.callWith_K (h₀ := X.base) I.ok.mod.kin hk (thn (ha.run pos pins s σ H _ I h) fun us s1 ⟨vs, H1, I1, r, q⟩ => ⟨I1.kIn, wpAny_call (run_R F hr tk I1 r q)⟩) he hpl
/-- a new instance -/
def tKW (C : Addr) (W : WX) (sp : Sp) (t : TA) : TE := fun σ H Q => t σ H fun vs H1 => ∀ x dx, H1 x = none → H1 dx = none → dx ≠ x → sp (.ref x :: vs) (upd (upd H1 dx (.own x)) x (.ins C dx [])) (fun v H2 => v = .non ∧ Q (.ref x) H2) fun c d H' => W c d σ H'
theorem run_K {pins : List (Addr × Obj)} {σ : St} {H : Hp} {s : Shared} {Q : VK} {us : List Value} {vs : List V} (N : Mk X.K C f) (F : FnR X.prog X.w X.K X.mg X.base (L2.CX X.prog X.w) k f sp) (hr : Room (k + 1) X.A) (tk : Takes X W) (I : Inv X pins σ H s) (r : Vals vs us)
    (h : ∀ x dx, H x = none → H dx = none → dx ≠ x → sp (.ref x :: vs) (upd (upd H dx (.own x)) x (.ins C dx [])) (fun v H2 => v = .non ∧ Q (.ref x) H2) fun c d H' => W c d σ H') : wpAny (model X.prog X.w) X.A (call (.ref C) us) (EP X pins σ Q) X.xe s := by
  have hq := h (s.heap.objs.size + 1) s.heap.objs.size (I.hok.fresh (Nat.le_succ _)) (I.hok.fresh (Nat.le_refl _)) (Nat.ne_of_lt (Nat.lt_succ_self _))
  have J := Inv.made (C := C) I
  refine wpAny_call (make_map (f := f) I.kIn N.makes N.init (beq_iff_eq.mp N.fn) (codeAny_mono (F _ X.stack _ _ (Value.ref (s.heap.objs.size + 1) :: us) _ _ _ (hr.make C us []) (J.env0.make C us []) (Paired.cons (show RelV (V.ref (s.heap.objs.size + 1)) (Value.ref (s.heap.objs.size + 1)) from rfl) r) hq) fun res s' hq' => ?_))
  cases res with
  | error er => exact tk er s' (XE.of_call J (fun _ _ _ z => z) hq')
  | ok fl => cases fl with
    | ret u =>
      obtain ⟨v, H', I3, rv, ev, q3⟩ := J.after hq'
      subst ev
      exact ⟨rv, .ref (s.heap.objs.size + 1), H', I3, rfl, q3⟩
    | next => exact False.elim hq'
    | brk => exact False.elim hq'
    | cont => exact False.elim hq'
theorem pe_makeW (N : Mk X.K C f) (F : FnR X.prog X.w X.K X.mg X.base (L2.CX X.prog X.w) k f sp) (hr : Room (k + 1) X.A) (tk : Takes X W) (hg : Gl X x) (hm : X.mg x = some (.ref C)) (ha : PA X (e :: es) t) (hdb : (x == ("__debug__" : Str)) = false := by decide)
    (he : starEach (e :: es) X.env = (false, eval e X.env) :: starEach es X.env := by rfl) (hpl : (backTo pos (starEach es X.env)).any (·.1) = false := by rfl) : PE X (.Call (.Name x p) (e :: es) [] pos) (tKW C W sp t) := by
  refine ⟨fun pins s σ H Q I h => wpAny_Call_Name_kw (ld_glob I hg hm ?_ hdb)⟩
  exact PySem.W.callWith_K (h₀ := X.base) I.ok.mod.kin N.kp (thn (ha.run pos pins s σ H _ I h) fun us s1 ⟨vs, H1, I1, r, q⟩ => ⟨I1.kIn, run_K N F hr tk I1 r q⟩) he hpl
theorem pe_makeW0 (N : Mk X.K C f) (F : FnR X.prog X.w X.K X.mg X.base (L2.CX X.prog X.w) k f sp) (hr : Room (k + 1) X.A) (tk : Takes X W) (hg : Gl X x) (hm : X.mg x = some (.ref C)) (hdb : (x == ("__debug__" : Str)) = false := by decide) : PE X (.Call (.Name x p) [] [] pos) (tKW C W sp tNil) := by
  refine ⟨fun pins s σ H Q I h => wpAny_Call_Name_kw (ld_glob I hg hm ?_ hdb)⟩
  exact PySem.W.callWith_K0 I.kIn N.kp (run_K (us := []) N F hr tk I .nil h)
end
end Dl
set_option maxHeartbeats 1000000
/-! Layer D, part 3: calls over data, statements, loops, comprehensions, defs. -/
namespace Dl
open PySem PySem.Spec PyProof.Rows L2
/-! ### what the module holds: defs, methods, properties, makers -/
section
variable (P : Program) (w : World) (K : PySem.W.Frag) (mg : Str → Option Value) (base : Heap)
def FnI (k : Nat) (x : Str) (F : En → Res D) : Prop := ∃ f, mg x = some (.ref f) ∧ PySem.W.keepIn K (.ref f) = true ∧ FnR P w K mg base (L2.CX P w) k f (spD K mg F)
def FnN (k : Nat) (x : Str) (F : En → Res (List D)) : Prop := ∃ f, mg x = some (.ref f) ∧ PySem.W.keepIn K (.ref f) = true ∧ FnR P w K mg base (L2.CX P w) k f (spN K mg F)
def PrI (k : Nat) (c m : Str) (F : En → Res D) : Prop := ∃ C p g, mg c = some (.ref C) ∧ Cls K C ∧ PropOf K C m p g ∧ FnR P w K mg base (L2.CX P w) k g (spD K mg F)
def MkI (k : Nat) (c : Str) (F : En → Res D) : Prop := ∃ C f, mg c = some (.ref C) ∧ Mk K C f ∧ FnR P w K mg base (L2.CX P w) k f (spD K mg F)
end
def FlI (K : PySem.W.Frag) (mg : Str → Option Value) (c m : Str) : Prop := ∃ C, mg c = some (.ref C) ∧ Cls K C ∧ NoAttr K C m
def look (f : Str) : List Str → List D → Option D
  | n :: ns, d :: ds => if f = n then some d else look f ns ds
  | _, _ => none
theorem look_some {K : PySem.W.Frag} {mg : Str → Option Value} {B : Hp} {f : Str} {d : D} : ∀ {fs : List (Str × V)} {ns : List Str} {ds : List D}, fs.map (·.1) = ns → AtL K mg B (fs.map (·.2)) ds → look f ns ds = some d → ∃ v, fs.lookup f = some v ∧ At K mg B v d
  | [], _, _, rfl, _, h => by cases h
  | (n, v) :: fs, _, _, rfl, .cons r t, h => by
    have h : (if f = n then some _ else look f (fs.map (·.1)) _) = some d := h
    split at h
    · rename_i hf
      cases h
      subst hf
      exact ⟨v, by simp [List.lookup], r⟩
    · rename_i hf
      obtain ⟨v', h1, h2⟩ := look_some rfl t h
      refine ⟨v', ?_, h2⟩
      have q : (f == n) = false := by simpa using hf
      simp only [List.lookup, q]
      exact h1
def dFld (c f : Str) : D → M D := fun d => li (match d with
  | .obj c' ns ds => if c' = c then look f ns ds else none
  | _ => none)
def noExc {α : Type} (m : M α) : M α := fun e => match m e with
  | .ok d e' => .ok d e' | _ => .bad
def fProp (c : Str) (F : En → Res D) (fa : M D) : M D := bd fa fun d => bd (li (match d with
  | .obj c' _ _ => if c' = c then some () else none
  | _ => none)) fun _ => noExc (callR F [.d d])
def fMake (c : Str) (F : En → Res D) (fa : M (List D)) : M D := bd fa fun ds => fun e => match F (.oin true c [] [] :: ds.map .val) with
  | .ok .non (.oin _ c' ns fs :: _) => .ok (.obj c' ns fs) e
  | .exc x _ => .exc x e
  | _ => .bad
section
variable {X : Cx} {W : WX} {j k : Nat} {x c m : Str} {F : En → Res D} {e o : Expr} {es : List Expr} {fr : M (List Ar)} {fl : M (List D)} {fo : M D} {p pos apos : Pos}
theorem evCW {K : PySem.W.Frag} {mg : Str → Option Value} {ta : TA} (ea : EvR K mg W ta fr) : EvD K mg W (tCW W (spD K mg F) ta) (bd fr (callR F)) := by
  intro Z B σ H e Q S h
  refine ea Z B σ H e _ S ((wp_bd.mp h).imp (fun as e1 h1 vs B1 H1 S1 l1 a1 => ?_) fun x e' q => q)
  exact callR_ok S1 a1 (upV l1 h1)
theorem ped_call (cf : FnI X.prog X.w X.K X.mg X.base k x F) (hr : Room j X.A) (hk : k ≤ j) (tk : Takes X W) (ha : PRD X W (e :: es) fr) (hg : Gl X x := by rfl) (hdb : (x == ("__debug__" : Str)) = false := by decide)
    (he : starEach (e :: es) X.env = (false, eval e X.env) :: starEach es X.env := by rfl) (hpl : (backTo pos (starEach es X.env)).any (·.1) = false := by rfl) : PED X W (.Call (.Name x p) (e :: es) [] pos) (bd fr (callR F)) := by
  obtain ⟨f, hm, kp, G⟩ := cf
  obtain ⟨ta, pa, ea⟩ := ha
  exact ⟨_, pe_callW G (hr.mono hk) tk hg hm kp pa hdb he hpl, evCW ea⟩
/-- a call that gives a new list -/
theorem pnd_call {G : En → Res (List D)} (cf : FnN X.prog X.w X.K X.mg X.base k x G) (hr : Room j X.A) (hk : k ≤ j) (tk : Takes X W) (ha : PRD X W (e :: es) fr) (hg : Gl X x := by rfl) (hdb : (x == ("__debug__" : Str)) = false := by decide)
    (he : starEach (e :: es) X.env = (false, eval e X.env) :: starEach es X.env := by rfl) (hpl : (backTo pos (starEach es X.env)).any (·.1) = false := by rfl) : PND X W (.Call (.Name x p) (e :: es) [] pos) (bd fr (callN G)) := by
  obtain ⟨f, hm, kp, G⟩ := cf
  obtain ⟨ta, pa, ea⟩ := ha
  refine ⟨_, pe_callW G (hr.mono hk) tk hg hm kp pa hdb he hpl, fun Z B σ H e Q S h => ?_⟩
  refine ea Z B σ H e _ S ((wp_bd.mp h).imp (fun as e1 h1 vs B1 H1 S1 l1 a1 => ?_) fun x e' q => q)
  exact callN_ok S1 a1 (upN l1 h1)
theorem ref_inj {a b : Addr} {o : Option Value} (h : o = some (Value.ref a)) (h' : o = some (Value.ref b)) : a = b := by
  rw [h] at h'
  injection h' with e
  injection e
theorem ped_fld {f : Str} (cf : FlI X.K X.mg c f) (ha : PED X W e fo) (hb : attributeBase e f X.env (eval e X.env) = eval e X.env := by rfl) : PED X W (.Attribute e f pos) (bd fo (dFld c f)) := by
  obtain ⟨C, hm, cl, na⟩ := cf
  obtain ⟨ta, pa, ea⟩ := ha
  refine ⟨_, pe_fld pa hb, fun Z B σ H e Q S h => ?_⟩
  refine ea.then S h (fun x e' q => q) fun d e1 v B1 H1 S1 l1 a1 h1 => ?_
  obtain ⟨z, h2, h3⟩ := wp_li h1
  cases d with
  | obj c' ns ds =>
    have w0 : (if c' = c then look f ns ds else none) = some z := h2
    by_cases hc : c' = c
    · rw [if_pos hc] at w0
      subst hc
      obtain ⟨a, C', dx, fs, rfl, g1, g2, g3, g4⟩ := a1.obj_inv
      obtain rfl := ref_inj g1 hm
      obtain ⟨v, w1, w2⟩ := look_some g3 g4 w0
      exact ⟨a, _, dx, fs, v, rfl, S1.bh _ _ g2, cl, na, w1, h3 v B1 H1 S1 l1 w2⟩
    · rw [if_neg hc] at w0; cases w0
  | _ => cases h2
theorem noExc_wp {α : Type} {m : M α} {e : En} {Q : α → En → Prop} {E : D → En → Prop} (h : (noExc m e).wp Q E) : (m e).wp Q fun _ _ => False := by
  unfold noExc at h
  cases q : m e with
  | ok d e' => rw [q] at h; exact h
  | exc x e' => rw [q] at h; exact False.elim h
  | bad => rw [q] at h; exact False.elim h
theorem ped_prop (cf : PrI X.prog X.w X.K X.mg X.base k c m F) (hr : Room j X.A) (hk : k + 1 ≤ j) (ha : PED X W e fo) (hb : attributeBase e m X.env (eval e X.env) = eval e X.env := by rfl) : PED X W (.Attribute e m pos) (fProp c F fo) := by
  obtain ⟨C, p, g, hm, cl, hp, G⟩ := cf
  obtain ⟨ta, pa, ea⟩ := ha
  have hr1 := hr.mono hk
  refine ⟨fun σ H Q => ta σ H fun x H1 => ∃ a dx fs, x = V.ref a ∧ H1 a = some (.ins C dx fs) ∧ spD X.K X.mg F [V.ref a] H1 Q E0, ⟨fun pins s σ H Q I h => ?_⟩, fun Z B σ H e Q S h => ?_⟩
  · refine attr_of hb (thn (pa.run pins s σ H _ I h) fun u s1 ⟨x, H1, I1, rx, a, dx, fs, ex, hi, q⟩ => ?_)
    subst ex
    obtain rfl : u = Value.ref a := rx
    obtain ⟨mA, O, _, _, _, _⟩ := ins_get I1.hok hi
    obtain ⟨od, J, _⟩ := O.look
    obtain ⟨rest, hrec⟩ := hp.rec_
    have I2 := I1.tok (s1.toks + 1)
    refine PySem.W.get_bind I1.kIn J (PySem.W.plainGet_of (cl.get m)).1 (PySem.W.findObj_data (by obtain ⟨cd, z, _⟩ := PySem.W.any_some cl.hd; rw [z]; rfl) hp.at_ hp.get hp.tak) (PySem.W.plainGet_of (cl.get m)).2 (wpAny_call (PySem.W.prop_get (s := { s1 with toks := s1.toks + 1 }) I1.kIn hrec ?_))
    refine codeAny_mono (G X.A.in1 X.stack _ H1 [.ref a] [V.ref a] Q E0 hr1.in1 I2.env0.in1 (.cons rfl .nil) q) fun r s' hq => ?_
    cases r with
    | error er => exact False.elim (passL (X := X.nox) pins σ H1 _ er s' (I2.wish _) hq)
    | ok fl => cases fl with
      | ret u =>
        obtain ⟨v, H', I3, rv, q3⟩ := I2.after hq
        show wpAny _ _ (handedOut u) _ _ _
        rw [PySem.W.handedOut_of (handed_of rv)]
        exact wpAny_pure ⟨v, H', I3, rv, q3⟩
      | next => exact False.elim hq
      | brk => exact False.elim hq
      | cont => exact False.elim hq
  · refine ea.then S h (fun x e' q => q) fun d e1 v B1 H1 S1 l1 a1 h1 => ?_
    obtain ⟨z, h2, h3⟩ := wp_li (wp_bd.mp h1)
    cases d with
    | obj c' ns ds =>
      have h2 : (if c' = c then some () else none) = some z := h2
      split at h2
      · rename_i hc
        subst hc
        have a2 := a1
        obtain ⟨a, C', dx, fs, rfl, g1, g2, g3, g4⟩ := a1.obj_inv
        obtain rfl := ref_inj g1 hm
        refine ⟨a, dx, fs, rfl, S1.bh _ _ g2, ?_⟩
        exact callR_ok (W := fun _ _ _ _ => False) S1 (.cons (.d a2) .nil) ((noExc_wp h3).imp (fun _ _ q => PV.up l1 q) fun _ _ q => False.elim q)
      · cases h2
    | _ => cases h2
/-- a new instance -/
theorem make_ok {K : PySem.W.Frag} {mg : Str → Option Value} {Z : Ent} {B : Hp} {σ : St} {H : Hp} {e : En} {C : Addr} {vs : List V} {ds : List D} {Q : VK} (hm : mg c = some (.ref C)) (S : SR K mg Z B σ H e) (r : AtL K mg B vs ds)
    (h : (fMake c F (pu ds) e).wp (PV K mg Z B σ Q) (PX K mg Z B σ W)) (x dx : Addr) (hx : H x = none) (hd : H dx = none) (ne : dx ≠ x) :
    spD K mg F (.ref x :: vs) (upd (upd H dx (.own x)) x (.ins C dx [])) (fun v H2 => v = .non ∧ Q (.ref x) H2) fun c d H' => W c d σ H' := by
  obtain ⟨S1, _, _, _⟩ := S.newO (o := .own x) hd
  obtain ⟨S2, hB, h0, hf⟩ := S1.newO (p := x) (o := .ins C dx []) (by rw [upd_ne ne.symm]; exact hx)
  have hlen := r.length
  refine ⟨B, [x], .oin true c [] [] :: ds.map .val, ⟨Same.refl B, S2.bh, fun a o h _ => h, fun a o h => .inl h, fun a o h => ⟨o, h⟩, by simp [hlen], fun i s q => ?_, fun i k a hik hi hk e1 e2 => ?_⟩, ?_⟩
  · cases i with
    | zero =>
      have q : Sl.oin true c [] [] = s := Option.some.inj q
      subst q
      exact ⟨x, C, dx, [], rfl, hm, upd_same, rfl, .nil, hB, (fun z => nomatch z), fun _ => ⟨List.mem_cons_self, rfl⟩⟩
    | succ i =>
      have q : (ds.map Sl.val)[i]? = some s := q
      rw [List.getElem?_map] at q
      cases hd : ds[i]? with
      | none => rw [hd] at q; cases q
      | some d =>
        rw [hd] at q
        obtain ⟨v, hv, rv⟩ := r.get hd
        have q : Sl.val d = s := Option.some.inj q
        subst q
        exact ⟨v, by show (vs.map some)[i]? = _; rw [List.getElem?_map, hv]; rfl, rv⟩
  · have key : ∀ i, ownAt (.oin true c [] [] :: ds.map .val) i → i = 0 := fun i ⟨s, q, hs⟩ => by
      cases i with
      | zero => rfl
      | succ i =>
        have q : (ds.map Sl.val)[i]? = some s := q
        rw [List.getElem?_map] at q
        cases hd : ds[i]? with
        | none => rw [hd] at q; cases q
        | some d =>
          rw [hd] at q
          have q : Sl.val d = s := Option.some.inj q
          subst q
          cases hs
    exact hik ((key i hi).trans (key k hk).symm)
  · have h : (match F (.oin true c [] [] :: ds.map .val) with
      | .ok .non (.oin _ c' ns fs :: _) => Res.ok (D.obj c' ns fs) e
      | .exc x _ => .exc x e
      | _ => .bad).wp (PV K mg Z B σ Q) (PX K mg Z B σ W) := h
    have leave : ∀ {B' H' os}, SR K mg ⟨B, upd (upd H dx (.own x)) x (.ins C dx []), [x], (V.ref x :: vs).map some⟩ B' ((V.ref x :: vs).map some) H' os → SR K mg Z B' σ H' e := fun {B' H' os} S' =>
      S2.after S' rfl (fun a m => by
        have : a = x := by simpa using m
        subst this; exact .inl h0) fun i s' q => .inl ⟨q, fun a ho e1 m => by
          have : a = x := by simpa using m
          subst this; exact hf i ⟨s', q, ho⟩ e1⟩
    cases q : F (.oin true c [] [] :: ds.map .val) with
    | bad => rw [q] at h; exact False.elim h
    | exc z os =>
      rw [q] at h
      exact fun cls dd B' H' S' a => h cls dd B' H' (leave S') S'.le a
    | ok d os =>
      rw [q] at h
      cases d with
      | non =>
        cases os with
        | nil => exact False.elim h
        | cons s os =>
          cases s with
          | oin r c' ns fs =>
            intro v B' H' S' a
            refine ⟨a.non_inv, ?_⟩
            have SL := leave S'
            obtain ⟨a', C', dx', fs', e1, w0, w1, w2, w3, w4⟩ := S'.sl 0 _ rfl
            have e1 : some (some (V.ref x)) = some (some (V.ref a')) := e1
            cases e1
            obtain ⟨S3, l3⟩ := SL.freeze w1 w4.1 h0 hf
            exact h (.ref x) _ _ S3 (S'.le.trans l3) (.obj w0 upd_same w2 (w3.mono l3))
          | _ => exact False.elim h
      | _ => exact False.elim h
theorem ped_make (cf : MkI X.prog X.w X.K X.mg X.base k x F) (hr : Room j X.A) (hk : k + 1 ≤ j) (tk : Takes X W) (ha : PAD X W (e :: es) fl) (hg : Gl X x := by rfl) (hdb : (x == ("__debug__" : Str)) = false := by decide)
    (he : starEach (e :: es) X.env = (false, eval e X.env) :: starEach es X.env := by rfl) (hpl : (backTo pos (starEach es X.env)).any (·.1) = false := by rfl) : PED X W (.Call (.Name x p) (e :: es) [] pos) (fMake x F fl) := by
  obtain ⟨C, f, hm, mk, G⟩ := cf
  obtain ⟨ta, pa, ea⟩ := ha
  refine ⟨_, pe_makeW mk G (hr.mono hk) tk hg hm pa hdb he hpl, fun Z B σ H e Q S h => ?_⟩
  refine ea.then S h (fun x e' q => q) fun ds e1 vs B1 H1 S1 l1 a1 h1 => ?_
  intro x' dx hx hd ne
  exact make_ok hm S1 a1 (upV l1 h1) x' dx hx hd ne
theorem ped_make0 (cf : MkI X.prog X.w X.K X.mg X.base k x F) (hr : Room j X.A) (hk : k + 1 ≤ j) (tk : Takes X W) (hg : Gl X x := by rfl) (hdb : (x == ("__debug__" : Str)) = false := by decide) : PED X W (.Call (.Name x p) [] [] pos) (fMake x F fNil) := by
  obtain ⟨C, f, hm, mk, G⟩ := cf
  refine ⟨_, pe_makeW0 mk G (hr.mono hk) tk hg hm hdb, fun Z B σ H e Q S h => ?_⟩
  intro x' dx hx hd ne
  exact make_ok hm S .nil h x' dx hx hd ne
end
/-! ### statements -/
def setV (i : Nat) (d : D) : M Unit := fun e => match e[i]? with
  | some s => if s.isRef = true then .bad else .ok () (e.set i (.val d))
  | none => .bad
def setO (i : Nat) (ds : List D) : M Unit := fun e => match e[i]? with
  | some s => if s.isRef = true then .bad else .ok () (e.set i (.own false ds))
  | none => .bad
def fRet (fa : M D) : M Fl := bd fa fun d => pu (.rt d)
def fSetT (fa : M D) (t : D → M Unit) : M Fl := bd fa fun d => bd (noExc (t d)) fun _ => pu .nx
def fSetN (i : Nat) (fa : M (List D)) : M Fl := bd fa fun ds => bd (setO i ds) fun _ => pu .nx
def fSeq (a b : M Fl) : M Fl := bd a fun f => match f with
  | .nx => b | f => pu f
def fDrop (fa : M D) : M Fl := bd fa fun _ => pu .nx
def EvG (K : PySem.W.Frag) (mg : Str → Option Value) (g : TG) (t : D → M Unit) : Prop := ∀ Z B σ H e v d (Q : St → Hp → Prop), SR K mg Z B σ H e → At K mg B v d → (t d e).wp (fun _ e' => ∀ σ' B' H', SR K mg Z B' σ' H' e' → Same B B' → Q σ' H') (fun _ _ => False) → g v σ H Q
def PGD (X : Cx) (tg : Expr) (t : D → M Unit) : Prop := ∃ g, PG X tg g ∧ EvG X.K X.mg g t
def EvGs (K : PySem.W.Frag) (mg : Str → Option Value) (g : TGs) (t : List D → M Unit) : Prop := ∀ Z B σ H e vs ds (Q : St → Hp → Prop), SR K mg Z B σ H e → AtL K mg B vs ds → (t ds e).wp (fun _ e' => ∀ σ' B' H', SR K mg Z B' σ' H' e' → Same B B' → Q σ' H') (fun _ _ => False) → g vs σ H Q
def PGsD (X : Cx) (tg : List Expr) (t : List D → M Unit) : Prop := ∃ g, PGs X tg g ∧ EvGs X.K X.mg g t
theorem setV_wp {i : Nat} {d : D} {e : En} {Q : Unit → En → Prop} {E : D → En → Prop} (h : (setV i d e).wp Q E) : Q () (e.set i (.val d)) := by
  unfold setV at h
  cases q : e[i]? with
  | none => rw [q] at h; exact False.elim h
  | some s =>
    rw [q] at h
    have h : (if s.isRef = true then Res.bad else Res.ok () (e.set i (.val d))).wp Q E := h
    split at h
    · exact False.elim h
    · exact h
theorem setO_wp {i : Nat} {d : List D} {e : En} {Q : Unit → En → Prop} {E : D → En → Prop} (h : (setO i d e).wp Q E) : Q () (e.set i (.own false d)) := by
  unfold setO at h
  cases q : e[i]? with
  | none => rw [q] at h; exact False.elim h
  | some s =>
    rw [q] at h
    have h : (if s.isRef = true then Res.bad else Res.ok () (e.set i (.own false d))).wp Q E := h
    split at h
    · exact False.elim h
    · exact h
section
variable {X : Cx} {W : WX} {a : Expr} {fa : M D} {pos : Pos}
theorem pgd_name (i : Nat) {x : Str} (hN : X.N.Nodup) (hi : X.N[i]? = some x := by rfl) (hx : Loc X.env.scope x := by first | exact Or.inl rfl | exact Or.inr rfl) (hf : X.fn x = true ∨ X.env.scope.names.lookup x = some .local := by first | exact .inl rfl | exact .inr rfl) : PGD X (.Name x pos) (setV i) :=
  ⟨_, pg_name hN hi hx hf, fun Z B σ H e v d Q S r h => setV_wp h _ B H (S.set r) (Same.refl B)⟩
def gNilD : List D → M Unit := fun ds => li (match ds with
  | [] => some () | _ => none)
def gConsD (t : D → M Unit) (u : List D → M Unit) : List D → M Unit
  | d :: ds => bd (t d) fun _ => u ds
  | [] => li none
theorem pgsd_nil : PGsD X [] gNilD := ⟨_, pgs_nil, fun Z B σ H e vs ds Q S r h => by
  obtain ⟨_, h1, h2⟩ := wp_li h
  cases ds with
  | nil => cases r; exact ⟨rfl, h2 σ B H S (Same.refl B)⟩
  | cons d ds => cases h1⟩
theorem pgsd_cons {es : List Expr} {t : D → M Unit} {u : List D → M Unit} (h1 : PGD X a t) (h2 : PGsD X es u) (hs : (assignEach (a :: es) X.env).map (·.2) = assign a X.env :: (assignEach es X.env).map (·.2) := by rfl) : PGsD X (a :: es) (gConsD t u) := by
  obtain ⟨g, pg, eg⟩ := h1
  obtain ⟨gs, pgs, egs⟩ := h2
  refine ⟨_, pgs_cons pg pgs hs, fun Z B σ H e vs ds Q S r h => ?_⟩
  cases r with
  | nil => exact False.elim h
  | @cons v d vs ds r rr =>
    refine ⟨v, vs, rfl, eg Z B σ H e v d _ S r ((wp_bd.mp h).imp (fun _ e1 h1 σ1 B1 H1 S1 l1 => ?_) fun _ _ q => q)⟩
    exact egs Z B1 σ1 H1 e1 vs ds Q S1 (rr.mono l1) (h1.imp (fun _ e2 h2 σ2 B2 H2 S2 l2 => h2 σ2 B2 H2 S2 (l1.trans l2)) fun _ _ q => q)
/-- (a, b, ..) = a tuple of n -/
def gTupD (n : Nat) (t : List D → M Unit) : D → M Unit := fun d => bd (li (match d with
  | .tup ds => if ds.length = n then some ds else none
  | _ => none)) t
theorem pgd_tup {es : List Expr} {k n : Nat} {t : List D → M Unit} (hc : X.calm = true) (h : PGsD X es t) (hn : (assignEach es X.env).length = n := by rfl) (hst : (assignEach es X.env).findIdx? (·.1) = none := by rfl) : PGD X (.Tuple es k pos) (gTupD n t) := by
  obtain ⟨g, pg, eg⟩ := h
  refine ⟨_, pg_tup hc pg hn hst, fun Z B σ H e v d Q S r h => ?_⟩
  obtain ⟨ds, h1, h2⟩ := wp_li (wp_bd.mp h)
  cases d with
  | tup xs =>
    have h1 : (if xs.length = n then some xs else none) = some ds := h1
    split at h1
    · cases h1
      obtain ⟨p, vs, rfl, e1, r1⟩ := r.tup_inv
      exact ⟨p, vs, rfl, seqT S.bh e1, by rw [r1.length]; assumption, eg Z B σ H e vs _ Q S r1 h2⟩
    · cases h1
  | _ => cases h1
theorem psd_set {tg : Expr} {t : D → M Unit} (ha : PED X W a fa) (hg : PGD X tg t) (hs : swapsWithSole [tg] a pos.line X.env = pure false := by rfl) (hw : swappedStores [tg] a X.env = pure none := by rfl) (h1 : (assignEach [tg] X.env).map (·.2) = [assign tg X.env] := by rfl) : PSD X W (.Assign [tg] a pos) (fSetT fa t) := by
  obtain ⟨ta, pa, ea⟩ := ha
  obtain ⟨g, pg, eg⟩ := hg
  refine ⟨_, ps_asg pa pg hs hw h1, fun Z B σ H e Y S h => ?_⟩
  refine ea.then S h (fun x e' q => PXs.at q) fun d e1 v B1 H1 S1 l1 a1 h1 => ?_
  exact eg Z B1 σ H1 e1 v d _ S1 a1 ((noExc_wp (wp_bd.mp h1)).imp (fun _ e2 h2 σ2 B2 H2 S2 l2 => h2 σ2 B2 H2 S2 (l1.trans l2)) fun x e' q => q)
theorem psd_setN (i : Nat) {x : Str} {fn : M (List D)} {px : Pos} (ha : PND X W a fn) (hN : X.N.Nodup) (hi : X.N[i]? = some x := by rfl) (hx : Loc X.env.scope x := by first | exact Or.inl rfl | exact Or.inr rfl) (hf : X.fn x = true ∨ X.env.scope.names.lookup x = some .local := by first | exact .inl rfl | exact .inr rfl)
    (hs : swapsWithSole [.Name x px] a pos.line X.env = pure false := by rfl) (hw : swappedStores [.Name x px] a X.env = pure none := by rfl) (h1 : (assignEach [.Name x px] X.env).map (·.2) = [assign (.Name x px) X.env] := by rfl) : PSD X W (.Assign [.Name x px] a pos) (fSetN i fn) := by
  obtain ⟨ta, pa, ea⟩ := ha
  refine ⟨_, ps_asg pa (pg_name hN hi hx hf) hs hw h1, fun Z B σ H e Y S h => ?_⟩
  refine ea.then S h (fun x e' q => PXs.at q) fun ds e1 p xs B1 H1 S1 l1 h2 a1 hB h0 hfr h3 => ?_
  exact setO_wp (wp_bd.mp h3) _ B1 H1 (S1.setO hfr fun _ => ⟨p, xs, rfl, h2, a1, hB, fun _ => h0, fun z => nomatch z⟩) l1
theorem psd_ret (ha : PED X W a fa) : PSD X W (.Return (some a) pos) (fRet fa) := by
  obtain ⟨ta, pa, ea⟩ := ha
  refine ⟨_, ps_ret pa, fun Z B σ H e Y S h => ?_⟩
  refine ea Z B σ H e _ S ((wp_bd.mp h).imp (fun d e1 h1 v B1 H1 S1 l1 a1 => h1 v σ B1 H1 S1 l1 a1) fun x e' q => PXs.at q)
/-- return of a new list: the caller's own -/
def fRetL (fa : M (List D)) : M Fl := bd fa fun ds => pu (.rn ds)
theorem psd_retL {fn : M (List D)} (ha : PND X W a fn) : PSD X W (.Return (some a) pos) (fRetL fn) := by
  obtain ⟨ta, pa, ea⟩ := ha
  refine ⟨_, ps_ret pa, fun Z B σ H e Y S h => ?_⟩
  exact ea Z B σ H e _ S ((wp_bd.mp h).imp (fun ds e1 h1 p xs B1 H1 S1 l1 a1 a2 a3 a4 a5 => h1 p xs σ B1 H1 S1 l1 a1 a2 a3 a4 a5) fun x e' q => PXs.at q)
theorem psd_never {st : Stmt} : PSD X W st (fun _ => .bad) := ⟨_, ps_never, fun Z B σ H e Y S h => h⟩
theorem psd_expr (ha : PED X W a fa) (hs : swapsWith a none pos.line X.env = pure false := by rfl) : PSD X W (.Expr a pos) (fDrop fa) := by
  obtain ⟨ta, pa, ea⟩ := ha
  refine ⟨_, ps_expr pa hs, fun Z B σ H e Y S h => ?_⟩
  refine ea Z B σ H e _ S ((wp_bd.mp h).imp (fun d e1 h1 v B1 H1 S1 l1 a1 => h1 σ B1 H1 S1 l1) fun x e' q => PXs.at q)
theorem psd_if {c : Expr} {sa sb : List Stmt} {gc : M Bool} {ga gb : M Fl} (hc : PBD X W c gc) (ha : PSsD X W sa ga) (hb : PSsD X W sb gb) : PSD X W (.If c sa sb pos) (fIf gc ga gb) := by
  obtain ⟨tc, pc, ec⟩ := hc
  obtain ⟨ta, pa, ea⟩ := ha
  obtain ⟨tb, pb, eb⟩ := hb
  refine ⟨_, ps_if pc pa pb, fun Z B σ H e Y S h => ?_⟩
  refine ec.then S h (fun x e' q => PXs.at q) fun d e1 B1 H1 S1 l1 h1 => ?_
  cases d with
  | true => exact ea Z B1 σ H1 e1 Y S1 (upF l1 h1)
  | false => exact eb Z B1 σ H1 e1 Y S1 (upF l1 h1)
theorem pssd_nil : PSsD X W [] (pu .nx) := ⟨_, pss_nil, fun Z B σ H e Y S h => h σ B H S (Same.refl B)⟩
theorem pssd_one {st : Stmt} {g : M Fl} (h : PSD X W st g) : PSsD X W [st] g := by
  obtain ⟨t, p, e⟩ := h
  exact ⟨_, pss_one p, e⟩
theorem pssd_cons {st : Stmt} {rest : List Stmt} {g u : M Fl} (h1 : PSD X W st g) (h2 : PSsD X W rest u) : PSsD X W (st :: rest) (fSeq g u) := by
  obtain ⟨t, p, et⟩ := h1
  obtain ⟨t2, p2, e2⟩ := h2
  refine ⟨_, pss_cons p p2, fun Z B σ H e Y S h => ?_⟩
  refine et Z B σ H e _ S ((wp_bd.mp h).imp (fun f e1 h1 => ?_) fun x e' q => q)
  cases f with
  | nx => exact fun σ' B' H' S' l' => e2 Z B' σ' H' e1 Y S' (upF l' h1)
  | rt d => exact h1
  | bk => exact h1
  | ct => exact h1
  | rn ds => exact h1
/-- name op= e, ints -/
def fAug (i : Nat) (o : D → D → M D) (fa : M D) : M Fl := bd (fVar i) fun d => bd fa fun d2 => bd (o d d2) fun d => bd (setV i d) fun _ => pu .nx
theorem psd_aug (i : Nat) {x : Str} {op : Operator} {f : Int → Int → Int} {px : Pos} (ho : PIp X op (ipI f)) (ha : PED X W a fa) (hN : X.N.Nodup) (hi : X.N[i]? = some x := by rfl) (hx : Loc X.env.scope x := by first | exact Or.inl rfl | exact Or.inr rfl) (hf : X.fn x = true ∨ X.env.scope.names.lookup x = some .local := by first | exact .inl rfl | exact .inr rfl) :
    PSD X W (.AugAssign (.Name x px) op a pos) (fAug i (opI (fun _ _ => true) fun i j => .int (f i j)) fa) := by
  obtain ⟨ta, pa, ea⟩ := ha
  refine ⟨_, ps_aug hN hi hx pa ho hf, fun Z B σ H e Y S h => ?_⟩
  have h := wp_bd.mp h
  unfold fVar at h
  cases q : e[i]? with
  | none => rw [q] at h; exact False.elim h
  | some s =>
    rw [q] at h
    cases s with
    | val d =>
      obtain ⟨v, ev, r⟩ := S.sl i _ q
      refine ⟨v, ev, ?_⟩
      refine ea.then S h (fun x e' q => PXs.at q) fun d2 e1 v2 B1 H1 S1 l1 a1 h1 => ?_
      obtain ⟨i1, j1, rfl, rfl, _, h2⟩ := opI_wp (wp_bd.mp h1)
      exact ⟨i1, j1, r.int_inv, a1.int_inv, setV_wp (wp_bd.mp h2) _ B1 H1 (S1.set (.int _)) l1⟩
    | _ => exact False.elim h
end
end Dl
set_option maxHeartbeats 1000000
/-! Layer D, part 4: lists of one's own, loops, comprehensions, defs. -/
namespace Dl
open PySem PySem.Spec PyProof.Rows L2
section
variable {K : PySem.W.Frag} {mg : Str → Option Value} {Z : Ent} {B B' : Hp} {σ : St} {H H' : Hp} {e e' : En} {p : Addr}
/-- something that is neither known nor a slot's is written -/
theorem SR.poke {o : HO} (S : SR K mg Z B σ H e) (hB : B p = none) (h0 : Z.H0 p = none) (hf : Free σ e p) : SR K mg Z B σ (upd H p o) e := by
  refine ⟨S.le, fun b u q => ?_, fun b u q n => ?_, S.nb, fun b u q => ?_, S.ln, fun i s q => (S.sl i s q).mono (Same.refl B) fun a u hs e1 h1 h2 => ?_, S.ds⟩
  · rw [upd_ne (ne_of_none q hB)]; exact S.bh b u q
  · rw [upd_ne (ne_of_none q h0)]; exact S.fh b u q n
  · by_cases hb : b = p
    · subst hb; exact ⟨o, upd_same⟩
    · obtain ⟨o', z⟩ := S.dm b u q
      exact ⟨o', by rw [upd_ne hb]; exact z⟩
  · have ne : a ≠ p := fun z => hf i ⟨s, q, hs⟩ (by rw [e1, z])
    exact ⟨h2, by rw [upd_ne ne]; exact h1⟩
theorem SR.own {i : Nat} {r : Bool} {ds : List D} (S : SR K mg Z B σ H e) (q : e[i]? = some (.own r ds)) : ∃ a xs, σ[i]? = some (some (.ref a)) ∧ H a = some (.lst xs) ∧ AtL K mg B xs ds ∧ OwnA Z B i r a := S.sl i _ q
theorem SR.putL {i : Nat} {r : Bool} {ds ds' : List D} {a : Addr} {xs : List V} (S : SR K mg Z B σ H e) (q : e[i]? = some (.own r ds)) (ha : σ[i]? = some (some (.ref a))) (hx : AtL K mg B xs ds') : SR K mg Z B σ (upd H a (.lst xs)) (e.set i (.own r ds')) := by
  obtain ⟨a', xs', e1, h1, h2, h3⟩ := S.own q
  rw [ha] at e1
  cases e1
  exact S.write ⟨_, q, rfl⟩ ha ⟨a, xs, ha, upd_same, hx, h3⟩ rfl
end
/-! ### lists of one's own: read, appended to, stored into -/
def appO (i : Nat) (d : D) : M Unit := fun e => match e[i]? with
  | some (.own r ds) => if ds.length < 16777216 then .ok () (e.set i (.own r (ds ++ [d]))) else .bad
  | _ => .bad
def extO (i : Nat) (d : D) : M Unit := fun e => match e[i]?, d with
  | some (.own r ds), .lst xs => if ds.length + xs.length ≤ 16777216 then .ok () (e.set i (.own r (ds ++ xs))) else .bad
  | _, _ => .bad
def putOI (i : Nat) (k d : D) : M Unit := fun e => match e[i]?, k with
  | some (.own r ds), .int z => (match ixN ds.length z with
    | some j => .ok () (e.set i (.own r (ds.set j d))) | none => .bad)
  | _, _ => .bad
def getOI (i : Nat) (k : D) : M D := fun e => match e[i]?, k with
  | some (.own r ds), .int z => (match L2.atI ds z with
    | some d => .ok d e | none => .bad)
  | _, _ => .bad
/-- the slot holds a list of one's own -/
def isL (i : Nat) : M Unit := fun e => match e[i]? with
  | some (.own _ _) => .ok () e | _ => .bad
theorem isL_wp {i : Nat} {e : En} {Q : Unit → En → Prop} {E : D → En → Prop} (h : (isL i e).wp Q E) : (∃ r ds, e[i]? = some (.own r ds)) ∧ Q () e := by
  unfold isL at h
  cases q : e[i]? with
  | none => rw [q] at h; exact False.elim h
  | some s =>
    rw [q] at h
    cases s with
    | own r ds => exact ⟨⟨r, ds, rfl⟩, h⟩
    | _ => exact False.elim h
def fApp (i : Nat) (fa : M D) : M Fl := bd (isL i) fun _ => bd fa fun d => bd (noExc (appO i d)) fun _ => pu .nx
def fExt (i : Nat) (fa : M D) : M Fl := bd (isL i) fun _ => bd fa fun d => bd (noExc (extO i d)) fun _ => pu .nx
def fPut (i : Nat) (fv fk : M D) : M Fl := bd fv fun d => bd (isL i) fun _ => bd fk fun k => bd (noExc (putOI i k d)) fun _ => pu .nx
def fGet (i : Nat) (fk : M D) : M D := bd (isL i) fun _ => bd fk fun k => getOI i k
/-- one's own list becomes known -/
def fFrz (i : Nat) : M D := fun e => match e[i]? with
  | some (.own false ds) => .ok (.lst ds) (e.set i (.val (.lst ds)))
  | _ => .bad
section
variable {X : Cx} {W : WX} {a b : Expr} {fa fk : M D} {pos px apos : Pos} {x : Str}
theorem appO_wp {i : Nat} {d : D} {e : En} {Q : Unit → En → Prop} {E : D → En → Prop} (h : (appO i d e).wp Q E) : ∃ r ds, e[i]? = some (.own r ds) ∧ ds.length < 16777216 ∧ Q () (e.set i (.own r (ds ++ [d]))) := by
  unfold appO at h
  cases q : e[i]? with
  | none => rw [q] at h; exact False.elim h
  | some s =>
    rw [q] at h
    cases s with
    | own r ds =>
      have h : (if ds.length < 16777216 then Res.ok () (e.set i (.own r (ds ++ [d]))) else .bad).wp Q E := h
      split at h
      · exact ⟨r, ds, rfl, by assumption, h⟩
      · exact False.elim h
    | _ => exact False.elim h
theorem extO_wp {i : Nat} {d : D} {e : En} {Q : Unit → En → Prop} {E : D → En → Prop} (h : (extO i d e).wp Q E) : ∃ r ds xs, e[i]? = some (.own r ds) ∧ d = .lst xs ∧ ds.length + xs.length ≤ 16777216 ∧ Q () (e.set i (.own r (ds ++ xs))) := by
  unfold extO at h
  cases q : e[i]? with
  | none => rw [q] at h; cases d <;> exact False.elim h
  | some s =>
    rw [q] at h
    cases s with
    | own r ds =>
      cases d with
      | lst xs =>
        have h : (if ds.length + xs.length ≤ 16777216 then Res.ok () (e.set i (.own r (ds ++ xs))) else .bad).wp Q E := h
        split at h
        · exact ⟨r, ds, xs, rfl, rfl, by assumption, h⟩
        · exact False.elim h
      | _ => exact False.elim h
    | _ => cases d <;> exact False.elim h
theorem putOI_wp {i : Nat} {k d : D} {e : En} {Q : Unit → En → Prop} {E : D → En → Prop} (h : (putOI i k d e).wp Q E) : ∃ r ds z j, e[i]? = some (.own r ds) ∧ k = .int z ∧ ixN ds.length z = some j ∧ Q () (e.set i (.own r (ds.set j d))) := by
  unfold putOI at h
  cases q : e[i]? with
  | none => rw [q] at h; cases k <;> exact False.elim h
  | some s =>
    rw [q] at h
    cases s with
    | own r ds =>
      cases k with
      | int z =>
        have h : (match ixN ds.length z with
          | some j => Res.ok () (e.set i (.own r (ds.set j d))) | none => .bad).wp Q E := h
        cases hj : ixN ds.length z with
        | none => rw [hj] at h; exact False.elim h
        | some j => rw [hj] at h; exact ⟨r, ds, z, j, rfl, rfl, hj, h⟩
      | _ => exact False.elim h
    | _ => cases k <;> exact False.elim h
theorem getOI_wp {i : Nat} {k : D} {e : En} {Q : D → En → Prop} {E : D → En → Prop} (h : (getOI i k e).wp Q E) : ∃ r ds z d, e[i]? = some (.own r ds) ∧ k = .int z ∧ L2.atI ds z = some d ∧ Q d e := by
  unfold getOI at h
  cases q : e[i]? with
  | none => rw [q] at h; cases k <;> exact False.elim h
  | some s =>
    rw [q] at h
    cases s with
    | own r ds =>
      cases k with
      | int z =>
        have h : (match L2.atI ds z with
          | some d => Res.ok d e | none => .bad).wp Q E := h
        cases hj : L2.atI ds z with
        | none => rw [hj] at h; exact False.elim h
        | some j => rw [hj] at h; exact ⟨r, ds, z, j, rfl, rfl, hj, h⟩
      | _ => exact False.elim h
    | _ => cases k <;> exact False.elim h
theorem psd_app (i : Nat) {cpos : Pos} (ha : PED X W a fa) (hN : X.N[i]? = some x := by rfl) (hv : Vis X.env.scope x := by first | exact Or.inl rfl | exact Or.inr (Or.inl rfl) | exact Or.inr (Or.inr rfl)) (hd : (x == ("__debug__" : Str)) = false := by decide) (hcd : (x == ("__classdict__" : Str)) = false := by decide)
    (hbase : attributeBase (.Name x px) "append" X.env (eval (.Name x px) X.env) = eval (.Name x px) X.env := by rfl)
    (hfew : ((backTo cpos (starEach [a] X.env)).all (fun x => !x.1) && (backToKw cpos (keywordEach [] X.env)).all (fun x => x.1.isSome) && decide ([a].length + ([] : List Keyword).length + (if ([] : List Keyword).isEmpty then 0 else 1) < 30)) = true := by rfl)
    (hline : (apos.endLine == cpos.line) = true := by rfl) (hs : starEach [a] X.env = (false, eval a X.env) :: starEach [] X.env := by rfl) (hplain : (backTo cpos (starEach [] X.env)).any (·.1) = false := by rfl)
    (hw : swapsWith (.Call (.Attribute (.Name x px) "append" apos) [a] [] cpos) none pos.line X.env = pure false := by rfl) : PSD X W (.Expr (.Call (.Attribute (.Name x px) "append" apos) [a] [] cpos) pos) (fApp i fa) := by
  obtain ⟨ta, pa, ea⟩ := ha
  refine ⟨_, ps_expr (pe_bm PySem.F.plainAttrs_list PySem.F.slot_list_append PySem.F.type_list_append mt_append (pe_var hN hv hd hcd) (pa_cons pa pa_nil hs) hbase hfew hline hs hplain) hw, fun Z B σ H e Y S h => ?_⟩
  obtain ⟨⟨r, ds, q⟩, h⟩ := isL_wp (wp_bd.mp h)
  obtain ⟨p, xs, e1, h1, _⟩ := S.own q
  refine ⟨_, e1, .inl ⟨rfl, _, SqL.of h1⟩, ?_⟩
  refine ea.then S h (fun x e' q => PXs.at q) fun d e2 v B1 H1 S1 l1 a1 h2 => ?_
  obtain ⟨r2, ds2, q2, hz, h3⟩ := appO_wp (noExc_wp (wp_bd.mp h2))
  obtain ⟨p2, xs2, e3, w1, w2, _⟩ := S1.own q2
  rw [e1] at e3
  cases e3
  exact ⟨p, xs2, v, rfl, rfl, w1, by rw [sizeLine_eq, w2.length]; exact hz, h3 σ B1 _ (S1.putL q2 e1 (w2.app (.cons a1 .nil))) l1⟩
theorem psd_ext (i : Nat) {cpos : Pos} (ha : PED X W a fa) (hN : X.N[i]? = some x := by rfl) (hv : Vis X.env.scope x := by first | exact Or.inl rfl | exact Or.inr (Or.inl rfl) | exact Or.inr (Or.inr rfl)) (hd : (x == ("__debug__" : Str)) = false := by decide) (hcd : (x == ("__classdict__" : Str)) = false := by decide)
    (hbase : attributeBase (.Name x px) "extend" X.env (eval (.Name x px) X.env) = eval (.Name x px) X.env := by rfl)
    (hfew : ((backTo cpos (starEach [a] X.env)).all (fun x => !x.1) && (backToKw cpos (keywordEach [] X.env)).all (fun x => x.1.isSome) && decide ([a].length + ([] : List Keyword).length + (if ([] : List Keyword).isEmpty then 0 else 1) < 30)) = true := by rfl)
    (hline : (apos.endLine == cpos.line) = true := by rfl) (hs : starEach [a] X.env = (false, eval a X.env) :: starEach [] X.env := by rfl) (hplain : (backTo cpos (starEach [] X.env)).any (·.1) = false := by rfl)
    (hw : swapsWith (.Call (.Attribute (.Name x px) "extend" apos) [a] [] cpos) none pos.line X.env = pure false := by rfl) : PSD X W (.Expr (.Call (.Attribute (.Name x px) "extend" apos) [a] [] cpos) pos) (fExt i fa) := by
  obtain ⟨ta, pa, ea⟩ := ha
  refine ⟨_, ps_expr (pe_bm PySem.F.plainAttrs_list PySem.F.slot_list_extend PySem.F.type_list_extend mt_extend (pe_var hN hv hd hcd) (pa_cons pa pa_nil hs) hbase hfew hline hs hplain) hw, fun Z B σ H e Y S h => ?_⟩
  obtain ⟨⟨r, ds, q⟩, h⟩ := isL_wp (wp_bd.mp h)
  obtain ⟨p, xs, e1, h1, _⟩ := S.own q
  refine ⟨_, e1, .inl ⟨rfl, _, SqL.of h1⟩, ?_⟩
  refine ea.then S h (fun x e' q => PXs.at q) fun d e2 v B1 H1 S1 l1 a1 h2 => ?_
  obtain ⟨r2, ds2, ys, q2, rfl, hz, h3⟩ := extO_wp (noExc_wp (wp_bd.mp h2))
  obtain ⟨p2, xs2, e3, w1, w2, _⟩ := S1.own q2
  rw [e1] at e3
  cases e3
  obtain ⟨p3, zs, rfl, g1, g2⟩ := a1.lst_inv
  exact ⟨p, p3, xs2, zs, rfl, rfl, w1, S1.bh _ _ g1, sz (by rw [w2.length, g2.length]; exact hz), h3 σ B1 _ (S1.putL q2 e1 (w2.app g2)) l1⟩
theorem psd_put (i : Nat) {ps : Pos} (hv' : PED X W a fa) (hk : PED X W b fk) (hN : X.N[i]? = some x := by rfl) (hv : Vis X.env.scope x := by first | exact Or.inl rfl | exact Or.inr (Or.inl rfl) | exact Or.inr (Or.inr rfl)) (hd : (x == ("__debug__" : Str)) = false := by decide) (hcd : (x == ("__classdict__" : Str)) = false := by decide)
    (has : ∀ v, assign (.Subscript (.Name x px) b ps) X.env v = (do
      let ov ← holding [v] (eval (.Name x px) X.env)
      let iv ← holding [v, ov] (eval b X.env)
      standAt ps
      holding [v, ov, iv] (setItem ov iv v)
      release [v, ov, iv] []) := by intro _; rfl)
    (hs : swapsWithSole [.Subscript (.Name x px) b ps] a pos.line X.env = pure false := by rfl) (hw : swappedStores [.Subscript (.Name x px) b ps] a X.env = pure none := by rfl) (h1 : (assignEach [.Subscript (.Name x px) b ps] X.env).map (·.2) = [assign (.Subscript (.Name x px) b ps) X.env] := by rfl) :
    PSD X W (.Assign [.Subscript (.Name x px) b ps] a pos) (fPut i fa fk) := by
  obtain ⟨ta, pa, ea⟩ := hv'
  obtain ⟨tb, pb, eb⟩ := hk
  refine ⟨_, ps_asg pa (pg_sub (pe_var hN hv hd hcd) pb set_list has) hs hw h1, fun Z B σ H e Y S h => ?_⟩
  refine ea.then S h (fun x e' q => PXs.at q) fun d e2 v B1 H1 S1 l1 a1 h2 => ?_
  obtain ⟨⟨r, ds, q⟩, h⟩ := isL_wp (wp_bd.mp h2)
  obtain ⟨p, xs, e1, h1, _⟩ := S1.own q
  refine ⟨_, e1, ?_⟩
  refine eb.then S1 h (fun x e' q => PX.up l1 (PXs.at q)) fun k e3 vk B2 H2 S2 l2 a2 h3 => ?_
  obtain ⟨r2, ds2, z, j, q2, rfl, hj, h4⟩ := putOI_wp (noExc_wp (wp_bd.mp h3))
  obtain ⟨p2, xs2, e3, w1, w2, _⟩ := S2.own q2
  rw [e1] at e3
  cases e3
  exact ⟨p, xs2, z, j, rfl, a2.int_inv, w1, by rw [w2.length]; exact hj, h4 σ B2 _ (S2.putL q2 e1 (AtL.set (a1.mono l2) j w2)) (l1.trans l2)⟩
theorem ped_get (i : Nat) {ps : Pos} (hk : PED X W b fk) (hN : X.N[i]? = some x := by rfl) (hv : Vis X.env.scope x := by first | exact Or.inl rfl | exact Or.inr (Or.inl rfl) | exact Or.inr (Or.inr rfl)) (hd : (x == ("__debug__" : Str)) = false := by decide) (hcd : (x == ("__classdict__" : Str)) = false := by decide)
    (hs : PlainIx b := by exact fun _ _ => rfl) : PED X W (.Subscript (.Name x px) b ps) (fGet i fk) := by
  obtain ⟨tb, pb, eb⟩ := hk
  refine ⟨_, pe_ix ix_list (pe_var hN hv hd hcd) pb hs, fun Z B σ H e Q S h => ?_⟩
  obtain ⟨⟨r, ds, q⟩, h⟩ := isL_wp (wp_bd.mp h)
  obtain ⟨p, xs, e1, h1, _⟩ := S.own q
  refine ⟨_, e1, ?_⟩
  refine eb.then S h (fun x e' q => q) fun k e3 vk B2 H2 S2 l2 a2 h3 => ?_
  obtain ⟨r2, ds2, z, d, q2, rfl, hj, h4⟩ := getOI_wp h3
  obtain ⟨p2, xs2, e3, w1, w2, _⟩ := S2.own q2
  rw [e1] at e3
  cases e3
  obtain ⟨v, g1, g2⟩ := w2.atI hj
  exact ⟨p, xs2, z, v, rfl, a2.int_inv, SqL.of w1, g1, h4 v B2 H2 S2 l2 g2⟩
theorem ped_frz (i : Nat) (hN : X.N[i]? = some x := by rfl) (hv : Vis X.env.scope x := by first | exact Or.inl rfl | exact Or.inr (Or.inl rfl) | exact Or.inr (Or.inr rfl)) (hd : (x == ("__debug__" : Str)) = false := by decide) (hcd : (x == ("__classdict__" : Str)) = false := by decide) : PED X W (.Name x px) (fFrz i) := by
  refine ⟨_, pe_var hN hv hd hcd, fun Z B σ H e Q S h => ?_⟩
  unfold fFrz at h
  cases q : e[i]? with
  | none => rw [q] at h; exact False.elim h
  | some s =>
    rw [q] at h
    cases s with
    | own r ds =>
      cases r with
      | true => exact False.elim h
      | false =>
        obtain ⟨p, xs, e1, h1, h2, h3⟩ := S.own q
        refine ⟨_, e1, ?_⟩
        -- the slot is forgotten, the list known, the slot told again
        have S1 : SR X.K X.mg Z B σ H (e.set i .no) := S.weak (fun _ => trivial) fun z => nomatch z
        have hf : Free σ (e.set i .no) p := fun j hj ej => by
          rcases ownAt_set hj with ⟨_, z⟩ | ⟨nj, z⟩
          · cases z
          · exact S.ds j i p nj z ⟨_, q, rfl⟩ ej e1
        obtain ⟨S2, l⟩ := S1.freeze h1 h3.1 (h3.2.1 rfl) hf
        have at' : At X.K X.mg (upd B p (.lst xs)) (.ref p) (.lst ds) := .lst upd_same (h2.mono l)
        have S3 : SR X.K X.mg Z (upd B p (.lst xs)) σ H ((e.set i .no).set i (.val (.lst ds))) := S2.weak (fun _ => ⟨_, e1, at'⟩) fun z => nomatch z
        rw [List.set_set] at S3
        exact h _ _ _ S3 l at'
    | _ => exact False.elim h
end
/-! ### what is walked -/
structure Walks (K : PySem.W.Frag) (mg : Str → Option Value) (J : It) (B' : Hp) (ds : List D) : Prop where
  go : ∀ (i : Nat) d Z σ1 H1 e1 B1, Same B' B1 → SR K mg Z B1 σ1 H1 e1 → ds[i]? = some d → J.go i H1 ∧ ∀ x H2, J.yld i H1 x H2 → (∃ B2, SR K mg Z B2 σ1 H2 e1 ∧ Same B1 B2 ∧ At K mg B2 x d) ∧ ∀ a o, H1 a = some o → H2 a = some o
  stop : ∀ i Z σ1 H1 e1 B1, Same B' B1 → SR K mg Z B1 σ1 H1 e1 → ds.length ≤ i → J.stop i H1
def EvI (K : PySem.W.Frag) (mg : Str → Option Value) (W : WX) (wi : TI) (f : M (List D)) : Prop := ∀ Z B σ H e (R : It → Hp → Prop), SR K mg Z B σ H e → (f e).wp (fun ds e' => ∀ J B' H', SR K mg Z B' σ H' e' → Same B B' → Walks K mg J B' ds → R J H') (PX K mg Z B σ W) → wi σ H R
def PID (X : Cx) (W : WX) (tg iter : Expr) (f : M (List D)) : Prop := ∃ wi, PI X tg iter wi ∧ EvI X.K X.mg W wi f
theorem pi_or {X : Cx} {tg iter : Expr} {w1 w2 : TI} (h1 : PI X tg iter w1) (h2 : PI X tg iter w2) : PI X tg iter (fun σ H R => w1 σ H R ∨ w2 σ H R) := ⟨fun pins s σ H R I h => h.elim (h1.run pins s σ H R I) (h2.run pins s σ H R I)⟩
section
variable {X : Cx} {W : WX} {tg a b : Expr} {fa : M D} {K : PySem.W.Frag} {mg : Str → Option Value} {B' : Hp} {p : Addr}
theorem walks_list {xs : List V} {ds : List D} (h : SqL K B' p xs) (r : AtL K mg B' xs ds) : Walks K mg (Itl K p) B' ds where
  go := fun i d Z σ1 H1 e1 B1 l S hd => by
    obtain ⟨v, hv, rv⟩ := r.get hd
    refine ⟨⟨xs, v, S.bh.seq (l.seq h), hv⟩, fun x H2 y => ?_⟩
    obtain ⟨e, y⟩ := y
    subst e
    have := y xs (S.bh.seq (l.seq h))
    rw [hv] at this
    cases this
    exact ⟨⟨B1, S, Same.refl B1, rv.mono l⟩, fun _ _ z => z⟩
  stop := fun i Z σ1 H1 e1 B1 l S hi => ⟨xs, S.bh.seq (l.seq h), by rw [r.length]; exact hi⟩
theorem walks_tup {xs : List V} {ds : List D} (h : SqT K B' p xs) (r : AtL K mg B' xs ds) : Walks K mg (Itt K p) B' ds where
  go := fun i d Z σ1 H1 e1 B1 l S hd => by
    obtain ⟨v, hv, rv⟩ := r.get hd
    refine ⟨⟨xs, v, seqT S.bh (seqT l h), hv⟩, fun x H2 y => ?_⟩
    obtain ⟨e, y⟩ := y
    subst e
    have := y xs (seqT S.bh (seqT l h))
    rw [hv] at this
    cases this
    exact ⟨⟨B1, S, Same.refl B1, rv.mono l⟩, fun _ _ z => z⟩
  stop := fun i Z σ1 H1 e1 B1 l S hi => ⟨xs, seqT S.bh (seqT l h), by rw [r.length]; exact hi⟩
/-- the items of what is walked -/
def dWalk : D → M (List D) := fun d => li (match d with
  | .lst xs => some xs | .tup xs => some xs | .scr ns => some (ns.map D.int) | _ => none)
theorem pid_seq (ha : PED X W a fa) : PID X W tg a (bd fa dWalk) := by
  obtain ⟨ta, pa, ea⟩ := ha
  refine ⟨_, pi_or (pi_list pa) (pi_tup pa), fun Z B σ H e R S h => ?_⟩
  -- which of the two is known once the value is
  have key : (fa e).wp (fun d e' => (∃ ds, d = .tup ds) ∨ ∀ ds, d ≠ .tup ds) (fun _ _ => True) := by
    cases q : fa e with
    | ok d e' => exact Classical.byCases (fun z => Or.inl z) fun z => Or.inr fun ds hd => z ⟨ds, hd⟩
    | exc x e' => trivial
    | bad => have := wp_bd.mp h; rw [q] at this; exact this
  cases q : fa e with
  | bad => have := wp_bd.mp h; rw [q] at this; exact False.elim this
  | exc x e' =>
    refine .inl (ea Z B σ H e _ S ?_)
    have := wp_bd.mp h
    rw [q] at this ⊢
    exact this
  | ok d e' =>
    have h' := wp_bd.mp h
    rw [q] at h'
    obtain ⟨ds, h2, h3⟩ := wp_li h'
    cases d with
    | tup xs =>
      cases h2
      refine .inr (ea Z B σ H e _ S ?_)
      rw [q]
      intro v B1 H1 S1 l1 a1
      obtain ⟨p, vs, rfl, g1, g2⟩ := a1.tup_inv
      exact ⟨p, rfl, ⟨vs, seqT S1.bh g1⟩, h3 _ B1 H1 S1 l1 (walks_tup g1 g2)⟩
    | lst xs =>
      cases h2
      refine .inl (ea Z B σ H e _ S ?_)
      rw [q]
      intro v B1 H1 S1 l1 a1
      obtain ⟨p, vs, rfl, g1, g2⟩ := a1.lst_inv
      exact ⟨p, rfl, ⟨vs, SqL.of (S1.bh _ _ g1)⟩, h3 _ B1 H1 S1 l1 (walks_list (SqL.of g1) g2)⟩
    | scr ns =>
      cases h2
      refine .inl (ea Z B σ H e _ S ?_)
      rw [q]
      intro v B1 H1 S1 l1 a1
      obtain ⟨p, rfl, g1⟩ := a1.scr_inv
      exact ⟨p, rfl, ⟨_, S1.bh.seq g1⟩, h3 _ B1 H1 S1 l1 (walks_list g1 (.of_ints ns))⟩
    | _ => cases h2
end
end Dl
set_option maxHeartbeats 1000000
/-! Layer D, part 5: loops, comprehensions, defs. -/
namespace Dl
open PySem PySem.Spec PyProof.Rows L2 RZ
/-! ### ranges, zip, enumerate -/
def rangeD (lo : Int) (n : Nat) : List D := (List.range n).map fun (i : Nat) => D.int (lo + (i : Int))
def zipD : List D → List D → List D
  | x :: xs, y :: ys => .tup [x, y] :: zipD xs ys
  | _, _ => []
def dZip : List D → M (List D) := fun ds => li (match ds with
  | [.lst xs, .lst ys] => some (zipD xs ys)
  | [.tup xs, .tup ys] => some (zipD xs ys)
  | _ => none)
def enumD : Nat → List D → List D
  | n, x :: xs => .tup [.int (n : Nat), x] :: enumD (n + 1) xs
  | _, [] => []
section
variable {K : PySem.W.Frag} {mg : Str → Option Value} {B' : Hp} {p p2 : Addr}
theorem rangeD_get {lo : Int} {n i : Nat} {d : D} (h : (rangeD lo n)[i]? = some d) : i < n ∧ d = .int (lo + (i : Int)) := by
  unfold rangeD at h
  rw [List.getElem?_map] at h
  by_cases hi : i < n
  · rw [List.getElem?_range hi] at h
    cases h
    exact ⟨hi, rfl⟩
  · rw [List.getElem?_eq_none (by simpa using hi)] at h
    cases h
theorem rangeD_len (lo : Int) (n : Nat) : (rangeD lo n).length = n := by simp [rangeD]
theorem walks_range {lo : Int} {n : Nat} : Walks K mg (Itr lo n) B' (rangeD lo n) where
  go := fun i d Z σ1 H1 e1 B1 l S hd => by
    obtain ⟨hi, rfl⟩ := rangeD_get hd
    refine ⟨hi, fun x H2 y => ?_⟩
    obtain ⟨e, y⟩ := y
    subst e y
    exact ⟨⟨B1, S, Same.refl B1, .int _⟩, fun _ _ z => z⟩
  stop := fun i Z σ1 H1 e1 B1 l S hi => by rw [rangeD_len] at hi; exact hi
theorem zipD_get : ∀ {xs ys : List D} {i : Nat} {d : D}, (zipD xs ys)[i]? = some d → ∃ x y, xs[i]? = some x ∧ ys[i]? = some y ∧ d = .tup [x, y]
  | x :: xs, y :: ys, 0, d, h => by simp [zipD] at h; exact ⟨x, y, rfl, rfl, h.symm⟩
  | x :: xs, y :: ys, i + 1, d, h => by
    obtain ⟨a, b, h1, h2, h3⟩ := zipD_get (xs := xs) (ys := ys) (i := i) (d := d) (by simpa [zipD] using h)
    exact ⟨a, b, by simpa using h1, by simpa using h2, h3⟩
  | [], _, _, _, h => by simp [zipD] at h
  | _ :: _, [], _, _, h => by simp [zipD] at h
theorem zipD_len : ∀ {xs ys : List D} {i : Nat}, (zipD xs ys).length ≤ i → xs.length ≤ i ∨ ys.length ≤ i
  | x :: xs, y :: ys, 0, h => by simp [zipD] at h
  | x :: xs, y :: ys, i + 1, h => by
    have := zipD_len (xs := xs) (ys := ys) (i := i) (by simpa [zipD] using h)
    simpa using this
  | [], _, _, _ => .inl (by simp)
  | _ :: _, [], _, _ => .inr (by simp)
theorem enumD_get : ∀ {xs : List D} {n i : Nat} {d : D}, (enumD n xs)[i]? = some d → ∃ x, xs[i]? = some x ∧ d = .tup [.int ((n + i : Nat) : Int), x]
  | x :: xs, n, 0, d, h => by simp [enumD] at h; exact ⟨x, rfl, h.symm⟩
  | x :: xs, n, i + 1, d, h => by
    obtain ⟨a, h1, h2⟩ := enumD_get (xs := xs) (n := n + 1) (i := i) (d := d) (by simpa [enumD] using h)
    refine ⟨a, by simpa using h1, ?_⟩
    rw [h2]
    congr 4
    omega
  | [], _, _, _, h => by simp [enumD] at h
theorem enumD_len : ∀ {xs : List D} {n : Nat}, (enumD n xs).length = xs.length
  | [], _ => rfl
  | x :: xs, n => by simp [enumD, enumD_len (xs := xs)]
theorem walks_zip {xs ys : List V} {ds es : List D} (h : SqL K B' p xs) (r : AtL K mg B' xs ds) (h2 : SqL K B' p2 ys) (r2 : AtL K mg B' ys es) : Walks K mg (Itz K p p2) B' (zipD ds es) where
  go := fun i d Z σ1 H1 e1 B1 l S hd => by
    obtain ⟨x, y, hx, hy, rfl⟩ := zipD_get hd
    obtain ⟨v, hv, rv⟩ := r.get hx
    obtain ⟨v2, hv2, rv2⟩ := r2.get hy
    refine ⟨⟨xs, ys, v, v2, S.bh.seq (l.seq h), S.bh.seq (l.seq h2), hv, hv2⟩, fun x H2 w => ?_⟩
    obtain ⟨T, x', y', rfl, hT, rfl, q1, q2⟩ := w
    have e1 := q1 xs (S.bh.seq (l.seq h))
    rw [hv] at e1
    cases e1
    have e2 := q2 ys (S.bh.seq (l.seq h2))
    rw [hv2] at e2
    cases e2
    obtain ⟨S2, l2⟩ := S.new (o := .tup [v, v2]) hT
    exact ⟨⟨_, S2, l2, .tup (SqT.of upd_same) (.cons (rv.mono (l.trans l2)) (.cons (rv2.mono (l.trans l2)) .nil))⟩, fun a o z => by rw [upd_ne (ne_of_none z hT)]; exact z⟩
  stop := fun i Z σ1 H1 e1 B1 l S hi => ⟨xs, ys, S.bh.seq (l.seq h), S.bh.seq (l.seq h2), by rw [r.length, r2.length]; exact zipD_len hi⟩
theorem walks_zipT {xs ys : List V} {ds es : List D} (h : SqT K B' p xs) (r : AtL K mg B' xs ds) (h2 : SqT K B' p2 ys) (r2 : AtL K mg B' ys es) : Walks K mg (ItzT K p p2) B' (zipD ds es) where
  go := fun i d Z σ1 H1 e1 B1 l S hd => by
    obtain ⟨x, y, hx, hy, rfl⟩ := zipD_get hd
    obtain ⟨v, hv, rv⟩ := r.get hx
    obtain ⟨v2, hv2, rv2⟩ := r2.get hy
    refine ⟨⟨xs, ys, v, v2, seqT S.bh (seqT l h), seqT S.bh (seqT l h2), hv, hv2⟩, fun x H2 w => ?_⟩
    obtain ⟨T, x', y', rfl, hT, rfl, q1, q2⟩ := w
    have e1 := q1 xs (seqT S.bh (seqT l h))
    rw [hv] at e1
    cases e1
    have e2 := q2 ys (seqT S.bh (seqT l h2))
    rw [hv2] at e2
    cases e2
    obtain ⟨S2, l2⟩ := S.new (o := .tup [v, v2]) hT
    exact ⟨⟨_, S2, l2, .tup (SqT.of upd_same) (.cons (rv.mono (l.trans l2)) (.cons (rv2.mono (l.trans l2)) .nil))⟩, fun a o z => by rw [upd_ne (ne_of_none z hT)]; exact z⟩
  stop := fun i Z σ1 H1 e1 B1 l S hi => ⟨xs, ys, seqT S.bh (seqT l h), seqT S.bh (seqT l h2), by rw [r.length, r2.length]; exact zipD_len hi⟩
theorem walks_enum {xs : List V} {ds : List D} (h : SqL K B' p xs) (r : AtL K mg B' xs ds) : Walks K mg (Ite K p) B' (enumD 0 ds) where
  go := fun i d Z σ1 H1 e1 B1 l S hd => by
    obtain ⟨x, hx, rfl⟩ := enumD_get hd
    obtain ⟨v, hv, rv⟩ := r.get hx
    refine ⟨⟨xs, v, S.bh.seq (l.seq h), hv⟩, fun x H2 w => ?_⟩
    obtain ⟨T, x', rfl, hT, rfl, q1⟩ := w
    have e1 := q1 xs (S.bh.seq (l.seq h))
    rw [hv] at e1
    cases e1
    obtain ⟨S2, l2⟩ := S.new (o := .tup [.int (i : Nat), v]) hT
    rw [Nat.zero_add]
    exact ⟨⟨_, S2, l2, .tup (SqT.of upd_same) (.cons (.int _) (.cons (rv.mono (l.trans l2)) .nil))⟩, fun a o z => by rw [upd_ne (ne_of_none z hT)]; exact z⟩
  stop := fun i Z σ1 H1 e1 B1 l S hi => ⟨xs, S.bh.seq (l.seq h), by rw [r.length]; rw [enumD_len] at hi; exact hi⟩
end
section
variable {X : Cx} {W : WX} {tg a b : Expr} {fr : M (List D)} {p pos : Pos}
variable {elts : List Expr} {kk : Nat} {tpos : Pos}
theorem pid_zip (ha : PAD X W [a, b] fr) (hm : X.mg "zip" = none) (hg : Gl X "zip" := by rfl) (hs : starEach [a, b] X.env = (false, eval a X.env) :: starEach [b] X.env := by rfl) (hpl : (backTo pos (starEach [b] X.env)).any (·.1) = false := by rfl) : PID X W (.Tuple elts kk tpos) (.Call (.Name "zip" p) [a, b] [] pos) (bd fr dZip) := by
  obtain ⟨ta, pa, ea⟩ := ha
  refine ⟨_, pi_zipA hg hm pa hs hpl, fun Z B σ H e R S h => ?_⟩
  refine ea Z B σ H e _ S ((wp_bd.mp h).imp (fun ds e1 h1 vs B1 H1 S1 l1 a1 => ?_) fun x e' q => q)
  obtain ⟨r, h2, h3⟩ := wp_li h1
  match ds, h2 with
  | [.lst xs, .lst ys], h2 =>
    cases h2
    cases a1 with
    | cons r rr =>
      cases rr with
      | cons r2 rr =>
        cases rr
        obtain ⟨p1, v1, rfl, g1, g2⟩ := r.lst_inv
        obtain ⟨p2, v2, rfl, k1, k2⟩ := r2.lst_inv
        exact ⟨p1, p2, v1, v2, rfl, .inl ⟨SqL.of (S1.bh _ _ g1), SqL.of (S1.bh _ _ k1), h3 _ B1 H1 S1 l1 (walks_zip (SqL.of g1) g2 (SqL.of k1) k2)⟩⟩
  | [.tup xs, .tup ys], h2 =>
    cases h2
    cases a1 with
    | cons r rr =>
      cases rr with
      | cons r2 rr =>
        cases rr
        obtain ⟨p1, v1, rfl, g1, g2⟩ := r.tup_inv
        obtain ⟨p2, v2, rfl, k1, k2⟩ := r2.tup_inv
        exact ⟨p1, p2, v1, v2, rfl, .inr ⟨seqT S1.bh g1, seqT S1.bh k1, h3 _ B1 H1 S1 l1 (walks_zipT g1 g2 k1 k2)⟩⟩
end
/-! ### for, while -/
def forL (t : D → M Unit) (body : M Fl) : List D → M Fl
  | [] => pu .nx
  | d :: ds => bd (noExc (t d)) fun _ => bd body fun f => match f with
    | .nx => forL t body ds | .ct => forL t body ds | .bk => pu .nx | .rt d => pu (.rt d) | .rn ds => pu (.rn ds)
def fFor (src : M (List D)) (t : D → M Unit) (body : M Fl) : M Fl := bd src (forL t body)
def whileN (c : M Bool) (body : M Fl) : Nat → M Fl
  | 0 => fun _ => .bad
  | n + 1 => bd c fun b => if b = true then bd body fun f => match f with
    | .nx => whileN c body n | .ct => whileN c body n | .bk => pu .nx | .rt d => pu (.rt d) | .rn ds => pu (.rn ds) else pu .nx
open Classical in
/-- a while: as many turns as it takes -/
noncomputable def fWhile (c : M Bool) (body : M Fl) : M Fl := fun e => if h : ∃ n, whileN c body n e ≠ .bad then whileN c body (choose h) e else .bad
section
variable {X : Cx} {W : WX} {tg iter c : Expr} {body : List Stmt} {src : M (List D)} {t : D → M Unit} {g : M Fl} {gc : M Bool} {pos : Pos}
theorem psd_for (hp : PassesOwn (model X.prog X.w) X.A X.env X.xe) (hc : X.calm = true) (hi : PID X W tg iter src) (ht : PGD X tg t) (hb : PSsD X W body g) (hs : ∀ x, foldedSetIterable iter X.env x = pure x := by intro _; rfl) : PSD X W (.For tg iter body [] pos) (fFor src t g) := by
  obtain ⟨wi, pi, ei⟩ := hi
  obtain ⟨gt, pg, eg⟩ := ht
  obtain ⟨tb, pb, eb⟩ := hb
  refine ⟨_, ps_for hp hc pi pg pb hs, fun Z B σ H e Y S h => ?_⟩
  refine ei Z B σ H e _ S ((wp_bd.mp h).imp (fun ds e1 h1 J B1 H1 S1 l1 wk => ?_) fun x e' q => PXs.at q)
  refine ⟨fun i m σ2 H2 => ∃ B2 e2, Same B1 B2 ∧ SR X.K X.mg Z B2 σ2 H2 e2 ∧ m = ds.length - i ∧ i ≤ ds.length ∧ (forL t g (ds.drop i) e2).wp (PF X.K X.mg Z B2 Y) (PXs X.K X.mg Z B2 W), ⟨ds.length, B1, e1, Same.refl B1, S1, by simp, Nat.zero_le _, by simpa using upF l1 h1⟩, ?_⟩
  rintro i m σ2 H2 ⟨B2, e2, l2, S2, rfl, hi, h2⟩
  by_cases hlt : i < ds.length
  · refine .inr ?_
    obtain ⟨wg, wy⟩ := wk.go i ds[i] Z σ2 H2 e2 B2 l2 S2 (by simp [hlt])
    refine ⟨wg, fun σ' H' => ∃ B3 e3, Same B1 B3 ∧ SR X.K X.mg Z B3 σ' H' e3 ∧ (forL t g (ds.drop (i + 1)) e3).wp (PF X.K X.mg Z B3 Y) (PXs X.K X.mg Z B3 W), fun σ' H' ⟨B3, e3, l3, S3, h3⟩ => ⟨ds.length - (i + 1), by omega, B3, e3, l3, S3, rfl, hlt, h3⟩, fun x H3 y => ?_⟩
    obtain ⟨⟨B3, S3, l3, a3⟩, _⟩ := wy x H3 y
    rw [List.drop_eq_getElem_cons hlt] at h2
    refine eg Z B3 σ2 H3 e2 x _ _ S3 a3 ((noExc_wp (wp_bd.mp h2)).imp (fun _ e4 h4 σ4 B4 H4 S4 l4 => ?_) fun x e' q => q)
    refine eb Z B4 σ4 H4 e4 _ S4 ((wp_bd.mp h4).imp (fun f e5 h5 => ?_) fun x e' q => PXs.up (l3.trans l4) q)
    have up : Same B2 B4 := l3.trans l4
    cases f with
    | nx => exact fun σ5 B5 H5 S5 l5 => ⟨B5, e5, ((l2.trans up).trans l5), S5, upF (up.trans l5) h5⟩
    | ct => exact fun σ5 B5 H5 S5 l5 => ⟨B5, e5, ((l2.trans up).trans l5), S5, upF (up.trans l5) h5⟩
    | bk => exact fun σ5 B5 H5 S5 l5 => h5 σ5 B5 H5 S5 (up.trans l5)
    | rt d => exact fun v σ5 B5 H5 S5 l5 a5 => h5 v σ5 B5 H5 S5 (up.trans l5) a5
    | rn d => exact fun p xs σ5 B5 H5 S5 l5 a1 a2 a3 a4 a5 => h5 p xs σ5 B5 H5 S5 (up.trans l5) a1 a2 a3 a4 a5
  · have hle : ds.length ≤ i := by omega
    refine .inl ⟨wk.stop i Z σ2 H2 e2 B2 l2 S2 hle, ?_⟩
    rw [List.drop_eq_nil_of_le hle] at h2
    exact h2 σ2 B2 H2 S2 (Same.refl B2)
theorem psd_while (hp : PassesOwn (model X.prog X.w) X.A X.env X.xe) (hc : PBD X W c gc) (hb : PSsD X W body g) : PSD X W (.While c body [] pos) (fWhile gc g) := by
  obtain ⟨tc, pc, ec⟩ := hc
  obtain ⟨tb, pb, eb⟩ := hb
  refine ⟨_, ps_while hp pc pb, fun Z B σ H e Y S h => ?_⟩
  obtain ⟨n, hn⟩ : ∃ n, (whileN gc g n e).wp (PF X.K X.mg Z B Y) (PXs X.K X.mg Z B W) := by
    unfold fWhile at h
    split at h
    · exact ⟨_, h⟩
    · exact False.elim h
  refine ⟨fun m σ2 H2 => ∃ B2 e2, SR X.K X.mg Z B2 σ2 H2 e2 ∧ (whileN gc g m e2).wp (PF X.K X.mg Z B2 Y) (PXs X.K X.mg Z B2 W), ⟨n, B, e, S, hn⟩, ?_⟩
  rintro m σ2 H2 ⟨B2, e2, S2, h2⟩
  cases m with
  | zero => exact False.elim h2
  | succ m =>
    refine ec.then S2 h2 (fun x e' q => PXs.at q) fun b e3 B3 H3 S3 l3 h3 => ?_
    cases b with
    | false => exact h3 σ2 B3 H3 S3 l3
    | true =>
      rw [if_pos rfl]
      refine ⟨fun σ' H' => ∃ B4 e4, SR X.K X.mg Z B4 σ' H' e4 ∧ (whileN gc g m e4).wp (PF X.K X.mg Z B4 Y) (PXs X.K X.mg Z B4 W), fun σ' H' ⟨B4, e4, S4, h4⟩ => ⟨m, Nat.lt_succ_self m, B4, e4, S4, h4⟩, ?_⟩
      refine eb Z B3 σ2 H3 e3 _ S3 ((wp_bd.mp h3).imp (fun f e5 h5 => ?_) fun x e' q => PXs.up l3 q)
      cases f with
      | nx => exact fun σ5 B5 H5 S5 l5 => ⟨B5, e5, S5, upF (l3.trans l5) h5⟩
      | ct => exact fun σ5 B5 H5 S5 l5 => ⟨B5, e5, S5, upF (l3.trans l5) h5⟩
      | bk => exact fun σ5 B5 H5 S5 l5 => h5 σ5 B5 H5 S5 (l3.trans l5)
      | rt d => exact fun v σ5 B5 H5 S5 l5 a5 => h5 v σ5 B5 H5 S5 (l3.trans l5) a5
      | rn d => exact fun p xs σ5 B5 H5 S5 l5 a1 a2 a3 a4 a5 => h5 p xs σ5 B5 H5 S5 (l3.trans l5) a1 a2 a3 a4 a5
/-- more turns allowed: the same -/
theorem whileN_mono {e : En} : ∀ {n : Nat}, whileN gc g n e ≠ .bad → ∀ m, n ≤ m → whileN gc g m e = whileN gc g n e := by
  intro n
  induction n generalizing e with
  | zero => intro h; exact absurd rfl h
  | succ n ih =>
    intro h m hm
    obtain ⟨m, rfl⟩ : ∃ k, m = k + 1 := ⟨m - 1, by omega⟩
    unfold whileN at h ⊢
    unfold bd at h ⊢
    cases q : gc e with
    | ok b e1 =>
      rw [q] at h
      cases b with
      | false => rfl
      | true =>
        simp only [if_true] at h ⊢
        cases q2 : g e1 with
        | ok f e2 =>
          rw [q2] at h
          cases f with
          | nx => exact ih h m (by omega)
          | ct => exact ih h m (by omega)
          | bk => rfl
          | rt d => rfl
          | rn d => rfl
        | exc x e2 => rfl
        | bad => rfl
    | exc x e1 => rfl
    | bad => rfl
theorem fWhile_eq {e : En} {n : Nat} {r : Res Fl} (h : whileN gc g n e = r) (hr : r ≠ .bad) : fWhile gc g e = r := by
  have hex : ∃ n, whileN gc g n e ≠ .bad := ⟨n, by rw [h]; exact hr⟩
  unfold fWhile
  rw [dif_pos hex]
  have h1 := Classical.choose_spec hex
  have h2 := whileN_mono (n := n) (by rw [h]; exact hr)
  have h3 := whileN_mono h1
  rcases Nat.le_total n (Classical.choose hex) with hle | hle
  · rw [h2 _ hle, h]
  · rw [← h3 _ hle, h]
end
/-! ### comprehensions -/
def wipeE : List Nat → En → En
  | [], e => e | v :: vs, e => (wipeE vs e).set v .no
def restE (vs : List Nat) (e e' : En) : En := putG (fun i s => if vs.contains i = true then e.getD i .no else s) 0 e'
def noOwn (vs : List Nat) (e : En) : Bool := vs.all fun v => !(e.getD v .no).isOwn
def refS : Sl → Sl
  | .own _ ds => .own true ds | .oin _ c ns ds => .oin true c ns ds | s => s
def refE (e : En) : En := e.map refS
/-- behind a turn: a slot outside as the turn leaves it, its flag as it was -/
def fixS (s s' : Sl) : Sl := match s' with
  | .own true ds => if s.isOwn = true then .own s.isRef ds else .no
  | .oin true c ns ds => if s.isOwn = true then .oin s.isRef c ns ds else .no
  | .val d => .val d
  | _ => .no
def fixE (vs : List Nat) (e e' : En) : En := putG (fun i s' => if vs.contains i = true then .no else fixS (e.getD i .no) s') 0 e'
def lcTurn (vs : List Nat) (t : D → M Unit) (c : M Bool) (el : M D) (d : D) : M (Option D) := fun e =>
  match (bd (noExc (t d)) fun _ => bd c fun b => if b = true then bd el fun y => pu (some y) else pu none) (refE e) with
  | .ok o e' => if e'.length = e.length then .ok o (fixE vs e e') else .bad
  | _ => .bad
def lcLoop (vs : List Nat) (t : D → M Unit) (c : M Bool) (el : M D) : List D → M (List D)
  | [] => pu []
  | d :: ds => bd (lcTurn vs t c el d) fun o => bd (lcLoop vs t c el ds) fun r => pu (match o with
    | some y => y :: r | none => r)
def fLc (src : M (List D)) (vs : List Nat) (t : D → M Unit) (c : M Bool) (el : M D) : M (List D) := bd src fun ds => fun e =>
  if ds.length ≤ 16777216 ∧ noOwn vs e = true then (match lcLoop vs t c el ds (wipeE vs e) with
    | .ok r e' => .ok r (restE vs e e') | _ => .bad) else .bad
section
variable {K : PySem.W.Frag} {mg : Str → Option Value} {Z : Ent} {B B' : Hp} {σ : St} {H H' : Hp} {e e' : En} {p : Addr}
theorem wipeE_len : ∀ {vs : List Nat}, (wipeE vs e).length = e.length
  | [] => rfl
  | v :: vs => by unfold wipeE; rw [List.length_set, wipeE_len (vs := vs)]
theorem wipeE_get : ∀ {vs : List Nat} {i : Nat} {s : Sl}, (wipeE vs e)[i]? = some s → s = .no ∨ (e[i]? = some s ∧ i ∉ vs)
  | [], i, s, h => .inr ⟨h, by simp⟩
  | v :: vs, i, s, h => by
    unfold wipeE at h
    by_cases hv : v = i
    · subst hv
      rw [List.getElem?_set] at h
      simp only [if_true] at h
      split at h
      · cases h; exact .inl rfl
      · cases h
    · rw [List.getElem?_set_ne hv] at h
      rcases wipeE_get h with z | ⟨z1, z2⟩
      · exact .inl z
      · exact .inr ⟨z1, by simp only [List.mem_cons, not_or]; exact ⟨fun q => hv q.symm, z2⟩⟩
theorem wipe_out {i : Nat} : ∀ {vs : List Nat}, i ∉ vs → (wipe σ vs)[i]? = σ[i]?
  | [], _ => rfl
  | v :: vs, h => by
    unfold wipe
    simp only [List.mem_cons, not_or] at h
    rw [List.getElem?_set_ne (fun q => h.1 q.symm)]
    exact wipe_out h.2
theorem wipe_in {i : Nat} : ∀ {vs : List Nat}, i ∈ vs → (L2.wipe σ vs)[i]? = (σ[i]?).map fun _ => none
  | v :: vs, h => by
    unfold L2.wipe
    by_cases hv : v = i
    · subst hv
      rw [List.getElem?_set]
      simp only [if_true]
      rw [wipe_length]
      split
      · rename_i hl; simp [hl]
      · rename_i hl; simp at hl; simp [hl]
    · rw [List.getElem?_set_ne hv]
      rcases List.mem_cons.mp h with z | z
      · exact absurd z.symm hv
      · exact wipe_in z
theorem wipe_wipe (σ : St) (vs : List Nat) : L2.wipe (L2.wipe σ vs) vs = L2.wipe σ vs := by
  apply List.ext_getElem?
  intro i
  by_cases h : i ∈ vs
  · rw [wipe_in h, wipe_in h]
    cases σ[i]? <;> rfl
  · rw [wipe_out h]
theorem wipe_set {i : Nat} {x : Option V} {vs : List Nat} (h : i ∈ vs) : L2.wipe (σ.set i x) vs = L2.wipe σ vs := by
  apply List.ext_getElem?
  intro j
  by_cases hj : j ∈ vs
  · rw [wipe_in hj, wipe_in hj]
    by_cases e : i = j
    · subst e
      rw [List.getElem?_set]
      simp only [if_true]
      split
      · rename_i hl; simp [hl]
      · rename_i hl; simp at hl; simp [hl]
    · rw [List.getElem?_set_ne e]
  · rw [wipe_out hj, wipe_out hj, List.getElem?_set_ne fun (e : i = j) => hj (e ▸ h)]
theorem SR.wipe (S : SR K mg Z B σ H e) (vs : List Nat) : SR K mg Z B (L2.wipe σ vs) H (wipeE vs e) := by
  refine ⟨S.le, S.bh, S.fh, S.nb, S.dm, by rw [wipe_length, wipeE_len]; exact S.ln, fun i s q => ?_, fun i j a hij hi hj e1 e2 => ?_⟩
  · rcases wipeE_get q with rfl | ⟨z1, z2⟩
    · trivial
    · rw [wipe_out z2]; exact S.sl i s z1
  · have key : ∀ i, ownAt (wipeE vs e) i → ownAt e i ∧ i ∉ vs := fun i ⟨s, q, hs⟩ => by
      rcases wipeE_get q with rfl | ⟨z1, z2⟩
      · cases hs
      · exact ⟨⟨s, z1, hs⟩, z2⟩
    obtain ⟨o1, n1⟩ := key i hi
    obtain ⟨o2, n2⟩ := key j hj
    rw [wipe_out n1] at e1
    rw [wipe_out n2] at e2
    exact S.ds i j a hij o1 o2 e1 e2
theorem getD_some {i : Nat} {s d : Sl} (h : e[i]? = some s) : e.getD i d = s := by rw [List.getD_eq_getElem?_getD, h]; rfl
theorem SR.unwipe {vs : List Nat} (S : SR K mg Z B σ H e) (no : noOwn vs e = true) (l : Same B B') (S' : SR K mg Z B' (L2.wipe σ vs) H' e') : SR K mg Z B' σ H' (restE vs e e') := by
  have hlen : e'.length = e.length := by rw [← S'.ln, wipe_length]; exact S.ln
  have get : ∀ i s, (restE vs e e')[i]? = some s → (i ∈ vs ∧ s = e.getD i .no ∧ i < e.length) ∨ (i ∉ vs ∧ e'[i]? = some s) := fun i s q => by
    unfold restE at q
    rw [putG_get] at q
    cases hi : e'[i]? with
    | none => rw [hi] at q; cases q
    | some s' =>
      rw [hi] at q
      have hlt : i < e.length := by rw [← hlen]; exact (List.getElem?_eq_some_iff.mp hi).1
      have q := Option.some.inj q
      simp only [Nat.zero_add] at q
      by_cases hv : i ∈ vs
      · rw [if_pos (by simpa using hv)] at q
        exact .inl ⟨hv, q.symm, hlt⟩
      · rw [if_neg (by simpa using hv)] at q
        exact .inr ⟨hv, by rw [← q]⟩
  have noo : ∀ i, i ∈ vs → (e.getD i .no).isOwn = false := fun i hi => by
    have := List.all_eq_true.mp no i hi
    simpa using this
  have own : ∀ i, ownAt (restE vs e e') i → ownAt e' i ∧ i ∉ vs := fun i ⟨s, q, hs⟩ => by
    rcases get i s q with ⟨h1, h2, _⟩ | ⟨h1, h2⟩
    · rw [h2, noo i h1] at hs; cases hs
    · exact ⟨⟨s, h2, hs⟩, h1⟩
  refine ⟨S'.le, S'.bh, S'.fh, S'.nb, S'.dm, by unfold restE; rw [putG_len, hlen]; exact S.ln, fun i s q => ?_, fun i j a hij hi hj e1 e2 => ?_⟩
  · rcases get i s q with ⟨h1, h2, h3⟩ | ⟨h1, h2⟩
    · have hs : e[i]? = some s := by
        rw [h2]
        rw [List.getD_eq_getElem?_getD]
        simp [h3]
      have ho : s.isOwn = false := by rw [h2]; exact noo i h1
      have z := S.sl i s hs
      cases s with
      | no => trivial
      | val d => obtain ⟨v, e1, r⟩ := z; exact ⟨v, e1, r.mono l⟩
      | _ => cases ho
    · have z := S'.sl i s h2
      rw [wipe_out h1] at z
      exact z
  · obtain ⟨o1, n1⟩ := own i hi
    obtain ⟨o2, n2⟩ := own j hj
    rw [← wipe_out (vs := vs) n1] at e1
    rw [← wipe_out (vs := vs) n2] at e2
    exact S'.ds i j a hij o1 o2 e1 e2
theorem Free.wipe {vs : List Nat} (h : Free σ e p) : Free (L2.wipe σ vs) (wipeE vs e) p := fun i ⟨s, q, hs⟩ z => by
  rcases wipeE_get q with rfl | ⟨z1, z2⟩
  · cases hs
  · rw [wipe_out z2] at z
    exact h i ⟨s, z1, hs⟩ z
end
abbrev WNo : WX := fun _ _ _ _ => False
section
variable {X : Cx} {W : WX} {elt tg iter : Expr} {ifs : List Expr} {scope : Scope} {own : List (Str × Nat)} {src : M (List D)} {t : D → M Unit} {c : M Bool} {el : M D} {pos : Pos}
def PTsD (X : Cx) (W : WX) (ifs : List Expr) (f : M Bool) : Prop := ∃ tt, PTs X ifs tt ∧ EvB X.K X.mg W tt f
theorem ptsd_nil : PTsD X W [] (pu true) := ⟨_, pts_nil, fun Z B σ H e Q S h => h B H S (Same.refl B)⟩
/-- a target that stores into the slots vs alone -/
def EvGv (K : PySem.W.Frag) (mg : Str → Option Value) (vs : List Nat) (g : TG) (t : D → M Unit) : Prop := ∀ Z B σ H e v d (Q : St → Hp → Prop), SR K mg Z B σ H e → At K mg B v d → (t d e).wp (fun _ e' => ∀ σ' B' H', L2.wipe σ' vs = L2.wipe σ vs → SR K mg Z B' σ' H' e' → Same B B' → Q σ' H') (fun _ _ => False) → g v σ H Q
def ownA (σ : St) (e : En) : List Addr := (List.range e.length).filterMap fun i => if (e.getD i .no).isOwn = true then (match σ[i]? with
  | some (some (.ref a)) => some a | _ => none) else none
theorem mem_ownA {σ : St} {e : En} {a : Addr} : a ∈ ownA σ e ↔ ∃ i, ownAt e i ∧ σ[i]? = some (some (V.ref a)) := by
  unfold ownA
  rw [List.mem_filterMap]
  constructor
  · rintro ⟨i, hi, h⟩
    have hlt : i < e.length := by simpa using hi
    split at h
    · rename_i ho
      split at h
      · rename_i b hb
        cases h
        exact ⟨i, ⟨e[i], by simp [hlt], by rw [List.getD_eq_getElem?_getD] at ho; simpa [hlt] using ho⟩, hb⟩
      · cases h
    · cases h
  · rintro ⟨i, ⟨s, q, hs⟩, h⟩
    have hlt : i < e.length := (List.getElem?_eq_some_iff.mp q).1
    refine ⟨i, by simpa using hlt, ?_⟩
    rw [getD_some q, if_pos hs, h]
theorem isOwn_refS {s : Sl} : (refS s).isOwn = s.isOwn := by cases s <;> rfl
section
variable {K : PySem.W.Frag} {mg : Str → Option Value} {Z : Ent} {B B' : Hp} {σ σ' : St} {H H' : Hp} {e e' : En} {p : Addr}
theorem ownAt_refE {i : Nat} (h : ownAt (refE e) i) : ownAt e i := by
  obtain ⟨s, q, hs⟩ := h
  unfold refE at q
  rw [List.getElem?_map] at q
  cases hi : e[i]? with
  | none => rw [hi] at q; cases q
  | some s' =>
    rw [hi] at q
    have q : refS s' = s := Option.some.inj q
    subst q
    rw [isOwn_refS] at hs
    exact ⟨s', hi, hs⟩
theorem SR.reenter (S : SR K mg Z B σ H e) : SR K mg ⟨B, H, ownA σ e, σ⟩ B σ H (refE e) := by
  refine ⟨Same.refl B, S.bh, fun a o h _ => h, fun a o h => .inl h, fun a o h => ⟨o, h⟩, by unfold refE; rw [List.length_map]; exact S.ln, fun i s q => ?_, fun i j a hij hi hj => S.ds i j a hij (ownAt_refE hi) (ownAt_refE hj)⟩
  unfold refE at q
  rw [List.getElem?_map] at q
  cases hi : e[i]? with
  | none => rw [hi] at q; cases q
  | some s' =>
    rw [hi] at q
    have q : refS s' = s := Option.some.inj q
    subst q
    have z := S.sl i s' hi
    cases s' with
    | no => trivial
    | val d => exact z
    | own r ds =>
      obtain ⟨a, xs, e1, w1, w2, w3⟩ := z
      exact ⟨a, xs, e1, w1, w2, w3.1, (fun z => nomatch z), fun _ => ⟨mem_ownA.mpr ⟨i, ⟨_, hi, rfl⟩, e1⟩, e1⟩⟩
    | oin r c ns ds =>
      obtain ⟨a, C, dx, fs, e1, w0, w1, w2, w3, w4⟩ := z
      exact ⟨a, C, dx, fs, e1, w0, w1, w2, w3, w4.1, (fun z => nomatch z), fun _ => ⟨mem_ownA.mpr ⟨i, ⟨_, hi, rfl⟩, e1⟩, e1⟩⟩
theorem SR.exit {vs : List Nat} (S : SR K mg Z B σ H e) (S' : SR K mg ⟨B, H, ownA σ e, σ⟩ B' σ' H' e') (hw : L2.wipe σ' vs = L2.wipe σ vs) (hl : e'.length = e.length) : SR K mg Z B' σ H' (fixE vs e e') := by
  refine S.after S' (by unfold fixE; rw [putG_len]; exact hl) (fun a m => ?_) fun i s q => ?_
  · obtain ⟨i, ⟨s, q, hs⟩, e1⟩ := mem_ownA.mp m
    obtain ⟨a', o, e2, _, _, p2, p3⟩ := (S.sl i s q).at_own hs
    rw [e1] at e2
    cases e2
    cases hr : s.isRef with
    | false => exact .inl (p2 hr)
    | true => exact .inr (p3 hr).1
  · unfold fixE at q
    rw [putG_get] at q
    cases hi : e'[i]? with
    | none => rw [hi] at q; cases q
    | some s' =>
      rw [hi] at q
      have q := Option.some.inj q
      simp only [Nat.zero_add] at q
      by_cases hv : i ∈ vs
      · rw [if_pos (by simpa using hv)] at q
        subst q
        exact .inr ⟨trivial, fun z => nomatch z⟩
      · rw [if_neg (by simpa using hv)] at q
        have hσ : σ'[i]? = σ[i]? := by rw [← wipe_out (vs := vs) hv, hw, wipe_out hv]
        have z := S'.sl i s' hi
        have hlt : i < e.length := by rw [← hl]; exact (List.getElem?_eq_some_iff.mp hi).1
        have he : e[i]? = some (e.getD i .no) := by rw [List.getD_eq_getElem?_getD]; simp [hlt]
        refine .inr ?_
        cases s' with
        | no => subst q; exact ⟨trivial, fun z => nomatch z⟩
        | val d =>
          subst q
          obtain ⟨v, e1, r⟩ := z
          rw [hσ] at e1
          exact ⟨⟨v, e1, r⟩, fun z => nomatch z⟩
        | own r ds =>
          cases r with
          | false => subst q; exact ⟨trivial, fun z => nomatch z⟩
          | true =>
            have q : (if (e.getD i .no).isOwn = true then Sl.own (e.getD i .no).isRef ds else .no) = s := q
            split at q
            · rename_i ho
              subst q
              obtain ⟨a, xs, e1, w1, w2, w3⟩ := z
              rw [hσ] at e1
              obtain ⟨a', o, e2, _, _, p2, p3⟩ := (S.sl i _ he).at_own ho
              rw [e1] at e2
              cases e2
              exact ⟨⟨a, xs, e1, w1, w2, w3.1, p2, p3⟩, fun _ => ⟨_, he, ho⟩⟩
            · subst q; exact ⟨trivial, fun z => nomatch z⟩
        | oin r c ns ds =>
          cases r with
          | false => subst q; exact ⟨trivial, fun z => nomatch z⟩
          | true =>
            have q : (if (e.getD i .no).isOwn = true then Sl.oin (e.getD i .no).isRef c ns ds else .no) = s := q
            split at q
            · rename_i ho
              subst q
              obtain ⟨a, C, dx, fs, e1, w0, w1, w2, w3, w4⟩ := z
              rw [hσ] at e1
              obtain ⟨a', o, e2, _, _, p2, p3⟩ := (S.sl i _ he).at_own ho
              rw [e1] at e2
              cases e2
              exact ⟨⟨a, C, dx, fs, e1, w0, w1, w2, w3, w4.1, p2, p3⟩, fun _ => ⟨_, he, ho⟩⟩
            · subst q; exact ⟨trivial, fun z => nomatch z⟩
theorem ownAt_fixE {vs : List Nat} {i : Nat} (hl : e'.length = e.length) (h : ownAt (fixE vs e e') i) : ownAt e i := by
  obtain ⟨s, q, hs⟩ := h
  unfold fixE at q
  rw [putG_get] at q
  cases hi : e'[i]? with
  | none => rw [hi] at q; cases q
  | some s' =>
    rw [hi] at q
    have q := Option.some.inj q
    simp only [Nat.zero_add] at q
    have hlt : i < e.length := by rw [← hl]; exact (List.getElem?_eq_some_iff.mp hi).1
    have he : e[i]? = some (e.getD i .no) := by rw [List.getD_eq_getElem?_getD]; simp [hlt]
    split at q
    · subst q; cases hs
    · cases ho : (e.getD i .no).isOwn with
      | true => exact ⟨_, he, ho⟩
      | false =>
        have none : ∀ s', (fixS (e.getD i .no) s').isOwn = false := fun s' => by
          cases s' with
          | own r ds =>
            cases r with
            | false => rfl
            | true => show (if (e.getD i .no).isOwn = true then Sl.own (e.getD i .no).isRef ds else .no).isOwn = false; rw [ho]; rfl
          | oin r c ns ds =>
            cases r with
            | false => rfl
            | true => show (if (e.getD i .no).isOwn = true then Sl.oin (e.getD i .no).isRef c ns ds else .no).isOwn = false; rw [ho]; rfl
          | _ => rfl
        rw [← q, none] at hs
        cases hs
end
/-- the loop of a comprehension, by what is left of its items -/
theorem lc_ok {K : PySem.W.Frag} {mg : Str → Option Value} {wi : TI} {g : TG} {tt : TT} {te : TE} {vs : List Nat} (ei : EvI K mg W wi src) (eg : EvGv K mg vs g t) (ec : EvB K mg WNo tt c) (ee : EvD K mg WNo te el) : EvN K mg W (tLc wi g tt te vs) (fLc src vs t c el) := by
  intro Z B σ H e Q S h
  refine ei Z B σ H e _ S ((wp_bd.mp h).imp (fun ds e1 h1 J B1 H1 S1 l1 wk => ?_) fun x e' q => q)
  have h1 : (if ds.length ≤ 16777216 ∧ noOwn vs e1 = true then (match lcLoop vs t c el ds (wipeE vs e1) with
    | .ok r e' => Res.ok r (restE vs e1 e') | _ => .bad) else .bad).wp (PN K mg Z B σ Q) (PX K mg Z B σ W) := h1
  split at h1
  · rename_i hc
    obtain ⟨hz, no⟩ := hc
    intro L hL
    obtain ⟨S2, hB, h0, hf⟩ := S1.newO (o := .lst []) hL
    refine ⟨fun i m H3 => ∃ B3 e3 acc accD, Same B1 B3 ∧ SR K mg Z B3 (L2.wipe σ vs) H3 e3 ∧ H3 L = some (.lst acc) ∧ AtL K mg B3 acc accD ∧ acc.length ≤ i ∧ B3 L = none ∧ Free (L2.wipe σ vs) e3 L ∧ m = ds.length - i ∧ i ≤ ds.length ∧
      (lcLoop vs t c el (ds.drop i) e3).wp (fun r e' => PN K mg Z B σ Q (accD ++ r) (restE vs e1 e')) (fun _ _ => False), ⟨ds.length, B1, _, [], [], Same.refl B1, S2.wipe vs, upd_same, .nil, Nat.zero_le _, hB, hf.wipe, by simp, Nat.zero_le _, ?_⟩, ?_⟩
    · rw [List.drop_zero]
      cases q : lcLoop vs t c el ds (wipeE vs e1) with
      | ok r e' => rw [q] at h1; exact h1
      | exc x e' => rw [q] at h1; exact h1
      | bad => rw [q] at h1; exact h1
    · rintro i m H3 ⟨B3, e3, acc, accD, l3, S3, hA, rA, hlen, hB3, hf3, rfl, hi, h3⟩
      by_cases hlt : i < ds.length
      · refine .inr ?_
        rw [List.drop_eq_getElem_cons hlt] at h3
        have h3 := wp_bd.mp h3
        have h3 : (match (bd (noExc (t ds[i])) fun _ => bd c fun b => if b = true then bd el fun y => pu (some y) else pu none) (refE e3) with
          | .ok o e' => if e'.length = e3.length then Res.ok o (fixE vs e3 e') else .bad
          | _ => .bad).wp _ _ := h3
        have Sr := S3.reenter
        obtain ⟨wg, wy⟩ := wk.go i ds[i] _ (L2.wipe σ vs) H3 (refE e3) B3 l3 Sr (by simp [hlt])
        refine ⟨wg, fun H' => ∃ B4 e4 acc' accD', Same B1 B4 ∧ SR K mg Z B4 (L2.wipe σ vs) H' e4 ∧ H' L = some (.lst acc') ∧ AtL K mg B4 acc' accD' ∧ acc'.length ≤ i + 1 ∧ B4 L = none ∧ Free (L2.wipe σ vs) e4 L ∧
          (lcLoop vs t c el (ds.drop (i + 1)) e4).wp (fun r e' => PN K mg Z B σ Q (accD' ++ r) (restE vs e1 e')) (fun _ _ => False), fun H' ⟨B4, e4, acc', accD', w1, w2, w3, w4, w5, w6, w7, w8⟩ => ⟨ds.length - (i + 1), by omega, B4, e4, acc', accD', w1, w2, w3, w4, w5, w6, w7, rfl, hlt, w8⟩, fun x H4 y => ?_⟩
        obtain ⟨⟨B4, S4, l4, a4⟩, keep4⟩ := wy x H4 y
        -- the turn's own run, in the state entered anew
        cases qt : (bd (noExc (t ds[i])) fun _ => bd c fun b => if b = true then bd el fun y => pu (some y) else pu none) (refE e3) with
        | bad => rw [qt] at h3; exact False.elim h3
        | exc z e5 => rw [qt] at h3; exact False.elim h3
        | ok o e5 =>
          rw [qt] at h3
          have h3 : (if e5.length = e3.length then Res.ok o (fixE vs e3 e5) else .bad).wp _ _ := h3
          split at h3
          · rename_i hl5
            have h3 := wp_bd.mp h3
            have run : ((bd (noExc (t ds[i])) fun _ => bd c fun b => if b = true then bd el fun y => pu (some y) else pu none) (refE e3)).wp (fun o' e' => o' = o ∧ e' = e5) fun _ _ => False := by rw [qt]; exact ⟨rfl, rfl⟩
            have fin : ∀ {B6 σ6 H6}, Same B4 B6 → SR K mg ⟨B3, H3, ownA (L2.wipe σ vs) e3, L2.wipe σ vs⟩ B6 σ6 H6 e5 → L2.wipe σ6 vs = L2.wipe σ vs → SR K mg Z B6 (L2.wipe σ vs) H6 (fixE vs e3 e5) ∧ B6 L = none ∧ H6 L = some (.lst acc) ∧ Free (L2.wipe σ vs) (fixE vs e3 e5) L := fun {B6 σ6 H6} l6 S6 hw6 => by
              refine ⟨S3.exit S6 (hw6.trans (wipe_wipe σ vs).symm) hl5, ?_, S6.fh L _ hA fun m => ?_, fun j hj => hf3 j (ownAt_fixE hl5 hj)⟩
              · cases q : B6 L with
                | none => rfl
                | some u =>
                  rcases S6.nb L u q with z | z
                  · have z : B3 L = some u := z
                    rw [hB3] at z; cases z
                  · have z : H3 L = none := z
                    rw [hA] at z; cases z
              · obtain ⟨j, hj, ej⟩ := mem_ownA.mp m
                exact hf3 j hj ej
            refine eg _ B4 (L2.wipe σ vs) H4 (refE e3) x _ _ S4 a4 ((noExc_wp (wp_bd.mp run)).imp (fun _ e6 r6 σ6 B6 H6 hw6 S6 l6 => ⟨hw6.trans (wipe_wipe σ vs), ?_⟩) fun z e' q => q)
            refine ec _ B6 σ6 H6 e6 _ S6 ((wp_bd.mp r6).imp (fun b e7 r7 B7 H7 S7 l7 => ?_) fun z e' q => False.elim q)
            cases b with
            | true =>
              rw [if_pos rfl]
              refine ee _ B7 σ6 H7 e7 _ S7 ((wp_bd.mp r7).imp (fun yd e8 r8 v B8 H8 S8 l8 a8 => ?_) fun z e' q => False.elim q)
              obtain ⟨ho, he⟩ := (show some yd = o ∧ e8 = e5 from r8)
              subst ho he
              obtain ⟨SE, hB8, hH8, hf8⟩ := fin ((l6.trans l7).trans l8) S8 (hw6.trans (wipe_wipe σ vs))
              have up : Same B3 B8 := ((l4.trans l6).trans l7).trans l8
              refine ⟨acc, hH8, by rw [sizeLine_eq]; omega, B8, _, acc ++ [v], accD ++ [yd], l3.trans up, SE.poke hB8 h0 hf8, upd_same, (rA.mono up).app (.cons a8 .nil), by simp; omega, hB8, hf8, ?_⟩
              exact h3.imp (fun r e' q => by rw [List.append_assoc]; exact (show PN K mg Z B σ Q (accD ++ (yd :: r)) (restE vs e1 e') from q)) fun z e' q => q
            | false =>
              rw [if_neg Bool.false_ne_true]
              obtain ⟨ho, he⟩ := (show none = o ∧ e7 = e5 from r7)
              subst ho he
              obtain ⟨SE, hB8, hH8, hf8⟩ := fin (l6.trans l7) S7 (hw6.trans (wipe_wipe σ vs))
              have up : Same B3 B7 := (l4.trans l6).trans l7
              exact ⟨B7, _, acc, accD, l3.trans up, SE, hH8, rA.mono up, by omega, hB8, hf8, h3.imp (fun r e' q => (show PN K mg Z B σ Q (accD ++ r) (restE vs e1 e') from q)) fun z e' q => q⟩
          · exact False.elim h3
      · have hle : ds.length ≤ i := by omega
        refine .inl ⟨wk.stop i Z (L2.wipe σ vs) H3 e3 B3 l3 S3 hle, ?_⟩
        rw [List.drop_eq_nil_of_le hle] at h3
        have h3 : PN K mg Z B σ Q (accD ++ []) (restE vs e1 e3) := h3
        rw [List.append_nil] at h3
        have SU := S1.unwipe no l3 S3
        refine h3 L acc B3 H3 SU (l1.trans l3) hA rA hB3 h0 fun j hj ej => ?_
        obtain ⟨s, q, hs⟩ := hj
        unfold restE at q
        rw [putG_get] at q
        cases hi2 : e3[j]? with
        | none => rw [hi2] at q; cases q
        | some s' =>
          rw [hi2] at q
          have q := Option.some.inj q
          simp only [Nat.zero_add] at q
          by_cases hv : j ∈ vs
          · rw [if_pos (by simpa using hv)] at q
            have := List.all_eq_true.mp no j hv
            rw [q] at this
            rw [hs] at this
            cases this
          · rw [if_neg (by simpa using hv)] at q
            exact hf3 j ⟨s', hi2, by rw [q]; exact hs⟩ (by rw [wipe_out hv]; exact ej)
  · exact False.elim h1
end
end Dl
set_option maxHeartbeats 1000000
/-! Layer D, part 6: comprehensions, the rule; defs. -/
namespace Dl
open PySem PySem.Spec PyProof.Rows L2
/-! ### comprehensions: the rule -/
def canD (K : PySem.W.Frag) (mg : Str → Option Value) (W : WX) (f : M D) : TE := fun σ H Q => ∃ Z B e, SR K mg Z B σ H e ∧ (f e).wp (PV K mg Z B σ Q) (PX K mg Z B σ W)
def canB (K : PySem.W.Frag) (mg : Str → Option Value) (W : WX) (f : M Bool) : TT := fun σ H Q => ∃ Z B e, SR K mg Z B σ H e ∧ (f e).wp (PB K mg Z B σ Q) (PX K mg Z B σ W)
theorem PED.can {X : Cx} {W : WX} {a : Expr} {f : M D} (h : PED X W a f) : PE X a (canD X.K X.mg W f) := by
  obtain ⟨te, p, ev⟩ := h
  exact ⟨fun pins s σ H Q I ⟨Z, B, e, S, q⟩ => p.run pins s σ H Q I (ev Z B σ H e Q S q)⟩
theorem PTsD.can {X : Cx} {W : WX} {a : List Expr} {f : M Bool} (h : PTsD X W a f) : PTs X a (canB X.K X.mg W f) := by
  obtain ⟨te, p, ev⟩ := h
  exact ⟨fun pins s σ H Q I ⟨Z, B, e, S, q⟩ => p.run pins s σ H Q I (ev Z B σ H e Q S q)⟩
def EvGvs (K : PySem.W.Frag) (mg : Str → Option Value) (vs : List Nat) (g : TGs) (t : List D → M Unit) : Prop := ∀ Z B σ H e xs ds (Q : St → Hp → Prop), SR K mg Z B σ H e → AtL K mg B xs ds → (t ds e).wp (fun _ e' => ∀ σ' B' H', L2.wipe σ' vs = L2.wipe σ vs → SR K mg Z B' σ' H' e' → Same B B' → Q σ' H') (fun _ _ => False) → g xs σ H Q
def PGV (X : Cx) (vs : List Nat) (tg : Expr) (t : D → M Unit) : Prop := ∃ g, PG X tg g ∧ EvGv X.K X.mg vs g t
def PGVs (X : Cx) (vs : List Nat) (tg : List Expr) (t : List D → M Unit) : Prop := ∃ g, PGs X tg g ∧ EvGvs X.K X.mg vs g t
def canG (K : PySem.W.Frag) (mg : Str → Option Value) (vs : List Nat) (t : D → M Unit) : TG := fun v σ H Q => ∃ Z B e d, SR K mg Z B σ H e ∧ At K mg B v d ∧ (t d e).wp (fun _ e' => ∀ σ' B' H', L2.wipe σ' vs = L2.wipe σ vs → SR K mg Z B' σ' H' e' → Same B B' → Q σ' H') (fun _ _ => False)
theorem PGV.can {X : Cx} {vs : List Nat} {tg : Expr} {t : D → M Unit} (h : PGV X vs tg t) : PG X tg (canG X.K X.mg vs t) := by
  obtain ⟨g, p, ev⟩ := h
  exact ⟨fun pins s σ H v u Q I r ⟨Z, B, e, d, S, a, q⟩ => p.run pins s σ H v u Q I r (ev Z B σ H e v d Q S a q)⟩
section
variable {X : Cx} {W : WX} {vs : List Nat} {tg a : Expr} {pos : Pos}
theorem pgv_name (i : Nat) {x : Str} (hN : X.N.Nodup) (hv : i ∈ vs) (hi : X.N[i]? = some x := by rfl) (hx : Loc X.env.scope x := by first | exact Or.inl rfl | exact Or.inr rfl) (hf : X.fn x = true ∨ X.env.scope.names.lookup x = some .local := by first | exact .inl rfl | exact .inr rfl) : PGV X vs (.Name x pos) (setV i) :=
  ⟨_, pg_name hN hi hx hf, fun Z B σ H e v d Q S r h => setV_wp h _ B H (wipe_set hv) (S.set r) (Same.refl B)⟩
theorem pgvs_nil : PGVs X vs [] gNilD := ⟨_, pgs_nil, fun Z B σ H e xs ds Q S r h => by
  obtain ⟨_, h1, h2⟩ := wp_li h
  cases ds with
  | nil => cases r; exact ⟨rfl, h2 σ B H rfl S (Same.refl B)⟩
  | cons d ds => cases h1⟩
theorem pgvs_cons {es : List Expr} {t : D → M Unit} {u : List D → M Unit} (h1 : PGV X vs a t) (h2 : PGVs X vs es u) (hs : (assignEach (a :: es) X.env).map (·.2) = assign a X.env :: (assignEach es X.env).map (·.2) := by rfl) : PGVs X vs (a :: es) (gConsD t u) := by
  obtain ⟨g, pg, eg⟩ := h1
  obtain ⟨gs, pgs, egs⟩ := h2
  refine ⟨_, pgs_cons pg pgs hs, fun Z B σ H e xs ds Q S r h => ?_⟩
  cases r with
  | nil => exact False.elim h
  | @cons v d ys ds r rr =>
    refine ⟨v, ys, rfl, eg Z B σ H e v d _ S r ((wp_bd.mp h).imp (fun _ e1 h1 σ1 B1 H1 w1 S1 l1 => ?_) fun _ _ q => q)⟩
    exact egs Z B1 σ1 H1 e1 ys ds Q S1 (rr.mono l1) (h1.imp (fun _ e2 h2 σ2 B2 H2 w2 S2 l2 => h2 σ2 B2 H2 (w2.trans w1) S2 (l1.trans l2)) fun _ _ q => q)
theorem pgv_tup {es : List Expr} {k n : Nat} {t : List D → M Unit} (hc : X.calm = true) (h : PGVs X vs es t) (hn : (assignEach es X.env).length = n := by rfl) (hst : (assignEach es X.env).findIdx? (·.1) = none := by rfl) : PGV X vs (.Tuple es k pos) (gTupD n t) := by
  obtain ⟨g, pg, eg⟩ := h
  refine ⟨_, pg_tup hc pg hn hst, fun Z B σ H e v d Q S r h => ?_⟩
  obtain ⟨ds, h1, h2⟩ := wp_li (wp_bd.mp h)
  cases d with
  | tup xs =>
    have h1 : (if xs.length = n then some xs else none) = some ds := h1
    split at h1
    · cases h1
      obtain ⟨p, ys, rfl, e1, r1⟩ := r.tup_inv
      exact ⟨p, ys, rfl, seqT S.bh e1, by rw [r1.length]; assumption, eg Z B σ H e ys _ Q S r1 h2⟩
    · cases h1
  | _ => cases h1
variable {elt iter : Expr} {ifs : List Expr} {scope : Scope} {own : List (Str × Nat)} {src : M (List D)} {t : D → M Unit} {c : M Bool} {el : M D}
theorem lc_ev (hi : PID X W tg iter src) : ∃ wi, PI X tg iter wi ∧ EvN X.K X.mg W (tLc wi (canG X.K X.mg vs t) (canB X.K X.mg WNo c) (canD X.K X.mg WNo el) vs) (fLc src vs t c el) := by
  obtain ⟨wi, pi, ei⟩ := hi
  refine ⟨wi, pi, lc_ok ei ?_ ?_ ?_⟩
  · exact fun Z B σ H e v d Q S a h => ⟨Z, B, e, d, S, a, h⟩
  · exact fun Z B σ H e Q S h => ⟨Z, B, e, S, h⟩
  · exact fun Z B σ H e Q S h => ⟨Z, B, e, S, h⟩
theorem pnd_lc (hc : X.calm = true) (hN : X.N.Nodup) (hi : PID X W tg iter src) (ok : BlkOk X.N X.env.scope scope own)
    (ht : ∀ (s : Shared) (H : Hp) (C : Addr) (cl : List (Str × Addr)) (fp : List Addr), PGV (X.blk s H scope (compEnvC scope cl C X.env) fp) (own.map (·.2)) tg t) (hcn : ∀ (s : Shared) (H : Hp) (C : Addr) (cl : List (Str × Addr)) (fp : List Addr), PTsD (X.blk s H scope (compEnvC scope cl C X.env) fp) WNo ifs c)
    (he : ∀ (s : Shared) (H : Hp) (C : Addr) (cl : List (Str × Addr)) (fp : List Addr), PED (X.blk s H scope (compEnvC scope cl C X.env) fp) WNo elt el) (hs : ∀ x, foldedSetIterable iter X.env x = pure x := by intro _; rfl) : PND X W (.ListComp elt [⟨tg, iter, ifs, 0⟩] scope pos) (fLc src (own.map (·.2)) t c el) := by
  obtain ⟨wi, pi, ev⟩ := lc_ev (vs := own.map (·.2)) (t := t) (c := c) (el := el) hi
  exact ⟨_, pe_lc hc hN pi ok (fun s H C cl fp => (ht s H C cl fp).can) (fun s H C cl fp => (hcn s H C cl fp).can) (fun s H C cl fp => (he s H C cl fp).can) hs, ev⟩
/-- y = [..] on one line -/
theorem setLc_ps {i : Nat} {y : Str} {py spos : Pos} (hc : X.calm = true) (hN : X.N.Nodup) (hy : X.N[i]? = some y) (hyl : X.env.scope.names.lookup y = some .local) (hsw : swapsWith (.ListComp elt [⟨tg, iter, ifs, 0⟩] scope pos) (some (.Name y py)) spos.line X.env = pure true) (hi : PID X W tg iter src) (ok : BlkOk X.N X.env.scope scope own)
    (ht : ∀ (s : Shared) (H : Hp) (C : Addr) (cl : List (Str × Addr)) (fp : List Addr), PGV (X.blk s H scope (compEnvC scope cl C X.env) fp) (own.map (·.2)) tg t) (hcn : ∀ (s : Shared) (H : Hp) (C : Addr) (cl : List (Str × Addr)) (fp : List Addr), PTsD (X.blk s H scope (compEnvC scope cl C X.env) fp) WNo ifs c)
    (he : ∀ (s : Shared) (H : Hp) (C : Addr) (cl : List (Str × Addr)) (fp : List Addr), PED (X.blk s H scope (compEnvC scope cl C X.env) fp) WNo elt el) (hs : ∀ x, foldedSetIterable iter X.env x = pure x := by intro _; rfl) : ∃ te, PS X (.Assign [.Name y py] (.ListComp elt [⟨tg, iter, ifs, 0⟩] scope pos) spos) (tAsg te (gName i)) ∧ EvN X.K X.mg W te (fLc src (own.map (·.2)) t c el) := by
  obtain ⟨wi, pi, ev⟩ := lc_ev (vs := own.map (·.2)) (t := t) (c := c) (el := el) hi
  exact ⟨_, ps_setLc hc hN hy hyl hsw pi ok (fun s H C cl fp => (ht s H C cl fp).can) (fun s H C cl fp => (hcn s H C cl fp).can) (fun s H C cl fp => (he s H C cl fp).can) hs, ev⟩
theorem psd_setLc {st : Stmt} {i : Nat} {fn : M (List D)} (h : ∃ te, PS X st (tAsg te (gName i)) ∧ EvN X.K X.mg W te fn) : PSD X W st (fSetT (fL fn) (setV i)) := by
  obtain ⟨te, p, ev⟩ := h
  refine ⟨_, p, fun Z B σ H e Y S h => ?_⟩
  have h := wp_bd.mp (wp_bd.mp h)
  refine ev Z B σ H e _ S (h.imp (fun ds e1 h1 p xs B1 H1 S1 l1 w1 w2 w3 w4 w5 => ?_) fun x e' q => PXs.at q)
  obtain ⟨S2, l2⟩ := S1.freeze w1 w3 w4 w5
  exact setV_wp (noExc_wp (wp_bd.mp h1)) _ _ H1 (S2.set (.lst upd_same (w2.mono l2))) (l1.trans l2)
end
/-! ### defs -/
def keepR (s : Sl) : Sl := if s.isRef = true then s else .no
def runF (n m : Nat) (g : M Fl) : En → Res D := fun as => if as.length = n ∧ n ≤ m then (match g (as ++ List.replicate (m - n) .no) with
  | .ok (.rt d) e => if e.length = m then .ok d ((e.take n).map keepR) else .bad
  | .ok .nx e => if e.length = m then .ok .non ((e.take n).map keepR) else .bad
  | .exc x e => if e.length = m then .exc x ((e.take n).map keepR) else .bad
  | _ => .bad) else .bad
def runN (n m : Nat) (g : M Fl) : En → Res (List D) := fun as => if as.length = n ∧ n ≤ m then (match g (as ++ List.replicate (m - n) .no) with
  | .ok (.rn d) e => if e.length = m then .ok d ((e.take n).map keepR) else .bad
  | .exc x e => if e.length = m then .exc x ((e.take n).map keepR) else .bad
  | _ => .bad) else .bad
section
variable {K : PySem.W.Frag} {mg : Str → Option Value} {Z : Ent} {B B' : Hp} {σ : St} {H H' : Hp} {e : En}
theorem SR.pad {n : Nat} (S : SR K mg Z B σ H e) : SR K mg Z B (σ ++ List.replicate n none) H (e ++ List.replicate n .no) := by
  have get : ∀ i s, (e ++ List.replicate n Sl.no)[i]? = some s → (i < e.length ∧ e[i]? = some s) ∨ s = .no := fun i s q => by
    by_cases hi : i < e.length
    · rw [List.getElem?_append_left hi] at q; exact .inl ⟨hi, q⟩
    · rw [List.getElem?_append_right (by omega), List.getElem?_replicate] at q
      split at q
      · cases q; exact .inr rfl
      · cases q
  have own : ∀ i, ownAt (e ++ List.replicate n Sl.no) i → ownAt e i ∧ i < e.length := fun i ⟨s, q, hs⟩ => by
    rcases get i s q with ⟨h1, h2⟩ | rfl
    · exact ⟨⟨s, h2, hs⟩, h1⟩
    · cases hs
  refine ⟨S.le, S.bh, S.fh, S.nb, S.dm, by simp [S.ln], fun i s q => ?_, fun i j a hij hi hj e1 e2 => ?_⟩
  · rcases get i s q with ⟨h1, h2⟩ | rfl
    · rw [List.getElem?_append_left (by rw [S.ln]; exact h1)]; exact S.sl i s h2
    · trivial
  · obtain ⟨o1, h1⟩ := own i hi
    obtain ⟨o2, h2⟩ := own j hj
    rw [List.getElem?_append_left (by rw [S.ln]; exact h1)] at e1
    rw [List.getElem?_append_left (by rw [S.ln]; exact h2)] at e2
    exact S.ds i j a hij o1 o2 e1 e2
/-- at the end: what was handed by reference, told at the slots of the entry -/
theorem SR.out {n : Nat} {B0 H0 : Hp} {R : List Addr} {s0 : St} (S : SR K mg ⟨B0, H0, R, s0⟩ B σ H e) (hn : s0.length = n) (hle : n ≤ e.length) : SR K mg ⟨B0, H0, R, s0⟩ B s0 H ((e.take n).map keepR) := by
  have get : ∀ (i : Nat) (s : Sl), ((e.take n).map keepR)[i]? = some s → s = .no ∨ (e[i]? = some s ∧ s.isRef = true) := fun i s q => by
    rw [List.getElem?_map] at q
    by_cases hi : i < n
    · rw [List.getElem?_take_of_lt hi] at q
      cases hs : e[i]? with
      | none => rw [hs] at q; cases q
      | some s' =>
        rw [hs] at q
        have q : keepR s' = s := Option.some.inj q
        unfold keepR at q
        split at q
        · subst q; exact .inr ⟨rfl, by assumption⟩
        · exact .inl q.symm
    · rw [List.getElem?_eq_none (by simp; omega)] at q; cases q
  have at0 : ∀ (i : Nat) (s : Sl), e[i]? = some s → s.isRef = true → ∃ a, σ[i]? = some (some (V.ref a)) ∧ s0[i]? = some (some (V.ref a)) := fun i s q hr => by
    have ho : s.isOwn = true := by cases s <;> first | rfl | cases hr
    obtain ⟨a, o, e1, _, _, _, p3⟩ := (S.sl i s q).at_own ho
    exact ⟨a, e1, (p3 hr).2⟩
  refine ⟨S.le, S.bh, S.fh, S.nb, S.dm, by simp [hn]; omega, fun i s q => ?_, fun i j a hij hi hj e1 e2 => ?_⟩
  · rcases get i s q with rfl | ⟨h1, h2⟩
    · trivial
    · obtain ⟨a, h3, h4⟩ := at0 i s h1 h2
      have z := S.sl i s h1
      rw [h3] at z
      rw [h4]
      exact z
  · have key : ∀ i, ownAt ((e.take n).map keepR) i → s0[i]? = some (some (V.ref a)) → ownAt e i ∧ σ[i]? = some (some (V.ref a)) := fun i ⟨s, q, hs⟩ e1 => by
      rcases get i s q with rfl | ⟨h1, h2⟩
      · cases hs
      · obtain ⟨a', h3, h4⟩ := at0 i s h1 h2
        rw [e1] at h4
        cases h4
        exact ⟨⟨s, h1, hs⟩, h3⟩
    obtain ⟨o1, w1⟩ := key i hi e1
    obtain ⟨o2, w2⟩ := key j hj e2
    exact S.ds i j a hij o1 o2 w1 w2
end
section
variable {P : Program} {w : World} {K : PySem.W.Frag} {mg : Str → Option Value} {base : Heap} {x qual : Str} {st : Stmt} {f : Addr} {fd : FuncData} {N ps : List Str} {k : Nat} {g : M Fl}
theorem len_run {F : En → Res D} (hF : ∀ as, F as ≠ .bad → as.length = ps.length) (vs : List V) (H : Hp) (Q : VK) (E : XK) (h : spD K mg F vs H Q E) : vs.length = ps.length := by
  obtain ⟨B, R, e, S, q⟩ := h
  have h1 := hF e (fun z => by rw [z] at q; exact q)
  have h2 := S.ln
  rw [List.length_map] at h2
  exact h2.trans h1
theorem runF_len {n m : Nat} (as : En) (h : runF n m g as ≠ .bad) : as.length = n := by
  unfold runF at h
  split at h
  · rename_i hc; exact hc.1
  · exact absurd rfl h
/-- what the body's run asks -/
theorem body_ok {ts : TS} {vs : List V} {H : Hp} {Q : VK} {E : XK} (hN : ps.length ≤ N.length) (ev : EvS K mg (fun c d _ H' => E c d H') ts g) (h : spD K mg (runF ps.length N.length g) vs H Q E) : ts { nx := fun _ H' => Q .non H', rt := Q } (L2.start N vs) H := by
  obtain ⟨B, R, e, S, q⟩ := h
  have hl : e.length = ps.length := runF_len (g := g) (m := N.length) e (fun z => by rw [z] at q; exact q)
  have hv : vs.length = ps.length := by have := S.ln; rw [List.length_map] at this; exact this.trans hl
  unfold runF at q
  rw [if_pos ⟨hl, hN⟩] at q
  have Sp := S.pad (n := N.length - ps.length)
  have e0 : vs.map some ++ List.replicate (N.length - ps.length) none = L2.start N vs := by unfold L2.start; rw [hv]
  rw [e0] at Sp
  refine ev _ B _ H _ _ Sp ?_
  cases hg : g (e ++ List.replicate (N.length - ps.length) .no) with
  | bad => rw [hg] at q; exact q
  | exc z e1 =>
    rw [hg] at q
    have q : (if e1.length = N.length then Res.exc z ((e1.take ps.length).map keepR) else Res.bad).wp _ _ := q
    split at q
    · rename_i h1
      exact fun cls dd σ' B' H' S' l a => q cls dd B' H' (S'.out (by rw [List.length_map]; exact hv) (by omega)) a
    · exact False.elim q
  | ok fl e1 =>
    rw [hg] at q
    cases fl with
    | rt d =>
      have q : (if e1.length = N.length then Res.ok d ((e1.take ps.length).map keepR) else Res.bad).wp _ _ := q
      split at q
      · rename_i h1
        exact fun v σ' B' H' S' l a => q v B' H' (S'.out (by rw [List.length_map]; exact hv) (by omega)) a
      · exact False.elim q
    | nx =>
      have q : (if e1.length = N.length then Res.ok D.non ((e1.take ps.length).map keepR) else Res.bad).wp _ _ := q
      split at q
      · rename_i h1
        exact fun σ' B' H' S' l => q .non B' H' (S'.out (by rw [List.length_map]; exact hv) (by omega)) .non
      · exact False.elim q
    | bk => exact False.elim q
    | ct => exact False.elim q
    | rn d => exact False.elim q
theorem fn_ok (F : Fun K x qual st f fd) (S : FnScope N ps (defScope st)) (hN : ps.length ≤ N.length)
    (hb : ∀ (cdv : Value) (A : Around) (outer : List Env) (s : Shared) (H : Hp) (E : XK), Room k (A.deeper (envOfC qual (defScope st) s.heap.objs.size f cdv)) → PSsD (cxOf (L2.CX P w) P w K mg base N qual (defScope st) f cdv A outer s H E) (fun c d _ H' => E c d H') (defBody st) g) :
    FnOk P w K mg base (L2.CX P w) (k + 1) f fd ps (spD K mg (runF ps.length N.length g)) := by
  refine F.okX S (len_run fun as h => runF_len as h) fun cdv A outer s H vs Q E hr h => ?_
  obtain ⟨ts, p, ev⟩ := hb cdv A outer s H E hr
  exact ⟨ts, p, body_ok hN ev h⟩
/-- .. as what callers take -/
theorem fn_raw {G : En → Res D} (h : FnOk P w K mg base (L2.CX P w) k f fd ps (spD K mg G)) (b : Binds K fd ps []) : FnR P w K mg base (L2.CX P w) k f (spD K mg G) :=
  (FnOk.raw h b .nil).imp fun vs H Q E q => by rw [List.append_nil]; exact q
/-! ### defs that give a new list out -/
theorem runN_len {n m : Nat} (as : En) (h : runN n m g as ≠ .bad) : as.length = n := by
  unfold runN at h
  split at h
  · rename_i hc; exact hc.1
  · exact absurd rfl h
theorem len_runN {F : En → Res (List D)} (hF : ∀ as, F as ≠ .bad → as.length = ps.length) (vs : List V) (H : Hp) (Q : VK) (E : XK) (h : spN K mg F vs H Q E) : vs.length = ps.length := by
  obtain ⟨B, R, e, S, q⟩ := h
  have h1 := hF e (fun z => by rw [z] at q; exact q)
  have h2 := S.ln
  rw [List.length_map] at h2
  exact h2.trans h1
theorem body_okN {ts : TS} {vs : List V} {H : Hp} {Q : VK} {E : XK} (hN : ps.length ≤ N.length) (ev : EvS K mg (fun c d _ H' => E c d H') ts g) (h : spN K mg (runN ps.length N.length g) vs H Q E) : ts { nx := fun _ H' => Q .non H', rt := Q } (L2.start N vs) H := by
  obtain ⟨B, R, e, S, q⟩ := h
  have hl : e.length = ps.length := runN_len (g := g) (m := N.length) e (fun z => by rw [z] at q; exact q)
  have hv : vs.length = ps.length := by have := S.ln; rw [List.length_map] at this; exact this.trans hl
  unfold runN at q
  rw [if_pos ⟨hl, hN⟩] at q
  have Sp := S.pad (n := N.length - ps.length)
  have e0 : vs.map some ++ List.replicate (N.length - ps.length) none = L2.start N vs := by unfold L2.start; rw [hv]
  rw [e0] at Sp
  refine ev _ B _ H _ _ Sp ?_
  cases hg : g (e ++ List.replicate (N.length - ps.length) .no) with
  | bad => rw [hg] at q; exact q
  | exc z e1 =>
    rw [hg] at q
    have q : (if e1.length = N.length then Res.exc z ((e1.take ps.length).map keepR) else Res.bad).wp _ _ := q
    split at q
    · rename_i h1
      exact fun cls dd σ' B' H' S' l a => q cls dd B' H' (S'.out (by rw [List.length_map]; exact hv) (by omega)) a
    · exact False.elim q
  | ok fl e1 =>
    rw [hg] at q
    cases fl with
    | rn d =>
      have q : (if e1.length = N.length then Res.ok d ((e1.take ps.length).map keepR) else Res.bad).wp _ _ := q
      split at q
      · rename_i h1
        intro p xs σ' B' H' S' l a1 a2 a3 a4 a5
        exact q p xs B' H' (S'.out (by rw [List.length_map]; exact hv) (by omega)) a1 a2 a3 a4
      · exact False.elim q
    | rt d => exact False.elim q
    | nx => exact False.elim q
    | bk => exact False.elim q
    | ct => exact False.elim q
theorem fn_okN (F : Fun K x qual st f fd) (S : FnScope N ps (defScope st)) (hN : ps.length ≤ N.length)
    (hb : ∀ (cdv : Value) (A : Around) (outer : List Env) (s : Shared) (H : Hp) (E : XK), Room k (A.deeper (envOfC qual (defScope st) s.heap.objs.size f cdv)) → PSsD (cxOf (L2.CX P w) P w K mg base N qual (defScope st) f cdv A outer s H E) (fun c d _ H' => E c d H') (defBody st) g) :
    FnOk P w K mg base (L2.CX P w) (k + 1) f fd ps (spN K mg (runN ps.length N.length g)) := by
  refine F.okX S (len_runN fun as h => runN_len as h) fun cdv A outer s H vs Q E hr h => ?_
  obtain ⟨ts, p, ev⟩ := hb cdv A outer s H E hr
  exact ⟨ts, p, body_okN hN ev h⟩
theorem fn_rawN {G : En → Res (List D)} (h : FnOk P w K mg base (L2.CX P w) k f fd ps (spN K mg G)) (b : Binds K fd ps []) : FnR P w K mg base (L2.CX P w) k f (spN K mg G) :=
  (FnOk.raw h b .nil).imp fun vs H Q E q => by rw [List.append_nil]; exact q
end
end Dl
set_option maxHeartbeats 1000000
/-! Layer D, part 6b: sorted of a tuple of ints. -/
namespace SrtT
open PySem PySem.Spec PyProof.Rows SrtO
section
variable {prog : Program} {w : World} {A : Around} {E : Value → Shared → Prop} {s : Shared}
theorem collect_tuple {l : Addr} {vs : List Value} {Q : List Value → Shared → Prop} (hl : s.heap.IsTuple l vs.toArray)
    (h : Q vs { s with heap := (s.heap.push (seqObj "list" #[] 0)).update s.heap.objs.size (Obj.mapSeq (· ++ vs.toArray)) }) (hsz : vs.length ≤ sizeLine) :
    wpAny (model prog w) A (collect (.ref l)) Q E s := by
  obtain ⟨o, ho, hc, n, hd⟩ := id hl
  unfold collect
  refine wpAny_bind (wpAny_runValue (codeAny_builtin entry_proto_collect' ?_))
  show wpAny _ _ (do again (.builtin "list.__iadd__" ⟨[← newList [], .ref l], []⟩)) _ _ s
  refine wpAny_bind (wpAny_newList (wpAny_pure ⟨Code.quiet_builtin _ (by decide +kernel), codeAny_builtin entry_list_iadd' ?_⟩))
  show wpAny _ _ (Builtin.List.listExtendWith (.ref s.heap.objs.size) (.ref l) (.ref s.heap.objs.size)) _ _ { s with heap := s.heap.push (seqObj "list" #[] 0) }
  unfold Builtin.List.listExtendWith
  have ho' : (s.heap.push (seqObj "list" #[] 0)).get? l = some o := Heap.get?_push_of_some _ ho
  refine wpAny_bind (wpAny_typeOf (T := "tuple") ⟨o, ho', hc⟩ ?_)
  have ht : (Value.type "tuple" == Value.type "tuple") = true := by rfl
  rw [if_pos (by rw [ht]; simp)]
  refine wpAny_bind (listItems_at ho' hd ?_)
  refine wpAny_bind (listItems_at (xs := #[]) (n := 0) (Heap.get?_push_size _ rfl) rfl ?_)
  rw [if_neg (by simp)]
  refine wpAny_bind (listUpdate_at (xs := #[]) (n := 0) (Heap.get?_push_size _ rfl) rfl ?_ (Nat.zero_le _) (by show (#[] ++ vs.toArray).size ≤ sizeLine + 1; simp only [Array.size_append, List.size_toArray, List.length_nil]; omega))
  refine wpAny_pure ?_
  show wpAny (model prog w) A (do
      let o ← load s.heap.objs.size
      match o.data with
      | .seq xs _ => pure xs.toList
      | _ => unsupported "internal:collect") Q E { s with heap := (s.heap.push (seqObj "list" #[] 0)).update s.heap.objs.size (Obj.mapSeq (· ++ vs.toArray)) }
  refine wpAny_bind (wpAny_load (get?_update_seq (Heap.get?_push_size _ rfl) _) ?_)
  show wpAny _ _ (pure ((#[] : Array Value) ++ vs.toArray).toList) Q E _
  rw [show ((#[] : Array Value) ++ vs.toArray).toList = vs by simp]
  exact wpAny_pure h
theorem sorted_ordT {l : Addr} {vs : List Value} {ltv : Value → Value → Bool} {Q : Value → Shared → Prop} (O : Swo ltv) (hl : s.heap.IsTuple l vs.toArray) (hz : vs.length ≤ sizeLine)
    (hS : 2 ≤ vs.length → ∀ (h₁ : Heap) (a : Addr), h₁.get? a = some (seqObj "list" vs.toArray 0) → (∀ b o, s.heap.get? b = some o → b ≠ a ∧ h₁.get? b = some o) → SortableO prog w A.in1.in1 { s with heap := h₁ } a vs ltv)
    (h : ∀ out : List Value, Srtd ltv out → Stb ltv out vs → Q (.ref (s.heap.objs.size + 1)) { s with heap := sortedAll s.heap vs out.toArray }) :
    wpAny (model prog w) A (call (.builtin "sorted") [.ref l]) Q E s := by
  refine Calls.call_function_entry kind_sorted plain_sorted entry_sorted (args_sorted1 _) ?_
  unfold Builtin.«sorted»
  refine wpAny_bind (m := checkCount "sorted" 1 1 _) (wpAny_pure ?_)
  refine wpAny_bind (collect_tuple hl ?_ hz)
  refine wpAny_bind (wpAny_newList ?_ hz)
  have hsz : ((s.heap.push (seqObj "list" #[] 0)).update s.heap.objs.size (Obj.mapSeq (· ++ vs.toArray))).objs.size = s.heap.objs.size + 1 := by
    rw [Heap.size_update, size_push']
  have hoL : (((s.heap.push (seqObj "list" #[] 0)).update s.heap.objs.size (Obj.mapSeq (· ++ vs.toArray))).push (seqObj "list" vs.toArray 0)).get? (s.heap.objs.size + 1) = some (seqObj "list" vs.toArray 0) := by
    rw [← hsz]; exact Heap.get?_push_size _ rfl
  have keep : ∀ b o, s.heap.get? b = some o → b ≠ s.heap.objs.size + 1 ∧ (((s.heap.push (seqObj "list" #[] 0)).update s.heap.objs.size (Obj.mapSeq (· ++ vs.toArray))).push (seqObj "list" vs.toArray 0)).get? b = some o := fun b o q => by
    have hlt : b < s.heap.objs.size := Heap.lt_size q
    refine ⟨Nat.ne_of_lt (Nat.lt_succ_of_lt hlt), Heap.get?_push_of_some _ ?_⟩
    rw [Heap.get?_update_ne _ _ _ _ (Nat.ne_of_lt hlt)]
    exact Heap.get?_push_of_some _ q
  show wpAny _ _ _ _ _ { s with heap := ((s.heap.push (seqObj "list" #[] 0)).update s.heap.objs.size (Obj.mapSeq (· ++ vs.toArray))).push (seqObj "list" vs.toArray 0) }
  rw [hsz]
  refine wpAny_bind (wpAny_holding (wpAny_call_entry slot_list_sort ⟨_, hoL, rfl⟩ entry_list_sort (list_sort_ord O hoL hz (fun h2 => hS h2 _ _ hoL keep) fun out hs hb => ⟨_, rfl, ?_⟩) (args_list_sort _)))
  exact wpAny_pure ⟨_, rfl, h out hs hb⟩
end
end SrtT
namespace Dl
open PySem PySem.Spec PyProof.Rows L2
def rSortedIT (K : PySem.W.Frag) : List V → Hp → VK → Prop := fun vs H Q => ∃ (a : Addr) (ns : List Int), vs = [V.ref a] ∧ SqT K H a (ns.map V.int) ∧
  ∀ (ns' : List Int) (p : Addr), ns'.Perm ns → ns'.Pairwise (· ≤ ·) → H p = none → Q (.ref p) (upd H p (.lst (ns'.map V.int)))
def rSortedA (K : PySem.W.Frag) : List V → Hp → VK → Prop := fun vs H Q => rSortedI K vs H Q ∨ rSortedIT K vs H Q
section
variable {X : Cx}
theorem cr_sortedIT : CallR X (.builtin "sorted") (rSortedIT X.K) := by
  intro pins s σ H vs us Q I r h
  obtain ⟨a, ns, rfl, hs, q⟩ := h
  obtain ⟨its, rv, hl, hz⟩ := I.tuple hs
  rw [Vals.ref1 r]
  have hi := rv.ints
  refine SrtT.sorted_ordT SrtO.swo_int hl (by rw [← rv.length]; exact hz) (fun h2 h₁ a' _ _ => SrtO.ints_sortable hi h2) fun out h1 h2 => ?_
  obtain ⟨k1, k2, k3⟩ := SrtO.ints_out hi h1 h2
  obtain ⟨ep, he'⟩ := PyProof.Rows.sortedAll_at s.heap its out.toArray
  have hlen : ((out.map SrtO.iv).map V.int).length ≤ sizeLine := by
    rw [List.length_map, k2.length_eq]
    rw [List.length_map] at hz
    exact hz
  exact ⟨.ref _, upd H (s.heap.objs.size + 1) (.lst ((out.map SrtO.iv).map V.int)), I.laid (t' := s.toks) (fun _ _ => PyProof.Rows.sortedAll_old) (Nat.le_succ _) ⟨hlen, out, ep, vals_of_ints k1, he'⟩, rfl, q _ _ k2 k3 (I.hok.fresh (Nat.le_succ _))⟩
/-- sorted of a list or a tuple of ints -/
theorem cr_sortedI : CallR X (.builtin "sorted") (rSortedA X.K) := by
  intro pins s σ H vs us Q I r h
  rcases h with h | h
  · exact L2.cr_sortedI pins s σ H vs us Q I r h
  · exact cr_sortedIT pins s σ H vs us Q I r h
end
end Dl
set_option maxHeartbeats 1000000
/-! Layer D, part 7: built-ins. -/
namespace Dl
open PySem PySem.Spec PyProof.Rows L2
def ClN (K : PySem.W.Frag) (mg : Str → Option Value) (W : WX) (r : List V → Hp → VK → Prop) (o : List D → M (List D)) : Prop := ∀ Z B σ H e xs as (Q : VK), SR K mg Z B σ H e → AtL K mg B xs as → (o as e).wp (PN K mg Z B σ Q) (PX K mg Z B σ W) → r xs H Q
section
variable {X : Cx} {W : WX} {es : List Expr} {e : Expr} {fr : M (List D)} {pos p : Pos} {x : Str} {id T : String} {r : List V → Hp → VK → Prop} {o : List D → M (List D)}
theorem evCN {K : PySem.W.Frag} {mg : Str → Option Value} {ta : TA} (ea : EvL K mg W ta fr) (hd : ClN K mg W r o) : EvN K mg W (tCB r ta) (bd fr o) := by
  intro Z B σ H e Q S h
  refine ea.then S h (fun x e' q => q) fun ds e1 vs B1 H1 S1 l1 a1 h1 => ?_
  exact hd Z B1 σ H1 e1 vs ds Q S1 a1 (upN l1 h1)
theorem pnd_callB (hc : CallR X (.builtin id) r) (hd : ClN X.K X.mg W r o) (hm : X.mg x = none) (hv : bootBuiltins x = some (.builtin id)) (ha : PAD X W (e :: es) fr) (hg : Gl X x := by rfl) (hn : x ≠ "__name__" := by decide) (hdb : (x == ("__debug__" : Str)) = false := by decide)
    (he : starEach (e :: es) X.env = (false, eval e X.env) :: starEach es X.env := by rfl) (hpl : (backTo pos (starEach es X.env)).any (·.1) = false := by rfl) : PND X W (.Call (.Name x p) (e :: es) [] pos) (bd fr o) := by
  obtain ⟨ta, pa, ea⟩ := ha
  exact ⟨_, pe_callB hc hg hm hv pa hn hdb he hpl, evCN ea hd⟩
end
/-! ### data by kinds -/
def toInts : List D → Option (List Int)
  | [] => some []
  | .int i :: r => match toInts r with
    | some l => some (i :: l) | none => none
  | _ :: _ => none
def toBls : List D → Option (List Bool)
  | [] => some []
  | .bl i :: r => match toBls r with
    | some l => some (i :: l) | none => none
  | _ :: _ => none
theorem toInts_map : ∀ ns : List Int, toInts (ns.map D.int) = some ns
  | [] => rfl
  | n :: ns => by simp [toInts, toInts_map ns]
theorem toBls_map : ∀ ns : List Bool, toBls (ns.map D.bl) = some ns
  | [] => rfl
  | n :: ns => by simp [toBls, toBls_map ns]
theorem toInts_eq : ∀ {ds : List D} {ns : List Int}, toInts ds = some ns → ds = ns.map D.int
  | [], ns, h => by cases h; rfl
  | .int i :: r, ns, h => by
    unfold toInts at h
    cases q : toInts r with
    | none => rw [q] at h; cases h
    | some l => rw [q] at h; cases h; rw [toInts_eq q]; rfl
  | .non :: _, _, h => by cases h
  | .bl _ :: _, _, h => by cases h
  | .str _ :: _, _, h => by cases h
  | .tup _ :: _, _, h => by cases h
  | .lst _ :: _, _, h => by cases h
  | .obj _ _ _ :: _, _, h => by cases h
  | .scr _ :: _, _, h => by cases h
  | .dic :: _, _, h => by cases h
  | .cls _ :: _, _, h => by cases h
theorem toBls_eq : ∀ {ds : List D} {ns : List Bool}, toBls ds = some ns → ds = ns.map D.bl
  | [], ns, h => by cases h; rfl
  | .bl i :: r, ns, h => by
    unfold toBls at h
    cases q : toBls r with
    | none => rw [q] at h; cases h
    | some l => rw [q] at h; cases h; rw [toBls_eq q]; rfl
  | .non :: _, _, h => by cases h
  | .int _ :: _, _, h => by cases h
  | .str _ :: _, _, h => by cases h
  | .tup _ :: _, _, h => by cases h
  | .lst _ :: _, _, h => by cases h
  | .obj _ _ _ :: _, _, h => by cases h
  | .scr _ :: _, _, h => by cases h
  | .dic :: _, _, h => by cases h
  | .cls _ :: _, _, h => by cases h
theorem AtL.bls {K : PySem.W.Frag} {mg : Str → Option Value} {B : Hp} : ∀ {xs : List V} {ns : List Bool}, AtL K mg B xs (ns.map D.bl) → xs = ns.map V.bl
  | [], [], _ => rfl
  | _ :: _, _ :: _, .cons r t => by rw [r.bl_inv, AtL.bls t]; rfl
/-! ### sorting ints -/
def ins (x : Int) : List Int → List Int
  | [] => [x]
  | y :: r => if x ≤ y then x :: y :: r else y :: ins x r
def isort : List Int → List Int
  | [] => []
  | x :: r => ins x (isort r)
theorem ins_perm (x : Int) : ∀ l : List Int, (ins x l).Perm (x :: l)
  | [] => .refl _
  | y :: r => by
    unfold ins
    split
    · exact .refl _
    · exact ((ins_perm x r).cons y).trans (.swap x y r)
theorem isort_perm : ∀ l : List Int, (isort l).Perm l
  | [] => .refl _
  | x :: r => (ins_perm x (isort r)).trans ((isort_perm r).cons x)
theorem ins_sorted {x : Int} : ∀ {l : List Int}, l.Pairwise (· ≤ ·) → (ins x l).Pairwise (· ≤ ·)
  | [], _ => by simp [ins]
  | y :: r, h => by
    unfold ins
    have h2 := List.pairwise_cons.mp h
    split
    · rename_i hxy
      refine List.pairwise_cons.mpr ⟨fun z hz => ?_, h⟩
      rcases List.mem_cons.mp hz with rfl | hz
      · exact hxy
      · exact Int.le_trans hxy (h2.1 z hz)
    · rename_i hxy
      refine List.pairwise_cons.mpr ⟨fun z hz => ?_, ins_sorted h2.2⟩
      rcases List.mem_cons.mp ((ins_perm x r).mem_iff.mp hz) with rfl | hz
      · omega
      · exact h2.1 z hz
theorem isort_sorted : ∀ l : List Int, (isort l).Pairwise (· ≤ ·)
  | [] => .nil
  | _ :: r => ins_sorted (isort_sorted r)
theorem sorted_unique : ∀ {l m : List Int}, l.Perm m → l.Pairwise (· ≤ ·) → m.Pairwise (· ≤ ·) → l = m
  | [], m, p, _, _ => (List.Perm.nil_eq p)
  | x :: l, [], p, _, _ => absurd p.symm.nil_eq (by simp)
  | x :: l, y :: m, p, hl, hm => by
    have h1 := List.pairwise_cons.mp hl
    have h2 := List.pairwise_cons.mp hm
    have e : x = y := by
      have mx : x ∈ y :: m := p.mem_iff.mp List.mem_cons_self
      have my : y ∈ x :: l := p.mem_iff.mpr List.mem_cons_self
      rcases List.mem_cons.mp mx with e | mx
      · exact e
      · rcases List.mem_cons.mp my with e | my
        · exact e.symm
        · exact Int.le_antisymm (h1.1 y my) (h2.1 x mx)
    subst e
    rw [sorted_unique (List.Perm.cons_inv p) h1.2 h2.2]
/-! ### the rules -/
def d1 (f : D → Option D) : List D → M D := fun ds => li (match ds with
  | [d] => f d | _ => none)
def d2 (f : D → D → Option D) : List D → M D := fun ds => li (match ds with
  | [a, b] => f a b | _ => none)
def oLen : D → Option D
  | .lst xs => some (.int xs.length) | .tup xs => some (.int xs.length) | .scr xs => some (.int xs.length) | _ => none
def oAbs : D → Option D
  | .int i => some (.int (if i < 0 then -i else i)) | _ => none
def oMax : D → D → Option D
  | .int i, .int j => some (.int (if j > i then j else i)) | _, _ => none
def oMin : D → D → Option D
  | .int i, .int j => some (.int (if j < i then j else i)) | _, _ => none
def oInt : D → Option D
  | .int i => some (.int i) | .bl b => some (.int (if b then 1 else 0)) | _ => none
def oAll : D → Option D
  | .lst xs => match toBls xs with
    | some bs => some (.bl (bs.all id)) | none => none
  | _ => none
def oTuple : D → Option D
  | .lst xs => some (.tup xs) | .tup xs => some (.tup xs) | _ => none
def nSort : List D → M (List D) := fun ds => li (match ds with
  | [.lst xs] => match toInts xs with
    | some ns => some ((isort ns).map D.int) | none => none
  | [.tup xs] => match toInts xs with
    | some ns => some ((isort ns).map D.int) | none => none
  | _ => none)
section
variable {K : PySem.W.Frag} {mg : Str → Option Value} {W : WX}
theorem d1_ok {r : List V → Hp → VK → Prop} {f : D → Option D} (h : ∀ Z B σ H e v d z (Q : VK), SR K mg Z B σ H e → At K mg B v d → f d = some z → (∀ v' B' H', SR K mg Z B' σ H' e → Same B B' → At K mg B' v' z → Q v' H') → r [v] H Q) : ClD K mg W r (d1 f) := by
  intro Z B σ H e xs as Q S a q
  obtain ⟨z, h1, h2⟩ := wp_li q
  match as, a, h1 with
  | [d], .cons r .nil, h1 => exact h Z B σ H e _ d z Q S r h1 h2
theorem d2_ok {r : List V → Hp → VK → Prop} {f : D → D → Option D} (h : ∀ Z B σ H e v d v2 d2 z (Q : VK), SR K mg Z B σ H e → At K mg B v d → At K mg B v2 d2 → f d d2 = some z → (∀ v' B' H', SR K mg Z B' σ H' e → Same B B' → At K mg B' v' z → Q v' H') → r [v, v2] H Q) : ClD K mg W r (d2 f) := by
  intro Z B σ H e xs as Q S a q
  obtain ⟨z, h1, h2⟩ := wp_li q
  match as, a, h1 with
  | [d, d2], .cons r (.cons r2 .nil), h1 => exact h Z B σ H e _ d _ d2 z Q S r r2 h1 h2
theorem cd_len : ClD K mg W (fun xs H Q => ∃ p ys, xs = [.ref p] ∧ (SqL K H p ys ∨ SqT K H p ys) ∧ Q (.int ys.length) H) (d1 oLen) := d1_ok fun Z B σ H e v d z Q S r h q => by
  cases d with
  | lst xs =>
    cases h
    obtain ⟨a, vs, rfl, h1, h2⟩ := r.lst_inv
    exact ⟨a, vs, rfl, .inl (SqL.of (S.bh _ _ h1)), by rw [h2.length]; exact q _ B H S (Same.refl B) (.int _)⟩
  | tup xs =>
    cases h
    obtain ⟨a, vs, rfl, h1, h2⟩ := r.tup_inv
    exact ⟨a, vs, rfl, .inr (seqT S.bh h1), by rw [h2.length]; exact q _ B H S (Same.refl B) (.int _)⟩
  | scr xs =>
    cases h
    obtain ⟨a, rfl, h1⟩ := r.scr_inv
    exact ⟨a, _, rfl, .inl (S.bh.seq h1), by rw [List.length_map]; exact q _ B H S (Same.refl B) (.int _)⟩
  | _ => cases h
theorem cd_abs : ClD K mg W (fun xs H Q => ∃ i, xs = [.int i] ∧ Q (.int (if i < 0 then -i else i)) H) (d1 oAbs) := d1_ok fun Z B σ H e v d z Q S r h q => by
  cases d with
  | int i => cases h; exact ⟨i, by rw [r.int_inv], q _ B H S (Same.refl B) (.int _)⟩
  | _ => cases h
theorem cd_max : ClD K mg W (fun xs H Q => ∃ i j, xs = [.int i, .int j] ∧ Q (.int (if j > i then j else i)) H) (d2 oMax) := d2_ok fun Z B σ H e v d v2 d2 z Q S r r2 h q => by
  cases d with
  | int i => cases d2 with
    | int j => cases h; exact ⟨i, j, by rw [r.int_inv, r2.int_inv], q _ B H S (Same.refl B) (.int _)⟩
    | _ => cases h
  | _ => cases h
theorem cd_min : ClD K mg W (fun xs H Q => ∃ i j, xs = [.int i, .int j] ∧ Q (.int (if j < i then j else i)) H) (d2 oMin) := d2_ok fun Z B σ H e v d v2 d2 z Q S r r2 h q => by
  cases d with
  | int i => cases d2 with
    | int j => cases h; exact ⟨i, j, by rw [r.int_inv, r2.int_inv], q _ B H S (Same.refl B) (.int _)⟩
    | _ => cases h
  | _ => cases h
theorem cd_int : ClD K mg W (fun xs H Q => (∃ i, xs = [.int i] ∧ Q (.int i) H) ∨ ∃ k, xs = [.bl k] ∧ Q (.int (if k then 1 else 0)) H) (d1 oInt) := d1_ok fun Z B σ H e v d z Q S r h q => by
  cases d with
  | int i => cases h; exact .inl ⟨i, by rw [r.int_inv], q _ B H S (Same.refl B) (.int _)⟩
  | bl b => cases h; exact .inr ⟨b, by rw [r.bl_inv], q _ B H S (Same.refl B) (.int _)⟩
  | _ => cases h
theorem cd_all : ClD K mg W (rAll K) (d1 oAll) := d1_ok fun Z B σ H e v d z Q S r h q => by
  cases d with
  | lst xs =>
    have h : (match toBls xs with
      | some bs => some (D.bl (bs.all id)) | none => none) = some z := h
    cases e1 : toBls xs with
    | none => rw [e1] at h; cases h
    | some bs =>
      rw [e1] at h
      cases h
      obtain ⟨a, vs, rfl, h1, h2⟩ := r.lst_inv
      rw [toBls_eq e1] at h2
      rw [h2.bls] at h1
      exact ⟨a, bs, rfl, SqL.of (S.bh _ _ h1), q _ B H S (Same.refl B) (.bl _)⟩
  | _ => cases h
theorem cd_tuple : ClD K mg W (fun xs H Q => ∃ p ys, xs = [.ref p] ∧ ((SqL K H p ys ∧ ∀ l, H l = none → Q (.ref l) (upd H l (.tup ys))) ∨ (SqT K H p ys ∧ Q (.ref p) H))) (d1 oTuple) := d1_ok fun Z B σ H e v d z Q S r h q => by
  cases d with
  | lst xs =>
    cases h
    obtain ⟨a, vs, rfl, h1, h2⟩ := r.lst_inv
    refine ⟨a, vs, rfl, .inl ⟨SqL.of (S.bh _ _ h1), fun l hl => ?_⟩⟩
    obtain ⟨S2, l2⟩ := S.new (o := .tup vs) hl
    exact q _ _ _ S2 l2 (.tup (SqT.of upd_same) (h2.mono l2))
  | tup xs =>
    cases h
    have r2 := r
    obtain ⟨a, vs, rfl, h1, h2⟩ := r.tup_inv
    exact ⟨a, vs, rfl, .inr ⟨seqT S.bh h1, q _ B H S (Same.refl B) r2⟩⟩
  | _ => cases h
theorem cn_sort : ClN K mg W (rSortedA K) nSort := by
  intro Z B σ H e xs as Q S a q
  obtain ⟨z, h1, h2⟩ := wp_li q
  match as, a, h1 with
  | [.lst ds], .cons r .nil, h1 =>
    have h1 : (match toInts ds with
      | some ns => some ((isort ns).map D.int) | none => none) = some z := h1
    cases e1 : toInts ds with
    | none => rw [e1] at h1; cases h1
    | some ns =>
      rw [e1] at h1
      cases h1
      obtain ⟨a, vs, rfl, g1, g2⟩ := r.lst_inv
      rw [toInts_eq e1] at g2
      rw [g2.ints] at g1
      refine .inl ⟨a, ns, rfl, SqL.of (S.bh _ _ g1), fun ns' p pm pw hp => ?_⟩
      have e2 : ns' = isort ns := sorted_unique (pm.trans (isort_perm ns).symm) pw (isort_sorted ns)
      subst e2
      obtain ⟨S2, hB, h0, hf⟩ := S.newO (o := .lst ((isort ns).map V.int)) hp
      exact h2 p _ B _ S2 (Same.refl B) upd_same (.of_ints _) hB h0 hf
  | [.tup ds], .cons r .nil, h1 =>
    have h1 : (match toInts ds with
      | some ns => some ((isort ns).map D.int) | none => none) = some z := h1
    cases e1 : toInts ds with
    | none => rw [e1] at h1; cases h1
    | some ns =>
      rw [e1] at h1
      cases h1
      obtain ⟨a, vs, rfl, g1, g2⟩ := r.tup_inv
      rw [toInts_eq e1] at g2
      rw [g2.ints] at g1
      refine .inr ⟨a, ns, rfl, seqT S.bh g1, fun ns' p pm pw hp => ?_⟩
      have e2 : ns' = isort ns := sorted_unique (pm.trans (isort_perm ns).symm) pw (isort_sorted ns)
      subst e2
      obtain ⟨S2, hB, h0, hf⟩ := S.newO (o := .lst ((isort ns).map V.int)) hp
      exact h2 p _ B _ S2 (Same.refl B) upd_same (.of_ints _) hB h0 hf
end
/-! ### == and != of data -/
mutual
def toP : D → Option PyData
  | .non => some .none | .bl b => some (.bool b) | .int i => some (.int i) | .str x => some (.str x)
  | .tup ds => match toPs ds with
    | some l => some (.tuple l) | none => none
  | .lst ds => match toPs ds with
    | some l => some (.list l) | none => none
  | _ => none
def toPs : List D → Option (List PyData)
  | [] => some []
  | d :: ds => match toP d, toPs ds with
    | some p, some l => some (p :: l) | _, _ => none
end
section
variable {K : PySem.W.Frag} {mg : Str → Option Value} {W : WX} {B H : Hp}
mutual
theorem At.dp (l : Same B H) : ∀ {v : V} {d : D} {p : PyData}, At K mg B v d → toP d = some p → Dp K H v p
  | _, _, _, .non, h => by simp [toP] at h; subst h; exact .non
  | _, _, _, .bl b, h => by simp [toP] at h; subst h; exact .bl b
  | _, _, _, .int i, h => by simp [toP] at h; subst h; exact .int i
  | _, _, _, .str x, h => by simp [toP] at h; subst h; exact .str x
  | _, .tup ds, _, .tup q r, h => by
    unfold toP at h
    cases e : toPs ds with
    | none => rw [e] at h; cases h
    | some ps => rw [e] at h; cases h; exact .tup (seqT l q) (AtL.dp l r e)
  | _, .lst ds, _, .lst q r, h => by
    unfold toP at h
    cases e : toPs ds with
    | none => rw [e] at h; cases h
    | some ps => rw [e] at h; cases h; exact .lst (SqL.of (l _ _ q)) (AtL.dp l r e)
  | _, _, _, .obj _ _ _ _, h => by simp [toP] at h
  | _, _, _, .scr _, h => by simp [toP] at h
  | _, _, _, .dic _, h => by simp [toP] at h
  | _, _, _, .cls _, h => by simp [toP] at h
theorem AtL.dp (l : Same B H) : ∀ {v : List V} {d : List D} {p : List PyData}, AtL K mg B v d → toPs d = some p → DpAll K H v p
  | _, _, _, .nil, h => by simp [toPs] at h; subst h; exact .nil
  | _, d :: ds, _, .cons r t, h => by
    unfold toPs at h
    cases e : toP d with
    | none => rw [e] at h; cases h
    | some p =>
      cases e2 : toPs ds with
      | none => rw [e, e2] at h; cases h
      | some ps => rw [e, e2] at h; cases h; exact .cons (At.dp l r e) (AtL.dp l t e2)
end
def eqD (a b : D) : Option Bool := match toP a, toP b with
  | some p, some q => if SeqAt.shaped p = true ∧ SeqAt.shaped q = true then some (PyData.eqv p q) else none
  | _, _ => none
def dEq : D → D → M D := fun a b => li ((eqD a b).map D.bl)
def dNe : D → D → M D := fun a b => li ((eqD a b).map fun c => D.bl (!c))
theorem eqD_at {Z : Ent} {σ : St} {e : En} {x y : V} {a b : D} {c : Bool} (S : SR K mg Z B σ H e) (ha : At K mg B x a) (hb : At K mg B y b) (h : eqD a b = some c) : ∃ p q, Dp K H x p ∧ Dp K H y q ∧ SeqAt.shaped p = true ∧ SeqAt.shaped q = true ∧ PyData.eqv p q = c := by
  unfold eqD at h
  cases e1 : toP a with
  | none => rw [e1] at h; cases h
  | some p =>
    cases e2 : toP b with
    | none => rw [e1, e2] at h; cases h
    | some q =>
      rw [e1, e2] at h
      have h : (if SeqAt.shaped p = true ∧ SeqAt.shaped q = true then some (PyData.eqv p q) else none) = some c := h
      split at h
      · rename_i hc
        cases h
        exact ⟨p, q, ha.dp S.bh e1, hb.dp S.bh e2, hc.1, hc.2, rfl⟩
      · cases h
theorem od_eq : OpD K mg W (rEqD K) dEq := by
  intro Z B σ H e x y a b Q S ha hb q
  obtain ⟨d, h1, h2⟩ := wp_li q
  cases e1 : eqD a b with
  | none => rw [e1] at h1; cases h1
  | some c =>
    rw [e1] at h1
    cases h1
    obtain ⟨p, q, w1, w2, w3, w4, rfl⟩ := eqD_at S ha hb e1
    exact ⟨p, q, w1, w2, w3, w4, h2 _ B H S (Same.refl B) (.bl _)⟩
theorem od_ne : OpD K mg W (rNeD K) dNe := by
  intro Z B σ H e x y a b Q S ha hb q
  obtain ⟨d, h1, h2⟩ := wp_li q
  cases e1 : eqD a b with
  | none => rw [e1] at h1; cases h1
  | some c =>
    rw [e1] at h1
    cases h1
    obtain ⟨p, q, w1, w2, w3, w4, rfl⟩ := eqD_at S ha hb e1
    exact ⟨p, q, w1, w2, w3, w4, h2 _ B H S (Same.refl B) (.bl _)⟩
end
/-! ### isinstance with built-in classes -/
/-- the type's name -/
def tyD : D → Option String
  | .non => some "NoneType" | .bl _ => some "bool" | .int _ => some "int" | .str _ => some "str" | .tup _ => some "tuple" | .lst _ => some "list" | .scr _ => some "list" | .dic => some "dict" | .obj _ _ _ => none | .cls _ => none
theorem At.ty {K : PySem.W.Frag} {mg : Str → Option Value} {B H : Hp} {v : V} {d : D} {t : String} (l : Same B H) (r : At K mg B v d) (h : tyD d = some t) : TyX K H v (.type t) := by
  cases r with
  | non => cases h; exact .base .non
  | bl b => cases h; exact .base (.bl b)
  | int i => cases h; exact .base (.int i)
  | str x => cases h; exact .base (.str x)
  | tup q _ =>
    cases h
    rcases q with (q | ⟨o, q⟩) | ⟨o, its, n, hk, hc, _⟩
    · exact .base (.tup (l _ _ q))
    · exact .fTuple (l _ _ q)
    · exact .kTuple hk hc
  | lst q _ => cases h; exact .base (.lst (l _ _ q))
  | scr q =>
    cases h
    rcases q with (q | ⟨o, q⟩) | ⟨o, its, n, hk, hc, _⟩
    · exact .base (.lst (l _ _ q))
    · exact .base (.frz (l _ _ q))
    · exact .kList hk hc
  | dic q => cases h; exact .base (.dK (l _ _ q))
  | obj _ _ _ _ => cases h
  | cls _ => cases h
def tys : List String := ["NoneType", "bool", "int", "str", "tuple", "list", "dict"]
theorem tyD_mem {d : D} {t : String} (h : tyD d = some t) : t ∈ tys := by cases d <;> cases h <;> decide
/-- isinstance(.., T): T one built-in class, by its table -/
def isTab (T : String) (t : String) : Bool := t == T || (T == "int" && t == "bool")
def oIs (T : String) : D → Option D := fun d => match tyD d with
  | some t => some (.bl (isTab T t)) | none => none
def oIs2 (T U : String) : D → Option D := fun d => match tyD d with
  | some t => some (.bl (isTab T t || isTab U t)) | none => none
section
variable {X : Cx} {W : WX} {a : Expr} {fa : M D} {p1 p2 pos pt : Pos} {x T : Str} {k1 : Nat}
theorem ped_is {T : String} {x : Str} (hT : ∀ t ∈ tys, kitB t T = some (isTab T t)) (ha : PED X W a fa) (hm : X.mg "isinstance" = none) (hx : X.mg x = none) (hv : bootBuiltins x = some (.type T)) (hg : Gl X "isinstance" := by rfl) (hgx : Gl X x := by rfl) (hn : x ≠ "__name__" := by decide) (hdb : (x == ("__debug__" : Str)) = false := by decide)
    (he : starEach (a :: [.Name x p2]) X.env = (false, eval a X.env) :: starEach [.Name x p2] X.env := by rfl) (he2 : starEach (.Name x p2 :: []) X.env = (false, eval (.Name x p2) X.env) :: starEach [] X.env := by rfl) (hpl : (backTo pos (starEach [.Name x p2] X.env)).any (·.1) = false := by rfl) :
    PED X W (.Call (.Name "isinstance" p1) [a, .Name x p2] [] pos) (bd fa fun d => li (oIs T d)) := by
  obtain ⟨ta, pa, ea⟩ := ha
  refine ⟨_, pe_callB call_isi hg hm (by decide +kernel) (pa_cons pa (pa_cons (pe_bltn (v := .ty T) hgx hx hv rfl hn hdb) pa_nil he2) he) (by decide) (by decide) he hpl, fun Z B σ H e Q S h => ?_⟩
  refine ea.then S h (fun x e' q => q) fun d e1 v B1 H1 S1 l1 a1 h1 => ?_
  obtain ⟨z, h2, h3⟩ := wp_li h1
  unfold oIs at h2
  cases e2 : tyD d with
  | none => rw [e2] at h2; cases h2
  | some t =>
    rw [e2] at h2
    cases h2
    exact ⟨v, .ty T, .type t, .type T, _, rfl, .ty T, a1.ty S1.bh e2, kit_ty (hT t (tyD_mem e2)), h3 _ B1 H1 S1 l1 (.bl _)⟩
theorem ped_is2 {T U : String} {x y : Str} {p3 : Pos} (hT : ∀ t ∈ tys, kitB t T = some (isTab T t)) (hU : ∀ t ∈ tys, kitB t U = some (isTab U t)) (ha : PED X W a fa) (hm : X.mg "isinstance" = none) (hx : X.mg x = none) (hv : bootBuiltins x = some (.type T)) (hy : X.mg y = none) (hw : bootBuiltins y = some (.type U))
    (hg : Gl X "isinstance" := by rfl) (hgx : Gl X x := by rfl) (hgy : Gl X y := by rfl) (hn : x ≠ "__name__" := by decide) (hdb : (x == ("__debug__" : Str)) = false := by decide) (hn2 : y ≠ "__name__" := by decide) (hdb2 : (y == ("__debug__" : Str)) = false := by decide)
    (he : starEach (a :: [.Tuple [.Name x p2, .Name y p3] k1 pt]) X.env = (false, eval a X.env) :: starEach [.Tuple [.Name x p2, .Name y p3] k1 pt] X.env := by rfl) (he2 : starEach (.Tuple [.Name x p2, .Name y p3] k1 pt :: []) X.env = (false, eval (.Tuple [.Name x p2, .Name y p3] k1 pt) X.env) :: starEach [] X.env := by rfl)
    (he3 : starEach (.Name x p2 :: [.Name y p3]) X.env = (false, eval (.Name x p2) X.env) :: starEach [.Name y p3] X.env := by rfl) (he4 : starEach (.Name y p3 :: []) X.env = (false, eval (.Name y p3) X.env) :: starEach [] X.env := by rfl)
    (hpl : (backTo pos (starEach [.Tuple [.Name x p2, .Name y p3] k1 pt] X.env)).any (·.1) = false := by rfl) :
    PED X W (.Call (.Name "isinstance" p1) [a, .Tuple [.Name x p2, .Name y p3] k1 pt] [] pos) (bd fa fun d => li (oIs2 T U d)) := by
  obtain ⟨ta, pa, ea⟩ := ha
  refine ⟨_, pe_callB call_isiT hg hm (by decide +kernel) (pa_cons pa (pa_cons (pe_tup (pa_cons (pe_bltn (v := .ty T) hgx hx hv rfl hn hdb) (pa_cons (pe_bltn (v := .ty U) hgy hy hw rfl hn2 hdb2) pa_nil he4) he3)) pa_nil he2) he) (by decide) (by decide) he hpl, fun Z B σ H e Q S h => ?_⟩
  refine ea.then S h (fun x e' q => q) fun d e1 v B1 H1 S1 l1 a1 h1 => ?_
  obtain ⟨z, h2, h3⟩ := wp_li h1
  unfold oIs2 at h2
  cases e2 : tyD d with
  | none => rw [e2] at h2; cases h2
  | some t =>
    rw [e2] at h2
    cases h2
    refine ⟨by show 2 ≤ sizeLine; decide, fun q hq => ?_⟩
    obtain ⟨S2, l2⟩ := S1.new (o := .tup [.ty T, .ty U]) hq
    refine ⟨v, q, [.ty T, .ty U], .type t, [.type T, .type U], _, rfl, upd_same, .cons (.ty T) (.cons (.ty U) .nil), (a1.mono l2).ty S2.bh e2, ?_, h3 _ _ _ S2 (l1.trans l2) (.bl _)⟩
    have k1 := kit_ty (K := X.K) (hT t (tyD_mem e2))
    have k2 := kit_ty (K := X.K) (hU t (tyD_mem e2))
    cases c1 : isTab T t with
    | true => rw [c1] at k1; exact kitAny_cons k1 (fun z => nomatch z) (fun _ => by simp)
    | false =>
      rw [c1] at k1
      refine kitAny_cons k1 (fun _ => ?_) (fun z => nomatch z)
      cases c2 : isTab U t with
      | true => rw [c2] at k2; exact kitAny_cons k2 (fun z => nomatch z) (fun _ => by simp)
      | false => rw [c2] at k2; exact kitAny_cons k2 (fun _ => by simpa using kitAny_nil) (fun z => nomatch z)
end
theorem tab_int : ∀ t ∈ tys, kitB t "int" = some (isTab "int" t) := by decide +kernel
theorem tab_bool : ∀ t ∈ tys, kitB t "bool" = some (isTab "bool" t) := by decide +kernel
theorem tab_str : ∀ t ∈ tys, kitB t "str" = some (isTab "str" t) := by decide +kernel
theorem tab_list : ∀ t ∈ tys, kitB t "list" = some (isTab "list" t) := by decide +kernel
theorem tab_tuple : ∀ t ∈ tys, kitB t "tuple" = some (isTab "tuple" t) := by decide +kernel
end Dl
set_option maxHeartbeats 1000000
/-! Layer D, part 8: operators of own classes, ranges of any size, fields stored. -/
namespace Dl
open PySem PySem.Spec PyProof.Rows L2 RZ
/-! ### what a class holds under a special name -/
def OpI (P : Program) (w : World) (K : PySem.W.Frag) (mg : Str → Option Value) (base : Heap) (k : Nat) (c n : Str) (F : En → Res D) : Prop :=
  ∃ C f, mg c = some (.ref C) ∧ PySem.W.findIn K (.ref C) n = some (some (.ref f)) ∧ PySem.W.isFn K (.ref f) = true ∧ PySem.W.selfFirst K C = true ∧ FnR P w K mg base (L2.CX P w) k f (spD K mg F)
def d1m (F : En → Res D) (c : Str) : D → M D := fun a => match a with
  | .obj c' ns ds => if c' = c then noExc (callR F [.d (.obj c' ns ds)]) else fun _ => .bad
  | _ => fun _ => .bad
def d2m (F : En → Res D) (c : Str) : D → D → M D := fun a b => match a, b with
  | .obj c1 n1 s1, .obj c2 n2 s2 => if c1 = c ∧ c2 = c then noExc (callR F [.d (.obj c1 n1 s1), .d (.obj c2 n2 s2)]) else fun _ => .bad
  | _, _ => fun _ => .bad
def rOwn1 (C : Addr) (sp : Sp) : V → Hp → VK → Prop := fun x H Q => ∃ a dx fs, x = .ref a ∧ H a = some (.ins C dx fs) ∧ sp [x] H Q E0
def rOwn2 (C : Addr) (sp : Sp) : R2 := fun x y H Q => ∃ a b dx fs dy gs, x = .ref a ∧ y = .ref b ∧ H a = some (.ins C dx fs) ∧ H b = some (.ins C dy gs) ∧ sp [x, y] H Q E0
section
variable {K : PySem.W.Frag} {mg : Str → Option Value} {W : WX} {c : Str} {C : Addr} {F : En → Res D}
theorem d1m_ok {Z : Ent} {B : Hp} {σ : St} {H : Hp} {e : En} {x : V} {a : D} {Q : VK} (hm : mg c = some (.ref C)) (S : SR K mg Z B σ H e) (ha : At K mg B x a) (q : (d1m F c a e).wp (PV K mg Z B σ Q) (PX K mg Z B σ W)) : rOwn1 C (spD K mg F) x H Q := by
  cases a with
  | obj c1 n1 s1 =>
    by_cases hc : c1 = c
    · subst hc
      have q2 : ((if c1 = c1 then noExc (callR F [.d (.obj c1 n1 s1)]) else fun _ => .bad) e).wp (PV K mg Z B σ Q) (PX K mg Z B σ W) := q
      rw [if_pos rfl] at q2
      have ha2 := ha
      obtain ⟨p, C1, dx, fs, rfl, g1, g2, g3, g4⟩ := ha.obj_inv
      obtain rfl := ref_inj g1 hm
      exact ⟨p, dx, fs, rfl, S.bh _ _ g2, callR_ok (W := fun _ _ _ _ => False) S (.cons (.d ha2) .nil) ((noExc_wp q2).imp (fun _ _ q => q) fun _ _ q => False.elim q)⟩
    · have q2 : ((if c1 = c then noExc (callR F [.d (.obj c1 n1 s1)]) else fun _ => .bad) e).wp (PV K mg Z B σ Q) (PX K mg Z B σ W) := q
      rw [if_neg hc] at q2
      exact False.elim q2
  | _ => exact False.elim q
theorem od_own2 (hm : mg c = some (.ref C)) : OpD K mg W (rOwn2 C (spD K mg F)) (d2m F c) := by
  intro Z B σ H e x y a b Q S ha hb q
  cases a with
  | obj c1 n1 s1 => cases b with
    | obj c2 n2 s2 =>
      have q2 : ((if c1 = c ∧ c2 = c then noExc (callR F [.d (.obj c1 n1 s1), .d (.obj c2 n2 s2)]) else fun _ => .bad) e).wp (PV K mg Z B σ Q) (PX K mg Z B σ W) := q
      by_cases hc : c1 = c ∧ c2 = c
      · rw [if_pos hc] at q2
        obtain ⟨hc1, hc2⟩ := hc
        subst hc1 hc2
        have ha2 := ha
        have hb2 := hb
        obtain ⟨p, C1, dx, fs, rfl, g1, g2, g3, g4⟩ := ha.obj_inv
        obtain ⟨p2, C2, dy, gs, rfl, k1, k2, k3, k4⟩ := hb.obj_inv
        obtain rfl := ref_inj g1 hm
        obtain rfl := ref_inj k1 hm
        exact ⟨p, p2, dx, fs, dy, gs, rfl, rfl, S.bh _ _ g2, S.bh _ _ k2, callR_ok (W := fun _ _ _ _ => False) S (.cons (.d ha2) (.cons (.d hb2) .nil)) ((noExc_wp q2).imp (fun _ _ q => q) fun _ _ q => False.elim q)⟩
      · rw [if_neg hc] at q2
        exact False.elim q2
    | _ => exact False.elim q
  | _ => exact False.elim q
end
section
variable {X : Cx} {k j : Nat} {sp : Sp} {f C : Addr} {c : Str} {F : En → Res D}
theorem run_0 {pins : List (Addr × Obj)} {σ : St} {H : Hp} {s : Shared} {Q : VK} {us : List Value} {vs : List V} (G : FnR X.prog X.w X.K X.mg X.base (L2.CX X.prog X.w) k f sp) (hr : Room k X.A) (I : Inv X pins σ H s) (r : Vals vs us) (h : sp vs H Q E0) :
    wpAny (model X.prog X.w) X.A (call (.ref f) us) (EP X pins σ Q) X.xe s := wpAny_call (run_R (W := WNo) G hr takes0 I r h)
theorem run_0in {pins : List (Addr × Obj)} {σ : St} {H : Hp} {s : Shared} {Q : VK} {us : List Value} {vs : List V} (G : FnR X.prog X.w X.K X.mg X.base (L2.CX X.prog X.w) k f sp) (hr : Room (k + 1) X.A) (I : Inv X pins σ H s) (r : Vals vs us) (h : sp vs H Q E0) {E : Value → Shared → Prop} :
    wpAny (model X.prog X.w) X.A.in1 (call (.ref f) us) (EP X pins σ Q) E s := by
  refine wpAny_call (codeAny_mono (G X.A.in1 X.stack s H us vs Q E0 hr.in1 I.env0.in1 r h) fun r s' hq => ?_)
  cases r with
  | error er => exact False.elim (passL (X := X.nox) pins σ H s er s' (I.wish _) hq)
  | ok fl => cases fl with
    | ret u => exact I.after hq
    | next => exact False.elim hq
    | brk => exact False.elim hq
    | cont => exact False.elim hq
end
/-! ### the rules of operators -/
end Dl
set_option maxHeartbeats 400000
/-! Layer D, part 9: the rules of own operators, ranges of any size, fields stored. -/
namespace Dl
open PySem PySem.Spec PyProof.Rows L2 RZ
section
variable {X : Cx} {j k : Nat} {c : Str} {F : En → Res D} {W : WX}
/-- a handed value is no NotImplemented -/
theorem rel_ne {v : V} {u : Value} (r : RelV v u) : u ≠ .notImplemented := by
  intro z
  subst z
  cases v <;> first | exact nomatch r | (obtain ⟨t, q⟩ := r; exact nomatch q) | (obtain ⟨t, u, q⟩ := r; exact nomatch q)
theorem cmpBack_ep {pins : List (Addr × Obj)} {σ : St} {Q : VK} {v : Value} {s' : Shared} (h : EP X pins σ Q v s') : PySem.W.CmpBack (EP X pins σ Q) v s' := by
  obtain ⟨y, H', I, r, q⟩ := h
  have ne := rel_ne r
  cases v <;> first | exact absurd rfl ne | exact ⟨y, H', I, r, q⟩
/-- o op o of one own class -/
theorem ped_own {op : Operator} {a b : Expr} {fa fb : M D} {pos : Pos} (cf : OpI X.prog X.w X.K X.mg X.base k c (PySem.dunder op.info.2) F) (hr : Room j X.A) (hk : k ≤ j) (ha : PED X W a fa) (hb : PED X W b fb) : PED X W (.BinOp a op b pos) (f2 (d2m F c) fa fb) := by
  obtain ⟨C, f, hm, hs, hf, sf, G⟩ := cf
  refine ped_op (r := rOwn2 C (spD X.K X.mg F)) ?_ (od_own2 hm) ha hb
  intro pins s σ H x y v u Q I rx ry h
  obtain ⟨p, p2, dx, fs, dy, gs, rfl, rfl, h1, h2, h3⟩ := h
  cases rx
  cases ry
  obtain ⟨mA, J, _⟩ := ins_get I.hok h1
  obtain ⟨mB, J', _⟩ := ins_get I.hok h2
  obtain ⟨od, J, _⟩ := J.look
  obtain ⟨od', J', _⟩ := J'.look
  obtain ⟨m, hF⟩ := I.fr
  exact PySem.W.binop_K hF I.ok.mod.kin J J'.type sf hs hf (wpAny_mono (run_0 (us := [.ref p, .ref p2]) (vs := [.ref p, .ref p2]) G (hr.mono hk) I (.cons rfl (.cons rfl .nil)) h3) (fun _ _ z => cmpBack_ep z) fun _ _ z => z)
/-- o == o of one own class (or another comparison that it has) -/
theorem opr_ownC {op : CmpOp} {C f : Addr} {sp : Sp} (hs : PySem.W.findIn X.K (.ref C) (cmpInfo op).2.1 = some (some (.ref f))) (hf : PySem.W.isFn X.K (.ref f) = true) (G : FnR X.prog X.w X.K X.mg X.base (L2.CX X.prog X.w) k f sp) (hr : Room k X.A) (hc : compareOp op = richCompare op) : OpR X (compareOp op) (rOwn2 C sp) := by
  intro pins s σ H x y v u Q I rx ry h
  obtain ⟨p, p2, dx, fs, dy, gs, rfl, rfl, h1, h2, h3⟩ := h
  cases rx
  cases ry
  obtain ⟨mA, J, _⟩ := ins_get I.hok h1
  obtain ⟨mB, J', _⟩ := ins_get I.hok h2
  obtain ⟨od, J, _⟩ := J.look
  obtain ⟨od', J', _⟩ := J'.look
  obtain ⟨m, hF⟩ := I.fr
  rw [hc]
  exact PySem.W.cmp_K (tb := .ref C) hr.units0 hF I.ok.mod.kin J J'.type (by simp [PySem.W.notFirst]) hs hf (wpAny_mono (run_0 (us := [.ref p, .ref p2]) (vs := [.ref p, .ref p2]) G hr I (.cons rfl (.cons rfl .nil)) h3) (fun _ _ z => cmpBack_ep z) fun _ _ z => z)
theorem ped_ownEq {a b : Expr} {fa fb : M D} {pos : Pos} (cf : OpI X.prog X.w X.K X.mg X.base k c "__eq__" F) (hr : Room j X.A) (hk : k ≤ j) (ha : PED X W a fa) (hb : PED X W b fb) (h1 : behindInMarks .Eq b = false := by first | exact nobehind _ (by decide) (by decide) | rfl) : PED X W (.Compare a [.Eq] [b] pos) (f2 (d2m F c) fa fb) := by
  obtain ⟨C, f, hm, hs, hf, sf, G⟩ := cf
  exact ped_cmp (opr_ownC (op := .Eq) hs hf G (hr.mono hk) rfl) (od_own2 hm) ha hb h1
end
/-! ### ranges of any size -/
section
theorem turn_rangeW {P : Program} {w : World} {K : PySem.W.Frag} {tg : Expr} (it : Addr) (lo : Int) (n : Nat) : Turn P w K tg (Itr lo n) [it] it (fun i h => IsLongIter h it (lo + (i : Nat) * 1) ((n : Int) - (i : Nat)) 1) where
  mem := by simp
  obj := fun i h st b hb => by
    obtain rfl : b = it := by simpa using hb
    exact ⟨_, st, fun v z => nomatch (show Data.fields _ = Data.cell v from z)⟩
  keep := fun i h h' st k => k it (by simp) _ st
  item := by
    intro X hP hw hK hc i pins s σ H E I hf st hg
    subst hP hw hK
    obtain ⟨f0, f1, f2, f3, f4, f5⟩ := hf it (by simp)
    refine (PySem.Walks.longrange (prog := X.prog) (w := X.w) (I.ok.hd hc) it lo 1 n).item i s _ _ hg st fun v h' tk hv st' kk => ?_
    obtain ⟨t, rfl⟩ := hv
    have I1 : Inv X pins σ H { s with heap := h', toks := tk } := I.turned (fun b o hb e => kk b o (by simpa using hb) e) f0 f1 f3 f4 f5
    exact ⟨_, rfl, go_of (s := { s with heap := h', toks := tk }) (n := "longrange_iterator") st' rfl rfl (by decide) ⟨.int (lo + i), H, I1, ⟨t, by rw [Int.mul_one]⟩, ⟨rfl, rfl⟩, st', fun b hb => (hf b hb).1⟩⟩
  done := by
    intro X hP hw hK hc i pins s σ H E I hf st hg
    subst hP hw hK
    obtain ⟨f0, f1, f2, f3, f4, f5⟩ := hf it (by simp)
    have hg : n ≤ i := hg
    exact wpAny_pyNext_long_end (I.ok.hd hc) st (by omega) fun h' eb => ⟨rfl, I.turned (t' := s.toks) (fun b o hb e => eb b o hb e) f0 f1 f3 f4 f5⟩
  self := fun _ _ _ _ _ st h => wpAny_pyIter_longiter st h
variable {X : Cx} {tg : Expr}
theorem range_itW {pins : List (Addr × Obj)} {σ : St} {H : Hp} {s : Shared} {R : It → Hp → Prop} {E : Value → Shared → Prop} {lo hi : Int} {t u v : Tok} {tk : Nat} (I : Inv X pins σ H s)
    (q : R (Itr lo (hi - lo).toNat) H) : wpAny (model X.prog X.w) X.A (pyIter (.ref s.heap.objs.size)) (PIE X pins σ tg R) E { s with heap := s.heap.push { cls := .type "range", data := .fields #[.int lo t, .int hi u, .int 1 v] }, toks := tk } := by
  have I1 : Inv X pins σ H { s with heap := s.heap.push { cls := .type "range", data := .fields #[.int lo t, .int hi u, .int 1 v] }, toks := tk } := I.kept fun b o e => Heap.get?_push_of_some _ e
  have e1 : lo + ((0 : Nat) : Int) * 1 = lo := by simp
  have e2 : (((hi - lo).toNat : Nat) : Int) - ((0 : Nat) : Int) = Builtin.Range.rangeSize lo hi 1 := by rw [rangeSize_one]; split <;> omega
  have new : ∀ b ∈ [(s.heap.push { cls := .type "range", data := .fields #[.int lo t, .int hi u, .int 1 v] }).objs.size], FpOk X pins H b := fun b hb => by
    obtain rfl : b = (s.heap.push { cls := .type "range", data := .fields #[.int lo t, .int hi u, .int 1 v] }).objs.size := by simpa using hb
    exact I1.fpOk (Nat.le_refl _) (I1.hok.fresh (Nat.le_refl _))
  cases hsm : Builtin.Range.small lo hi 1 with
  | true =>
    refine wpAny_pyIter_range (IsRange.new ..) hsm ⟨_, [(s.heap.push { cls := .type "range", data := .fields #[.int lo t, .int hi u, .int 1 v] }).objs.size], _, _, H, rfl, I1.kept (t' := tk) fun b o e => Heap.get?_push_of_some _ e, turn_range _ lo (hi - lo).toNat, ?_, new, q⟩
    show IsRangeIter _ _ (lo + ((0 : Nat) : Int) * 1) ((((hi - lo).toNat : Nat) : Int) - ((0 : Nat) : Int)) 1
    rw [e1, e2]
    exact Heap.get?_push_size _ rfl
  | false =>
    refine wpAny_pyIter_longrange (IsRange.new ..) hsm ⟨_, [(s.heap.push { cls := .type "range", data := .fields #[.int lo t, .int hi u, .int 1 v] }).objs.size], _, _, H, rfl, I1.kept (t' := tk) fun b o e => Heap.get?_push_of_some _ e, turn_rangeW _ lo (hi - lo).toNat, ?_, new, q⟩
    show IsLongIter _ _ (lo + ((0 : Nat) : Int) * 1) ((((hi - lo).toNat : Nat) : Int) - ((0 : Nat) : Int)) 1
    rw [e1, e2]
    exact Heap.get?_push_size _ rfl
def iRngW1 (ta : TA) : TI := fun σ H R => ta σ H fun vs H1 => ∃ j : Int, vs = [.int j] ∧ R (Itr 0 j.toNat) H1
theorem pi_rangeW1 {a : Expr} {ta : TA} {p pos : Pos} (hg : Gl X "range") (hm : X.mg "range" = none) (ha : PA X [a] ta) (hs : starEach [a] X.env = [(false, eval a X.env)] := by rfl) : PI X tg (.Call (.Name "range" p) [a] [] pos) (iRngW1 ta) := by
  refine ⟨fun pins s σ H R I h => ?_⟩
  refine Call_ (ld_blt I hg hm boot_range (PyProof.Rows.callWith_type1 (thn (ha.run pos pins s σ H _ I h) fun us s1 ⟨vs, H1, I1, r1, j, e, q⟩ => ?_) hs rfl))
  subst e
  cases r1 with
  | cons r rr =>
    cases rr
    obtain ⟨t, et⟩ := r
    subst et
    exact call_range_1 (range_itW I1 (by simpa using q))
end
def dRngW1 : List D → M (List D) := fun ds => li (match ds with
  | [.int j] => some (rangeD 0 j.toNat)
  | _ => none)
section
variable {X : Cx} {W : WX} {tg a b : Expr} {fr : M (List D)} {p pos : Pos}
theorem pid_rangeW1 (ha : PAD X W [a] fr) (hm : X.mg "range" = none) (hg : Gl X "range" := by rfl) (hs : starEach [a] X.env = [(false, eval a X.env)] := by rfl) : PID X W tg (.Call (.Name "range" p) [a] [] pos) (bd fr dRngW1) := by
  obtain ⟨ta, pa, ea⟩ := ha
  refine ⟨_, pi_rangeW1 hg hm pa hs, fun Z B σ H e R S h => ?_⟩
  refine ea Z B σ H e _ S ((wp_bd.mp h).imp (fun ds e1 h1 vs B1 H1 S1 l1 a1 => ?_) fun x e' q => q)
  obtain ⟨r, h2, h3⟩ := wp_li h1
  match ds, a1, h2 with
  | [.int j], .cons r .nil, h2 =>
    cases h2
    exact ⟨j, by rw [r.int_inv], h3 _ B1 H1 S1 l1 walks_range⟩
end
end Dl
set_option maxHeartbeats 400000
/-! Layer D, part 10: bool() by an own __bool__, fields stored, in, slices, pairs stored, isinstance with own classes. -/
namespace Dl
open PySem PySem.Spec PyProof.Rows L2 RZ
/-! ### bool(o) -/
section
variable {X : Cx} {j k : Nat} {c : Str} {F : En → Res D} {W : WX}
variable {e : Expr} {fa : M D} {fr : M (List D)} {pos p px p2 : Pos} {a b o : Expr} {fb : M D} {x f : Str}
/-! ### fields stored and read of one's own instance -/
def putNs (f : Str) : List Str → List Str
  | [] => [f] | g :: r => if g = f then g :: r else g :: putNs f r
def putDs (f : Str) (d : D) : List Str → List D → List D
  | [], _ => [d] | g :: r, x :: xs => if g = f then d :: xs else x :: putDs f d r xs
  | _ :: _, [] => []
theorem putF_at {K : PySem.W.Frag} {mg : Str → Option Value} {B : Hp} {f : Str} {v : V} {d : D} (r : At K mg B v d) : ∀ {fs : List (Str × V)} {ns : List Str} {ds : List D}, fs.map (·.1) = ns → AtL K mg B (fs.map (·.2)) ds → (putF f v fs).map (·.1) = putNs f ns ∧ AtL K mg B ((putF f v fs).map (·.2)) (putDs f d ns ds)
  | [], _, _, rfl, _ => ⟨rfl, .cons r .nil⟩
  | (g, x) :: fs, _, _, rfl, .cons rx t => by
    obtain ⟨i1, i2⟩ := putF_at (f := f) r (fs := fs) rfl t
    by_cases h : g = f
    · have e1 : putF f v ((g, x) :: fs) = (g, v) :: fs := by simp only [putF, if_pos h]
      rw [e1]
      refine ⟨by simp only [List.map_cons, putNs, if_pos h], ?_⟩
      simp only [List.map_cons, putDs, if_pos h]
      exact .cons r t
    · have e1 : putF f v ((g, x) :: fs) = (g, x) :: putF f v fs := by simp only [putF, if_neg h]
      rw [e1]
      refine ⟨by simp only [List.map_cons, putNs, if_neg h, i1], ?_⟩
      simp only [List.map_cons, putDs, if_neg h]
      exact .cons rx i2
def putI (i : Nat) (c f : Str) (d : D) : M Unit := fun e => match e[i]? with
  | some (.oin r c' ns ds) => if c' = c ∧ ns.length < 1000 then .ok () (e.set i (.oin r c (putNs f ns) (putDs f d ns ds))) else .bad
  | _ => .bad
def fFldS (i : Nat) (c f : Str) (fa : M D) : M Fl := bd fa fun d => bd (noExc (putI i c f d)) fun _ => pu .nx
theorem psd_fld (i : Nat) {p3 : Pos} (cf : FlI X.K X.mg c f) (ha : PED X W a fa) (hN : X.N[i]? = some x := by rfl) (hv : Vis X.env.scope x := by first | exact Or.inl rfl | exact Or.inr (Or.inl rfl) | exact Or.inr (Or.inr rfl)) (hd : (x == ("__debug__" : Str)) = false := by decide) (hcd : (x == ("__classdict__" : Str)) = false := by decide)
    (hs : swapsWith a (some (.Attribute (.Name x px) f p3)) pos.line X.env = pure false := by rfl) : PSD X W (.Assign [.Attribute (.Name x px) f p3] a pos) (fFldS i c f fa) := by
  obtain ⟨C, hm, cl, na⟩ := cf
  obtain ⟨ta, pa, ea⟩ := ha
  refine ⟨_, ps_fld (pe_var hN hv hd hcd) pa hs, fun Z B σ H e Y S h => ?_⟩
  refine ea.then S h (fun x e' q => PXs.at q) fun d e1 v B1 H1 S1 l1 a1 h1 => ?_
  have h1 := noExc_wp (wp_bd.mp h1)
  unfold putI at h1
  cases q : e1[i]? with
  | none => rw [q] at h1; exact False.elim h1
  | some s =>
    rw [q] at h1
    cases s with
    | oin r c' ns ds =>
      by_cases hc : c' = c ∧ ns.length < 1000
      · simp only [if_pos hc] at h1
        obtain ⟨rfl, hl⟩ := hc
        obtain ⟨p, C', dx, fs, e2, g1, g2, g3, g4, g5⟩ := S1.sl i _ q
        obtain rfl := ref_inj g1 hm
        obtain ⟨k1, k2⟩ := putF_at (f := f) a1 g3 g4
        refine ⟨_, e2, p, _, dx, fs, rfl, g2, cl, na, by rw [← List.length_map (as := fs) (f := (·.1)), g3]; exact hl, ?_⟩
        exact h1 σ B1 _ (S1.write ⟨_, q, rfl⟩ e2 ⟨p, _, dx, _, e2, g1, upd_same, k1, k2, g5⟩ rfl) l1
      · simp only [if_neg hc] at h1
        exact False.elim h1
    | _ => exact False.elim h1
end
/-! ### in, not in -/
section
variable {K : PySem.W.Frag} {mg : Str → Option Value} {B : Hp} {W : WX}
def dIsN (neg : Bool) : D → D → M D := fun a b => li (match b with
  | .non => some (.bl (match a with
    | .non => !neg | _ => neg))
  | _ => none)
theorem isN_at {v : V} {d : D} (r : At K mg B v d) : decide (v = .non) = (match d with
  | .non => true | _ => false) := by cases r <;> rfl
theorem od_isN : OpD K mg W (fun x y H Q => y = .non ∧ Q (.bl (decide (x = .non))) H) (dIsN false) := by
  intro Z B σ H e x y a b Q S ha hb q
  obtain ⟨d, h1, h2⟩ := wp_li q
  cases b with
  | non =>
    cases h1
    refine ⟨hb.non_inv, ?_⟩
    rw [isN_at ha]
    cases a <;> exact h2 _ B H S (Same.refl B) (.bl _)
  | _ => cases h1
theorem od_notN : OpD K mg W (fun x y H Q => y = .non ∧ Q (.bl (!decide (x = .non))) H) (dIsN true) := by
  intro Z B σ H e x y a b Q S ha hb q
  obtain ⟨d, h1, h2⟩ := wp_li q
  cases b with
  | non =>
    cases h1
    refine ⟨hb.non_inv, ?_⟩
    rw [isN_at ha]
    cases a <;> exact h2 _ B H S (Same.refl B) (.bl _)
  | _ => cases h1
end
end Dl
set_option maxHeartbeats 400000
/-! Layer D, part 11: slices, pairs stored, lists unpacked, isinstance with own classes. -/
namespace Dl
open PySem PySem.Spec PyProof.Rows L2 RZ
/-! ### slices of lists and tuples, known -/
def fSl (fa : M D) (flo fhi : M (Option Int)) : M D := bd fa fun d => bd flo fun lo => bd fhi fun hi => li (match d with
  | .lst xs => some (.lst (cutD xs lo hi)) | .tup xs => some (.tup (cutD xs lo hi)) | _ => none)
section
variable {X : Cx} {W : WX} {a b : Expr} {fa fb : M D} {pos p2 : Pos}
theorem cut_whole {xs : List V} {lo hi : Option Int} (h : HT.sIx xs.length 0 lo = 0 ∧ HT.sIx xs.length xs.length hi = xs.length) : cutV xs lo hi = xs := by
  unfold cutV
  rw [h.1, h.2]
  simp
theorem ped_slice {lo hi : Option Expr} {flo fhi : M (Option Int)} (ha : PED X W a fa) (hl : POD X W lo flo) (hh : POD X W hi fhi) : PED X W (.Subscript a (.Slice lo hi none p2) pos) (fSl fa flo fhi) := by
  obtain ⟨ta, pa, ea⟩ := ha
  obtain ⟨tl, pl, el⟩ := hl
  obtain ⟨th, ph, eh⟩ := hh
  refine ⟨_, pe_slice (L2.SlR.or sl_list sl_tupA) pa pl ph, fun Z B σ H e Q S h => ?_⟩
  refine ea.then S h (fun x e' q => q) fun d e1 v B1 H1 S1 l1 a1 h1 => ?_
  refine el Z B1 σ H1 e1 _ S1 ((wp_bd.mp h1).imp (fun lo e2 q2 B2 H2 S2 l2 => ?_) fun x e' q => PX.up l1 q)
  refine eh Z B2 σ H2 e2 _ S2 ((wp_bd.mp q2).imp (fun hi e3 q3 B3 H3 S3 l3 => ?_) fun x e' q => PX.up (l1.trans l2) q)
  obtain ⟨ds, h2, h3⟩ := wp_li q3
  have l13 := (l1.trans l2).trans l3
  cases d with
  | lst xs =>
    cases h2
    obtain ⟨p, vs, rfl, e1, r1⟩ := a1.lst_inv
    refine .inl ⟨p, vs, rfl, SqL.of (S3.bh _ _ (l3 _ _ (l2 _ _ e1))), fun q hq => ?_⟩
    obtain ⟨S4, l4⟩ := S3.new (o := .lst (cutV vs lo hi)) hq
    exact h3 _ _ _ S4 (l13.trans l4) (.lst upd_same ((r1.mono ((l2.trans l3).trans l4)).cut lo hi))
  | tup xs =>
    cases h2
    obtain ⟨p, vs, rfl, e1, r1⟩ := a1.tup_inv
    refine .inr ⟨p, vs, rfl, seqT S3.bh (seqT (l2.trans l3) e1), fun hw => ?_, fun hw q hq => ?_⟩
    · refine h3 _ B3 H3 S3 l13 (.tup (seqT (l2.trans l3) e1) ?_)
      have := (r1.mono (l2.trans l3)).cut lo hi
      rw [cut_whole hw] at this
      exact this
    · obtain ⟨S4, l4⟩ := S3.new (o := .tup (cutV vs lo hi)) hq
      exact h3 _ _ _ S4 (l13.trans l4) (.tup (SqT.of upd_same) ((r1.mono ((l2.trans l3).trans l4)).cut lo hi))
  | _ => cases h2
/-! ### a list unpacked -/
/-! ### a, b = x, y -/
def fPar (i j : Nat) (fr : M (List D)) : M Fl := bd fr fun ds => bd (noExc (match ds with
  | [d1, d2] => bd (setV i d1) fun _ => setV j d2
  | _ => fun _ => .bad)) fun _ => pu .nx
theorem psd_par (i j : Nat) {x y : Str} {fr : M (List D)} {px py pt : Pos} {kt k2 pt2} (hc : X.calm = true) (hN : X.N.Nodup) (hr : PAD X W [a, b] fr) (hij : i ≠ j) (hi : X.N[i]? = some x := by rfl) (hj : X.N[j]? = some y := by rfl) (hx : X.env.scope.names.lookup x = some .local := by rfl) (hy : X.env.scope.names.lookup y = some .local := by rfl)
    (hw : swappedStores [.Tuple [.Name x px, .Name y py] kt pt] (.Tuple [a, b] k2 pt2) X.env = pure (some [x, y]) := by rfl) (hs : swapsWithSole [.Tuple [.Name x px, .Name y py] kt pt] (.Tuple [a, b] k2 pt2) pos.line X.env = pure false := by rfl) :
    PSD X W (.Assign [.Tuple [.Name x px, .Name y py] kt pt] (.Tuple [a, b] k2 pt2) pos) (fPar i j fr) := by
  obtain ⟨ta, pa, ea⟩ := hr
  refine ⟨_, ps_par hc hN hi hj hij hx hy pa hw hs, fun Z B σ H e Y S h => ?_⟩
  refine ea.then S h (fun x e' q => PXs.at q) fun ds e1 vs B1 H1 S1 l1 a1 h1 => ?_
  match ds, a1, h1 with
  | [d1, d2], .cons r1 (.cons r2 .nil), h1 =>
    have h2 := setV_wp (wp_bd.mp (noExc_wp (wp_bd.mp h1)))
    exact ⟨_, _, rfl, setV_wp h2 _ B1 H1 ((S1.set r1).set r2) l1⟩
end
/-! ### isinstance with own classes -/
/-- the class's answers: t for the built-in ones, by name for own ones -/
def KoI (K : PySem.W.Frag) (mg : Str → Option Value) (c : Str) (yes no : List Str) : Prop := ∃ C, mg c = some (.ref C) ∧ (∀ t ∈ tys, PySem.W.kitOne K (.type t) (.ref C) = some false) ∧
  (∀ n ∈ yes, ∃ N, mg n = some (.ref N) ∧ C8.InsC K N ∧ PySem.W.kitOne K (.ref N) (.ref C) = some true) ∧ (∀ n ∈ no, ∃ N, mg n = some (.ref N) ∧ C8.InsC K N ∧ PySem.W.kitOne K (.ref N) (.ref C) = some false)
def oIsO (yes no : List Str) : D → Option D := fun d => match d with
  | .obj n _ _ => if n ∈ yes then some (.bl true) else if n ∈ no then some (.bl false) else none
  | d => match tyD d with
    | some _ => some (.bl false) | none => none
section
variable {X : Cx} {W : WX} {a : Expr} {fa : M D} {p1 p2 pos : Pos} {x : Str} {yes no : List Str}
theorem ped_isO (cf : KoI X.K X.mg x yes no) (ha : PED X W a fa) (hm : X.mg "isinstance" = none) (hg : Gl X "isinstance" := by rfl) (hgx : Gl X x := by rfl) (hd : (x == ("__debug__" : Str)) = false := by decide)
    (he : starEach (a :: [.Name x p2]) X.env = (false, eval a X.env) :: starEach [.Name x p2] X.env := by rfl) (he2 : starEach (.Name x p2 :: []) X.env = (false, eval (.Name x p2) X.env) :: starEach [] X.env := by rfl) (hpl : (backTo pos (starEach [.Name x p2] X.env)).any (·.1) = false := by rfl) :
    PED X W (.Call (.Name "isinstance" p1) [a, .Name x p2] [] pos) (bd fa fun d => li (oIsO yes no d)) := by
  obtain ⟨C, hC, ht, hy, hn⟩ := cf
  obtain ⟨ta, pa, ea⟩ := ha
  refine ⟨_, pe_callB call_isi hg hm (by decide +kernel) (pa_cons pa (pa_cons (pe_glob (v := .ref C) hgx hC rfl hd) pa_nil he2) he) (by decide) (by decide) he hpl, fun Z B σ H e Q S h => ?_⟩
  refine ea.then S h (fun x e' q => q) fun d e1 v B1 H1 S1 l1 a1 h1 => ?_
  obtain ⟨z, h2, h3⟩ := wp_li h1
  have inst : ∀ {n ns ds b}, d = .obj n ns ds → (∃ N, X.mg n = some (.ref N) ∧ C8.InsC X.K N ∧ PySem.W.kitOne X.K (.ref N) (.ref C) = some b) → z = .bl b → rIsi X.K [v, .ref C] H1 Q := fun {n ns ds b} ed ⟨N, m1, m2, m3⟩ ez => by
    subst ed ez
    obtain ⟨p, N', dx, fs, rfl, g1, g2, g3, g4⟩ := a1.obj_inv
    obtain rfl := ref_inj g1 m1
    exact ⟨_, _, _, _, _, rfl, .own C, .base (.ins (S1.bh _ _ g2) m2.cl m2.ha m2.hn m2.htk m2.hm), m3, h3 _ B1 H1 S1 l1 (.bl _)⟩
  have base : ∀ {t}, tyD d = some t → z = .bl false → rIsi X.K [v, .ref C] H1 Q := fun {t} et ez => by
    subst ez
    exact ⟨_, _, _, _, _, rfl, .own C, a1.ty S1.bh et, ht t (tyD_mem et), h3 _ B1 H1 S1 l1 (.bl _)⟩
  cases d with
  | obj n ns ds =>
    have h2 : (if n ∈ yes then some (D.bl true) else if n ∈ no then some (.bl false) else none) = some z := h2
    by_cases c1 : n ∈ yes
    · rw [if_pos c1] at h2; cases h2
      exact inst rfl (hy n c1) rfl
    · rw [if_neg c1] at h2
      by_cases c2 : n ∈ no
      · rw [if_pos c2] at h2; cases h2
        exact inst rfl (hn n c2) rfl
      · rw [if_neg c2] at h2; cases h2
  | _ => first | (cases h2; done) | (cases h2; exact base rfl rfl)
end
end Dl
set_option maxHeartbeats 400000
/-! Layer D, part 12: names of either kind, tests by own ==, the end of a law. -/
namespace Dl
open PySem PySem.Spec PyProof.Rows L2 RZ
/-- a name: a datum, or a list of one's own that becomes known -/
def fAny (i : Nat) : M D := fun e => match e[i]? with
  | some (.val d) => .ok d e
  | some (.own false ds) => .ok (.lst ds) (e.set i (.val (.lst ds)))
  | _ => .bad
def fGetA (i : Nat) (fk : M D) : M D := fun e => match e[i]? with
  | some (.val _) => f2 dAt (fVar i) fk e
  | _ => fGet i fk e
section
variable {X : Cx} {W : WX} {a b : Expr} {fa fb fk : M D} {pos p px ps : Pos} {x : Str}
theorem ped_dyn {f g h : M D} (hf : PED X W a f) (hg : PED X W a g) (hh : ∀ e, h e = f e ∨ h e = g e) : PED X W a h := by
  obtain ⟨tf, pf, ef⟩ := hf
  obtain ⟨tg, pg, eg⟩ := hg
  refine ⟨fun σ H Q => tf σ H Q ∨ tg σ H Q, ⟨fun pins s σ H Q I q => q.elim (pf.run pins s σ H Q I) (pg.run pins s σ H Q I)⟩, fun Z B σ H e Q S q => ?_⟩
  rcases hh e with z | z
  · exact .inl (ef Z B σ H e Q S (z ▸ q))
  · exact .inr (eg Z B σ H e Q S (z ▸ q))
theorem ped_any (i : Nat) (hN : X.N[i]? = some x := by rfl) (hv : Vis X.env.scope x := by first | exact Or.inl rfl | exact Or.inr (Or.inl rfl) | exact Or.inr (Or.inr rfl)) (hd : (x == ("__debug__" : Str)) = false := by decide) (hcd : (x == ("__classdict__" : Str)) = false := by decide) : PED X W (.Name x pos) (fAny i) :=
  ped_dyn (ped_var i hN hv hd hcd) (ped_frz i hN hv hd hcd) fun e => by
    unfold fAny fVar fFrz
    cases e[i]? with
    | none => exact .inl rfl
    | some s => cases s with
      | own r ds => cases r <;> exact .inr rfl
      | _ => exact .inl rfl
theorem ped_getA (i : Nat) (hk : PED X W b fk) (hN : X.N[i]? = some x := by rfl) (hv : Vis X.env.scope x := by first | exact Or.inl rfl | exact Or.inr (Or.inl rfl) | exact Or.inr (Or.inr rfl)) (hd : (x == ("__debug__" : Str)) = false := by decide) (hcd : (x == ("__classdict__" : Str)) = false := by decide)
    (hs : PlainIx b := by exact fun _ _ => rfl) : PED X W (.Subscript (.Name x px) b ps) (fGetA i fk) :=
  ped_dyn (ped_ix (ped_var i hN hv hd hcd) hk hs) (ped_get i hk hN hv hd hcd hs) fun e => by
    unfold fGetA
    cases e[i]? with
    | none => exact .inr rfl
    | some s => cases s <;> first | exact .inl rfl | exact .inr rfl
variable {j k : Nat} {c : Str} {F : En → Res D}
theorem pbd_ownEq (cf : OpI X.prog X.w X.K X.mg X.base k c "__eq__" F) (hr : Room j X.A) (hk : k ≤ j) (ha : PED X W a fa) (hb : PED X W b fb) (h1 : behindInMarks .Eq b = false := by first | exact nobehind _ (by decide) (by decide) | rfl) : PBD X W (.Compare a [.Eq] [b] pos) (fB (f2 (d2m F c) fa fb)) := by
  obtain ⟨C, f, hm, hs, hf, sf, G⟩ := cf
  exact pbd_cmp (opr_ownC (op := .Eq) hs hf G (hr.mono hk) rfl) (od_own2 hm) ha hb h1
end
/-! ### the end -/
def spLaw (K : PySem.W.Frag) : Sp := fun vs H Q _ => ∃ (a : Addr) (ns : List Int), vs = [.ref a] ∧ SqL K H a (ns.map V.int) ∧ ns.length ≤ 63 ∧ ∀ v H', v = .bl true → Q v H'
theorem law_ok {P : Program} {w : World} {K : PySem.W.Frag} {mg : Str → Option Value} {base : Heap} {CX : CXT} {k : Nat} {f : Addr} {fd : FuncData} {ps : List Str} {F : En → Res D} (h : FnOk P w K mg base CX k f fd ps (spD K mg F))
    (hl : ∀ ns : List Int, ns.length ≤ 63 → ∃ e', F [.val (.scr ns)] = .ok (.bl true) e') : FnOk P w K mg base CX k f fd ps (spLaw K) := by
  refine h.imp fun vs H Q E ⟨a, ns, ev, hs, hn, q⟩ => ?_
  subst ev
  obtain ⟨e', he⟩ := hl ns hn
  refine ⟨H, [], [.val (.scr ns)], ⟨Same.refl H, Same.refl H, fun a o h _ => h, fun a o h => .inl h, fun a o h => ⟨o, h⟩, rfl, fun i s z => ?_, fun i j a hij hi => ?_⟩, ?_⟩
  · match i, z with
    | 0, z => cases z; exact ⟨_, rfl, .scr hs⟩
    | i + 1, z => simp at z
  · obtain ⟨s, z, ho⟩ := hi
    match i, z with
    | 0, z => cases z; cases ho
    | i + 1, z => simp at z
  · rw [he]
    exact fun v B' H' S' r => q v H' r.bl_inv
theorem walk {l : PySem.W.OpenLaw} {q : Program} {loose : List Str} {XP : (Str → Option Value) → Heap → Prop} {YP : World → Heap → Prop} {d : DefRec} {K : Params → PySem.W.Frag} {k : Nat} {x : Str} (hn : l.most = some 63) (hdf : d.params.defaults = []) (hr : Room k callerA)
    (hY : ∀ (w : World) (h : Heap), YP w h → (K w.params).In h)
    (F : ∀ (w : World) (mg : Str → Option Value) (fa : Addr) (h : Heap), (K w.params).In h → h.Ns mainGlobals mg → mg d.name = some (.ref fa) →
      ∃ fd : FuncData, (∀ (s : Shared) (u : Value), BindsTo s fd ⟨[u], []⟩ [(x, u)]) ∧ ∀ base : Heap, (K w.params).In base → base.Ns mainGlobals mg → FnOk l.prog w (K w.params) mg base (L2.CX l.prog w) k fa fd [x] (spLaw (K w.params))) :
    PySem.W.WalkO q loose XP YP l.row.toRowW d [] (fun f vs => PySem.call f vs) :=
  L2.walk_of (n := 63) (k := k) (x := x) (CX := fun w => L2.CX l.prog w) (sp := fun w => spLaw (K w.params)) hn (by decide) hdf hr hY F (fun _ _ a ns hl _ hS => ⟨a, ns, rfl, hS, hl, fun _ _ z => z⟩) fun w H s e s' h => by
    obtain ⟨_, _, _, _, _, _, _, _, _, _, _, _, z⟩ := h
    exact z
/-! ### facts of isinstance -/
section
variable {K : PySem.W.Frag} {N C : Addr}
theorem kit_cond (h1 : PySem.W.isClsIn K C = true) (h2 : PySem.W.typeIn K (.ref C) = some (.type "type")) : ((PySem.W.clsIn K C).isSome && PySem.W.typeIn K (.ref C) == some (.type "type")) = true := by
  have h1' : (PySem.W.clsIn K C).isSome = true := h1
  rw [h1', h2]
  rfl
theorem kit_self : PySem.W.kitOne K (.ref C) (.ref C) = some true := by
  unfold PySem.W.kitOne
  rw [if_pos (by simp)]
theorem kit_no (h1 : PySem.W.isClsIn K C = true) (h2 : PySem.W.typeIn K (.ref C) = some (.type "type")) (h3 : PySem.W.mroIn K N (.ref C) = some false) (hne : N ≠ C) : PySem.W.kitOne K (.ref N) (.ref C) = some false := by
  unfold PySem.W.kitOne
  rw [if_neg (by simpa using hne)]
  show (if ((PySem.W.clsIn K C).isSome && PySem.W.typeIn K (.ref C) == some (.type "type")) = true then PySem.W.subIn K (.ref N) (.ref C) else none) = some false
  rw [if_pos (kit_cond h1 h2)]
  exact h3
theorem kit_base (h1 : PySem.W.isClsIn K C = true) (h2 : PySem.W.typeIn K (.ref C) = some (.type "type")) : ∀ t ∈ tys, PySem.W.kitOne K (.type t) (.ref C) = some false := by
  have key : ∀ t, PySem.W.subIn K (.type t) (.ref C) = some false → PySem.W.kitOne K (.type t) (.ref C) = some false := fun t h3 => by
    unfold PySem.W.kitOne
    rw [if_neg (by simp)]
    show (if ((PySem.W.clsIn K C).isSome && PySem.W.typeIn K (.ref C) == some (.type "type")) = true then PySem.W.subIn K (.type t) (.ref C) else none) = some false
    rw [if_pos (kit_cond h1 h2)]
    exact h3
  unfold tys
  simp only [List.forall_mem_cons]
  exact ⟨key _ rfl, key _ rfl, key _ rfl, key _ rfl, key _ rfl, key _ rfl, key _ rfl, fun _ z => nomatch z⟩
end
end Dl
set_option maxHeartbeats 400000
/-! Layer D, part 13: how mirrors are computed. -/
namespace Dl
open PySem
section
variable {α β : Type} {a b d : D} {e : En} {i j : Int}
@[simp] theorem bd_ok {m : M α} {f : α → M β} {x : α} {e' : En} (h : m e = .ok x e') : bd m f e = f x e' := by unfold bd; rw [h]
@[simp] theorem pu_eq {x : α} : pu x e = .ok x e := rfl
@[simp] theorem li_eq {x : α} : li (some x) e = .ok x e := rfl
@[simp] theorem fC_eq : fC d e = .ok d e := rfl
@[simp] theorem dAdd_eq : dAdd (.int i) (.int j) e = .ok (.int (i + j)) e := rfl
@[simp] theorem dSub_eq : dSub (.int i) (.int j) e = .ok (.int (i - j)) e := rfl
@[simp] theorem dLt_eq : dLt (.int i) (.int j) e = .ok (.bl (decide (i < j))) e := rfl
@[simp] theorem dLe_eq : dLe (.int i) (.int j) e = .ok (.bl (decide (i ≤ j))) e := rfl
@[simp] theorem dGt_eq : dGt (.int i) (.int j) e = .ok (.bl (decide (j < i))) e := rfl
@[simp] theorem dGe_eq : dGe (.int i) (.int j) e = .ok (.bl (decide (j ≤ i))) e := rfl
theorem opI_eq {c : Int → Int → Bool} {g : Int → Int → D} (h : c i j = true) : opI c g (.int i) (.int j) e = .ok (g i j) e := by
  unfold opI li
  simp only [h, if_true]
theorem dMod_eq (h : 0 < j) : dMod (.int i) (.int j) e = .ok (.int (i % j)) e := opI_eq (by simpa using h)
theorem dDiv_eq (h : 0 < j) (h2 : j.natAbs.log2 < 9000) : dDiv (.int i) (.int j) e = .ok (.int (i / j)) e := opI_eq (by simpa using ⟨h, h2⟩)
theorem dMul_l (h : -(2 ^ 64) < i ∧ i < 2 ^ 64) : dMul (.int i) (.int j) e = .ok (.int (i * j)) e := opI_eq (by unfold cMul; simp only [Bool.or_eq_true, decide_eq_true_eq]; exact .inl (.inl h))
theorem dMul_r (h : -(2 ^ 64) < j ∧ j < 2 ^ 64) : dMul (.int i) (.int j) e = .ok (.int (i * j)) e := opI_eq (by unfold cMul; simp only [Bool.or_eq_true, decide_eq_true_eq]; exact .inl (.inr h))
theorem dPow_eq (h : 0 ≤ j ∧ j ≤ 1000000 ∧ i.natAbs < 2 ^ 64) : dPow (.int i) (.int j) e = .ok (.int (i ^ j.toNat)) e := opI_eq (by simpa using h)
@[simp] theorem f2_ok {o : D → D → M D} {fa fb : M D} {x y : D} {e1 e2 : En} (h1 : fa e = .ok x e1) (h2 : fb e1 = .ok y e2) : f2 o fa fb e = o x y e2 := by unfold f2 bd; simp only [h1, h2]
@[simp] theorem fB_ok {fa : M D} {c : Bool} {e1 : En} (h : fa e = .ok (.bl c) e1) : fB fa e = .ok c e1 := by unfold fB bd; simp only [h]; rfl
@[simp] theorem fCons_ok {fa : M D} {fr : M (List D)} {x : D} {xs : List D} {e1 e2 : En} (h1 : fa e = .ok x e1) (h2 : fr e1 = .ok xs e2) : fCons fa fr e = .ok (x :: xs) e2 := by unfold fCons bd; simp only [h1, h2]; rfl
@[simp] theorem fStar_ok {fa fr : M (List D)} {x : List D} {xs : List D} {e1 e2 : En} (h1 : fa e = .ok x e1) (h2 : fr e1 = .ok xs e2) : fStar fa fr e = .ok (x ++ xs) e2 := by unfold fStar bd; simp only [h1, h2]; rfl
@[simp] theorem fNil_eq : fNil e = .ok [] e := rfl
@[simp] theorem fL_ok {fa : M (List D)} {xs : List D} {e1 : En} (h : fa e = .ok xs e1) : fL fa e = .ok (.lst xs) e1 := by unfold fL bd; simp only [h]; rfl
theorem fLst_ok {fa : M (List D)} {xs : List D} {e1 : En} (h : fa e = .ok xs e1) (h2 : xs.length ≤ 16777216) : fLst fa e = .ok xs e1 := by unfold fLst bd; simp only [h, if_pos h2]; rfl
theorem fTup_ok {fa : M (List D)} {xs : List D} {e1 : En} (h : fa e = .ok xs e1) (h2 : xs.length ≤ 16777216) : fTup fa e = .ok (.tup xs) e1 := by unfold fTup bd; simp only [h, if_pos h2]; rfl
end
/-! ### comprehensions over data: the state as it was -/
/-! ### loops -/
/-! ### steps -/
section
variable {α β : Type} {e e1 e2 : En} {d x y : D} {ds : List D}
theorem findO_d : ∀ {ds : List D} {os : En} {i : Nat}, findO (ds.map Ar.d) os i = none
  | [], _, _ => rfl
  | _ :: _, [], _ => rfl
  | _ :: ds, _ :: os, i => findO_d (ds := ds) (os := os) (i := i)
theorem putG_same {g : Nat → Sl → Sl} (h : ∀ i s, g i s = s) : ∀ {n : Nat} {e : En}, putG g n e = e
  | _, [] => rfl
  | n, s :: e => by unfold putG; rw [putG_same h, h]
theorem putO_d {os : En} : putO (ds.map Ar.d) os e = e := by
  unfold putO
  exact putG_same fun i s => by rw [findO_d]
theorem owns_d : ∀ {ds : List D}, owns (ds.map Ar.d) = []
  | [] => rfl
  | _ :: ds => owns_d (ds := ds)
theorem map_toSl : ∀ {ds : List D}, (ds.map Ar.d).map (toSl e) = ds.map Sl.val
  | [] => rfl
  | _ :: ds => congrArg (_ :: ·) (map_toSl (ds := ds))
theorem callR_d {F : En → Res D} {os : En} (h : F (ds.map Sl.val) = .ok d os) : callR F (ds.map Ar.d) e = .ok d e := by
  unfold callR
  rw [owns_d, map_toSl, h]
  show Res.ok d (putO (ds.map Ar.d) os e) = _
  rw [putO_d]
theorem callR1 {F : En → Res D} {os : En} (h : F [.val x] = .ok d os) : callR F [.d x] e = .ok d e := callR_d (ds := [x]) h
theorem callR2 {F : En → Res D} {os : En} (h : F [.val x, .val y] = .ok d os) : callR F [.d x, .d y] e = .ok d e := callR_d (ds := [x, y]) h
theorem rD_ok {fa : M D} {fr : M (List Ar)} {xs : List Ar} (h1 : fa e = .ok x e1) (h2 : fr e1 = .ok xs e2) : rD fa fr e = .ok (.d x :: xs) e2 := by unfold rD; rw [bd_ok h1, bd_ok h2]; rfl
theorem rNil_eq : rNil e = .ok [] e := rfl
theorem fRet_ok {fa : M D} (h : fa e = .ok x e1) : fRet fa e = .ok (.rt x) e1 := bd_ok h
theorem fSeq_nx {a b : M Fl} {r : Res Fl} (h : a e = .ok .nx e1) (h2 : b e1 = r) : fSeq a b e = r := by unfold fSeq; rw [bd_ok h]; exact h2
theorem fIf_t {c : M Bool} {fa fb : M α} {r : Res α} (h : c e = .ok true e1) (h2 : fa e1 = r) : fIf c fa fb e = r := by unfold fIf; rw [bd_ok h]; exact h2
theorem fIf_f {c : M Bool} {fa fb : M α} {r : Res α} (h : c e = .ok false e1) (h2 : fb e1 = r) : fIf c fa fb e = r := by unfold fIf; rw [bd_ok h]; exact h2
theorem fNot_ok {c : M Bool} {b : Bool} (h : c e = .ok b e1) : fNot c e = .ok (!b) e1 := by unfold fNot; rw [bd_ok h]; rfl
theorem fOr_ok {c c2 : M Bool} {a b : Bool} (h : c e = .ok a e1) (h2 : c2 e1 = .ok b e1) : fOr c c2 e = .ok (a || b) e1 := by unfold fOr; rw [bd_ok h]; cases a <;> first | exact h2 | rfl
theorem fAnd_ok {c c2 : M Bool} {a b : Bool} (h : c e = .ok a e1) (h2 : c2 e1 = .ok b e1) : fAnd c c2 e = .ok (a && b) e1 := by unfold fAnd; rw [bd_ok h]; cases a <;> first | exact h2 | rfl
theorem fAndV_ok {c c2 : M D} {a b : Bool} (h : c e = .ok (.bl a) e1) (h2 : c2 e1 = .ok (.bl b) e1) : fAndV c c2 e = .ok (.bl (a && b)) e1 := by unfold fAndV; rw [bd_ok (fB_ok h)]; cases a <;> first | exact h2 | rfl
theorem fSetT_ok {fa : M D} {t : D → M Unit} {u : Unit} (h : fa e = .ok x e1) (h2 : t x e1 = .ok u e2) : fSetT fa t e = .ok .nx e2 := by
  unfold fSetT
  rw [bd_ok h, bd_ok (show noExc (t x) e1 = .ok u e2 by unfold noExc; rw [h2])]
  rfl
theorem fDrop_ok {fa : M D} (h : fa e = .ok x e1) : fDrop fa e = .ok .nx e1 := bd_ok h
theorem runF_ok {n m : Nat} {g : M Fl} {as : En} (h : g (as ++ List.replicate (m - n) .no) = .ok (.rt d) e1) (hn : as.length = n) (hm : n ≤ m) (hl : e1.length = m) : runF n m g as = .ok d ((e1.take n).map keepR) := by
  unfold runF
  rw [if_pos ⟨hn, hm⟩, h]
  show (if e1.length = m then Res.ok d ((e1.take n).map keepR) else .bad) = _
  rw [if_pos hl]
theorem runF_nx {n m : Nat} {g : M Fl} {as : En} (h : g (as ++ List.replicate (m - n) .no) = .ok .nx e1) (hn : as.length = n) (hm : n ≤ m) (hl : e1.length = m) : runF n m g as = .ok .non ((e1.take n).map keepR) := by
  unfold runF
  rw [if_pos ⟨hn, hm⟩, h]
  show (if e1.length = m then Res.ok D.non ((e1.take n).map keepR) else .bad) = _
  rw [if_pos hl]
theorem noExc_ok {m : M α} {a : α} (h : m e = .ok a e1) : noExc m e = .ok a e1 := by unfold noExc; rw [h]
theorem fProp_ok {c : Str} {F : En → Res D} {fa : M D} {ns : List Str} {os : En} (h : fa e = .ok (.obj c ns ds) e1) (h2 : F [.val (.obj c ns ds)] = .ok d os) : fProp c F fa e = .ok d e1 := by
  unfold fProp
  rw [bd_ok h]
  simp only [if_true]
  rw [bd_ok (li_eq (x := ()) (e := e1))]
  exact noExc_ok (callR1 h2)
theorem fMake_ok {c : Str} {F : En → Res D} {fa : M (List D)} {xs : List D} {ns : List Str} {r : Bool} {os : En} (h : fa e = .ok xs e1) (h2 : F (.oin true c [] [] :: xs.map .val) = .ok .non (.oin r c ns ds :: os)) : fMake c F fa e = .ok (.obj c ns ds) e1 := by
  unfold fMake
  rw [bd_ok h]
  show (match F (.oin true c [] [] :: xs.map .val) with
    | .ok .non (.oin _ c' ns fs :: _) => Res.ok (D.obj c' ns fs) e1
    | .exc x _ => .exc x e1
    | _ => .bad) = _
  rw [h2]
theorem d2m_ok {c : Str} {F : En → Res D} {n1 n2 : List Str} {s1 s2 : List D} {os : En} (h : F [.val (.obj c n1 s1), .val (.obj c n2 s2)] = .ok d os) : d2m F c (.obj c n1 s1) (.obj c n2 s2) e = .ok d e := by
  have e1 : d2m F c (.obj c n1 s1) (.obj c n2 s2) = noExc (callR F [.d (.obj c n1 s1), .d (.obj c n2 s2)]) := by
    unfold d2m
    simp only [and_self, if_true]
  rw [e1]
  exact noExc_ok (callR2 h)
theorem dEq_ok {a b : D} {p q : PyData} (h1 : toP a = some p) (h2 : toP b = some q) (h3 : SeqAt.shaped p = true) (h4 : SeqAt.shaped q = true) : dEq a b e = .ok (.bl (PyData.eqv p q)) e := by
  unfold dEq eqD
  rw [h1, h2]
  simp only [h3, h4, and_self, if_true]
  rfl
theorem dNe_ok {a b : D} {p q : PyData} (h1 : toP a = some p) (h2 : toP b = some q) (h3 : SeqAt.shaped p = true) (h4 : SeqAt.shaped q = true) : dNe a b e = .ok (.bl (!PyData.eqv p q)) e := by
  unfold dNe eqD
  rw [h1, h2]
  simp only [h3, h4, and_self, if_true]
  rfl
end
/-! ### == of ints, of lists and tuples of ints -/
/-! ### more steps -/
section
variable {α : Type} {e e1 e2 e3 : En} {d y : D} {ds : List D} {i : Nat}
theorem lcTurn_t {vs : List Nat} {t : D → M Unit} {c : M Bool} {el : M D} (h1 : t d (refE e) = .ok () e1) (h2 : c e1 = .ok true e2) (h3 : el e2 = .ok y e3) (hl : e3.length = e.length) : lcTurn vs t c el d e = .ok (some y) (fixE vs e e3) := by
  unfold lcTurn
  have h : (bd (noExc (t d)) fun _ => bd c fun b => if b = true then bd el fun y => pu (some y) else pu none) (refE e) = .ok (some y) e3 := by
    rw [bd_ok (noExc_ok h1), bd_ok h2, if_pos rfl, bd_ok h3]
    rfl
  rw [h]
  show (if e3.length = e.length then Res.ok (some y) (fixE vs e e3) else .bad) = _
  rw [if_pos hl]
theorem lcTurn_f {vs : List Nat} {t : D → M Unit} {c : M Bool} {el : M D} (h1 : t d (refE e) = .ok () e1) (h2 : c e1 = .ok false e2) (hl : e2.length = e.length) : lcTurn vs t c el d e = .ok none (fixE vs e e2) := by
  unfold lcTurn
  have h : (bd (noExc (t d)) fun _ => bd c fun b => if b = true then bd el fun y => pu (some y) else pu none) (refE e) = .ok none e2 := by
    rw [bd_ok (noExc_ok h1), bd_ok h2, if_neg Bool.false_ne_true]
    rfl
  rw [h]
  show (if e2.length = e.length then Res.ok none (fixE vs e e2) else .bad) = _
  rw [if_pos hl]
theorem forL_nx {t : D → M Unit} {body : M Fl} {r : Res Fl} {u : Unit} (h1 : t d e = .ok u e1) (h2 : body e1 = .ok .nx e2) (h3 : forL t body ds e2 = r) : forL t body (d :: ds) e = r := by
  unfold forL
  rw [bd_ok (noExc_ok h1), bd_ok h2]
  exact h3
theorem fFor_ok {src : M (List D)} {t : D → M Unit} {body : M Fl} {r : Res Fl} (h : src e = .ok ds e1) (h2 : forL t body ds e1 = r) : fFor src t body e = r := by
  unfold fFor
  rw [bd_ok h]
  exact h2
theorem bdli {fa : M D} {g : D → Option α} {a : α} (h : fa e = .ok d e1) (h2 : g d = some a) : bd fa (fun d => li (g d)) e = .ok a e1 := by
  rw [bd_ok h, h2]
  rfl
theorem d1_ok' {fr : M (List D)} {g : D → Option D} {x : D} (h : fr e = .ok [d] e1) (h2 : g d = some x) : bd fr (d1 g) e = .ok x e1 := by
  rw [bd_ok h]
  show li (g d) e1 = _
  rw [h2]
  rfl
theorem d2_ok' {fr : M (List D)} {g : D → D → Option D} {x a b : D} (h : fr e = .ok [a, b] e1) (h2 : g a b = some x) : bd fr (d2 g) e = .ok x e1 := by
  rw [bd_ok h]
  show li (g a b) e1 = _
  rw [h2]
  rfl
theorem walk_lst {fa : M D} (h : fa e = .ok (.lst ds) e1) : bd fa dWalk e = .ok ds e1 := by rw [bd_ok h]; rfl
theorem walk_tup {fa : M D} (h : fa e = .ok (.tup ds) e1) : bd fa dWalk e = .ok ds e1 := by rw [bd_ok h]; rfl
theorem all_bls (bs : List Bool) : oAll (.lst (bs.map D.bl)) = some (.bl (bs.all id)) := by
  show (match toBls (bs.map D.bl) with
    | some bs => some (D.bl (bs.all id)) | none => none) = _
  rw [toBls_map]
end
end Dl
set_option maxHeartbeats 400000
/-! Layer D, part 14: star parameters, star calls, static and class methods. -/
namespace Dl
open PySem PySem.Spec PyProof.Rows L2 RZ
/-! ### a def with a star parameter -/
def starD : En → Option (List D)
  | [] => some []
  | .val d :: r => match starD r with
    | some l => some (d :: l) | none => none
  | _ :: _ => none
/-- n parameters ahead of the star, m slots -/
def runS (n m : Nat) (g : M Fl) : En → Res D := fun as => match starD (as.drop n) with
  | some ds => if n ≤ as.length ∧ ds.length ≤ 16777216 then (match runF (n + 1) m g (as.take n ++ [.val (.tup ds)]) with
    | .ok d os => .ok d (os.take n ++ List.replicate (as.length - n) .no)
    | .exc x os => .exc x (os.take n ++ List.replicate (as.length - n) .no)
    | .bad => .bad) else .bad
  | none => .bad
section
variable {P : Program} {w : World} {K : PySem.W.Frag} {mg : Str → Option Value} {base : Heap}
theorem starD_at {Z : Ent} {B H : Hp} : ∀ {e : En} {ds : List D} {vs : List V} {n : Nat}, starD e = some ds → e.length = vs.length → (∀ i s, e[i]? = some s → SlAt K mg Z B H (n + i) ((vs.map some)[i]?) s) → AtL K mg B vs ds
  | [], ds, [], n, h, _, _ => by cases h; exact .nil
  | s :: e, ds, v :: vs, n, h, hl, hs => by
    cases s with
    | val d =>
      have h : (match starD e with
        | some l => some (d :: l) | none => none) = some ds := h
      cases q : starD e with
      | none => rw [q] at h; cases h
      | some l =>
        rw [q] at h
        cases h
        obtain ⟨v', e1, r⟩ := hs 0 _ rfl
        have e1 : some (some v) = some (some v') := e1
        cases e1
        refine .cons r (starD_at (Z := Z) (H := H) (n := n + 1) q (by simpa using hl) fun i s z => ?_)
        have := hs (i + 1) s (by simpa using z)
        rw [show n + (i + 1) = n + 1 + i by omega] at this
        simpa using this
    | _ => cases h
  | [], _, _ :: _, _, _, h, _ => by simp at h
  | _ :: _, _, [], _, _, h, _ => by simp at h
/-- at the entry: the star's tuple laid -/
theorem SR.star {B H : Hp} {R : List Addr} {vs : List V} {e : En} {n : Nat} {ds : List D} {p : Addr} (S : SR K mg ⟨B, H, R, vs.map some⟩ B (vs.map some) H e) (hn : n ≤ e.length) (hd : starD (e.drop n) = some ds) (hp : H p = none) :
    SR K mg ⟨upd B p (.tup (vs.drop n)), upd H p (.tup (vs.drop n)), R, (vs.take n ++ [V.ref p]).map some⟩ (upd B p (.tup (vs.drop n))) ((vs.take n ++ [V.ref p]).map some) (upd H p (.tup (vs.drop n))) (e.take n ++ [.val (.tup ds)]) := by
  have hl : vs.length = e.length := by have := S.ln; rw [List.length_map] at this; exact this
  obtain ⟨S1, l1⟩ := S.new (o := .tup (vs.drop n)) hp
  have hB : B p = none := S.bh.free hp
  have rest : AtL K mg B (vs.drop n) ds := starD_at (Z := ⟨B, H, R, vs.map some⟩) (H := H) (n := n) hd (by simp [hl]) fun i s z => by
    rw [List.getElem?_drop] at z
    have := S.sl (n + i) s z
    rw [List.getElem?_map, List.getElem?_drop]
    rw [List.getElem?_map] at this
    exact this
  have hlen : (vs.take n).length = n := by rw [List.length_take]; omega
  have get : ∀ i, i < n → ((vs.take n ++ [V.ref p]).map some)[i]? = (vs.map some)[i]? := fun i hi => by
    rw [List.map_append, List.getElem?_append_left (by rw [List.length_map, hlen]; exact hi), List.map_take, List.getElem?_take_of_lt hi]
  have lt : ∀ i s, (e.take n ++ [Sl.val (.tup ds)])[i]? = some s → (i < n ∧ e[i]? = some s) ∨ (i = n ∧ s = .val (.tup ds)) := fun i s q => by
    by_cases hi : i < n
    · rw [List.getElem?_append_left (by rw [List.length_take]; omega), List.getElem?_take_of_lt hi] at q
      exact .inl ⟨hi, q⟩
    · rw [List.getElem?_append_right (by rw [List.length_take]; omega), List.length_take, Nat.min_eq_left hn] at q
      cases hk : i - n with
      | zero => rw [hk] at q; exact .inr ⟨by omega, (Option.some.inj q).symm⟩
      | succ k => rw [hk] at q; simp at q
  have own : ∀ i, ownAt (e.take n ++ [Sl.val (.tup ds)]) i → i < n ∧ ownAt e i := fun i ⟨s, q, hs⟩ => by
    rcases lt i s q with ⟨h1, h2⟩ | ⟨_, h2⟩
    · exact ⟨h1, s, h2, hs⟩
    · subst h2; cases hs
  refine ⟨Same.refl _, S1.bh, fun a o h _ => h, fun a o h => .inl h, fun a o h => ⟨o, h⟩, by simp [hl, hn], fun i s q => ?_, fun i j a hij hi hj e1 e2 => ?_⟩
  · rcases lt i s q with ⟨h1, h2⟩ | ⟨rfl, rfl⟩
    · rw [get i h1]
      have z := S.sl i s h2
      cases s with
      | no => trivial
      | val d => obtain ⟨v, ev, r⟩ := z; exact ⟨v, ev, r.mono l1⟩
      | own r xs =>
        obtain ⟨a, ys, ev, g1, g2, g3, g4, g5⟩ := z
        have ne : a ≠ p := ne_of_none g1 hp
        cases r with
        | false => rw [show H a = none from g4 rfl] at g1; cases g1
        | true => exact ⟨a, ys, ev, by rw [upd_ne ne]; exact g1, g2.mono l1, by rw [upd_ne ne]; exact g3, (fun z => nomatch z), fun _ => ⟨(g5 rfl).1, by show ((vs.take n ++ [V.ref p]).map some)[i]? = _; rw [get i h1]; exact ev⟩⟩
      | oin r c ns xs =>
        obtain ⟨a, C, dx, fs, ev, g0, g1, g2, g3, g4, g5, g6⟩ := z
        have ne : a ≠ p := ne_of_none g1 hp
        cases r with
        | false => rw [show H a = none from g5 rfl] at g1; cases g1
        | true => exact ⟨a, C, dx, fs, ev, g0, by rw [upd_ne ne]; exact g1, g2, g3.mono l1, by rw [upd_ne ne]; exact g4, (fun z => nomatch z), fun _ => ⟨(g6 rfl).1, by show ((vs.take n ++ [V.ref p]).map some)[i]? = _; rw [get i h1]; exact ev⟩⟩
    · refine ⟨.ref p, ?_, .tup (SqT.of upd_same) (rest.mono l1)⟩
      rw [List.map_append, List.getElem?_append_right (by rw [List.length_map, hlen]; exact Nat.le_refl _), List.length_map, hlen, Nat.sub_self]
      rfl
  · obtain ⟨h1, o1⟩ := own i hi
    obtain ⟨h2, o2⟩ := own j hj
    rw [get i h1] at e1
    rw [get j h2] at e2
    exact S.ds i j a hij o1 o2 e1 e2
/-- behind the def: told at the slots of the call -/
theorem SR.unstar {B H B' H' : Hp} {R : List Addr} {vs : List V} {n : Nat} {os : En} {p : Addr} {o : HO} (l1 : Same B (upd B p o)) (hp : H p = none) (hB : B p = none) (hn : n ≤ vs.length)
    (S' : SR K mg ⟨upd B p o, upd H p o, R, (vs.take n ++ [V.ref p]).map some⟩ B' ((vs.take n ++ [V.ref p]).map some) H' os) (ho : os.length = n + 1) : SR K mg ⟨B, H, R, vs.map some⟩ B' (vs.map some) H' (os.take n ++ List.replicate (vs.length - n) .no) := by
  have hlen : (vs.take n).length = n := by rw [List.length_take]; omega
  have get : ∀ i, i < n → ((vs.take n ++ [V.ref p]).map some)[i]? = (vs.map some)[i]? := fun i hi => by
    rw [List.map_append, List.getElem?_append_left (by rw [List.length_map, hlen]; exact hi), List.map_take, List.getElem?_take_of_lt hi]
  have lt : ∀ i s, (os.take n ++ List.replicate (vs.length - n) Sl.no)[i]? = some s → (i < n ∧ os[i]? = some s) ∨ s = .no := fun i s q => by
    by_cases hi : i < n
    · rw [List.getElem?_append_left (by rw [List.length_take]; omega), List.getElem?_take_of_lt hi] at q
      exact .inl ⟨hi, q⟩
    · rw [List.getElem?_append_right (by rw [List.length_take]; omega), List.getElem?_replicate] at q
      split at q
      · cases q; exact .inr rfl
      · cases q
  have own : ∀ i, ownAt (os.take n ++ List.replicate (vs.length - n) Sl.no) i → i < n ∧ ownAt os i := fun i ⟨s, q, hs⟩ => by
    rcases lt i s q with ⟨h1, h2⟩ | h2
    · exact ⟨h1, s, h2, hs⟩
    · subst h2; cases hs
  refine ⟨l1.trans S'.le, S'.bh, fun a u h m => ?_, fun a u h => ?_, fun a u h => ?_, by simp; omega, fun i s q => ?_, fun i j a hij hi hj e1 e2 => ?_⟩
  · exact S'.fh a u (by show upd H p o a = _; rw [upd_ne (ne_of_none h hp)]; exact h) m
  · rcases S'.nb a u h with z | z
    · have z : upd B p o a = some u := z
      by_cases hb : a = p
      · subst hb; exact .inr hp
      · rw [upd_ne hb] at z; exact .inl z
    · have z : upd H p o a = none := z
      by_cases hb : a = p
      · subst hb; exact .inr hp
      · rw [upd_ne hb] at z; exact .inr z
  · exact S'.dm a u (by show upd H p o a = _; rw [upd_ne (ne_of_none h hp)]; exact h)
  · rcases lt i s q with ⟨h1, h2⟩ | rfl
    · have z := S'.sl i s h2
      rw [get i h1] at z
      have noH : ∀ a, upd H p o a = none → H a = none := fun a z => by
        by_cases hb : a = p
        · subst hb; exact hp
        · rw [upd_ne hb] at z; exact z
      have s0 : ∀ a, ((vs.take n ++ [V.ref p]).map some)[i]? = some (some (V.ref a)) → (vs.map some)[i]? = some (some (V.ref a)) := fun a z => by rw [← get i h1]; exact z
      cases s with
      | no => trivial
      | val d => exact z
      | own r xs =>
        obtain ⟨a, ys, ev, g1, g2, g3, g4, g5⟩ := z
        exact ⟨a, ys, ev, g1, g2, g3, fun q => noH a (g4 q), fun q => ⟨(g5 q).1, s0 a (g5 q).2⟩⟩
      | oin r c ns xs =>
        obtain ⟨a, C, dx, fs, ev, g0, g1, g2, g3, g4, g5, g6⟩ := z
        exact ⟨a, C, dx, fs, ev, g0, g1, g2, g3, g4, fun q => noH a (g5 q), fun q => ⟨(g6 q).1, s0 a (g6 q).2⟩⟩
    · trivial
  · obtain ⟨h1, o1⟩ := own i hi
    obtain ⟨h2, o2⟩ := own j hj
    rw [← get i h1] at e1
    rw [← get j h2] at e2
    exact S'.ds i j a hij o1 o2 e1 e2
theorem runF_out {n m : Nat} {g : M Fl} {as os : En} {d : D} (h : runF n m g as = .ok d os ∨ runF n m g as = .exc d os) : os.length = n := by
  unfold runF at h
  by_cases hc : as.length = n ∧ n ≤ m
  · rw [if_pos hc] at h
    cases q : g (as ++ List.replicate (m - n) .no) with
    | bad => rw [q] at h; rcases h with h | h <;> cases h
    | exc z e1 =>
      rw [q] at h
      by_cases hl : e1.length = m
      · simp only [if_pos hl] at h
        rcases h with h | h <;> cases h
        simp; omega
      · simp only [if_neg hl] at h
        rcases h with h | h <;> cases h
    | ok fl e1 =>
      rw [q] at h
      cases fl with
      | rt z =>
        by_cases hl : e1.length = m
        · simp only [if_pos hl] at h
          rcases h with h | h <;> cases h
          simp; omega
        · simp only [if_neg hl] at h
          rcases h with h | h <;> cases h
      | nx =>
        by_cases hl : e1.length = m
        · simp only [if_pos hl] at h
          rcases h with h | h <;> cases h
          simp; omega
        · simp only [if_neg hl] at h
          rcases h with h | h <;> cases h
      | _ => rcases h with h | h <;> cases h
  · rw [if_neg hc] at h
    rcases h with h | h <;> cases h
/-- what a call of a star def asks, by what its body asks -/
theorem spS_ok {n m : Nat} {g : M Fl} {vs : List V} {H : Hp} {Q : VK} {E : XK} (h : spD K mg (runS n m g) vs H Q E) :
    ∃ ws rest, vs = ws ++ rest ∧ ws.length = n ∧ rest.length ≤ sizeLine ∧ ∀ p, H p = none → spD K mg (runF (n + 1) m g) (ws ++ [V.ref p]) (upd H p (.tup rest)) Q E := by
  obtain ⟨B, R, e, S, q⟩ := h
  have hl : vs.length = e.length := by have := S.ln; rw [List.length_map] at this; exact this
  unfold runS at q
  cases hd : starD (e.drop n) with
  | none => rw [hd] at q; exact False.elim q
  | some ds =>
    rw [hd] at q
    have q : (if n ≤ e.length ∧ ds.length ≤ 16777216 then (match runF (n + 1) m g (e.take n ++ [Sl.val (.tup ds)]) with
      | .ok d os => Res.ok d (os.take n ++ List.replicate (e.length - n) Sl.no)
      | .exc x os => .exc x (os.take n ++ List.replicate (e.length - n) Sl.no)
      | .bad => .bad) else .bad).wp _ _ := q
    split at q
    · rename_i hc
      have dl : ds.length = e.length - n := by
        have : ∀ {e : En} {ds : List D}, starD e = some ds → ds.length = e.length := fun {e} => by
          induction e with
          | nil => intro ds h; cases h; rfl
          | cons s e ih =>
            intro ds h
            cases s with
            | val d =>
              have h : (match starD e with
                | some l => some (d :: l) | none => none) = some ds := h
              cases q : starD e with
              | none => rw [q] at h; cases h
              | some l => rw [q] at h; cases h; simp [ih q]
            | _ => cases h
        rw [this hd, List.length_drop]
      refine ⟨vs.take n, vs.drop n, (List.take_append_drop n vs).symm, by rw [List.length_take]; omega, sz (by rw [List.length_drop]; omega), fun p hp => ?_⟩
      have hB : B p = none := S.bh.free hp
      have l1 : Same B (upd B p (.tup (vs.drop n))) := fun b u z => by rw [upd_ne (ne_of_none z hB)]; exact z
      refine ⟨_, R, _, S.star hc.1 hd hp, ?_⟩
      cases hr : runF (n + 1) m g (e.take n ++ [.val (.tup ds)]) with
      | bad => rw [hr] at q; exact q
      | ok d os =>
        rw [hr] at q
        exact fun v B' H' S' a => q v B' H' (by rw [← hl]; exact S'.unstar l1 hp hB (by omega) (runF_out (.inl hr))) a
      | exc d os =>
        rw [hr] at q
        exact fun cls dd B' H' S' a => q cls dd B' H' (by rw [← hl]; exact S'.unstar l1 hp hB (by omega) (runF_out (.inr hr))) a
    · exact False.elim q
variable {f : Addr} {name qual : Str} {params : Arguments} {body : List Stmt} {scope : Scope} {dV kV doc pm cdv ct oc : Value} {an od : Option Addr} {osl : Array (Option Value)} {N ps : List Str} {pv : Str} {k : Nat} {g : M Fl}
theorem fn_okS (lk : K.lookup f = some ⟨oc, od, .func (PySem.W.fnOf name qual params body scope dV kV doc pm an cdv ct), osl⟩) (hcd : PySem.W.codeIn K cdv qual = true) (S : FnScope N (ps ++ [pv]) scope) (hN : ps.length + 1 ≤ N.length)
    (hb : ∀ us rest : List Value, us.length = ps.length → bindArgs (PySem.W.fnOf name qual params body scope dV kV doc pm an cdv ct) ⟨us ++ rest, []⟩ = (newTuple rest >>= fun t => pure (ps.zip us ++ [(pv, t)])))
    (hbody : ∀ (A : Around) (outer : List Env) (s : Shared) (H : Hp) (E : XK), Room k (A.deeper (envOfC qual scope s.heap.objs.size f cdv)) → PSsD (cxOf (L2.CX P w) P w K mg base N qual scope f cdv A outer s H E) (fun c d _ H' => E c d H') body g) :
    FnR P w K mg base (L2.CX P w) (k + 1) f (spD K mg (runS ps.length N.length g)) := by
  refine (StX.fn_star (sp := spD K mg (runF (ps.length + 1) N.length g)) lk hcd S ?cx hb fun A outer s H vs Q E hr h => ?_).imp fun vs H Q E h => spS_ok h
  case cx => exact StX.cxUp
  obtain ⟨ts, p, ev⟩ := hbody A outer s H E hr
  refine ⟨ts, p, ?_⟩
  have := body_ok (K := K) (mg := mg) (N := N) (ps := ps ++ [pv]) (g := g) (ts := ts) (vs := vs) (H := H) (Q := Q) (E := E) (by rw [List.length_append]; exact hN) ev (by rw [List.length_append]; exact h)
  exact this
end
end Dl
set_option maxHeartbeats 400000
/-! Layer D, part 15: calls with stars, of static and class methods, of a class that a name holds. -/
namespace Dl
open PySem PySem.Spec PyProof.Rows L2 RZ
section
variable {M : Model} {A : Around} {E : Value → Shared → Prop} {s : Shared} {K : PySem.W.Frag} {env : Env} {pos p : Pos} {f : Value} {first : List Value} {Q : Value → Shared → Prop} {h₀ : Heap} {e : Expr} {rest : List Expr}
theorem evalArgs_two {f : Value} {x y : Bool × Sem Value} {rest : List (Bool × Sem Value)} {Q : Args → Shared → Prop} (h : wpAny M A (spliced (x :: y :: rest)) (fun vs s' => Q ⟨vs, []⟩ s') E s) : wpAny M A (evalArgs f true (x :: y :: rest) []) Q E s := by
  obtain ⟨b, x⟩ := x
  unfold evalArgs
  cases b with
  | false =>
    show wpAny M A (spliced ((false, x) :: y :: rest) >>= _) Q E s
    refine wpAny_bind (wpAny_mono h (fun vs s' z => ?_) fun _ _ z => z)
    exact wpAny_holding (wpAny_bind (wpAny_pure (wpAny_bind (wpAny_pure (wpAny_pure z)))))
  | true =>
    show wpAny M A (spliced ((true, x) :: y :: rest) >>= _) Q E s
    refine wpAny_bind (wpAny_mono h (fun vs s' z => ?_) fun _ _ z => z)
    exact wpAny_holding (wpAny_bind (wpAny_pure (wpAny_bind (wpAny_pure (wpAny_pure z)))))
theorem callWith_two {e2 : Expr} {b1 b2 : Bool} {x1 x2 : Sem Value} (X : K.In h₀) (hk : PySem.W.keepIn K f = true) (h : wpAny M A (spliced (backTo pos (starEach (e :: e2 :: rest) env))) (fun vs s₁ => K.In s₁.heap ∧ wpAny M A (call f (first ++ vs)) Q E s₁) E s)
    (he : starEach (e :: e2 :: rest) env = (b1, x1) :: (b2, x2) :: starEach rest env := by rfl) (hst : (backTo pos (starEach (e :: e2 :: rest) env)).any (·.1) = true := by rfl) :
    wpAny M A (callWith pos f first (backTo pos (starEach (e :: e2 :: rest) env)) []) Q E s := by
  refine PySem.W.ks_call hst (PySem.W.keeps_K hk) ?_
  rw [he] at h ⊢
  cases b1 <;> cases b2 <;> exact evalArgs_two h
end
section
variable {X : Cx} {W : WX} {j k i : Nat} {x c m : Str} {F : En → Res D} {e e2 o : Expr} {es : List Expr} {fr : M (List Ar)} {fl : M (List D)} {fo : M D} {p sp_ pos apos : Pos} {f C : Addr} {sp : Sp} {t : TA} {te ta : TE}
/-- C(*y) -/
theorem pe_makeS1 (N : Mk X.K C f) (G : FnR X.prog X.w X.K X.mg X.base (L2.CX X.prog X.w) k f sp) (hr : Room (k + 1) X.A) (tk : Takes X W) (hg : Gl X x) (hm : X.mg x = some (.ref C)) (he : PE X e te) (hdb : (x == ("__debug__" : Str)) = false := by decide)
    (hst : starEach [.Starred e sp_] X.env = [(true, eval e X.env)] := by rfl) : PE X (.Call (.Name x p) [.Starred e sp_] [] pos) (tKW C W sp fun σ H Q => te σ H fun y H1 => ∃ a xs, y = V.ref a ∧ (SqT X.K H1 a xs ∨ SqL X.K H1 a xs) ∧ Q xs H1) := by
  refine ⟨fun pins s σ H Q I h => wpAny_Call_Name_kw (ld_glob I hg hm ?_ hdb)⟩
  refine PySem.W.callWith_S (h₀ := X.base) I.ok.mod.kin N.kp (thn (he.run pins s σ H _ I h) fun v s1 ⟨y, H1, I1, ry, a, xs, ey, hxs, q⟩ => ?_) hst
  subst ey
  obtain rfl : v = Value.ref a := ry
  exact StX.star_any I1 hxs fun us s2 I2 rv => ⟨I2.kIn, run_K N G hr tk I2 rv q⟩
/-- C(e, *y, ..): more than one, one of them a star -/
theorem pe_makeS2 {b1 b2 : Bool} {x1 x2 : Sem Value} (N : Mk X.K C f) (G : FnR X.prog X.w X.K X.mg X.base (L2.CX X.prog X.w) k f sp) (hr : Room (k + 1) X.A) (tk : Takes X W) (hg : Gl X x) (hm : X.mg x = some (.ref C)) (ha : PA X (e :: e2 :: es) t) (hdb : (x == ("__debug__" : Str)) = false := by decide)
    (he : starEach (e :: e2 :: es) X.env = (b1, x1) :: (b2, x2) :: starEach es X.env := by rfl) (hst : (backTo pos (starEach (e :: e2 :: es) X.env)).any (·.1) = true := by rfl) : PE X (.Call (.Name x p) (e :: e2 :: es) [] pos) (tKW C W sp t) := by
  refine ⟨fun pins s σ H Q I h => wpAny_Call_Name_kw (ld_glob I hg hm ?_ hdb)⟩
  exact callWith_two (h₀ := X.base) I.ok.mod.kin N.kp (thn (ha.run pos pins s σ H _ I h) fun us s1 ⟨vs, H1, I1, r, q⟩ => ⟨I1.kIn, run_K N G hr tk I1 r q⟩) he hst
theorem ped_makeS1 {fa : M D} (cf : MkI X.prog X.w X.K X.mg X.base k x F) (hr : Room j X.A) (hk : k + 1 ≤ j) (tk : Takes X W) (ha : PED X W e fa) (hg : Gl X x := by rfl) (hdb : (x == ("__debug__" : Str)) = false := by decide)
    (hst : starEach [.Starred e sp_] X.env = [(true, eval e X.env)] := by rfl) : PED X W (.Call (.Name x p) [.Starred e sp_] [] pos) (fMake x F (bd fa dItems)) := by
  obtain ⟨C, f, hm, mk, G⟩ := cf
  obtain ⟨ta, pa, ea⟩ := ha
  refine ⟨_, pe_makeS1 mk G (hr.mono hk) tk hg hm pa hdb hst, fun Z B σ H e Q S h => ?_⟩
  have h1 : (bd (bd fa dItems) (fun ds => fMake x F (pu ds)) e).wp (PV X.K X.mg Z B σ Q) (PX X.K X.mg Z B σ W) := h
  have h2 := wp_bd.mp (wp_bd.mp h1)
  refine ea Z B σ H e _ S (h2.imp (fun d e1 q v B1 H1 S1 l1 a1 => ?_) fun x e' q => q)
  obtain ⟨ds, p, xs, q2, rfl, sq, r1⟩ := dItems_at (ds := []) a1 q
  refine ⟨p, xs, rfl, sq.imp (fun z => seqT S1.bh z) (fun z => S1.bh.seq z), ?_⟩
  intro x' dx hx hd ne
  exact make_ok hm S1 r1 (upV l1 q2) x' dx hx hd ne
theorem ped_makeS2 {b1 b2 : Bool} {x1 x2 : Sem Value} (cf : MkI X.prog X.w X.K X.mg X.base k x F) (hr : Room j X.A) (hk : k + 1 ≤ j) (tk : Takes X W) (ha : PAD X W (e :: e2 :: es) fl) (hg : Gl X x := by rfl) (hdb : (x == ("__debug__" : Str)) = false := by decide)
    (he : starEach (e :: e2 :: es) X.env = (b1, x1) :: (b2, x2) :: starEach es X.env := by rfl) (hst : (backTo pos (starEach (e :: e2 :: es) X.env)).any (·.1) = true := by rfl) : PED X W (.Call (.Name x p) (e :: e2 :: es) [] pos) (fMake x F fl) := by
  obtain ⟨C, f, hm, mk, G⟩ := cf
  obtain ⟨ta, pa, ea⟩ := ha
  refine ⟨_, pe_makeS2 mk G (hr.mono hk) tk hg hm pa hdb he hst, fun Z B σ H e Q S h => ?_⟩
  refine ea.then S h (fun x e' q => q) fun ds e1 vs B1 H1 S1 l1 a1 h1 => ?_
  intro x' dx hx hd ne
  exact make_ok hm S1 a1 (upV l1 h1) x' dx hx hd ne
/-! ### C.m(..), m static -/
structure SMet (K : PySem.W.Frag) (C : Addr) (mc : Value) (m : Str) (p g : Addr) : Prop where
  at_ : PySem.W.findCls K (.ref C) mc m = some (.get (.builtin "staticmethod.__get__") (.ref p) .none (.ref C))
  rc : ∃ rest, PySem.W.recIn K p "staticmethod" = some (.ref g :: rest)
  kp : PySem.W.keepIn K (.ref g) = true
theorem pe_smeth {mc : Value} {q g : Addr} {pl : Sem Bool} (he : PE X o (tC (.ref C))) (r : ClX.CRead X.K C mc) (c : SMet X.K C mc m q g) (G : FnR X.prog X.w X.K X.mg X.base (L2.CX X.prog X.w) k g sp) (hr : Room k X.A) (tk : Takes X W) (ha : PA X (e :: es) t)
    (hst : starEach (e :: es) X.env = (false, eval e X.env) :: starEach es X.env := by rfl) (hpl : (backTo pos (starEach es X.env)).any (·.1) = false := by rfl)
    (ht : eval (.Call (.Attribute o m apos) (e :: es) [] pos) X.env = (do
      let ov ← eval o X.env
      standAt apos.atName
      let (f, first) ← holding [ov] (getMethod ov m pl)
      callWith pos f first (backTo pos (starEach (e :: es) X.env)) (backToKw pos (keywordEach [] X.env))) := by rfl) : PE X (.Call (.Attribute o m apos) (e :: es) [] pos) (tCW W sp t) := by
  refine ⟨fun pins s σ H Q I h => PySem.W.methodCall_KW (pl := pl) (thn (he.run pins s σ H (fun v H1 => v = .ref C ∧ H1 = H) I ⟨rfl, rfl⟩) fun u s1 ⟨x, H1, I1, rx, ex, eh⟩ => ?_) ht⟩
  subst ex eh
  obtain rfl : u = Value.ref C := rx
  obtain ⟨rest, hp⟩ := c.rc
  refine PySem.W.method_cls I1.kIn r.ga (PySem.W.cls_bind I1.kIn r.rd c.at_ (wpAny_call (PySem.W.sm_get (s := { s1 with toks := s1.toks + 1 }) I1.kIn hp (PySem.W.handed_on rfl ?_))))
  have I2 := I1.tok (s1.toks + 1)
  exact PySem.W.callWith_K (h₀ := X.base) I.ok.mod.kin c.kp (thn (ha.run pos pins _ σ _ _ I2 h) fun us s2 ⟨vs, H2, I3, r3, q⟩ => ⟨I3.kIn, wpAny_call (run_R G hr tk I3 r3 q)⟩) hst hpl
end
end Dl
set_option maxHeartbeats 400000
/-! Layer D, part 16: class methods, a class that a name holds. -/
namespace Dl
open PySem PySem.Spec PyProof.Rows L2 RZ
section
variable {X : Cx} {W : WX} {j k i : Nat} {x c m : Str} {F : En → Res D} {e e2 o : Expr} {es : List Expr} {fr : M (List Ar)} {fl : M (List D)} {fo : M D} {p sp_ pos apos : Pos} {f C q g : Addr} {sp : Sp} {t : TA} {te ta : TE} {mc : Value}
def SmI (P : Program) (w : World) (K : PySem.W.Frag) (mg : Str → Option Value) (base : Heap) (k : Nat) (c m : Str) (F : En → Res D) : Prop := ∃ C mc p g, mg c = some (.ref C) ∧ ClX.CRead K C mc ∧ SMet K C mc m p g ∧ FnR P w K mg base (L2.CX P w) k g (spD K mg F)
theorem ped_smeth {px : Pos} (cf : SmI X.prog X.w X.K X.mg X.base k c m F) (hr : Room j X.A) (hk : k ≤ j) (tk : Takes X W) (ha : PRD X W (e :: es) fr) {pl : Sem Bool} (hg : Gl X c := by rfl) (hd : (c == ("__debug__" : Str)) = false := by decide)
    (hst : starEach (e :: es) X.env = (false, eval e X.env) :: starEach es X.env := by rfl) (hpl : (backTo pos (starEach es X.env)).any (·.1) = false := by rfl)
    (ht : eval (.Call (.Attribute (.Name c px) m apos) (e :: es) [] pos) X.env = (do
      let ov ← eval (.Name c px) X.env
      standAt apos.atName
      let (f, first) ← holding [ov] (getMethod ov m pl)
      callWith pos f first (backTo pos (starEach (e :: es) X.env)) (backToKw pos (keywordEach [] X.env))) := by rfl) : PED X W (.Call (.Attribute (.Name c px) m apos) (e :: es) [] pos) (bd fr (callR F)) := by
  obtain ⟨C, mc, p, g, hm, r, cm, G⟩ := cf
  obtain ⟨ta, pa, ea⟩ := ha
  exact ⟨_, pe_smeth (pe_glob (v := .ref C) hg hm rfl hd) r cm G (hr.mono hk) tk pa hst hpl ht, evCW ea⟩
end
end Dl
set_option maxHeartbeats 1000000
/-! Layer D, part 17: sets of ints, sorted at once. -/
namespace Dl
open PySem PySem.Spec PyProof.Rows L2 RZ
end Dl
set_option maxHeartbeats 400000
/-! Tables of counts: a start and lost ranks, in plain Lean. -/
namespace Tab
open Dl
def cnt (l : List Int) (c : Int) : Int := ((l.filter fun x => decide (x ≤ c)).length : Int)
def aft (s : Int) (l : List Int) (c : Int) : Int := s + c - cnt l c
def fld (l : List Int) (m : Int) : Int := l.foldl (fun r x => if x ≤ r then r + 1 else r) m
def lr (s : Int) (l : List Int) (c : Int) : Int := fld l (if s < c then c - s else 0)
structure Vl (s : Int) (l : List Int) : Prop where
  s0 : 0 ≤ s
  up : l.Pairwise (· < ·)
  pos : ∀ x ∈ l, 0 < x
theorem cnt_nil (c : Int) : cnt [] c = 0 := rfl
theorem cnt_cons (x : Int) (l : List Int) (c : Int) : cnt (x :: l) c = (if x ≤ c then 1 else 0) + cnt l c := by
  unfold cnt
  rw [List.filter_cons]
  by_cases h : x ≤ c
  · simp [h]; omega
  · simp [h]
theorem cnt_app (l m : List Int) (c : Int) : cnt (l ++ m) c = cnt l c + cnt m c := by
  unfold cnt
  rw [List.filter_append, List.length_append]
  omega
theorem cnt_perm {l m : List Int} (h : l.Perm m) (c : Int) : cnt l c = cnt m c := by
  unfold cnt
  rw [(h.filter _).length_eq]
theorem cnt_nn (l : List Int) (c : Int) : 0 ≤ cnt l c := by unfold cnt; omega
theorem cnt_zero {l : List Int} {c : Int} (h : ∀ x ∈ l, c < x) : cnt l c = 0 := by
  induction l with
  | nil => rfl
  | cons x l ih =>
    rw [cnt_cons, ih fun y hy => h y (List.mem_cons_of_mem _ hy), if_neg (by have := h x List.mem_cons_self; omega)]
    rfl
/-- one count further -/
theorem cnt_step {l : List Int} (hu : l.Pairwise (· < ·)) (c : Int) : cnt l (c + 1) = cnt l c + if c + 1 ∈ l then 1 else 0 := by
  induction l with
  | nil => rfl
  | cons x l ih =>
    have h := List.pairwise_cons.mp hu
    have ih := ih h.2
    rw [cnt_cons, cnt_cons, ih]
    by_cases hx : x = c + 1
    · subst hx
      have hn : ¬ (c + 1 ∈ l) := fun z => by have := h.1 _ z; omega
      rw [if_pos (Int.le_refl _), if_neg (show ¬ c + 1 ≤ c by omega), if_pos List.mem_cons_self, if_neg hn]
      omega
    · have e : (c + 1 ∈ x :: l) ↔ c + 1 ∈ l := by
        rw [List.mem_cons]
        exact ⟨fun z => z.resolve_left fun q => hx q.symm, .inr⟩
      simp only [e]
      by_cases h1 : x ≤ c
      · rw [if_pos (show x ≤ c + 1 by omega), if_pos h1]
        omega
      · rw [if_neg (show ¬ x ≤ c + 1 by omega), if_neg h1]
        omega
theorem cnt_add {l : List Int} (hu : l.Pairwise (· < ·)) (c : Int) : ∀ n : Nat, cnt l (c + n) ≤ cnt l c + n
  | 0 => by simp
  | n + 1 => by
    have ih := cnt_add hu c n
    have s := cnt_step hu (c + n)
    have e : c + ((n + 1 : Nat) : Int) = c + n + 1 := by omega
    rw [e, s]
    split <;> omega
theorem cnt_le {l : List Int} (hu : l.Pairwise (· < ·)) {c d : Int} (h : c ≤ d) : cnt l d - cnt l c ≤ d - c := by
  have := cnt_add hu c (d - c).toNat
  have e : c + ((d - c).toNat : Int) = d := by omega
  rw [e] at this
  omega
theorem gap_nn {s : Int} {l : List Int} (v : Vl s l) {c : Int} (h : 0 ≤ c) : 0 ≤ c - cnt l c := by
  have h1 := cnt_le v.up h
  have h2 : cnt l 0 = 0 := cnt_zero v.pos
  omega
theorem fld_cons (x : Int) (l : List Int) (m : Int) : fld (x :: l) m = fld l (if x ≤ m then m + 1 else m) := rfl
theorem fld_small {l : List Int} {m : Int} (h : ∀ x ∈ l, m < x) : fld l m = m := by
  induction l with
  | nil => rfl
  | cons x l ih =>
    rw [fld_cons, if_neg (by have := h x List.mem_cons_self; omega)]
    exact ih fun y hy => h y (List.mem_cons_of_mem _ hy)
theorem fld_spec {l : List Int} (hu : l.Pairwise (· < ·)) : ∀ m : Int, fld l m = m + cnt l (fld l m) ∧ fld l m ∉ l ∧ m ≤ fld l m := by
  induction l with
  | nil => intro m; exact ⟨by show m = m + 0; omega, by simp, Int.le_refl _⟩
  | cons x l ih =>
    intro m
    have h := List.pairwise_cons.mp hu
    rw [fld_cons]
    by_cases hx : x ≤ m
    · rw [if_pos hx]
      obtain ⟨h1, h2, h3⟩ := ih h.2 (m + 1)
      refine ⟨?_, ?_, by omega⟩
      · rw [cnt_cons, if_pos (by omega)]
        omega
      · rw [List.mem_cons]
        exact fun z => z.elim (fun q => by omega) h2
    · rw [if_neg hx]
      have e : fld l m = m := fld_small fun y hy => by have := h.1 y hy; omega
      rw [e]
      refine ⟨?_, ?_, Int.le_refl _⟩
      · rw [cnt_cons, if_neg hx, cnt_zero fun y hy => by have := h.1 y hy; omega]
        omega
      · rw [List.mem_cons]
        exact fun z => z.elim (fun q => by omega) fun q => by have := h.1 m q; omega
theorem lr_back {s : Int} {l : List Int} (v : Vl s l) {c : Int} (h : s < c) : aft s l (lr s l c) = c ∧ lr s l c ∉ l ∧ 0 < lr s l c := by
  unfold lr aft
  rw [if_pos h]
  obtain ⟨h1, h2, h3⟩ := fld_spec v.up (c - s)
  exact ⟨by omega, h2, by omega⟩
theorem lr_zero {s : Int} {l : List Int} (v : Vl s l) {c : Int} (h : c ≤ s) : lr s l c = 0 := by
  unfold lr
  rw [if_neg (by omega)]
  exact fld_small v.pos
theorem aft_ge {s : Int} {l : List Int} (v : Vl s l) {c : Int} (h : 0 ≤ c) : s ≤ aft s l c := by
  have := gap_nn v h
  unfold aft
  omega
theorem galois {s : Int} {l : List Int} (v : Vl s l) (c : Int) {k : Int} (hk : 0 ≤ k) : lr s l c ≤ k ↔ c ≤ aft s l k := by
  by_cases h : s < c
  · obtain ⟨h1, h2, h3⟩ := lr_back v h
    constructor
    · intro z
      have := cnt_le v.up z
      unfold aft at h1 ⊢
      omega
    · intro z
      refine Int.not_lt.mp fun q => ?_
      have e := cnt_step v.up (lr s l c - 1)
      rw [show lr s l c - 1 + 1 = lr s l c by omega, if_neg h2] at e
      have := cnt_le v.up (show k ≤ lr s l c - 1 by omega)
      unfold aft at h1 z
      omega
  · rw [lr_zero v (by omega)]
    have := aft_ge v hk
    omega
/-! ### sums -/
def sumL (s1 : Int) (l1 l2 : List Int) : List Int := isort (l1 ++ (l2.filter fun r => decide (s1 < r)).map (lr s1 l1))
theorem cnt_fur {s1 : Int} {l1 : List Int} (v : Vl s1 l1) {c : Int} (hc : 0 ≤ c) (l2 : List Int) : cnt ((l2.filter fun r => decide (s1 < r)).map (lr s1 l1)) c = cnt l2 (aft s1 l1 c) - cnt l2 s1 := by
  induction l2 with
  | nil => rfl
  | cons x l ih =>
    have ha := aft_ge v hc
    rw [cnt_cons, cnt_cons, List.filter_cons]
    by_cases h : s1 < x
    · simp only [h, decide_true, if_true, List.map_cons]
      rw [cnt_cons, ih, if_neg (show ¬ x ≤ s1 by omega)]
      by_cases h2 : lr s1 l1 x ≤ c
      · rw [if_pos h2, if_pos ((galois v x hc).mp h2)]
        omega
      · rw [if_neg h2, if_neg fun z => h2 ((galois v x hc).mpr z)]
        omega
    · simp only [h, decide_false, Bool.false_eq_true, if_false]
      rw [ih, if_pos (show x ≤ aft s1 l1 c by omega), if_pos (show x ≤ s1 by omega)]
      omega
theorem comp {s1 s2 : Int} {l1 l2 : List Int} (v : Vl s1 l1) {c : Int} (hc : 0 ≤ c) : aft (aft s2 l2 s1) (sumL s1 l1 l2) c = aft s2 l2 (aft s1 l1 c) := by
  have e : cnt (sumL s1 l1 l2) c = cnt l1 c + (cnt l2 (aft s1 l1 c) - cnt l2 s1) := by
    unfold sumL
    rw [cnt_perm (isort_perm _), cnt_app, cnt_fur v hc]
  show aft s2 l2 s1 + c - cnt (sumL s1 l1 l2) c = s2 + aft s1 l1 c - cnt l2 (aft s1 l1 c)
  rw [e]
  show s2 + s1 - cnt l2 s1 + c - _ = s2 + (s1 + c - cnt l1 c) - _
  omega
theorem sum_vl {s1 s2 : Int} {l1 l2 : List Int} (v : Vl s1 l1) (v2 : Vl s2 l2) : Vl (aft s2 l2 s1) (sumL s1 l1 l2) := by
  have hf : ∀ y ∈ (l2.filter fun r => decide (s1 < r)).map (lr s1 l1), 0 < y ∧ y ∉ l1 := fun y hy => by
    obtain ⟨x, hx, rfl⟩ := List.mem_map.mp hy
    have hx := List.mem_filter.mp hx
    have := lr_back v (of_decide_eq_true hx.2)
    exact ⟨this.2.2, this.2.1⟩
  refine ⟨?_, ?_, fun x hx => ?_⟩
  · have := aft_ge v2 v.s0
    have := v2.s0
    omega
  · have nd : (l1 ++ (l2.filter fun r => decide (s1 < r)).map (lr s1 l1)).Nodup := by
      refine List.nodup_append.mpr ⟨v.up.imp fun h => by omega, ?_, fun a ha b hb e => (hf b hb).2 (e ▸ ha)⟩
      refine List.pairwise_map.mpr ?_
      refine List.Pairwise.imp_of_mem (R := (· < ·)) (fun {a b} ha hb hab e => ?_) (v2.up.filter _)
      have h1 := (lr_back v (of_decide_eq_true (List.mem_filter.mp ha).2)).1
      have h2 := (lr_back v (of_decide_eq_true (List.mem_filter.mp hb).2)).1
      rw [e, h2] at h1
      omega
    have nd2 : (sumL s1 l1 l2).Nodup := (isort_perm _).nodup_iff.mpr nd
    have st : (sumL s1 l1 l2).Pairwise (· ≤ ·) := isort_sorted _
    exact (st.and nd2).imp fun h => by omega
  · have hx : x ∈ l1 ++ (l2.filter fun r => decide (s1 < r)).map (lr s1 l1) := (isort_perm _).mem_iff.mp hx
    rcases List.mem_append.mp hx with h | h
    · exact v.pos x h
    · exact (hf x h).1
theorem sorted_ext : ∀ {l m : List Int}, l.Pairwise (· < ·) → m.Pairwise (· < ·) → (∀ x, x ∈ l ↔ x ∈ m) → l = m
  | [], [], _, _, _ => rfl
  | [], y :: m, _, _, h => absurd ((h y).mpr List.mem_cons_self) (by simp)
  | x :: l, [], _, _, h => absurd ((h x).mp List.mem_cons_self) (by simp)
  | x :: l, y :: m, hl, hm, h => by
    have h1 := List.pairwise_cons.mp hl
    have h2 := List.pairwise_cons.mp hm
    have e : x = y := by
      rcases List.mem_cons.mp ((h x).mp List.mem_cons_self) with e | mx
      · exact e
      · rcases List.mem_cons.mp ((h y).mpr List.mem_cons_self) with e | my
        · exact e.symm
        · have a := h2.1 x mx
          have b := h1.1 y my
          omega
    subst e
    congr 1
    refine sorted_ext h1.2 h2.2 fun z => ⟨fun hz => ?_, fun hz => ?_⟩
    · exact (List.mem_cons.mp ((h z).mp (List.mem_cons_of_mem _ hz))).resolve_left fun q => by have := h1.1 z hz; omega
    · exact (List.mem_cons.mp ((h z).mpr (List.mem_cons_of_mem _ hz))).resolve_left fun q => by have := h2.1 z hz; omega
theorem mem_iff {s : Int} {l : List Int} (v : Vl s l) (x : Int) : x ∈ l ↔ 0 < x ∧ aft s l x = aft s l (x - 1) := by
  have e := cnt_step v.up (x - 1)
  rw [show x - 1 + 1 = x by omega] at e
  unfold aft
  constructor
  · intro h
    rw [if_pos h] at e
    exact ⟨v.pos x h, by omega⟩
  · rintro ⟨h1, h2⟩
    refine Classical.byContradiction fun q => ?_
    rw [if_neg q] at e
    omega
theorem ext {s t : Int} {l m : List Int} (v : Vl s l) (u : Vl t m) (h : ∀ c, 0 ≤ c → aft s l c = aft t m c) : s = t ∧ l = m := by
  refine ⟨?_, sorted_ext v.up u.up fun x => ?_⟩
  · have := h 0 (Int.le_refl _)
    unfold aft at this
    rw [cnt_zero v.pos, cnt_zero u.pos] at this
    omega
  · rw [mem_iff v, mem_iff u]
    constructor
    · rintro ⟨h1, h2⟩
      exact ⟨h1, by rw [← h x (by omega), ← h (x - 1) (by omega)]; exact h2⟩
    · rintro ⟨h1, h2⟩
      exact ⟨h1, by rw [h x (by omega), h (x - 1) (by omega)]; exact h2⟩
theorem vl0 : Vl 0 [] := ⟨Int.le_refl _, .nil, fun x h => nomatch h⟩
theorem aft_nn {s : Int} {l : List Int} (v : Vl s l) {c : Int} (h : 0 ≤ c) : 0 ≤ aft s l c := by
  have := aft_ge v h
  have := v.s0
  omega
theorem zero_r {s : Int} {l : List Int} (v : Vl s l) : aft 0 [] s = s ∧ sumL s l [] = l :=
  ext (sum_vl v vl0) v fun c hc => by
    rw [comp v hc]
    unfold aft
    rw [cnt_nil]
    omega
theorem len_sum (s1 : Int) (l1 l2 : List Int) : ((sumL s1 l1 l2).length : Int) = l1.length + l2.length - cnt l2 s1 := by
  have e : ∀ l : List Int, ((l.filter fun r => decide (s1 < r)).length : Int) = l.length - cnt l s1 := fun l => by
    induction l with
    | nil => rfl
    | cons x l ih =>
      rw [cnt_cons, List.filter_cons]
      by_cases h : s1 < x
      · rw [if_neg (show ¬ x ≤ s1 by omega)]
        simp [h]
        omega
      · rw [if_pos (show x ≤ s1 by omega)]
        simp [h]
        omega
  unfold sumL
  rw [(isort_perm _).length_eq, List.length_append, List.length_map]
  have := e l2
  omega
end Tab
set_option maxHeartbeats 1000000
/-! Layer D, part 18: sorted(set(..)), sorted({.. for ..}). -/
namespace Dl
open PySem PySem.Spec PyProof.Rows L2 RZ
/-! ### a new set of ints, on the way -/
end Dl
set_option maxHeartbeats 1000000
/-! Layer D, part 19: {e for x in xs}, e an int. -/
namespace Dl
open PySem PySem.Spec PyProof.Rows L2 RZ
end Dl
set_option maxHeartbeats 400000
/-! Layer D, part 20: set comprehensions of ints over data. -/
namespace Dl
open PySem PySem.Spec PyProof.Rows L2 RZ
end Dl
set_option maxHeartbeats 1000000
/-! Layer D, part 21: enumerate of a tuple. -/
namespace Dl
open PySem PySem.Spec PyProof.Rows L2 RZ
open AutoSeq1 (wpAny_loadPart')
theorem newT_enum (l : Addr) (items : Array Value) (n : Nat) (dct : Option Addr) (sl : Array (Option Value)) :
    Meets (Builtin.«enumerate.__new__» ⟨[.type "enumerate", .ref l], []⟩) (fun _ R s => s.heap.get? l = some { cls := .type "tuple", dict := dct, data := .seq items n, slots := sl } ∧
      R (.ok (.ret (.ref (s.heap.push { cls := .type "tuple_iterator", data := .fields #[.ref l, .int 0 0] }).objs.size)))
        { s with heap := (s.heap.push { cls := .type "tuple_iterator", data := .fields #[.ref l, .int 0 0] }).push { cls := .type "enumerate", data := .fields #[.none, .bool false, .ref s.heap.objs.size, rawInt 0, .none, .none] } }) :=
  Meets.of_wp fun prog w A R s h => by
    obtain ⟨hp, g, d, tk, os⟩ := s
    obtain ⟨hl, h⟩ := h
    have sub := sub_enumerate
    have isT : Heap.IsTuple (Shared.heap ⟨hp, g, d, tk, os⟩) l items := ⟨_, hl, rfl, n, rfl⟩
    wp_walk using wpAny_loadPart' hl
    refine wpAny_stack_any fun st => wpAny_pure ?_
    split
    · rename_i c _ _ _ _ _
      cases (c == Value.type "enumerate")
      all_goals
        wp_walk using wpAny_loadPart' hl, wpAny_pyIter_tuple isT
        exact ⟨_, rfl, h⟩
    · wp_walk using wpAny_loadPart' hl, wpAny_pyIter_tuple isT
      exact ⟨_, rfl, h⟩
section
variable {prog : Program} {w : World} {A : Around} {E : Value → Shared → Prop} {s : Shared}
theorem call_enumT {l : Addr} {items : Array Value} {Q : Value → Shared → Prop} (hL : s.heap.IsTuple l items)
    (h : ∀ h', IsEnum h' (s.heap.objs.size + 1) s.heap.objs.size 0 .none → h'.IsTupleIter s.heap.objs.size l 0 → h'.objs.size = s.heap.objs.size + 2 → (∀ b o, s.heap.get? b = some o → h'.get? b = some o) → Q (.ref (s.heap.objs.size + 1)) { s with heap := h' }) :
    wpAny (model prog w) A (call (.type "enumerate") [.ref l]) Q E s := by
  obtain ⟨⟨c, dct, dt, sl⟩, hl, hc, n, hd⟩ := hL
  replace hc : c = .type "tuple" := hc
  replace hd : dt = .seq items n := hd
  subst hc hd
  refine callType_new F.called_enumerate (by decide) (F.typeCall_enumerate_1 _) (F.newCall_enumerate_1 _) (fun obj => F.args_object_init_2 obj _) F.entry_enumerate_new (newT_enum l items n dct sl) ⟨hl, ?_⟩
  have z1 : (s.heap.push { cls := .type "tuple_iterator", data := .fields #[.ref l, .int 0 0] }).objs.size = s.heap.objs.size + 1 := Heap.size_push ..
  show _ ∧ _
  rw [z1]
  have en := Heap.get?_push_size (s.heap.push { cls := .type "tuple_iterator", data := .fields #[.ref l, .int 0 0] }) (o := { cls := .type "enumerate", data := .fields #[.none, .bool false, .ref s.heap.objs.size, rawInt 0, .none, .none] }) rfl
  rw [z1] at en
  exact ⟨⟨_, en, rfl⟩, h _ en ⟨_, Heap.get?_push_of_some _ (Heap.get?_push_size _ rfl), rfl, rfl⟩ (by rw [Heap.size_push, z1]) fun b o x => Heap.get?_push_of_some _ (Heap.get?_push_of_some _ x)⟩
end
section
variable {prog : Program} {w : World} {A : Around} {E : Value → Shared → Prop} {s : Shared}
theorem wpAny_pyNext_enumT_end {e it l : Addr} {i : Nat} {items : Array Value} {old : Value} {Q : Option Value → Shared → Prop} (hh : A.handled = none) (he : IsEnum s.heap e it i old) (hit : s.heap.IsTupleIter it l i) (hl : s.heap.IsTuple l items) (hx : items[i]? = none)
    (hQ : ∀ h', Heap.ExtBut it s.heap h' → Q none { s with heap := h' }) : wpAny (model prog w) A (pyNext (.ref e)) Q E s := by
  have hT : s.TypeIs (.ref e) "enumerate" := ⟨_, he, rfl⟩
  unfold pyNext
  refine wpAny_bind (wpAny_attempt (wpAny_callSpecial?_slot (name := Str.ofString "__next__") hT F.slot_enumerate_next (wpAny_call_entry F.slot_enumerate_next hT F.entry_enumerate_next ?_ (F.args_enumerate_next_1 _))))
  show wpAny _ _ (field (.ref e) 2 >>= _) _ _ _
  refine wpAny_bind (wpAny_field he rfl (x := .ref it) rfl (wpAny_bind (wpAny_nextOf_tuple_end hh hit hl hx fun h' x he' ⟨o, ho, hc⟩ => ?_)))
  exact wpAny_bind (wpAny_isInstance (T := "StopIteration") (b := true) ⟨o, ho, hc⟩ isSubtype_stop (wpAny_pure (hQ _ he')))
end
/-- the tuple's items, each with its place in a new pair -/
def IteT (K : PySem.W.Frag) (a : Addr) : It :=
  ⟨fun i H => ∃ xs x, SqT K H a xs ∧ xs[i]? = some x, fun i H v H' => ∃ T x, v = .ref T ∧ H T = none ∧ H' = upd H T (.tup [.int (i : Nat), x]) ∧ ∀ xs, SqT K H a xs → xs[i]? = some x, fun i H => ∃ xs, SqT K H a xs ∧ xs.length ≤ i⟩
theorem turn_enumT {P : Program} {w : World} {K : PySem.W.Frag} {elts : List Expr} {kk : Nat} {tpos : Pos} (a e it : Addr) :
    Turn P w K (.Tuple elts kk tpos) (IteT K a) [e, it] e (fun i h => (∃ old, IsEnum h e it ((i : Nat) : Int) old) ∧ h.IsTupleIter it a i ∧ e ≠ it ∧ a ≠ it ∧ a ≠ e) where
  mem := by simp
  obj := fun i h ⟨⟨old, he⟩, ⟨o, ho, hc, hd⟩, _⟩ b hb => by
    rcases (show b = e ∨ b = it by simpa using hb) with rfl | rfl
    · exact ⟨_, he, fun v q => nomatch q⟩
    · exact ⟨o, ho, fun v q => by rw [hd] at q; cases q⟩
  keep := fun i h h' ⟨⟨old, he⟩, hi, hne⟩ k => ⟨⟨old, k e (by simp) _ he⟩, hi.at fun o q => k it (by simp) o q, hne⟩
  item := by
    intro X hP hw hK hc i pins s σ H E I hf ⟨⟨old, he⟩, hit, hne, ha, hae⟩ ⟨xs, x, hq, hx⟩
    subst hP hw hK
    obtain ⟨its, rv, p, hz⟩ := I.tuple hq
    obtain ⟨u, hu, ru⟩ := rv.get hx
    have hel : e < s.heap.objs.size := Heap.lt_size he
    have hil : it < s.heap.objs.size := by obtain ⟨_, q, _⟩ := hit; exact Heap.lt_size q
    have hl : i < its.toArray.size := by
      have := (List.getElem?_eq_some_iff.mp hu).1
      simpa using this
    have d := PySem.Draws.tuple (prog := X.prog) (w := X.w) (A := X.A.in1) (I.ok.hd hc) it a ha its.toArray
    refine wpAny_pyNext_enum_itemD d he ⟨hit, (show s.heap.IsTuple a its.toArray from p)⟩ hl hne (by simp [hne, hae.symm]) fun y h' tk hy ho hst' hT hsz hk => ?_
    obtain rfl : y = u := by
      have e1 : its.toArray[i]? = some u := by simpa using hu
      rw [e1] at hy
      exact (Option.some.inj hy).symm
    refine ⟨_, rfl, wpAny_letOwnedTupleGo_enum (s := { s with heap := h', toks := tk + 1 }) ho fun h'' he' sb => ?_⟩
    have hT2 : h''.get? s.heap.objs.size = some { cls := .type "tuple", data := .seq #[.int i tk, y] } := (sb.2 _ (Nat.ne_of_gt hel)).trans hT
    have new : ObjOk X.prog X.w (upd H s.heap.objs.size (.tup [.int (i : Nat), x])) h'' s.heap.objs.size (.tup [.int (i : Nat), x]) := ⟨by show 2 ≤ sizeLine; decide, [.int i tk, y], .cons ⟨_, rfl⟩ (.cons ru .nil), ⟨_, hT2, rfl, _, rfl⟩⟩
    have I1 : Inv X pins σ (upd H s.heap.objs.size (.tup [.int (i : Nat), x])) { s with heap := h'', toks := tk + 1 } :=
      I.turnedNew (ch := [e, it]) (fun b ob hb q => (sb.2 b (fun z => hb (by simp [z]))).trans (hk b ob (fun z => hb (by simp [z])) (fun z => hb (by simp [z])) q)) hf (Nat.le_refl _) new
    refine ⟨.ref s.heap.objs.size, _, I1, rfl, ⟨_, x, rfl, I.hok.fresh (Nat.le_refl _), rfl, fun ys hy => by rw [I.tuple_inj hy hq]; exact hx⟩, ⟨⟨y, ?_⟩, hst'.1.at fun o q => (sb.2 it (Ne.symm hne)).trans q, hne, ha, hae⟩, fun b hb => ?_⟩
    · rw [show ((i + 1 : Nat) : Int) = (i : Int) + 1 by omega]; exact he'
    · have hb' : b < s.heap.objs.size := by rcases (show b = e ∨ b = it by simpa using hb) with rfl | rfl <;> assumption
      rw [upd_ne (Nat.ne_of_lt hb')]
      exact (hf b hb).1
  done := by
    intro X hP hw hK hc i pins s σ H E I hf ⟨⟨old, he⟩, hit, hne, ha, hae⟩ ⟨xs, hq, hx⟩
    subst hP hw hK
    obtain ⟨its, rv, p, hz⟩ := I.tuple hq
    obtain ⟨f0, f1, f2, f3, f4, f5⟩ := hf it (by simp)
    have hl := rv.length
    refine wpAny_pyNext_enumT_end (I.ok.hd hc) he hit (show s.heap.IsTuple a its.toArray from p) (by simp; omega) fun h' eb => ⟨rfl, I.turned (t' := s.toks) (fun b o hb q => eb b o hb q) f0 f1 f3 f4 f5⟩
  self := fun A i s Q E ⟨⟨_, he⟩, _⟩ h => wpAny_pyIter_enum he h
def iEnumT (K : PySem.W.Frag) (ta : TA) : TI := fun σ H R => ta σ H fun vs H1 => ∃ a xs, vs = [.ref a] ∧ SqT K H1 a xs ∧ R (IteT K a) H1
theorem pi_enumT {X : Cx} {e : Expr} {ta : TA} {p pos tpos : Pos} {elts : List Expr} {kk : Nat} (hg : Gl X "enumerate") (hm : X.mg "enumerate" = none) (ha : PA X [e] ta) (hs : starEach [e] X.env = [(false, eval e X.env)] := by rfl) :
    PI X (.Tuple elts kk tpos) (.Call (.Name "enumerate" p) [e] [] pos) (iEnumT X.K ta) := by
  refine ⟨fun pins s σ H R I h => ?_⟩
  refine Call_ (ld_blt I hg hm boot_enumerate (PyProof.Rows.callWith_type1 (thn (ha.run pos pins s σ H _ I h) fun us s1 ⟨vs, H1, I1, r1, a, xs, ex, hq, q⟩ => ?_) hs rfl))
  subst ex
  obtain rfl := Vals.ref1 r1
  obtain ⟨its, rv, p', hz⟩ := I1.tuple hq
  have isT : s1.heap.IsTuple a its.toArray := p'
  have hal : a < s1.heap.objs.size := by obtain ⟨o, ho, _⟩ := isT; exact Heap.lt_size ho
  refine call_enumT isT fun h' he hit hsz hk => wpAny_pyIter_enum he ?_
  refine ⟨s1.heap.objs.size + 1, [s1.heap.objs.size + 1, s1.heap.objs.size], _, _, H1, rfl, I1.kept (t' := s1.toks) hk, turn_enumT a (s1.heap.objs.size + 1) s1.heap.objs.size, ⟨⟨.none, he⟩, hit, Nat.succ_ne_self _, Nat.ne_of_lt hal, Nat.ne_of_lt (Nat.lt_succ_of_lt hal)⟩, fun b hb => ?_, q⟩
  have hle : s1.heap.objs.size ≤ b := by rcases (show b = s1.heap.objs.size + 1 ∨ b = s1.heap.objs.size by simpa using hb) with rfl | rfl <;> omega
  exact I1.fpOk hle (I1.hok.fresh hle)
theorem walks_enumT {K : PySem.W.Frag} {mg : Str → Option Value} {B' : Hp} {p : Addr} {xs : List V} {ds : List D} (h : SqT K B' p xs) (r : AtL K mg B' xs ds) : Walks K mg (IteT K p) B' (enumD 0 ds) where
  go := fun i d Z σ1 H1 e1 B1 l S hd => by
    obtain ⟨x, hx, rfl⟩ := enumD_get hd
    obtain ⟨v, hv, rv⟩ := r.get hx
    refine ⟨⟨xs, v, seqT S.bh (seqT l h), hv⟩, fun x H2 ⟨T, x', ex, hT, eH, q1⟩ => ?_⟩
    subst ex eH
    have e1 := q1 xs (seqT S.bh (seqT l h))
    rw [hv] at e1
    cases e1
    obtain ⟨S2, l2⟩ := S.new (o := .tup [.int (i : Nat), v]) hT
    rw [Nat.zero_add]
    exact ⟨⟨_, S2, l2, .tup (SqT.of upd_same) (.cons (.int _) (.cons (rv.mono (l.trans l2)) .nil))⟩, fun a o z => by rw [upd_ne (ne_of_none z hT)]; exact z⟩
  stop := fun i Z σ1 H1 e1 B1 l S hi => ⟨xs, seqT S.bh (seqT l h), by rw [r.length]; rw [enumD_len] at hi; exact hi⟩
def dEnumA : List D → M (List D) := fun ds => li (match ds with
  | [.lst xs] => some (enumD 0 xs) | [.tup xs] => some (enumD 0 xs)
  | _ => none)
section
variable {X : Cx} {W : WX} {a : Expr} {fr : M (List D)} {p pos tpos : Pos} {elts : List Expr} {kk : Nat}
theorem pid_enumA (ha : PAD X W [a] fr) (hm : X.mg "enumerate" = none) (hg : Gl X "enumerate" := by rfl) (hs : starEach [a] X.env = [(false, eval a X.env)] := by rfl) : PID X W (.Tuple elts kk tpos) (.Call (.Name "enumerate" p) [a] [] pos) (bd fr dEnumA) := by
  obtain ⟨ta, pa, ea⟩ := ha
  refine ⟨_, pi_or (pi_enum hg hm pa hs) (pi_enumT hg hm pa hs), fun Z B σ H e R S h => ?_⟩
  have h' := wp_bd.mp h
  cases q : fr e with
  | bad => rw [q] at h'; exact False.elim h'
  | exc x e' => exact .inl (ea Z B σ H e _ S (by rw [q] at h' ⊢; exact h'))
  | ok ds e' =>
    rw [q] at h'
    obtain ⟨r, h2, h3⟩ := wp_li h'
    match ds, h2 with
    | [.lst xs], h2 =>
      cases h2
      refine .inl (ea Z B σ H e _ S (by
        rw [q]
        intro vs B1 H1 S1 l1 a1
        cases a1 with
        | cons r rr =>
          cases rr
          obtain ⟨p1, v1, rfl, g1, g2⟩ := r.lst_inv
          exact ⟨p1, v1, rfl, SqL.of (S1.bh _ _ g1), h3 _ B1 H1 S1 l1 (walks_enum (SqL.of g1) g2)⟩))
    | [.tup xs], h2 =>
      cases h2
      refine .inr (ea Z B σ H e _ S (by
        rw [q]
        intro vs B1 H1 S1 l1 a1
        cases a1 with
        | cons r rr =>
          cases rr
          obtain ⟨p1, v1, rfl, g1, g2⟩ := r.tup_inv
          exact ⟨p1, v1, rfl, seqT S1.bh g1, h3 _ B1 H1 S1 l1 (walks_enumT g1 g2)⟩))
end
end Dl
set_option maxHeartbeats 400000
/-! Layer D, part 22: chains, count, max and min of lists, tuples joined, global ints, len by an own __len__, own operators with an int. -/
namespace Dl
open PySem PySem.Spec PyProof.Rows L2 RZ
/-! ### a op b op2 c, of ints or what else the operators take; each answer a bool -/
/-! ### tuples joined -/
section
variable {K : PySem.W.Frag} {mg : Str → Option Value} {W : WX}
/-- max, min of a list of ints -/
def lMax : List Int → Option Int
  | [] => none
  | x :: r => match lMax r with
    | none => some x
    | some m => some (if m ≤ x then x else m)
theorem lMax_spec : ∀ {l : List Int} {m : Int}, lMax l = some m → m ∈ l ∧ ∀ y ∈ l, y ≤ m
  | x :: r, m, h => by
    have h : (match lMax r with
      | none => some x
      | some m => some (if m ≤ x then x else m)) = some m := h
    cases q : lMax r with
    | none =>
      rw [q] at h
      cases h
      have hr : r = [] := by
        cases r with
        | nil => rfl
        | cons y t =>
          have q : (match lMax t with
            | none => some y
            | some m => some (if m ≤ y then y else m)) = none := q
          cases q2 : lMax t <;> rw [q2] at q <;> cases q
      subst hr
      exact ⟨List.mem_cons_self, fun y hy => by simp at hy; omega⟩
    | some m' =>
      rw [q] at h
      cases h
      obtain ⟨h1, h2⟩ := lMax_spec q
      by_cases hx : m' ≤ x
      · rw [if_pos hx]
        exact ⟨List.mem_cons_self, fun y hy => by rcases List.mem_cons.mp hy with rfl | hy; omega; have := h2 y hy; omega⟩
      · rw [if_neg hx]
        exact ⟨List.mem_cons_of_mem _ h1, fun y hy => by rcases List.mem_cons.mp hy with rfl | hy; omega; exact h2 y hy⟩
def oOf (f : List Int → Option Int) : D → Option D
  | .lst xs => match toInts xs with
    | some ns => (f ns).map D.int
    | none => none
  | _ => none
theorem of_at {Z : Ent} {B : Hp} {σ : St} {H : Hp} {e : En} {v : V} {d z : D} {f : List Int → Option Int} (S : SR K mg Z B σ H e) (r : At K mg B v d) (h : oOf f d = some z) : ∃ (a : Addr) (ns : List Int) (m : Int), v = .ref a ∧ SqL K H a (ns.map V.int) ∧ f ns = some m ∧ z = .int m := by
  cases d with
  | lst xs =>
    have h : (match toInts xs with
      | some ns => (f ns).map D.int
      | none => none) = some z := h
    cases e1 : toInts xs with
    | none => rw [e1] at h; cases h
    | some ns =>
      rw [e1] at h
      have h : (f ns).map D.int = some z := h
      cases e2 : f ns with
      | none => rw [e2] at h; cases h
      | some m =>
        rw [e2] at h
        cases h
        obtain ⟨a, vs, rfl, h1, h2⟩ := r.lst_inv
        rw [toInts_eq e1] at h2
        rw [h2.ints] at h1
        exact ⟨a, ns, m, rfl, SqL.of (S.bh _ _ h1), e2, rfl⟩
  | _ => cases h
theorem cd_maxL : ClD K mg W (rMax K) (d1 (oOf lMax)) := d1_ok fun Z B σ H e v d z Q S r h q => by
  obtain ⟨a, ns, m, rfl, h1, h2, rfl⟩ := of_at S r h
  obtain ⟨s1, s2⟩ := lMax_spec h2
  refine ⟨a, ns, rfl, h1, List.length_pos_of_mem s1, fun m' k1 k2 => ?_⟩
  obtain rfl : m' = m := Int.le_antisymm (s2 m' k1) (k2 m s1)
  exact q _ B H S (Same.refl B) (.int _)
end
/-! ### xs.count(k), ints; a global int -/
end Dl
set_option maxHeartbeats 400000
/-! Layer D, part 23: several names stored at once, some of them new lists. -/
namespace Dl
open PySem PySem.Spec PyProof.Rows L2 RZ
inductive Itm where
  | d (d : D) | n (ds : List D)
/-- v is the datum, or a new list that nothing knows -/
def ItR (K : PySem.W.Frag) (mg : Str → Option Value) (Z : Ent) (B H : Hp) (σ : St) (e : En) (v : V) : Itm → Prop
  | .d d => At K mg B v d
  | .n ds => ∃ p xs, v = .ref p ∧ H p = some (.lst xs) ∧ AtL K mg B xs ds ∧ B p = none ∧ Z.H0 p = none ∧ Free σ e p
/-- .. the new ones apart -/
inductive ItsR (K : PySem.W.Frag) (mg : Str → Option Value) (Z : Ent) (B H : Hp) (σ : St) (e : En) : List V → List Itm → Prop
  | nil : ItsR K mg Z B H σ e [] []
  | cons {v : V} {vs : List V} {t : Itm} {ts : List Itm} : ItR K mg Z B H σ e v t → (∀ (ds : List D), t = .n ds → ∀ (j : Nat) (ms : List D), ts[j]? = some (Itm.n ms) → vs[j]? ≠ some v) → ItsR K mg Z B H σ e vs ts → ItsR K mg Z B H σ e (v :: vs) (t :: ts)
def PM (K : PySem.W.Frag) (mg : Str → Option Value) (Z : Ent) (B : Hp) (σ : St) (Q : List V → Hp → Prop) : List Itm → En → Prop := fun ts e' => ∀ vs B' H', SR K mg Z B' σ H' e' → Same B B' → ItsR K mg Z B' H' σ e' vs ts → Q vs H'
def EvM (K : PySem.W.Frag) (mg : Str → Option Value) (ta : TA) (f : M (List Itm)) : Prop := ∀ Z B σ H e (Q : List V → Hp → Prop), SR K mg Z B σ H e → (f e).wp (PM K mg Z B σ Q) (fun _ _ => False) → ta σ H Q
def PMD (X : Cx) (es : List Expr) (f : M (List Itm)) : Prop := ∃ ta, PA X es ta ∧ EvM X.K X.mg ta f
def nNil : M (List Itm) := pu []
def nD (fa : M D) (fr : M (List Itm)) : M (List Itm) := bd (noExc fa) fun d => bd fr fun ts => pu (.d d :: ts)
def nN (fn : M (List D)) (fr : M (List Itm)) : M (List Itm) := bd (noExc fn) fun ds => fun e => match fr (refE e) with
  | .ok ts e' => if e'.length = e.length then .ok (.n ds :: ts) (fixE [] e e') else .bad
  | _ => .bad
section
variable {K : PySem.W.Frag} {mg : Str → Option Value} {Z : Ent} {B B' : Hp} {σ : St} {H H' : Hp} {e e' : En} {W : WX}
theorem ItsR.length : ∀ {vs : List V} {ts : List Itm}, ItsR K mg Z B H σ e vs ts → vs.length = ts.length
  | _, _, .nil => rfl
  | _, _, .cons _ _ t => congrArg (· + 1) (ItsR.length t)
theorem ItsR.get : ∀ {vs : List V} {ts : List Itm} {j : Nat} {t : Itm}, ItsR K mg Z B H σ e vs ts → ts[j]? = some t → ∃ v, vs[j]? = some v ∧ ItR K mg Z B H σ e v t
  | _, _, 0, _, .cons r _ _, h => by simp at h; subst h; exact ⟨_, rfl, r⟩
  | _, _, j + 1, _, .cons _ _ t, h => by
    obtain ⟨v, h1, h2⟩ := ItsR.get (j := j) t (by simpa using h)
    exact ⟨v, by simpa using h1, h2⟩
  | _, _, _, _, .nil, h => by simp at h
/-- told in the state that was entered anew: back -/
theorem ItsR.back (S1 : SR K mg Z B σ H e) (S2 : SR K mg ⟨B, H, ownA σ e, σ⟩ B' σ H' e') (hl : e'.length = e.length) : ∀ {vs : List V} {ts : List Itm}, ItsR K mg ⟨B, H, ownA σ e, σ⟩ B' H' σ e' vs ts → ItsR K mg Z B' H' σ (fixE [] e e') vs ts
  | _, _, .nil => .nil
  | _, _, .cons (t := t) r n rr => by
    refine .cons ?_ n (ItsR.back S1 S2 hl rr)
    cases t with
    | d d => exact r
    | n ds =>
      obtain ⟨p, xs, ev, h1, h2, h3, h4, h5⟩ := r
      refine ⟨p, xs, ev, h1, h2, h3, ?_, fun i hi ei => ?_⟩
      · cases q : Z.H0 p with
        | none => rfl
        | some u =>
          obtain ⟨o', z⟩ := S1.dm p u q
          have h4 : H p = none := h4
          rw [h4] at z; cases z
      · obtain ⟨s, q, hs⟩ := ownAt_fixE hl hi
        obtain ⟨a, o, e1, e2, _⟩ := (S1.sl i s q).at_own hs
        rw [ei] at e1
        cases e1
        have h4 : H p = none := h4
        rw [h4] at e2; cases e2
variable {X : Cx} {a : Expr} {es : List Expr} {fa : M D} {fn : M (List D)} {fr : M (List Itm)} {pos : Pos}
theorem pmd_nil : PMD X [] nNil := ⟨_, pa_nil, fun Z B σ H e Q S h => h [] B H S (Same.refl B) .nil⟩
theorem pmd_d (ha : PED X WNo a fa) (hr : PMD X es fr) (hs : starEach (a :: es) X.env = (false, eval a X.env) :: starEach es X.env := by rfl) : PMD X (a :: es) (nD fa fr) := by
  obtain ⟨ta, pa, ea⟩ := ha
  obtain ⟨tr, pr, er⟩ := hr
  refine ⟨_, pa_cons pa pr hs, fun Z B σ H e Q S h => ?_⟩
  refine ea Z B σ H e _ S ((noExc_wp (wp_bd.mp h)).imp (fun d e1 h1 v B1 H1 S1 l1 a1 => ?_) fun x e' q => False.elim q)
  refine er Z B1 σ H1 e1 _ S1 ((wp_bd.mp h1).imp (fun ts e2 h2 vs B2 H2 S2 l2 a2 => ?_) fun x e' q => q)
  exact h2 _ B2 H2 S2 (l1.trans l2) (.cons (t := .d d) (a1.mono l2) (fun ds z => nomatch z) a2)
theorem pmd_n (ha : PND X WNo a fn) (hr : PMD X es fr) (hs : starEach (a :: es) X.env = (false, eval a X.env) :: starEach es X.env := by rfl) : PMD X (a :: es) (nN fn fr) := by
  obtain ⟨ta, pa, ea⟩ := ha
  obtain ⟨tr, pr, er⟩ := hr
  refine ⟨_, pa_cons pa pr hs, fun Z B σ H e Q S h => ?_⟩
  refine ea Z B σ H e _ S ((noExc_wp (wp_bd.mp h)).imp (fun ds e1 h1 p xs B1 H1 S1 l1 w1 w2 w3 w4 w5 => ?_) fun x e' q => False.elim q)
  refine er _ B1 σ H1 (refE e1) _ S1.reenter ?_
  have h1 : (match fr (refE e1) with
    | .ok ts e' => if e'.length = e1.length then Res.ok (Itm.n ds :: ts) (fixE [] e1 e') else .bad
    | _ => .bad).wp (PM X.K X.mg Z B σ Q) (fun _ _ => False) := h1
  cases q : fr (refE e1) with
  | bad => rw [q] at h1; exact h1
  | exc z e2 => rw [q] at h1; exact False.elim h1
  | ok ts e2 =>
    rw [q] at h1
    by_cases hl : e2.length = e1.length
    · simp only [if_pos hl] at h1
      intro vs B2 H2 S2 l2 r2
      have S3 := S1.exit (vs := []) S2 rfl hl
      have hB2 : B2 p = none := by
        cases q : B2 p with
        | none => rfl
        | some u =>
          rcases S2.nb p u q with z | z
          · have z : B1 p = some u := z
            rw [w3] at z; cases z
          · have z : H1 p = none := z
            rw [w1] at z; cases z
      have hH2 : H2 p = some (.lst xs) := S2.fh p _ w1 fun m => by
        obtain ⟨k, hk, ek⟩ := mem_ownA.mp m
        exact w5 k hk ek
      refine h1 (.ref p :: vs) B2 H2 S3 (l1.trans l2) (.cons (t := .n ds) ⟨p, xs, rfl, hH2, w2.mono l2, hB2, w4, fun k hk => w5 k (ownAt_fixE hl hk)⟩ (fun _ _ j ms hj ev => ?_) (r2.back S1 S2 hl))
      obtain ⟨v, hv, rv⟩ := r2.get hj
      rw [ev] at hv
      cases hv
      obtain ⟨p2, xs2, e2', _, _, _, h4, _⟩ := rv
      cases e2'
      have h4 : H1 p = none := h4
      rw [h4] at w1; cases w1
    · simp only [if_neg hl] at h1; exact False.elim h1
/-! ### stored -/
def stI : List Nat → List Itm → M Unit
  | [], [] => pu ()
  | i :: is, .d d :: ts => bd (setV i d) fun _ => stI is ts
  | i :: is, .n ds :: ts => bd (setO i ds) fun _ => stI is ts
  | _, _ => fun _ => .bad
def setsS : List Nat → List V → St → St
  | i :: is, v :: vs, σ => setsS is vs (σ.set i (some v))
  | _, _, σ => σ
theorem free_set {p q : Addr} {i : Nat} {s : Sl} (hf : Free σ e p) (hpq : s.isOwn = true → q ≠ p) : Free (σ.set i (some (.ref q))) (e.set i s) p := fun j hj ej => by
  rcases ownAt_set hj with ⟨rfl, ho⟩ | ⟨nj, hj'⟩
  · rw [List.getElem?_set] at ej
    simp only [if_true] at ej
    split at ej
    · cases ej; exact hpq ho rfl
    · cases ej
  · rw [List.getElem?_set_ne (Ne.symm nj)] at ej
    exact hf j hj' ej
theorem free_setV {p : Addr} {i : Nat} {v : V} {d : D} (hf : Free σ e p) : Free (σ.set i (some v)) (e.set i (.val d)) p := fun j hj ej => by
  rcases ownAt_set hj with ⟨rfl, ho⟩ | ⟨nj, hj'⟩
  · cases ho
  · rw [List.getElem?_set_ne (Ne.symm nj)] at ej
    exact hf j hj' ej
theorem ItsR.setV {i : Nat} {v : V} {d : D} : ∀ {vs : List V} {ts : List Itm}, ItsR K mg Z B H σ e vs ts → ItsR K mg Z B H (σ.set i (some v)) (e.set i (.val d)) vs ts
  | _, _, .nil => .nil
  | _, _, .cons (t := t) r n rr => by
    refine .cons ?_ n (ItsR.setV rr)
    cases t with
    | d d => exact r
    | n ds => obtain ⟨p, xs, ev, h1, h2, h3, h4, h5⟩ := r; exact ⟨p, xs, ev, h1, h2, h3, h4, free_setV h5⟩
theorem ItsR.setO {i : Nat} {q : Addr} {ls : List D} {vs : List V} {ts : List Itm} (r : ItsR K mg Z B H σ e vs ts) : (∀ (j : Nat) (ms : List D), ts[j]? = some (Itm.n ms) → vs[j]? ≠ some (V.ref q)) → ItsR K mg Z B H (σ.set i (some (.ref q))) (e.set i (.own false ls)) vs ts := by
  induction r with
  | nil => exact fun _ => .nil
  | @cons v vs t ts r n rr ih =>
    intro hq
    refine .cons ?_ n (ih fun j ms h => by simpa using hq (j + 1) ms (by simpa using h))
    cases t with
    | d d => exact r
    | n ds =>
      obtain ⟨p, xs, rfl, h1, h2, h3, h4, h5⟩ := r
      exact ⟨p, xs, rfl, h1, h2, h3, h4, free_set h5 fun _ z => hq 0 ds rfl (by rw [z]; rfl)⟩
theorem ItsR.keep {vs : List V} {ts : List Itm} (hk : ∀ a o, H a = some o → H' a = some o) (r : ItsR K mg Z B H σ e vs ts) : ItsR K mg Z B H' σ e vs ts := by
  induction r with
  | nil => exact .nil
  | @cons v vs t ts r n rr ih =>
    refine .cons ?_ n ih
    cases t with
    | d d => exact r
    | n ds => obtain ⟨p, xs, ev, g1, g2⟩ := r; exact ⟨p, xs, ev, hk _ _ g1, g2⟩
theorem stI_len : ∀ {is : List Nat} {ts : List Itm} {e : En} {Q : Unit → En → Prop} {E : D → En → Prop}, (stI is ts e).wp Q E → is.length = ts.length
  | [], [], _, _, _, _ => rfl
  | i :: is, .d d :: ts, _, _, _, h => congrArg (· + 1) (stI_len (is := is) (setV_wp (wp_bd.mp h)))
  | i :: is, .n ds :: ts, _, _, _, h => congrArg (· + 1) (stI_len (is := is) (setO_wp (wp_bd.mp h)))
  | [], _ :: _, _, _, _, h => False.elim h
  | _ :: _, [], _, _, _, h => False.elim h
theorem stI_ok : ∀ {is : List Nat} {ts : List Itm} {vs : List V} {σ : St} {e : En} {Q : Unit → En → Prop} {E : D → En → Prop}, SR K mg Z B σ H e → ItsR K mg Z B H σ e vs ts → (stI is ts e).wp Q E → ∃ e', SR K mg Z B (setsS is vs σ) H e' ∧ Q () e'
  | [], [], _, _, e, _, _, S, .nil, h => ⟨e, S, h⟩
  | i :: is, .d d :: ts, v :: vs, σ, e, Q, E, S, .cons r n rr, h => stI_ok (is := is) (S.set (i := i) r) rr.setV (setV_wp (wp_bd.mp h))
  | i :: is, .n ds :: ts, v :: vs, σ, e, Q, E, S, .cons r n rr, h => by
    obtain ⟨p, xs, rfl, h1, h2, h3, h4, h5⟩ := r
    exact stI_ok (is := is) (S.setO (i := i) (s := .own false ds) h5 fun _ => ⟨p, xs, rfl, h1, h2, h3, fun _ => h4, fun z => nomatch z⟩) (rr.setO fun j ms hj => n ds rfl j ms hj) (setO_wp (wp_bd.mp h))
  | [], _ :: _, _, _, _, _, _, _, _, h => False.elim h
  | _ :: _, [], _, _, _, _, _, _, .nil, h => False.elim h
def fParM (is : List Nat) (fr : M (List Itm)) : M Fl := bd (noExc fr) fun ts => bd (noExc (stI is ts)) fun _ => pu .nx
variable {b c : Expr} {i j l : Nat} {x y z : Str} {px py pz pt : Pos} {kt k2 : Nat} {pt2 : Pos}
theorem psd_par2 (i j : Nat) (hc : X.calm = true) (hN : X.N.Nodup) (hr : PMD X [a, b] fr) (hij : i ≠ j) (hi : X.N[i]? = some x := by rfl) (hj : X.N[j]? = some y := by rfl) (hx : X.env.scope.names.lookup x = some .local := by rfl) (hy : X.env.scope.names.lookup y = some .local := by rfl)
    (hw : swappedStores [.Tuple [.Name x px, .Name y py] kt pt] (.Tuple [a, b] k2 pt2) X.env = pure (some [x, y]) := by rfl) (hs : swapsWithSole [.Tuple [.Name x px, .Name y py] kt pt] (.Tuple [a, b] k2 pt2) pos.line X.env = pure false := by rfl) :
    PSD X W (.Assign [.Tuple [.Name x px, .Name y py] kt pt] (.Tuple [a, b] k2 pt2) pos) (fParM [i, j] fr) := by
  obtain ⟨ta, pa, ea⟩ := hr
  refine ⟨_, ps_par hc hN hi hj hij hx hy pa hw hs, fun Z B σ H e Y S h => ?_⟩
  refine ea Z B σ H e _ S ((noExc_wp (wp_bd.mp h)).imp (fun ts e1 h1 vs B1 H1 S1 l1 r1 => ?_) fun x e' q => q)
  have h2 := noExc_wp (wp_bd.mp h1)
  have len : vs.length = 2 := by rw [r1.length, ← stI_len h2]; rfl
  match vs, len with
  | [v1, v2], _ =>
    obtain ⟨e', S', q⟩ := stI_ok S1 r1 h2
    exact ⟨v1, v2, rfl, q _ B1 H1 S' l1⟩
end
end Dl
set_option maxHeartbeats 400000
/-! Layer D, part 24: a block within a block. -/
namespace Dl
open PySem PySem.Spec PyProof.Rows L2 RZ
end Dl
set_option maxHeartbeats 1000000
/-! Layer D, part 25: == and != of lists and tuples whose items have an own ==, either answer. -/
namespace GB
open PySem PySem.SeqAt
open AutoSeq1 (wpAny_loadPart')
open MeetsSeq MeetsSeq2 MeetsSeq3 SeqRoads2 GQ
section
variable {prog : Program} {w : World} {A : Around} {R : Result → Shared → Prop}
/-- lists, read anew at each turn -/
def ListH (prog : Program) (w : World) (A : Around) (E : Value → Shared → Prop) (l b : Addr) (N N2 : Nat) (e : Nat → Bool) (I : Shared → Prop) : Prop :=
  ∀ s, I s → ∃ (items items2 : Array Value) (n n2 : Nat), s.heap.get? l = some { cls := .type "list", data := .seq items n } ∧ s.heap.get? b = some { cls := .type "list", data := .seq items2 n2 } ∧ items.size = N ∧ items2.size = N2 ∧
    ∀ i (h1 : i < items.size) (h2 : i < items2.size), (∀ j, j < i → e j = true) → wpAny (model prog w) A.in1 (eqBool items[i] items2[i]) (fun r s' => r = e i ∧ I s') E s
def ansN (N N2 : Nat) (e : Nat → Bool) : Bool := (List.range (min N N2)).all e && N == N2
theorem ansN_false {N N2 : Nat} {e : Nat → Bool} {i : Nat} (hm : i < min N N2) (h : e i = false) : ansN N N2 e = false := by
  unfold ansN
  have : (List.range (min N N2)).all e = false := by
    rw [List.all_eq_false]
    exact ⟨i, List.mem_range.mpr hm, by simp [h]⟩
  rw [this]; rfl
theorem ansN_true {N N2 : Nat} {e : Nat → Bool} {i : Nat} (hm : min N N2 ≤ i) (h : ∀ j, j < i → e j = true) : ansN N N2 e = (N == N2) := by
  unfold ansN
  have : (List.range (min N N2)).all e = true := by
    rw [List.all_eq_true]
    exact fun j hj => h j (Nat.lt_of_lt_of_le (List.mem_range.mp hj) hm)
  rw [this]; rfl
end
end GB
set_option maxHeartbeats 1000000
/-! Layer D, part 26: == and != of lists and tuples of instances of one own class. -/
namespace Dl
open PySem PySem.Spec PyProof.Rows L2 RZ
/-! ### data that no value stands for at once -/
mutual
def dist : D → D → Bool
  | .int i, .int j => i != j
  | .bl a, .bl b => a != b
  | .str x, .str y => x != y
  | .tup xs, .tup ys => distL xs ys
  | .obj _ _ xs, .obj _ _ ys => distL xs ys
  | _, _ => false
def distL : List D → List D → Bool
  | [], [] => false
  | x :: xs, y :: ys => dist x y || distL xs ys
  | _, _ => true
end
section
variable {X : Cx} {pins : List (Addr × Obj)} {σ : St} {H B : Hp} {s : Shared} {mg : Str → Option Value}
mutual
theorem At.apart (I : Inv X pins σ H s) (l : Same B H) : ∀ {v : V} {d d' : D}, At X.K mg B v d → At X.K mg B v d' → dist d d' = true → False
  | _, _, _, .int i, .int _, h => by simp [dist] at h
  | _, _, _, .bl _, .bl _, h => by simp [dist] at h
  | _, _, _, .str _, .str _, h => by simp [dist] at h
  | _, _, _, .tup (ds := ds) h1 r1, .tup (ds := ds') h2 r2, h => by
    have e := I.tuple_inj (seqT l h1) (seqT l h2)
    subst e
    exact AtL.apart I l r1 r2 (by simpa [dist] using h)
  | _, _, _, .obj g1 h1 e1 r1, .obj g2 h2 e2 r2, h => by
    rw [h1] at h2
    injection h2 with h2
    injection h2 with _ _ h2
    subst h2
    exact AtL.apart I l r1 r2 (by simpa [dist] using h)
  | _, _, _, .non, .non, h => by simp [dist] at h
  | _, _, _, .lst _ _, .lst _ _, h => by simp [dist] at h
  | _, _, _, .scr _, .scr _, h => by simp [dist] at h
  | _, _, _, .dic _, .dic _, h => by simp [dist] at h
  | _, _, _, .cls _, .cls _, h => by simp [dist] at h
  | _, _, _, .tup _ _, .lst _ _, h => by simp [dist] at h
  | _, _, _, .tup _ _, .scr _, h => by simp [dist] at h
  | _, _, _, .tup _ _, .dic _, h => by simp [dist] at h
  | _, _, _, .tup _ _, .cls _, h => by simp [dist] at h
  | _, _, _, .tup _ _, .obj _ _ _ _, h => by simp [dist] at h
  | _, _, _, .lst _ _, .tup _ _, h => by simp [dist] at h
  | _, _, _, .lst _ _, .scr _, h => by simp [dist] at h
  | _, _, _, .lst _ _, .dic _, h => by simp [dist] at h
  | _, _, _, .lst _ _, .cls _, h => by simp [dist] at h
  | _, _, _, .lst _ _, .obj _ _ _ _, h => by simp [dist] at h
  | _, _, _, .scr _, .tup _ _, h => by simp [dist] at h
  | _, _, _, .scr _, .lst _ _, h => by simp [dist] at h
  | _, _, _, .scr _, .dic _, h => by simp [dist] at h
  | _, _, _, .scr _, .cls _, h => by simp [dist] at h
  | _, _, _, .scr _, .obj _ _ _ _, h => by simp [dist] at h
  | _, _, _, .dic _, .tup _ _, h => by simp [dist] at h
  | _, _, _, .dic _, .lst _ _, h => by simp [dist] at h
  | _, _, _, .dic _, .scr _, h => by simp [dist] at h
  | _, _, _, .dic _, .cls _, h => by simp [dist] at h
  | _, _, _, .dic _, .obj _ _ _ _, h => by simp [dist] at h
  | _, _, _, .cls _, .tup _ _, h => by simp [dist] at h
  | _, _, _, .cls _, .lst _ _, h => by simp [dist] at h
  | _, _, _, .cls _, .scr _, h => by simp [dist] at h
  | _, _, _, .cls _, .dic _, h => by simp [dist] at h
  | _, _, _, .cls _, .obj _ _ _ _, h => by simp [dist] at h
  | _, _, _, .obj _ _ _ _, .tup _ _, h => by simp [dist] at h
  | _, _, _, .obj _ _ _ _, .lst _ _, h => by simp [dist] at h
  | _, _, _, .obj _ _ _ _, .scr _, h => by simp [dist] at h
  | _, _, _, .obj _ _ _ _, .dic _, h => by simp [dist] at h
  | _, _, _, .obj _ _ _ _, .cls _, h => by simp [dist] at h
theorem AtL.apart (I : Inv X pins σ H s) (l : Same B H) : ∀ {vs : List V} {ds ds' : List D}, AtL X.K mg B vs ds → AtL X.K mg B vs ds' → distL ds ds' = true → False
  | _, _, _, .nil, .nil, h => by simp [distL] at h
  | _, _, _, .cons (d := d) (ds := ds) r t, .cons (d := d') (ds := ds') r' t', h => by
    have h : (dist d d' || distL ds ds') = true := by unfold distL at h; exact h
    rcases Bool.or_eq_true_iff.mp h with h | h
    · exact At.apart I l r r' h
    · exact AtL.apart I l t t' h
end
end
/-! ### the answer, item by item -/
def d2r (F : En → Res D) (c : Str) : D → D → Option Bool := fun x y => match x, y with
  | .obj c1 n1 s1, .obj c2 n2 s2 => if c1 = c ∧ c2 = c then (match F [.val (.obj c1 n1 s1), .val (.obj c2 n2 s2)] with
    | .ok (.bl true) _ => some true
    | .ok (.bl false) _ => if dist (.obj c1 n1 s1) (.obj c2 n2 s2) = true then some false else none
    | _ => none) else none
  | _, _ => none
def eqsO (F : En → Res D) (c : Str) : List D → List D → Option Bool
  | [], [] => some true
  | x :: xs, y :: ys => match d2r F c x y with
    | some true => eqsO F c xs ys
    | some false => some false
    | none => none
  | _, _ => some false
/-- what the answers say together -/
theorem eqsO_at {F : En → Res D} {c : Str} : ∀ {xs ys : List D} {r : Bool}, eqsO F c xs ys = some r → ∃ e : Nat → Bool, r = GB.ansN xs.length ys.length e ∧ ∀ i x y, xs[i]? = some x → ys[i]? = some y → (∀ j, j < i → e j = true) → d2r F c x y = some (e i)
  | [], [], r, h => by
    cases h
    exact ⟨fun _ => true, by simp [GB.ansN], fun i x y h1 => by simp at h1⟩
  | [], _ :: _, r, h => by
    cases h
    exact ⟨fun _ => true, by simp [GB.ansN], fun i x y h1 => by simp at h1⟩
  | _ :: _, [], r, h => by
    cases h
    exact ⟨fun _ => true, by simp [GB.ansN], fun i x y _ h1 => by simp at h1⟩
  | x :: xs, y :: ys, r, h => by
    unfold eqsO at h
    cases q : d2r F c x y with
    | none => rw [q] at h; cases h
    | some b =>
      rw [q] at h
      cases b with
      | false =>
        cases h
        refine ⟨fun _ => false, (GB.ansN_false (i := 0) (by simp) rfl).symm, fun i u v h1 h2 hal => ?_⟩
        cases i with
        | zero => simp at h1 h2; subst h1 h2; exact q
        | succ i => exact nomatch hal 0 (by omega)
      | true =>
        obtain ⟨e, hr, he⟩ := eqsO_at (xs := xs) (ys := ys) h
        refine ⟨fun i => match i with
          | 0 => true | i + 1 => e i, ?_, fun i u v h1 h2 hal => ?_⟩
        · rw [hr]
          unfold GB.ansN
          simp only [List.length_cons]
          rw [show min (xs.length + 1) (ys.length + 1) = min xs.length ys.length + 1 by omega, List.range_succ_eq_map, List.all_cons, List.all_map, Bool.true_and]
          congr 1
          rw [Bool.eq_iff_iff, beq_iff_eq, beq_iff_eq]
          omega
        · cases i with
          | zero => simp at h1 h2; subst h1 h2; exact q
          | succ i =>
            simp at h1 h2
            exact he i u v h1 h2 fun j hj => hal (j + 1) (by omega)
/-! ### the rules -/
section
variable {X : Cx} {k : Nat} {f C : Addr} {c : Str} {F : En → Res D} {W : WX}
/-- == of two items, below the running body -/
theorem eqB_item {sp : Sp} (G : FnR X.prog X.w X.K X.mg X.base (L2.CX X.prog X.w) k f sp) (hs : PySem.W.findIn X.K (.ref C) "__eq__" = some (some (.ref f))) (hf : PySem.W.isFn X.K (.ref f) = true)
    {A : Around} (sb : L2.Sub X k A) {pins : List (Addr × Obj)} {σ : St} {H : Hp} {s : Shared} (I : Inv X pins σ H s) {p q dx dy : Addr} {fs gs : List (Str × V)} {b : Bool} {J : Hp → Prop}
    (h1 : H p = some (.ins C dx fs)) (h2 : H q = some (.ins C dy gs)) (hid : p = q → b = true) (hJ : J H) (h : sp [.ref p, .ref q] H (fun v H' => v = .bl b ∧ J H') E0) :
    wpAny (model X.prog X.w) A (eqBool (.ref p) (.ref q)) (fun r s' => r = b ∧ ∃ H', Inv X pins σ H' s' ∧ J H') X.xe s := by
  by_cases hpq : p = q
  · subst hpq
    rw [hid rfl]
    exact SeqAt.EqAt.same (A := A) (s := s) (.ref p) X.prog X.w X.xe _ ⟨rfl, H, I, hJ⟩
  · refine GQ.eqBool_refG hpq ?_
    obtain ⟨mA, J1, _⟩ := ins_get I.hok h1
    obtain ⟨mB, J2, _⟩ := ins_get I.hok h2
    obtain ⟨od, J1, _⟩ := J1.look
    obtain ⟨od', J2, _⟩ := J2.look
    obtain ⟨m, hF⟩ := I.fr
    refine PySem.W.cmp_K (op := .Eq) (tb := .ref C) sb.room.units0 hF I.ok.mod.kin J1 J2.type (by simp [PySem.W.notFirst]) hs hf ?_
    have e0 : Env0 X.prog X.w X.K X.mg X.base A X.stack s H := by
      have e := I.env0
      exact ⟨by rw [sb.fr]; exact e.frames, e.mod, e.bs, e.bsz, e.funs, e.frf, e.hok, e.bare⟩
    refine wpAny_call (codeAny_mono (G A X.stack s H [.ref p, .ref q] [.ref p, .ref q] _ E0 sb.room e0 (.cons rfl (.cons rfl .nil)) h) fun r s' hq => ?_)
    cases r with
    | error er => exact False.elim (passL (X := X.nox) pins σ H s er s' (I.wish _) hq)
    | ok fl =>
      cases fl with
      | ret u =>
        obtain ⟨z, H', I', rz, ez, jz⟩ := I.after hq
        subst ez
        cases rz
        exact ⟨b, rfl, rfl, H', I', jz⟩
      | next => exact False.elim hq
      | brk => exact False.elim hq
      | cont => exact False.elim hq
/-- what two known sequences of instances are to each other -/
structure SeqB (X : Cx) (C : Addr) (sp : Sp) (xs ys : List V) (e : Nat → Bool) (J : Hp → Prop) : Prop where
  turn : ∀ i x y H, xs[i]? = some x → ys[i]? = some y → (∀ j, j < i → e j = true) → J H →
    ∃ p q dx dy fs gs, x = .ref p ∧ y = .ref q ∧ H p = some (.ins C dx fs) ∧ H q = some (.ins C dy gs) ∧ (∀ pins σ s, Inv X pins σ H s → p = q → e i = true) ∧ sp [x, y] H (fun v H' => v = .bl (e i) ∧ J H') E0
theorem turnB {sp : Sp} (G : FnR X.prog X.w X.K X.mg X.base (L2.CX X.prog X.w) k f sp) (hs : PySem.W.findIn X.K (.ref C) "__eq__" = some (some (.ref f))) (hf : PySem.W.isFn X.K (.ref f) = true)
    {A : Around} (sb : L2.Sub X (k + 1) A) {pins : List (Addr × Obj)} {σ : St} {xs ys : List V} {e : Nat → Bool} {J : Hp → Prop} (P : SeqB X C sp xs ys e J) {its its2 : List Value} (r : Vals xs its) (r2 : Vals ys its2)
    (i : Nat) (h1 : i < its.toArray.size) (h2 : i < its2.toArray.size) (s' : Shared) (hal : ∀ j, j < i → e j = true) (l : ∃ H', Inv X pins σ H' s' ∧ J H') :
    wpAny (model X.prog X.w) A.in1 (eqBool its.toArray[i] its2.toArray[i]) (fun r s2 => r = e i ∧ ∃ H', Inv X pins σ H' s2 ∧ J H') X.xe s' := by
  obtain ⟨H1, I1, j1⟩ := l
  have g1 : its[i]? = some its.toArray[i] := by
    have h1' : i < its.length := by simpa using h1
    rw [List.getElem?_eq_getElem h1'] <;> simp
  have g2 : its2[i]? = some its2.toArray[i] := by
    have h2' : i < its2.length := by simpa using h2
    rw [List.getElem?_eq_getElem h2'] <;> simp
  have k1 : i < xs.length := by rw [r.length]; simpa using h1
  have k2 : i < ys.length := by rw [r2.length]; simpa using h2
  obtain ⟨u, hu, ru⟩ := r.get (List.getElem?_eq_getElem k1)
  obtain ⟨v, hv, rv⟩ := r2.get (List.getElem?_eq_getElem k2)
  rw [g1] at hu
  rw [g2] at hv
  rw [Option.some.inj hu, Option.some.inj hv]
  obtain ⟨p, q, dx, dy, fs, gs, ex, ey, a1, a2, hid, hsp⟩ := P.turn i _ _ H1 (List.getElem?_eq_getElem k1) (List.getElem?_eq_getElem k2) hal j1
  rw [ex] at ru hsp
  rw [ey] at rv hsp
  cases ru
  cases rv
  exact eqB_item G hs hf sb.in1 I1 a1 a2 (hid _ _ _ I1) j1 hsp
/-- the data's answer is the values' -/
theorem seqB_of {Z : Ent} {B : Hp} {σ : St} {e : En} {xs ys : List V} {ds es : List D} {an : Nat → Bool} (hm : X.mg c = some (.ref C)) (ra : AtL X.K X.mg B xs ds) (rb : AtL X.K X.mg B ys es)
    (h : ∀ i x y, ds[i]? = some x → es[i]? = some y → (∀ j, j < i → an j = true) → d2r F c x y = some (an i)) :
    SeqB X C (spD X.K X.mg F) xs ys an (fun H' => ∃ B', SR X.K X.mg Z B' σ H' e ∧ Same B B') := by
  refine ⟨fun i x y H1 hx hy hal j1 => ?_⟩
  obtain ⟨B1, S1, l1⟩ := j1
  obtain ⟨d, hd, rd⟩ := ra.get' hx
  obtain ⟨d', hd', rd'⟩ := rb.get' hy
  have q := h i d d' hd hd' hal
  unfold d2r at q
  cases d with
  | obj c1 n1 s1 =>
    cases d' with
    | obj c2 n2 s2 =>
      replace q : (if c1 = c ∧ c2 = c then (match F [.val (.obj c1 n1 s1), .val (.obj c2 n2 s2)] with
        | .ok (.bl true) _ => some true
        | .ok (.bl false) _ => if dist (.obj c1 n1 s1) (.obj c2 n2 s2) = true then some false else none
        | _ => none) else none) = some (an i) := q
      by_cases hc : c1 = c ∧ c2 = c
      · replace q := (if_pos hc).symm.trans q
        obtain ⟨rfl, rfl⟩ := hc
        have rd0 := rd
        have rd0' := rd'
        obtain ⟨p, C1, dx, fs, rfl, g1, g2, g3, g4⟩ := rd.obj_inv
        obtain ⟨p2, C2, dy, gs, rfl, k1, k2, k3, k4⟩ := rd'.obj_inv
        obtain rfl := ref_inj g1 hm
        obtain rfl := ref_inj k1 hm
        have key : ∃ os, F [.val (.obj c2 n1 s1), .val (.obj c2 n2 s2)] = .ok (.bl (an i)) os ∧ (an i = false → dist (.obj c2 n1 s1) (.obj c2 n2 s2) = true) := by
          cases hF : F [.val (.obj c2 n1 s1), .val (.obj c2 n2 s2)] with
          | bad => rw [hF] at q; cases q
          | exc x os => rw [hF] at q; cases q
          | ok r os =>
            rw [hF] at q
            cases r with
            | bl bb =>
              cases bb with
              | true =>
                have q : some true = some (an i) := q
                have q := Option.some.inj q
                exact ⟨os, by rw [← q], fun z => by rw [← q] at z; cases z⟩
              | false =>
                have q : (if dist (.obj c2 n1 s1) (.obj c2 n2 s2) = true then some false else none) = some (an i) := q
                by_cases hd : dist (.obj c2 n1 s1) (.obj c2 n2 s2) = true
                · rw [if_pos hd] at q
                  have q := Option.some.inj q
                  exact ⟨os, by rw [← q], fun _ => hd⟩
                · rw [if_neg hd] at q; cases q
            | _ => cases q
        obtain ⟨os, e1, hdist⟩ := key
        refine ⟨p, p2, dx, dy, fs, gs, rfl, rfl, S1.bh _ _ (l1 _ _ g2), S1.bh _ _ (l1 _ _ k2), fun pins σ' s I hpq => ?_, ?_⟩
        · subst hpq
          cases hb : an i with
          | true => rfl
          | false => exact False.elim (At.apart I (l1.trans S1.bh) rd0 rd0' (hdist hb))
        · refine callR_ok (W := fun _ _ _ _ => False) S1 (.cons (.d (rd0.mono l1)) (.cons (.d (rd0'.mono l1)) .nil)) ?_
          rw [callR2 (e := e) e1]
          exact fun v B2 H2 S2 l2 a2 => ⟨a2.bl_inv, B2, S2, l1.trans l2⟩
      · rw [if_neg hc] at q; cases q
    | _ => cases q
  | _ => cases q
variable {j : Nat} {a b : Expr} {fa fb : M D} {pos : Pos}
end
end Dl
set_option maxHeartbeats 1000000
/-! Layer D, part 27: xs[::-1], is of bools. -/
namespace Dl
open PySem PySem.Spec PyProof.Rows L2 RZ
def dRev : D → M D := fun d => li (match d with
  | .lst xs => some (.lst xs.reverse) | _ => none)
def dIsB (neg : Bool) : D → D → M D := fun a b => li (match a, b with
  | .bl a, .bl b => some (.bl (if neg then !decide (a = b) else decide (a = b))) | _, _ => none)
section
variable {X : Cx} {W : WX} {a b e : Expr} {fa fb : M D} {pos p1 p2 p3 : Pos} {k : Nat}
theorem ped_rev (ha : PED X W e fa) : PED X W (.Subscript e (.Slice none none (some (.UnaryOp .USub (.Constant (.int 1) k p1) p2)) p3) pos) (bd fa dRev) := by
  obtain ⟨ta, pa, ea⟩ := ha
  refine ⟨_, pe_revL pa, fun Z B σ H e Q S h => ?_⟩
  refine ea.then S h (fun x e' q => q) fun d e1 v B1 H1 S1 l1 a1 h1 => ?_
  obtain ⟨r, h2, h3⟩ := wp_li h1
  cases d with
  | lst xs =>
    cases h2
    obtain ⟨p, vs, rfl, g1, g2⟩ := a1.lst_inv
    refine ⟨p, vs, rfl, SqL.of (S1.bh _ _ g1), fun q hq => ?_⟩
    obtain ⟨S2, l2⟩ := S1.new (o := .lst vs.reverse) hq
    exact h3 _ _ _ S2 (l1.trans l2) (.lst upd_same (g2.mono l2).rev)
  | _ => cases h2
theorem od_notB {K : PySem.W.Frag} {mg : Str → Option Value} : OpD K mg W rNotB (dIsB true) := by
  intro Z B σ H e x y a b Q S ha hb q
  obtain ⟨d, h1, h2⟩ := wp_li q
  cases a with
  | bl a => cases b with
    | bl b =>
      cases h1
      exact ⟨a, b, ha.bl_inv, hb.bl_inv, h2 _ B H S (Same.refl B) (.bl _)⟩
    | _ => cases h1
  | _ => cases h1
end
end Dl
set_option maxHeartbeats 400000
/-! Layer P: typed mirrors. A def's mirror over data is followed by a plain function into options; none where the mirror has no answer. -/
namespace Dl
open PySem PySem.Spec PyProof.Rows L2 RZ
/-! ### slots forgotten -/
def wkE : List Nat → En → En
  | [], e => e | j :: js, e => wkE js (e.set j .no)
def fWk (js : List Nat) (g : M Fl) : M Fl := bd g fun f => fun e => .ok f (wkE js e)
section
variable {K : PySem.W.Frag} {mg : Str → Option Value} {Z : Ent} {B : Hp} {σ : St} {H : Hp} {e : En} {X : Cx} {W : WX}
theorem wkE_own : ∀ {js : List Nat} {e : En} {i : Nat}, ownAt (wkE js e) i → ownAt e i
  | [], _, _, h => h
  | j :: js, e, i, h => by
    have h1 := wkE_own (js := js) h
    rcases ownAt_set h1 with ⟨_, z⟩ | ⟨_, z⟩
    · cases z
    · exact z
theorem SR.wk : ∀ {js : List Nat} {e : En}, SR K mg Z B σ H e → SR K mg Z B σ H (wkE js e)
  | [], _, S => S
  | j :: js, e, S => SR.wk (js := js) (S.weak (i := j) (s := .no) (fun _ => trivial) fun z => nomatch z)
theorem wk_F {js : List Nat} {Y : Ends} {f : Fl} (h : PF K mg Z B Y f (wkE js e)) : PF K mg Z B Y f e := by
  cases f with
  | nx => exact fun σ' B' H' S l => h σ' B' H' S.wk l
  | rt d => exact fun v σ' B' H' S l a => h v σ' B' H' S.wk l a
  | bk => exact fun σ' B' H' S l => h σ' B' H' S.wk l
  | ct => exact fun σ' B' H' S l => h σ' B' H' S.wk l
  | rn ds => exact fun p xs σ' B' H' S l a1 a2 a3 a4 a5 => h p xs σ' B' H' S.wk l a1 a2 a3 a4 fun i hi => a5 i (wkE_own hi)
theorem ev_wk {ts : TS} {g : M Fl} {js : List Nat} (h : EvS K mg W ts g) : EvS K mg W ts (fWk js g) := fun Z B σ H e Y S q =>
  h Z B σ H e Y S ((wp_bd.mp q).imp (fun f e1 h1 => wk_F h1) fun x e' q => q)
theorem psd_wk {st : Stmt} {g : M Fl} (js : List Nat) (h : PSD X W st g) : PSD X W st (fWk js g) := by
  obtain ⟨ts, p, e⟩ := h
  exact ⟨ts, p, ev_wk e⟩
theorem pssd_wk {sts : List Stmt} {g : M Fl} (js : List Nat) (h : PSsD X W sts g) : PSsD X W sts (fWk js g) := by
  obtain ⟨ts, p, e⟩ := h
  exact ⟨ts, p, ev_wk e⟩
end
theorem fWk_ok {js : List Nat} {g : M Fl} {f : Fl} {e e1 e2 : En} (h : g e = .ok f e1) (hw : wkE js e1 = e2) : fWk js g e = .ok f e2 := by
  unfold fWk
  rw [bd_ok h, ← hw]
/-! ### encodings -/
abbrev Stp := Bool × Int
abbrev wd (b : Bool) : Str := if b then ("insert" : Str) else ("remove" : Str)
abbrev stD (x : Stp) : D := .tup [.str (wd x.1), .int x.2]
abbrev eL {α : Type} (f : α → D) (xs : List α) : D := .lst (xs.map f)
abbrev eT {α : Type} (f : α → D) (xs : List α) : D := .tup (xs.map f)
abbrev eP {α β : Type} (f : α → D) (g : β → D) (p : α × β) : D := .tup [f p.1, g p.2]
/-- a list of two kinds -/
abbrev eH {α β : Type} (f : α → D) (g : β → D) (p : α × β) : D := .lst [f p.1, g p.2]
def eO {α : Type} (f : α → D) : Option α → D
  | none => .non | some a => f a
abbrev tD (a : Int × List Int) : D := .obj "Table" ["base", "gone"] [.int a.1, .tup (a.2.map D.int)]
abbrev sqD (xs : List Stp) : D := .obj "Sequence" ["parts"] [.tup (xs.map stD)]
def sqG {α : Type} (f : α → D) (p : Bool × List α) : D := if p.1 then .tup (p.2.map f) else .lst (p.2.map f)
/-! ### what a typed function is made of -/
inductive Fw (R S : Type) where
  | nx (s : S) | rt (r : R) | bk (s : S)
theorem bsome {α β : Type} {o : Option α} {f : α → Option β} {b : β} (h : o.bind f = some b) : ∃ a, o = some a ∧ f a = some b := by
  cases o with
  | none => cases h
  | some a => exact ⟨a, rfl, h⟩
def forS {α S : Type} (f : α → S → Option S) : List α → S → Option S
  | [], s => some s
  | x :: xs, s => (f x s).bind fun s => forS f xs s
def forF {α R S : Type} (f : α → S → Option (Fw R S)) : List α → S → Option (Fw R S)
  | [], s => some (.nx s)
  | x :: xs, s => (f x s).bind fun w => match w with
    | .nx s => forF f xs s | .bk s => some (.nx s) | .rt r => some (.rt r)
def mulP (a b : Int) : Option Int := if cMul a b = true then some (a * b) else none
def divP (a b : Int) : Option Int := if 0 < b ∧ b.natAbs.log2 < 9000 then some (a / b) else none
def modP (a b : Int) : Option Int := if 0 < b then some (a % b) else none
def appP {α : Type} (xs : List α) (x : α) : Option (List α) := if xs.length < 16777216 then some (xs ++ [x]) else none
def catP {α : Type} (xs ys : List α) : Option (List α) := if xs.length + ys.length ≤ 16777216 then some (xs ++ ys) else none
def lstP {α : Type} (xs : List α) : Option (List α) := if xs.length ≤ 16777216 then some xs else none
def putP {α : Type} (xs : List α) (k : Int) (x : α) : Option (List α) := (ixN xs.length k).map fun j => xs.set j x
def cutP {α : Type} (xs : List α) (lo hi : Option Int) : List α := (xs.drop (HT.sIx xs.length 0 lo)).take (HT.sIx xs.length xs.length hi - HT.sIx xs.length 0 lo)
def rngP (lo hi : Int) : List Int := (List.range (hi - lo).toNat).map fun (i : Nat) => lo + (i : Int)
def enumP {α : Type} : Nat → List α → List (Int × α)
  | n, x :: xs => ((n : Int), x) :: enumP (n + 1) xs
  | _, [] => []
/-- a comprehension whose body always answers -/
def lcT {α β : Type} (xs : List α) (p : α → Bool) (g : α → β) : Option (List β) := if xs.length ≤ 16777216 then some ((xs.filter p).map g) else none
/-- .. that may have no answer -/
def lcO {α β : Type} (f : α → Option (Option β)) : List α → Option (List β)
  | [] => some []
  | x :: xs => (f x).bind fun o => (lcO f xs).bind fun r => some (match o with
    | some y => y :: r | none => r)
/-- .. that changes what stands outside -/
def lcS {α β S : Type} (f : α → S → Option (β × S)) : List α → S → Option (List β × S)
  | [], s => some ([], s)
  | x :: xs, s => (f x s).bind fun r => (lcS f xs r.2).bind fun q => some (r.1 :: q.1, q.2)
def lcG {α β : Type} (f : α → Option (Option β)) (xs : List α) : Option (List β) := if xs.length ≤ 16777216 then lcO f xs else none
def lcH {α β S : Type} (f : α → S → Option (β × S)) (xs : List α) (s : S) : Option (List β × S) := if xs.length ≤ 16777216 then lcS f xs s else none
/-- == of lists of instances, by their own == -/
def eqOP {α : Type} (f : α → α → Option Bool) (enc : α → D) : List α → List α → Option Bool
  | [], [] => some true
  | x :: xs, y :: ys => (f x y).bind fun b => if b = true then eqOP f enc xs ys else if dist (enc x) (enc y) = true then some false else none
  | _, _ => some false
end Dl
set_option maxHeartbeats 4000000
/-! Layer D, part 28: tuple * int, of any number. -/
namespace Dl
open PySem PySem.Spec PyProof.Rows L2 RZ
end Dl
set_option maxHeartbeats 400000
/-! Layer D, part 29: an own operator with an int on the right. -/
namespace Dl
open PySem PySem.Spec PyProof.Rows L2 RZ
end Dl
set_option maxHeartbeats 400000
/-! Layer D, part 30: three names stored at once, one of them read in a block. -/
namespace Dl
open PySem PySem.Spec PyProof.Rows L2 RZ
end Dl
set_option maxHeartbeats 400000
/-! Layer D: x.pop(i) of a list of one's own, and the match statement over tuples of a word and one more. -/
namespace Dl
open PySem PySem.Spec PyProof.Rows L2
/-! ### x.pop(i) -/
def popOI (i : Nat) (k : D) : M D := fun e => match e[i]?, k with
  | some (.own r ds), .int z => if -(2 ^ 63) ≤ z ∧ z < 2 ^ 63 then (match seqIndex? z ds.length with
    | some j => (match ds[j]? with | some d => .ok d (e.set i (.own r (ds.eraseIdx j))) | none => .bad)
    | none => .bad) else .bad
  | _, _ => .bad
def fPop (i : Nat) (fk : M D) : M D := bd (isL i) fun _ => bd fk fun k => noExc (popOI i k)
theorem popOI_wp {i : Nat} {k : D} {e : En} {Q : D → En → Prop} {E : D → En → Prop} (h : (popOI i k e).wp Q E) : ∃ r ds z j d, e[i]? = some (.own r ds) ∧ k = .int z ∧ -(2 ^ 63) ≤ z ∧ z < 2 ^ 63 ∧ seqIndex? z ds.length = some j ∧ ds[j]? = some d ∧ Q d (e.set i (.own r (ds.eraseIdx j))) := by
  unfold popOI at h
  split at h
  · rename_i r ds z q
    split at h
    · rename_i hz
      split at h
      · rename_i j hj
        split at h
        · rename_i d hd
          exact ⟨r, ds, z, j, d, q, rfl, hz.1, hz.2, hj, hd, h⟩
        · exact False.elim h
      · exact False.elim h
    · exact False.elim h
  · exact False.elim h
theorem AtL.erase {K : PySem.W.Frag} {mg : Str → Option Value} {B : Hp} : ∀ {xs : List V} {ds : List D} (i : Nat), AtL K mg B xs ds → AtL K mg B (xs.eraseIdx i) (ds.eraseIdx i)
  | _, _, _, .nil => .nil
  | _, _, 0, .cons _ t => t
  | _, _, i + 1, .cons r t => .cons r (AtL.erase i t)
section
variable {X : Cx} {W : WX} {x : Str} {a : Expr} {fa : M D} {px pos apos : Pos}
theorem ped_pop (i : Nat) {cpos : Pos} (ha : PED X W a fa) (hN : X.N[i]? = some x := by rfl) (hv : Vis X.env.scope x := by first | exact Or.inl rfl | exact Or.inr (Or.inl rfl) | exact Or.inr (Or.inr rfl)) (hd : (x == ("__debug__" : Str)) = false := by decide) (hcd : (x == ("__classdict__" : Str)) = false := by decide)
    (hbase : attributeBase (.Name x px) "pop" X.env (eval (.Name x px) X.env) = eval (.Name x px) X.env := by rfl)
    (hfew : ((backTo cpos (starEach [a] X.env)).all (fun x => !x.1) && (backToKw cpos (keywordEach [] X.env)).all (fun x => x.1.isSome) && decide ([a].length + ([] : List Keyword).length + (if ([] : List Keyword).isEmpty then 0 else 1) < 30)) = true := by rfl)
    (hline : (apos.endLine == cpos.line) = true := by rfl) (hs : starEach [a] X.env = (false, eval a X.env) :: starEach [] X.env := by rfl) (hplain : (backTo cpos (starEach [] X.env)).any (·.1) = false := by rfl) :
    PED X W (.Call (.Attribute (.Name x px) "pop" apos) [a] [] cpos) (fPop i fa) := by
  obtain ⟨ta, pa, ea⟩ := ha
  refine ⟨_, pe_bm PySem.F.plainAttrs_list PySem.F.slot_list_pop PySem.F.type_list_pop mt_popAt (pe_var hN hv hd hcd) (pa_cons pa pa_nil hs) hbase hfew hline hs hplain, fun Z B σ H e Q S h => ?_⟩
  obtain ⟨⟨r, ds, q⟩, h⟩ := isL_wp (wp_bd.mp h)
  obtain ⟨p, xs, e1, h1, _⟩ := S.own q
  refine ⟨_, e1, .inl ⟨rfl, _, SqL.of h1⟩, ?_⟩
  refine ea.then S h (fun x e' q => q) fun d e2 v B1 H1 S1 l1 a1 h2 => ?_
  obtain ⟨r2, ds2, z, j, d2, q2, rfl, z1, z2, hj, hd2, h3⟩ := popOI_wp (noExc_wp h2)
  obtain ⟨p2, xs2, e3, w1, w2, _⟩ := S1.own q2
  rw [e1] at e3
  cases e3
  obtain ⟨y, g1, g2⟩ := w2.get hd2
  exact ⟨p, xs2, z, j, y, rfl, by rw [a1.int_inv], w1, z1, z2, by rw [w2.length]; exact hj, g1, h3 y B1 _ (S1.putL q2 e1 (w2.erase j)) l1 g2⟩
end
/-! ### match -/
end Dl
set_option maxHeartbeats 400000
/-! Layer D: defs that are called where no display is under way; repr. -/
namespace Dl
open PySem PySem.Spec PyProof.Rows L2
/-! ### calls of such defs -/
/-! ### repr -/
/-! ### == and != of texts -/
/-! ### the end -/
end Dl
set_option maxHeartbeats 400000
/-! Layer D: list(range(a, b)). -/
namespace Dl
open PySem PySem.Spec PyProof.Rows L2
def rgI (i j : Int) : List Int := (List.range (j - i).toNat).map fun (n : Nat) => i + (n : Int)
def rgOk (i j : Int) : Prop := -(2 ^ 62) ≤ i ∧ i < 2 ^ 62 ∧ -(2 ^ 62) ≤ j ∧ j < 2 ^ 62 ∧ (j - i).toNat ≤ 2 ^ 24
instance (i j : Int) : Decidable (rgOk i j) := by unfold rgOk; infer_instance
def fListRg (fa fb : M D) : M (List D) := bd fa fun x => bd fb fun y => li (match x, y with
  | .int i, .int j => if rgOk i j then some ((rgI i j).map D.int) else none
  | _, _ => none)
theorem pnd_listRg {X : Cx} {W : WX} {a b : Expr} {fa fb : M D} {p pos rp rpos : Pos} (hc : X.calm = true) (ha : PED X W a fa) (hb : PED X W b fb) (h1 : X.mg "list" = none) (h2 : X.mg "range" = none) (g1 : Gl X "list" := by rfl) (g2 : Gl X "range" := by rfl)
    (na : starEach [a, b] X.env = (false, eval a X.env) :: starEach [b] X.env := by rfl) (nb : starEach [b] X.env = (false, eval b X.env) :: starEach [] X.env := by rfl) (np : (backTo rpos (starEach [b] X.env)).any (·.1) = false := by rfl) :
    PND X W (.Call (.Name "list" p) [.Call (.Name "range" rp) [a, b] [] rpos] [] pos) (fListRg fa fb) := by
  obtain ⟨ta, pa, ea⟩ := ha
  obtain ⟨tb, pb, eb⟩ := hb
  refine ⟨_, pe_listRg hc g1 h1 (prg_2 g2 h2 pa pb na nb np), fun Z B σ H e Q S h => ?_⟩
  refine ea.then S h (fun x e' q => q) fun d e1 v B1 H1 S1 l1 a1 h3 => ?_
  refine eb.then S1 h3 (fun x e' q => PX.up l1 q) fun d2 e2 v2 B2 H2 S2 l2 a2 h4 => ?_
  obtain ⟨z, hz, q⟩ := wp_li h4
  cases d with
  | int i => cases d2 with
    | int j =>
      have hz : (if rgOk i j then some ((rgI i j).map D.int) else none) = some z := hz
      split at hz
      · rename_i ok
        cases hz
        refine ⟨i, j, (a1.int_inv), (a2.int_inv), ok, fun p hp => ?_⟩
        obtain ⟨S3, hB, h0, hf⟩ := S2.newO (o := .lst (rgV i j)) hp
        have e : rgV i j = (rgI i j).map V.int := by unfold rgV rgI; rw [List.map_map]; rfl
        exact q p _ B2 _ S3 (l1.trans l2) upd_same (by rw [e]; exact .of_ints _) hB h0 hf
      · cases hz
    | _ => cases hz
  | _ => cases hz
end Dl
set_option maxHeartbeats 4000000
/-! Layer D: own exceptions over any built-in exception whose facts are given. -/
namespace Dl
open PySem PySem.Spec PyProof.Rows L2
section
open PySem.Builtin PySem.Builtin.ObjectAttr
/-- what the written part says of an exception class; i: the __init__ of its built-in base -/
structure OexG (K : PySem.W.Frag) (i : String) (C : Addr) : Prop where
  cls : ∃ nm q N bs bm sn sub ab col dd k0 k1 k2 k3 k5 B nw bmB, K.lookup C = some (excClassObj nm q C N bs bm true sn sub ab col dd k0 k1 k2 k3 k5 nw) ∧ ExcBaseFacts B nw i bmB ∧ (∀ X : String, bm.contains (.type X) = bmB.contains (.type X)) ∧ (∀ self, refuseLoop self "__setattr__" (.ref C :: bm) = pure ()) ∧ bmB.contains (.type "object") = true
  sa : PySem.W.findIn K (.ref C) "__setattr__" = some (some (.builtin "object.__setattr__"))
  ex : PySem.W.subIn K (.ref C) (.type "BaseException") = some true
  ty : PySem.W.typeIn K (.ref C) = some (.type "type")
  kp : PySem.W.keepIn K (.ref C) = true
/-- a class right over the built-in one -/
theorem OexG.one {K : PySem.W.Frag} {C : Addr} {i B nw : String} {bm : List Value} {sa ow : String} (F : ExcBaseFacts B nw i bm) (S : StoreFacts B bm sa ow) (ob : bm.contains (.type "object") = true)
    (cls : ∃ nm q N bs sn sub ab col dd k0 k1 k2 k3 k5, K.lookup C = some (excClassObj nm q C N bs bm true sn sub ab col dd k0 k1 k2 k3 k5 nw)) (h1 : PySem.W.findIn K (.ref C) "__setattr__" = some (some (.builtin "object.__setattr__")))
    (h2 : PySem.W.subIn K (.ref C) (.type "BaseException") = some true) (h3 : PySem.W.typeIn K (.ref C) = some (.type "type")) (h4 : PySem.W.keepIn K (.ref C) = true) : OexG K i C := by
  obtain ⟨nm, q, N, bs, sn, sub, ab, col, dd, k0, k1, k2, k3, k5, e⟩ := cls
  refine ⟨⟨nm, q, N, bs, bm, sn, sub, ab, col, dd, k0, k1, k2, k3, k5, _, _, _, e, F, fun _ => rfl, fun self => ?_, ob⟩, h1, h2, h3, h4⟩
  rw [refuseLoop_ref]
  exact S.passes self
end
/-! ### readings -/
end Dl
set_option maxHeartbeats 400000
/-! Layer D: own exceptions with one field: raise, try .. except X as e. -/
namespace Dl
open PySem PySem.Spec PyProof.Rows L2
/-! ### the class -/
/-! ### raise -/
/-! ### what an except suite reads -/
/-- slot i holds the exception that stands for x -/
def Ltx (K : PySem.W.Frag) (mg : Str → Option Value) (i : Nat) (a : Addr) (cls : Value) (dd : Option Addr) (x : D) (B : Hp) (σ : St) : Prop := σ[i]? = some (some (.ref a)) ∧ XAt K mg B B x cls dd
theorem Ltx.up {K : PySem.W.Frag} {mg : Str → Option Value} {i : Nat} {a : Addr} {cls : Value} {dd : Option Addr} {x : D} {B B' : Hp} {σ : St} (l : Same B B') (h : Ltx K mg i a cls dd x B σ) : Ltx K mg i a cls dd x B' σ := by
  obtain ⟨h1, c, n, d, C, q, v, h2, h3, h4, h5, h6, h7⟩ := h
  exact ⟨h1, c, n, d, C, q, v, h2, h3, h4, h5, l _ _ h6, h7.mono l⟩
abbrev LP := D → Hp → St → Prop
def Lup (L : LP) : Prop := ∀ x B B' σ, Same B B' → L x B σ → L x B' σ
def EvDr (L : LP) (K : PySem.W.Frag) (mg : Str → Option Value) (te : TE) (g : D → M D) : Prop := ∀ x Z B σ H e (Q : VK), L x B σ → SR K mg Z B σ H e → (g x e).wp (PV K mg Z B σ Q) (fun _ _ => False) → te σ H Q
def EvLr (L : LP) (K : PySem.W.Frag) (mg : Str → Option Value) (ta : TA) (g : D → M (List D)) : Prop := ∀ x Z B σ H e (Q : List V → Hp → Prop), L x B σ → SR K mg Z B σ H e → (g x e).wp (PL K mg Z B σ Q) (fun _ _ => False) → ta σ H Q
section
variable {L : LP} {K : PySem.W.Frag} {mg : Str → Option Value} {Z : Ent} {B : Hp} {σ : St}
theorem EvDr.then {α : Type} {P : α → En → Prop} {ta : TE} {ga : D → M D} {x : D} {k : D → M α} (up : Lup L) (ha : EvDr L K mg ta ga) {H : Hp} {e : En} {Q : VK} (hx : L x B σ) (S : SR K mg Z B σ H e) (h : (bd (ga x) k e).wp P (fun _ _ => False))
    (kk : ∀ d e' v B' H', L x B' σ → SR K mg Z B' σ H' e' → Same B B' → At K mg B' v d → (k d e').wp P (fun _ _ => False) → Q v H') : ta σ H Q :=
  ha x Z B σ H e Q hx S ((wp_bd.mp h).imp (fun d e' q v B' H' S' l a => kk d e' v B' H' (up _ _ _ _ l hx) S' l a q) fun _ _ q => q)
theorem EvLr.then {α : Type} {P : α → En → Prop} {ta : TA} {ga : D → M (List D)} {x : D} {k : List D → M α} (up : Lup L) (ha : EvLr L K mg ta ga) {H : Hp} {e : En} {Q : List V → Hp → Prop} (hx : L x B σ) (S : SR K mg Z B σ H e) (h : (bd (ga x) k e).wp P (fun _ _ => False))
    (kk : ∀ d e' v B' H', L x B' σ → SR K mg Z B' σ H' e' → Same B B' → AtL K mg B' v d → (k d e').wp P (fun _ _ => False) → Q v H') : ta σ H Q :=
  ha x Z B σ H e Q hx S ((wp_bd.mp h).imp (fun d e' q v B' H' S' l a => kk d e' v B' H' (up _ _ _ _ l hx) S' l a q) fun _ _ q => q)
end
/-! ### e.f and isinstance(e, C) -/
/-! ### try -/
theorem SR.drop {K : PySem.W.Frag} {mg : Str → Option Value} {Z : Ent} {B : Hp} {σ : St} {H : Hp} {e : En} (i : Nat) (u : Option V) (S : SR K mg Z B σ H e) : SR K mg Z B (σ.set i u) H (e.set i .no) := by
  have own : ∀ j, ownAt (e.set i .no) j → j ≠ i ∧ ownAt e j := fun j ⟨s, q, hs⟩ => by
    by_cases hj : i = j
    · subst hj
      rw [List.getElem?_set] at q
      simp only [if_true] at q
      split at q
      · cases q; cases hs
      · cases q
    · rw [List.getElem?_set_ne hj] at q
      exact ⟨Ne.symm hj, s, q, hs⟩
  refine ⟨S.le, S.bh, S.fh, S.nb, S.dm, by rw [List.length_set, List.length_set]; exact S.ln, fun j s q => ?_, fun j k b hjk hj hk e1 e2 => ?_⟩
  · by_cases hj : i = j
    · subst hj
      rw [List.getElem?_set] at q
      simp only [if_true] at q
      split at q
      · cases q; trivial
      · cases q
    · rw [List.getElem?_set_ne hj] at q
      rw [List.getElem?_set_ne hj]
      exact S.sl j s q
  · obtain ⟨n1, o1⟩ := own j hj
    obtain ⟨n2, o2⟩ := own k hk
    rw [List.getElem?_set_ne (Ne.symm n1)] at e1
    rw [List.getElem?_set_ne (Ne.symm n2)] at e2
    exact S.ds j k b hjk o1 o2 e1 e2
/-! ### a class method through an instance -/
end Dl
set_option maxHeartbeats 1000000
/-! Layer D: != of lists of instances of one own class. -/
namespace GB
open PySem PySem.SeqAt
open AutoSeq1 (wpAny_loadPart')
open MeetsSeq MeetsSeq2 MeetsSeq3 SeqRoads2 GQ
section
variable {prog : Program} {w : World} {A : Around} {R : Result → Shared → Prop}
theorem list_loopN (l b : Addr) (N : Nat) (e : Nat → Bool) (I : Shared → Prop) (hI : ListH prog w A (fun e s' => R (.error e) s') l b N N e I)
    (fin : ∀ s, I s → R (.ok (.ret (.bool (!ansN N N e)))) s) (k : Nat) :
    ∀ i : Nat, N - i = k → i ≤ N → (∀ j, j < i → e j = true) → ∀ s, I s →
      wpAny (model prog w) A.in1 (Builtin.«list.__eq__.loop» ⟨[.ref l, .ref b, rawInt i, rawInt 3], []⟩) (FinOf prog w A R) (fun e s' => R (.error e) s') s := by
  induction k with
  | zero =>
    intro i hk hi hal s h
    obtain ⟨items, items2, n, n2, hl1, hb1, s1, s2, _⟩ := hI s h
    have hR := fin s h
    rw [ansN_true (i := i) (by omega) hal] at hR
    obtain ⟨hp, g, d, tk, os⟩ := s
    wp_walk using wpAny_loadPart' hl1, wpAny_loadPart' hb1
    have hi1 : items[((i : Nat) : Int).toNat]? = none := by simp; omega
    have hi2 : items2[((i : Nat) : Int).toNat]? = none := by simp; omega
    rw [hi1, hi2]
    wp_walk using wpAny_loadPart' hl1, wpAny_loadPart' hb1
    show R (.ok (.ret (.bool (items.size != items2.size)))) _
    rw [s1, s2]
    exact hR
  | succ k ih =>
    intro i hk hi hal s h
    obtain ⟨items, items2, n, n2, hl1, hb1, s1, s2, turn⟩ := hI s h
    have hlt : i < items.size := by omega
    have hlt2 : i < items2.size := by omega
    have ht := turn i hlt hlt2 hal
    obtain ⟨hp, g, d, tk, os⟩ := s
    wp_walk using wpAny_loadPart' hl1, wpAny_loadPart' hb1
    have hi1 : items[((i : Nat) : Int).toNat]? = some items[i] := by simp [hlt]
    have hi2 : items2[((i : Nat) : Int).toNat]? = some items2[i] := by simp [hlt2]
    have hc : ((i : Int) + 1) = ((i + 1 : Nat) : Int) := by omega
    rw [hi1, hi2]
    refine wpAny_bind (wpAny_mono ht (fun r s2 h2 => ?_) fun _ _ x => x)
    obtain ⟨hr, h2⟩ := h2
    subst hr
    have hR := fin s2 h2
    obtain ⟨its, its2, m, m2, hl3, hb3, s3, s4, _⟩ := hI s2 h2
    cases hb' : e i with
    | true =>
      have hrec := ih (i + 1) (by omega) (by omega) (fun j hj => by
        rcases Nat.lt_or_eq_of_le (Nat.le_of_lt_succ hj) with z | rfl
        · exact hal j z
        · exact hb') s2 h2
      obtain ⟨hp2, g2, d2, tk2, os2⟩ := s2
      wp_walk
      rw [hc]
      exact ⟨plainId_quiet plain_eq_loop _, codeAny_builtin entry_eq_loop (by
        rw [Around.under_plainId plain_eq_loop _]
        exact hrec)⟩
    | false =>
      rw [ansN_false (i := i) (by omega) hb'] at hR
      obtain ⟨hp2, g2, d2, tk2, os2⟩ := s2
      wp_walk using wpAny_loadPart' hl3, wpAny_loadPart' hb3
      have hi3 : its[((i : Nat) : Int).toNat]? = some (its[i]'(by omega)) := by simp [show i < its.size by omega]
      have hi4 : its2[((i : Nat) : Int).toNat]? = some (its2[i]'(by omega)) := by simp [show i < its2.size by omega]
      rw [hi3, hi4]
      wp_walk
      simpa using hR
theorem list_neH (l b : Addr) (N N2 : Nat) (e : Nat → Bool) (I : Shared → Prop) (hI : ListH prog w A (fun e s' => R (.error e) s') l b N N2 e I)
    (fin : ∀ s, I s → R (.ok (.ret (.bool (!ansN N N2 e)))) s) {s : Shared} (h : I s) :
    wpAny (model prog w) A.in1 (Builtin.«list.__ne__» ⟨[.ref l, .ref b], []⟩) (FinOf prog w A R) (fun e s' => R (.error e) s') s := by
  obtain ⟨items, items2, n, n2, hl1, hb1, s1, s2, _⟩ := hI s h
  by_cases hsz : N = N2
  · subst hsz
    have hrec := list_loopN (A := A) (R := R) l b N e I hI fin _ 0 rfl (Nat.zero_le _) (fun j hj => absurd hj (Nat.not_lt_zero j)) s h
    obtain ⟨hp, g, d, tk, os⟩ := s
    have f3 := AutoSeq1.sub_list_list
    have hne : ¬ (items.size != items2.size) = true := by simp [s1, s2]
    wp_walk using wpAny_loadPart' hl1, wpAny_loadPart' hb1
    exact ⟨plainId_quiet plain_eq_loop _, codeAny_builtin entry_eq_loop (by
      rw [Around.under_plainId plain_eq_loop _]
      exact hrec)⟩
  · have hR := fin s h
    have ha : ansN N N2 e = false := by
      unfold ansN
      rw [show (N == N2) = false from beq_eq_false_iff_ne.mpr hsz, Bool.and_false]
    rw [ha] at hR
    obtain ⟨hp, g, d, tk, os⟩ := s
    have f3 := AutoSeq1.sub_list_list
    have hc0 : (items.size != items2.size) = true := by simp [s1, s2, hsz]
    wp_walk using wpAny_loadPart' hl1, wpAny_loadPart' hb1
    exact hR
end
section
variable {prog : Program} {w : World} {A : Around} {E : Value → Shared → Prop} {s : Shared}
theorem rn_listH {l b : Addr} {N N2 : Nat} {Q : Value → Shared → Prop} (e : Nat → Bool) (hu : A.units < cLine) (I : Shared → Prop) (hI : ListH prog w A E l b N N2 e I)
    (fin : ∀ s, I s → Q (.bool (!ansN N N2 e)) s) (h : I s) : wpAny (model prog w) A (richCompare .NotEq (.ref l) (.ref b)) Q E s := by
  obtain ⟨items, items2, n, n2, hl1, hb1, _, _, _⟩ := hI s h
  refine wpAny_richCompare_same_room (op := .NotEq) ⟨_, hl1, rfl⟩ ⟨_, hb1, rfl⟩ F.slot_list_ne (call_here F.slot_list_ne ⟨_, hl1, rfl⟩ F.entry_list_ne (F.args_list_ne_2 _ _) ?_) hu
  exact list_neH (R := wants (fun v s' => v ≠ .notImplemented ∧ Q v s') E) l b N N2 e I hI (fun s' q => ⟨(fun x => nomatch x), fin s' q⟩) h
end
end GB
namespace Dl
open PySem PySem.Spec PyProof.Rows L2 RZ
section
variable {X : Cx} {k : Nat} {f C : Addr} {c : Str} {F : En → Res D} {W : WX}
def rNeL (X : Cx) (C : Addr) (sp : Sp) : R2 := fun x y H Q => ∃ a b xs ys e J, x = .ref a ∧ y = .ref b ∧ J H ∧ (∀ H', J H' → H' a = some (.lst xs) ∧ H' b = some (.lst ys)) ∧ SeqB X C sp xs ys e J ∧ ∀ H', J H' → Q (.bl (!GB.ansN xs.length ys.length e)) H'
theorem opr_neL {sp : Sp} (G : FnR X.prog X.w X.K X.mg X.base (L2.CX X.prog X.w) k f sp) (hs : PySem.W.findIn X.K (.ref C) "__eq__" = some (some (.ref f))) (hf : PySem.W.isFn X.K (.ref f) = true) (hr : Room (k + 1) X.A) : OpR X (compareOp .NotEq) (rNeL X C sp) := by
  intro pins s σ H x y v u Q I rx ry h
  obtain ⟨a, b, xs, ys, e, J, rfl, rfl, hj, hl, P, hq⟩ := h
  cases rx
  cases ry
  show wpAny (model X.prog X.w) X.A (richCompare .NotEq (.ref a) (.ref b)) (EP X pins σ Q) X.xe s
  refine GB.rn_listH (N := xs.length) (N2 := ys.length) e hr.units0 (fun s' => ∃ H', Inv X pins σ H' s' ∧ J H') (fun s' q => ?_) (fun s' q => ?_) ⟨H, I, hj⟩
  · obtain ⟨H1, I1, j1⟩ := id q
    obtain ⟨g1, g2⟩ := hl H1 j1
    obtain ⟨z, its, n, r, e1⟩ := I1.hok a _ g1
    obtain ⟨z2, its2, n2, r2, e2⟩ := I1.hok b _ g2
    exact ⟨its.toArray, its2.toArray, n, n2, e1, e2, by rw [List.size_toArray, ← r.length], by rw [List.size_toArray, ← r2.length], fun i h1 h2 hal => turnB G hs hf ⟨hr, rfl⟩ P r r2 i h1 h2 s' hal q⟩
  · obtain ⟨H', I', j'⟩ := q
    exact ⟨.bl (!GB.ansN xs.length ys.length e), H', I', rfl, hq H' j'⟩
def dNeOL (F : En → Res D) (c : Str) : D → D → M D := fun a b => li (match a, b with
  | .lst xs, .lst ys => (eqsO F c xs ys).map fun b => D.bl (!b)
  | _, _ => none)
theorem od_neOL (hm : X.mg c = some (.ref C)) : OpD X.K X.mg W (rNeL X C (spD X.K X.mg F)) (dNeOL F c) := by
  intro Z B σ H e x y a b Q S ha hb q
  obtain ⟨d, h1, h2⟩ := wp_li q
  cases a with
  | lst ds => cases b with
    | lst es =>
      obtain ⟨p, xs, rfl, g1, g2⟩ := ha.lst_inv
      obtain ⟨p2, ys, rfl, k1, k2⟩ := hb.lst_inv
      have h1 : (eqsO F c ds es).map (fun b => D.bl (!b)) = some d := h1
      cases hq : eqsO F c ds es with
      | none => rw [hq] at h1; cases h1
      | some r =>
        rw [hq] at h1
        cases h1
        obtain ⟨an, hr, han⟩ := eqsO_at hq
        refine ⟨p, p2, xs, ys, an, _, rfl, rfl, ⟨B, S, Same.refl B⟩, fun H' j => ?_, seqB_of (Z := Z) (σ := σ) (e := e) hm g2 k2 han, fun H' j => ?_⟩
        · obtain ⟨B', S', l'⟩ := j
          exact ⟨S'.bh _ _ (l' _ _ g1), S'.bh _ _ (l' _ _ k1)⟩
        · obtain ⟨B', S', l'⟩ := j
          have := h2 (.bl (!r)) B' H' S' l' (.bl (!r))
          rw [hr, ← g2.length, ← k2.length] at this
          exact this
    | _ => cases h1
  | _ => cases h1
variable {j : Nat} {a b : Expr} {fa fb : M D} {pos : Pos}
theorem pbd_neOL (cf : OpI X.prog X.w X.K X.mg X.base k c "__eq__" F) (hr : Room j X.A) (hk : k + 1 ≤ j) (ha : PED X W a fa) (hb : PED X W b fb) (h1 : behindInMarks .NotEq b = false := by first | exact nobehind _ (by decide) (by decide) | rfl) : PBD X W (.Compare a [.NotEq] [b] pos) (fB (f2 (dNeOL F c) fa fb)) := by
  obtain ⟨C, f, hm, hs, hf, sf, G⟩ := cf
  exact pbd_cmp (opr_neL G hs hf (hr.mono hk)) (od_neOL hm) ha hb h1
end
end Dl
set_option maxHeartbeats 1000000
/-! Layer D: several except clauses, each with a name. -/
namespace Dl
open PySem PySem.Spec PyProof.Rows L2
/-! ### over data -/
end Dl
set_option maxHeartbeats 400000
/-! Layer D: the empty dict as a value, repr of it. -/
namespace Dl
open PySem PySem.Spec PyProof.Rows L2
end Dl
set_option maxHeartbeats 400000
/-! Layer D: own == and != with values of built-in classes. -/
namespace Dl
open PySem PySem.Spec PyProof.Rows L2
end Dl
set_option maxHeartbeats 400000
/-! Layer D: an instance as a test, by its own __bool__. -/
namespace Dl
open PySem PySem.Spec PyProof.Rows L2
/-! ### len(o) by the class's own __len__ -/
def dLenO (F : En → Res D) (c : Str) : List D → M D := fun ds => match ds with
  | [d] => bd (d1m F c d) fun r => li (match r with
    | .int n => if 0 ≤ n ∧ n < 2 ^ 63 then some (.int n) else none | _ => none)
  | _ => fun _ => .bad
def rLenO (C : Addr) (sp : L2.Sp) : List V → Hp → VK → Prop := fun xs H Q => ∃ x, xs = [x] ∧ rOwn1 C sp x H fun v H' => ∃ n : Int, v = .int n ∧ (0 ≤ n ∧ n < 2 ^ 63) ∧ Q (.int n) H'
section
variable {X : Cx} {W : WX} {k j : Nat} {c : Str} {F : En → Res D} {f C : Addr} {sp : L2.Sp} {e : Expr} {fr : M (List D)} {p pos : Pos}
theorem cr_lenO (hs : PySem.W.findIn X.K (.ref C) "__len__" = some (some (.ref f))) (hf : PySem.W.isFn X.K (.ref f) = true) (G : FnR X.prog X.w X.K X.mg X.base (L2.CX X.prog X.w) k f sp) (hr : Room (k + 1) X.A) : CallR X (.builtin "len") (rLenO C sp) := by
  intro pins s σ H xs us Q I r h
  obtain ⟨x, rfl, p, dx, fs, rfl, h1, h2⟩ := h
  obtain rfl := Vals.ref1 r
  obtain ⟨mA, J, _⟩ := ins_get I.hok h1
  obtain ⟨od, J, _⟩ := J.look
  obtain ⟨m, hF⟩ := I.fr
  refine PySem.W.len_K hF I.ok.mod.kin J hs hf (wpAny_mono (run_0in (us := [.ref p]) (vs := [.ref p]) G hr I (.cons rfl .nil) h2) (fun v' s' z => ?_) fun _ _ z => z)
  obtain ⟨y, H1, I1, r1, n, rfl, nb, q⟩ := z
  obtain ⟨t, rfl⟩ := r1
  exact ⟨nb, .int n, H1, I1.tok _, ⟨_, rfl⟩, q⟩
theorem cd_lenO (hm : X.mg c = some (.ref C)) : ClD X.K X.mg W (rLenO C (spD X.K X.mg F)) (dLenO F c) := by
  intro Z B σ H e xs as Q S a q
  match as, a, q with
  | [d], .cons r .nil, q =>
    refine ⟨_, rfl, d1m_ok (W := W) hm S r ((wp_bd.mp q).imp (fun y e1 h1 v B1 H1 S1 l1 a1 => ?_) fun _ _ q => q)⟩
    obtain ⟨z, h2, h3⟩ := wp_li h1
    cases y with
    | int n =>
      dsimp only at h2
      split at h2
      · rename_i hn
        cases h2
        exact ⟨n, a1.int_inv, hn, h3 _ B1 H1 S1 l1 (.int _)⟩
      · cases h2
    | _ => cases h2
theorem ped_lenOwn (cf : OpI X.prog X.w X.K X.mg X.base k c "__len__" F) (hr : Room j X.A) (hk : k + 1 ≤ j) (hm : X.mg "len" = none) (ha : PAD X W [e] fr) (hg : Gl X "len" := by rfl)
    (he : starEach (e :: []) X.env = (false, eval e X.env) :: starEach [] X.env := by rfl) (hpl : (backTo pos (starEach [] X.env)).any (·.1) = false := by rfl) : PED X W (.Call (.Name "len" p) [e] [] pos) (bd fr (dLenO F c)) := by
  obtain ⟨C, f, hm', hs, hf, sf, G⟩ := cf
  exact ped_callB (cr_lenO hs hf G (hr.mono hk)) (cd_lenO hm') hm (by decide +kernel) ha hg (by decide) (by decide) he hpl
end
end Dl
set_option maxHeartbeats 400000
/-! Layer D: tests in an except suite. -/
namespace Dl
open PySem PySem.Spec PyProof.Rows L2
def EvTr (L : LP) (K : PySem.W.Frag) (mg : Str → Option Value) (tt : TT) (g : D → M Bool) : Prop := ∀ x Z B σ H e (Q : Bool → Hp → Prop), L x B σ → SR K mg Z B σ H e → (g x e).wp (PB K mg Z B σ Q) (fun _ _ => False) → tt σ H Q
def XTD (L : LP) (X : Cx) (a : Expr) (g : D → M Bool) : Prop := ∃ tt, PT X a tt ∧ EvTr L X.K X.mg tt g
def XWD (L : LP) (X : Cx) (a : Expr) (g : D → M Bool) : Prop := ∃ tt, PW X a tt ∧ EvTr L X.K X.mg tt g
section
variable {L : LP} {K : PySem.W.Frag} {mg : Str → Option Value} {Z : Ent} {B : Hp} {σ : St}
theorem EvTr.then {α : Type} {P : α → En → Prop} {ta : TT} {ga : D → M Bool} {x : D} {k : Bool → M α} (up : Lup L) (ha : EvTr L K mg ta ga) {H : Hp} {e : En} {Q : Bool → Hp → Prop} (hx : L x B σ) (S : SR K mg Z B σ H e) (h : (bd (ga x) k e).wp P (fun _ _ => False))
    (kk : ∀ d e' B' H', L x B' σ → SR K mg Z B' σ H' e' → Same B B' → (k d e').wp P (fun _ _ => False) → Q d H') : ta σ H Q :=
  ha x Z B σ H e Q hx S ((wp_bd.mp h).imp (fun d e' q B' H' S' l => kk d e' B' H' (up _ _ _ _ l hx) S' l q) fun _ _ q => q)
end
section
variable {L : LP} {X : Cx} {a b c : Expr} {rest : List Expr} {ga gb : D → M D} {gc gd : D → M Bool} {pos p : Pos}
theorem XWD.pt (h : XWD L X a gc) : XTD L X a gc := by
  obtain ⟨ta, pa, ea⟩ := h
  exact ⟨_, pa.pt, ea⟩
end
end Dl
set_option maxHeartbeats 400000
/-! Layer D: in an except suite: isinstance by a built-in class. -/
namespace Dl
open PySem PySem.Spec PyProof.Rows L2
end Dl
set_option maxHeartbeats 400000
/-! Layer D: max(a, b, key=len) of two tuples. -/
namespace Dl
open PySem PySem.Spec PyProof.Rows L2
end Dl
set_option maxHeartbeats 1000000
/-! Layer D: sorted(dict([(int, ..), ..])). -/
namespace Dl
open PySem PySem.Spec PyProof.Rows L2 RZ
/-! ### a new dict with int keys, on the way -/
end Dl
set_option maxHeartbeats 1000000
/-! Layer D: sorted of steps of one word. -/
namespace Dl
open PySem PySem.Spec PyProof.Rows L2
/-- the value is a tuple of this text and this int -/
def IsWN (h : Heap) (c : Str) (v : Value) (y : Int) : Prop := ∃ a o t u n, v = .ref a ∧ h.get? a = some o ∧ o.cls = .type "tuple" ∧ o.data = .seq #[.str c t, .int y u] n
theorem IsWN.keeps {h h' : Heap} {c : Str} {v : Value} {y : Int} (x : IsWN h c v y) (k : ∀ b o, h.get? b = some o → o.cls = .type "tuple" → h'.get? b = some o) : IsWN h' c v y := by
  obtain ⟨a, o, t, u, n, e, ho, hc, hd⟩ := x
  exact ⟨a, o, t, u, n, e, k _ _ ho hc, hc, hd⟩
theorem IsWN.one {h : Heap} {c : Str} {v : Value} {y z : Int} (x : IsWN h c v y) (w : IsWN h c v z) : y = z := by
  obtain ⟨a, o, t, u, n, e, ho, hc, hd⟩ := x
  obtain ⟨a', o', t', u', n', e', ho', hc', hd'⟩ := w
  rw [e] at e'
  cases e'
  rw [ho] at ho'
  cases ho'
  rw [hd] at hd'
  injection hd' with h1 _
  have h2 := congrArg Array.toList h1
  injection h2 with _ h3
  injection h3 with h4 _
  injection h4
open Classical in
/-- its int -/
noncomputable def wnOf (h : Heap) (c : Str) (v : Value) : Int := if x : ∃ y, IsWN h c v y then x.choose else 0
theorem wnOf_eq {h : Heap} {c : Str} {v : Value} {y : Int} (x : IsWN h c v y) : wnOf h c v = y := by
  have e : ∃ y, IsWN h c v y := ⟨y, x⟩
  unfold wnOf
  rw [dif_pos e]
  exact e.choose_spec.one x
section
variable {prog : Program} {w : World} {A : Around} {E : Value → Shared → Prop} {s : Shared} {c : Str}
theorem wn_firsts {h : Heap} {k : Value → Int} : ∀ {vs : List Value}, (∀ v ∈ vs, IsWN h c v (k v)) → ∃ fs, PySem.W.KatTups h vs fs ∧ fs.length = vs.length ∧ ∀ f ∈ fs, ∃ t, f = Value.str c t
  | [], _ => ⟨[], .nil, rfl, fun f z => nomatch z⟩
  | v :: vs, x => by
    obtain ⟨fs, h1, h2, h3⟩ := wn_firsts fun u hu => x u (List.mem_cons_of_mem _ hu)
    obtain ⟨a, o, t, u, n, e, ho, hc, hd⟩ := x v List.mem_cons_self
    refine ⟨.str c t :: fs, ?_, by rw [List.length_cons, List.length_cons, h2], fun f hf => ?_⟩
    · rw [e]
      exact .cons ho hc hd rfl h1
    · rcases List.mem_cons.mp hf with rfl | hf
      · exact ⟨t, rfl⟩
      · exact h3 f hf
theorem wn_cmp {vs : List Value} {k : Value → Int} (hp : ∀ v ∈ vs, IsWN s.heap c v (k v)) : SrtO.Cmp prog w A s (tuples' true) (fun p => p.1 ∈ vs) (SrtO.lt2 fun v u => decide (k v < k u)) := by
  intro p q hm hm'
  have h1 := hp _ hm
  have h2 := hp _ hm'
  show wpAny (model prog w) A (keyLt' (tuples' true) p.1 q.1) (fun r s' => s' = s ∧ r = decide (k p.1 < k q.1)) (fun _ _ => False) s
  generalize k p.1 = y at h1 ⊢
  generalize k q.1 = y' at h2 ⊢
  obtain ⟨a, o, t, u, n, e, ho, hc, hd⟩ := h1
  obtain ⟨a', o', t', u', n', e', ho', hc', hd'⟩ := h2
  rw [e, e']
  refine PySem.W.kat_lt ho hd ho' hd' ?_
  show PySem.W.KatLex prog w A true (decide (2 < 2)) _ [(.str c t, .str c t'), (.int y u, .int y' u')] 0 s
  refine PySem.W.kat_cons (wpAny_eqBool_str ?_)
  rw [decide_eq_true rfl]
  refine PySem.W.kat_yes (PySem.W.kat_cons (wpAny_eqBool_int ?_))
  refine PySem.W.kat_go (fun e2 => ?_) (fun e2 => ?_)
  · have ey : y = y' := by simpa using e2
    subst ey
    exact PySem.W.kat_yes (PySem.W.kat_nil ⟨rfl, (decide_eq_false (Int.lt_irrefl _)).symm⟩)
  · exact PySem.W.kat_no (PySem.W.kat_one _ _ (PyProof.Rows.lt_int (show s = s ∧ decide (y < y') = decide (y < y') from ⟨rfl, rfl⟩)))
theorem wn_swo (k : Value → Int) : SrtO.Swo fun v u => decide (k v < k u) := by
  refine ⟨fun x y h => ?_, fun x y z h1 h2 => ?_⟩
  · have a := of_decide_eq_true h
    exact decide_eq_false (by omega)
  · have a := of_decide_eq_false h1
    have b := of_decide_eq_false h2
    exact decide_eq_false (by omega)
theorem wn_sorted {l : Addr} {vs : List Value} {k : Value → Int} {Q : Value → Shared → Prop} (hl : s.heap.IsList l vs.toArray) (hz : vs.length ≤ sizeLine) (hp : ∀ v ∈ vs, IsWN s.heap c v (k v))
    (h : ∀ (h' : Heap) (d : Addr) (out : List Value), SrtO.Srtd (fun v u => decide (k v < k u)) out → out.Perm vs → (∀ b o, s.heap.get? b = some o → h'.get? b = some o) → s.heap.objs.size ≤ d → (∃ n, h'.get? d = some (seqObj "list" out.toArray n)) → Q (.ref d) { s with heap := h' }) :
    wpAny (model prog w) A (call (.builtin "sorted") [.ref l]) Q E s := by
  refine SrtO.sorted_ord (wn_swo k) hl hz (fun h2 h₁ a ha kk => ?_) fun out hs hb => ?_
  · have hp1 : ∀ v ∈ vs, IsWN h₁ c v (k v) := fun v hm => (hp v hm).keeps fun b o e _ => (kk b o e).2
    have na : ∀ o, h₁.get? a = some o → o.cls ≠ .type "tuple" := fun o e => by
      have e' : some o = some (seqObj "list" vs.toArray 0) := e.symm.trans ha
      cases e'
      intro c
      exact absurd (Value.type.inj c) (by decide)
    intro h' keep
    have hp' : ∀ v ∈ vs, IsWN h' c v (k v) := fun v hm => (hp1 v hm).keeps fun b o e c => keep b o (fun z => by subst z; exact na o e c) e
    obtain ⟨fs, g1, g2, g3⟩ := wn_firsts hp'
    refine ⟨tuples' true, fun Q E hq => ?_, wn_cmp hp'⟩
    refine PySem.W.kat_kind (T := .type "str") g1 (by omega) (fun f hm => ?_) (by rfl) ?_
    · obtain ⟨t, rfl⟩ := g3 f hm
      exact PySem.W.Looks.now
    · have e : (Value.type "str" != Value.type "tuple") = true := by first | decide +kernel | rfl | decide
      rw [e]
      exact hq
  · exact h _ _ out hs hb.perm (fun b o e => sortedAll_old e) (Nat.le_succ _) (sortedAll_at s.heap vs out.toArray)
end
/-- sorted(xs), xs a list of steps of one word -/
def rSortedW (K : PySem.W.Frag) : List V → Hp → VK → Prop := fun vs H Q => ∃ (a : Addr) (xs : List V) (c : Str) (ns : List Int) (G : V → Int → Prop), vs = [V.ref a] ∧ SqL K H a xs ∧ (∀ x n, G x n → ∃ t, x = V.ref t ∧ SqT K H t [.str c, .int n]) ∧ Paired G xs ns ∧
  ∀ ys ms p, Paired G ys ms → ms.Perm ns → ms.Pairwise (· ≤ ·) → H p = none → Q (.ref p) (upd H p (.lst ys))
section
variable {X : Cx}
theorem paired_map {α β γ : Type} {R : β → γ → Prop} {f : α → β} {g : α → γ} : ∀ {l : List α}, (∀ x ∈ l, R (f x) (g x)) → Paired R (l.map f) (l.map g)
  | [], _ => .nil
  | x :: l, h => .cons (h x List.mem_cons_self) (paired_map fun y hy => h y (List.mem_cons_of_mem _ hy))
theorem wn_vals {pins : List (Addr × Obj)} {σ : St} {H : Hp} {s : Shared} (I : Inv X pins σ H s) {c : Str} {G : V → Int → Prop} (hG : ∀ x n, G x n → ∃ t, x = V.ref t ∧ SqT X.K H t [.str c, .int n]) : ∀ {xs : List V} {us : List Value} {ns : List Int}, Vals xs us → Paired G xs ns → xs = us.map backV ∧ ns = us.map (wnOf s.heap c) ∧ ∀ u ∈ us, (∃ t, u = Value.ref t) ∧ G (backV u) (wnOf s.heap c u) ∧ IsWN s.heap c u (wnOf s.heap c u)
  | _, _, _, .nil, .nil => ⟨rfl, rfl, fun u h => nomatch h⟩
  | _, _, _, .cons r t, .cons p q => by
    obtain ⟨h1, h2, h3⟩ := wn_vals I hG t q
    obtain ⟨b, e, hb⟩ := hG _ _ p
    subst e
    cases r
    obtain ⟨its, r2, ⟨o, ho, hc, n, hd⟩, _⟩ := I.tuple hb
    obtain ⟨u1, u2, rfl, ri, rj⟩ := vals2 r2
    obtain ⟨t1, rfl⟩ := ri
    obtain ⟨t2, rfl⟩ := rj
    have w : IsWN s.heap c (.ref b) _ := ⟨b, o, t1, t2, n, rfl, ho, hc, hd⟩
    have e := wnOf_eq w
    refine ⟨?_, ?_, fun u hu => ?_⟩
    · rw [List.map_cons, ← h1]; rfl
    · rw [List.map_cons, ← h2, e]
    · rcases List.mem_cons.mp hu with rfl | hu
      · rw [e]
        exact ⟨⟨b, rfl⟩, p, w⟩
      · exact h3 u hu
theorem cr_sortedW : CallR X (.builtin "sorted") (rSortedW X.K) := by
  intro pins s σ H vs us Q I r h
  obtain ⟨a, xs, c, ns, G, rfl, hs, hG, hx, q⟩ := h
  obtain ⟨its, rv, hl, hz⟩ := I.list hs
  obtain ⟨u, rfl, ru⟩ := vals1 r
  obtain rfl : u = Value.ref a := ru
  obtain ⟨e1, e2, e3⟩ := wn_vals I hG rv hx
  refine wn_sorted (c := c) (k := wnOf s.heap c) hl.isList (by rw [← rv.length]; exact hz) (fun v hv => (e3 v hv).2.2) fun h' d out h1 h2 kp hd hn => ?_
  have h3 : ∀ u ∈ out, ∃ a, u = Value.ref a := fun u hu => (e3 u (h2.mem_iff.mp hu)).1
  obtain ⟨n, hn⟩ := hn
  refine ⟨.ref d, upd H d (.lst (out.map backV)), I.laid (t' := s.toks) kp hd ⟨?_, out, n, vals_back h3, hn⟩, rfl, q _ (out.map (wnOf s.heap c)) d (paired_map fun u hu => (e3 u (h2.mem_iff.mp hu)).2.1) ?_ ?_ (I.hok.fresh hd)⟩
  · rw [List.length_map, h2.length_eq, ← rv.length]
    exact hz
  · rw [e2]
    exact h2.map _
  · rw [List.pairwise_map]
    exact List.Pairwise.imp (fun {x y} h => by have := of_decide_eq_false h; omega) h1
end
/-- one word's steps -/
def toWN (c : Str) : List D → Option (List Int)
  | [] => some []
  | .tup [.str x, .int n] :: r => if x = c then (toWN c r).map (n :: ·) else none
  | _ => none
def nSortW : List D → M (List D) := fun ds => li (match ds with
  | [.lst (.tup [.str c, .int n] :: r)] => (toWN c r).map fun ns => (isort (n :: ns)).map fun n => .tup [.str c, .int n]
  | _ => none)
section
variable {K : PySem.W.Frag} {mg : Str → Option Value} {W : WX}
theorem toWN_at {B : Hp} {c : Str} : ∀ {vs : List V} {ds : List D} {ns : List Int}, AtL K mg B vs ds → toWN c ds = some ns → Paired (fun x n => At K mg B x (.tup [.str c, .int n])) vs ns
  | _, _, ns, .nil, h => by cases h; exact .nil
  | _, _, ns, .cons (d := d) (ds := ds) r t, h => by
    unfold toWN at h
    split at h
    · rename_i e; cases e
    · rename_i x n r' e
      cases e
      split at h
      · rename_i ex
        subst ex
        obtain ⟨ms, h1, h2⟩ := Option.map_eq_some_iff.mp h
        subst h2
        exact .cons r (toWN_at t h1)
      · cases h
    · cases h
theorem atl_wn {B : Hp} {c : Str} : ∀ {vs : List V} {ns : List Int}, Paired (fun x n => At K mg B x (.tup [.str c, .int n])) vs ns → AtL K mg B vs (ns.map fun n => .tup [.str c, .int n])
  | _, _, .nil => .nil
  | _, _, .cons p q => .cons p (atl_wn q)
theorem at_wn {B H : Hp} (l : Same B H) {c : Str} {x : V} {n : Int} (r : At K mg B x (.tup [.str c, .int n])) : ∃ t, x = V.ref t ∧ SqT K H t [.str c, .int n] := by
  obtain ⟨a, xs, rfl, g1, g2⟩ := r.tup_inv
  cases g2 with
  | cons ra rt =>
    cases rt with
    | cons rb rn =>
      cases rn
      cases ra
      cases rb
      exact ⟨a, rfl, seqT l g1⟩
theorem cn_sortW : ClN K mg W (rSortedW K) nSortW := by
  intro Z B σ H e xs as Q S a q
  obtain ⟨z, h1, h2⟩ := wp_li q
  match as, a, h1 with
  | [.lst (.tup [.str c, .int n] :: ds)], .cons r .nil, h1 =>
    obtain ⟨ns, g1, g2⟩ := Option.map_eq_some_iff.mp (show (toWN c ds).map _ = some z from h1)
    subst g2
    obtain ⟨a, vs, rfl, k1, k2⟩ := r.lst_inv
    have k3 := toWN_at (c := c) (ns := n :: ns) k2 (by
      show (if c = c then (toWN c ds).map (n :: ·) else none) = _
      rw [if_pos rfl, g1]
      rfl)
    refine ⟨a, vs, c, n :: ns, _, rfl, SqL.of (S.bh _ _ k1), fun x m g => at_wn S.bh g, k3, fun ys ms p py pm pw hp => ?_⟩
    have e2 : ms = isort (n :: ns) := sorted_unique (pm.trans (isort_perm (n :: ns)).symm) pw (isort_sorted (n :: ns))
    subst e2
    obtain ⟨S2, hB, h0, hf⟩ := S.newO (o := .lst ys) hp
    exact h2 p _ B _ S2 (Same.refl B) upd_same (atl_wn py) hB h0 hf
end
end Dl
set_option maxHeartbeats 1000000
/-! Layer D: a list of lists, the last of which grows: for x in xs: if T: parts[-1].append(x) else: parts.append([x]). -/
namespace Dl
open PySem PySem.Spec PyProof.Rows L2 RZ
/-! ### the mirror -/
def evP (n ip j : Nat) (acc : List (List D)) (d : D) : En := ((List.replicate n Sl.no).set ip (.val (.lst (acc.map D.lst)))).set j (.val d)
def isNeg1 (r : Res D) : Bool := match r with
  | .ok (.int i) _ => decide (i = -1)
  | _ => false
def partsGo (ft : M Bool) (fx : M D) (n ip j : Nat) : List D → List (List D) → Option (List (List D))
  | [], acc => some acc
  | d :: r, acc => match ft (evP n ip j acc d) with
    | .ok true _ => if isNeg1 (fx (evP n ip j acc d)) = true then match acc.getLast? with
      | some l => if l.length < 10000 then partsGo ft fx n ip j r (acc.dropLast ++ [l ++ [d]]) else none
      | none => none
      else none
    | .ok false _ => if acc.length < 10000 then partsGo ft fx n ip j r (acc ++ [[d]]) else none
    | _ => none
def lastSet (j : Nat) (ds : List D) (e : En) : En := match ds.getLast? with
  | some d => e.set j (.val d)
  | none => e
def itemsP : D → Option (List D)
  | .lst xs => some xs
  | .tup xs => some xs
  | _ => none
def partsO (ft : M Bool) (fx : M D) (ip j : Nat) (d : D) (e : En) : Option En := match itemsP d, e[ip]?, e[j]? with
  | some ds, some (.own false []), some s => if s.isOwn = false ∧ ip ≠ j then
      (partsGo ft fx e.length ip j ds []).map fun acc => (lastSet j ds (e.set ip .no)).set ip (.own false (acc.map D.lst)) else none
  | _, _, _ => none
def fParts (ip j : Nat) (fa : M D) (ft : M Bool) (fx : M D) : M Fl := bd fa fun d => fun e => match partsO ft fx ip j d e with
  | some e' => .ok .nx e'
  | none => .bad
/-! ### states -/
section
variable {K : PySem.W.Frag} {mg : Str → Option Value} {Z : Ent} {B B' : Hp} {σ : St} {H H' : Hp} {e : En} {ip j : Nat}
theorem SR.more (S : SR K mg Z B σ H e) (l : Same H H') : SR K mg Z B σ H' e :=
  ⟨S.le, S.bh.trans l, fun a o h n => l _ _ (S.fh a o h n), S.nb, fun a o h => by
    obtain ⟨o', h'⟩ := S.dm a o h
    exact ⟨o', l _ _ h'⟩, S.ln, fun i s q => (S.sl i s q).mono (Same.refl B) fun a o _ _ h hb => ⟨hb, l _ _ h⟩, S.ds⟩
structure Owd (Z : Ent) (B : Hp) (σ : St) (e : En) (a : Addr) : Prop where
  nb : B a = none
  n0 : Z.H0 a = none
  fr : Free σ e a
theorem SR.wr {a : Addr} {o o' : HO} (S : SR K mg Z B σ H e) (w : Owd Z B σ e a) (h : H a = some o') : SR K mg Z B σ (upd H a o) e := by
  refine ⟨S.le, fun b u q => ?_, fun b u q n => ?_, S.nb, fun b u q => ?_, S.ln, fun i s q => (S.sl i s q).mono (Same.refl B) fun b u hs e1 h1 h2 => ⟨h2, ?_⟩, S.ds⟩
  · rw [upd_ne (ne_of_none q w.nb)]; exact S.bh b u q
  · rw [upd_ne (ne_of_none q w.n0)]; exact S.fh b u q n
  · by_cases hb : b = a
    · subst hb; exact ⟨o, upd_same⟩
    · obtain ⟨o', z⟩ := S.dm b u q
      exact ⟨o', by rw [upd_ne hb]; exact z⟩
  · have ne : b ≠ a := fun z => w.fr i ⟨s, q, hs⟩ (by rw [e1, z])
    rw [upd_ne ne]; exact h1
/-- the inner lists -/
inductive Inn (K : PySem.W.Frag) (mg : Str → Option Value) (B H : Hp) : List Addr → List (List D) → Prop
  | nil : Inn K mg B H [] []
  | cons {a : Addr} {xs : List V} {ds : List D} {as : List Addr} {acc : List (List D)} : H a = some (.lst xs) → AtL K mg B xs ds → Inn K mg B H as acc → Inn K mg B H (a :: as) (ds :: acc)
theorem Inn.keep : ∀ {as : List Addr} {acc : List (List D)}, (∀ a o, a ∈ as → H a = some o → H' a = some o) → Inn K mg B H as acc → Inn K mg B H' as acc
  | _, _, _, .nil => .nil
  | _, _, k, .cons h r t => .cons (k _ _ List.mem_cons_self h) r (Inn.keep (fun a o m => k a o (List.mem_cons_of_mem _ m)) t)
theorem Inn.app : ∀ {as bs : List Addr} {acc bcc : List (List D)}, Inn K mg B H as acc → Inn K mg B H bs bcc → Inn K mg B H (as ++ bs) (acc ++ bcc)
  | _, _, _, _, .nil, s => s
  | _, _, _, _, .cons h r t, s => .cons h r (Inn.app t s)
theorem Inn.length : ∀ {as : List Addr} {acc : List (List D)}, Inn K mg B H as acc → as.length = acc.length
  | _, _, .nil => rfl
  | _, _, .cons _ _ t => congrArg (· + 1) (Inn.length t)
theorem Inn.has : ∀ {as : List Addr} {acc : List (List D)} {a : Addr}, Inn K mg B H as acc → a ∈ as → ∃ xs, H a = some (.lst xs)
  | _, _, _, .nil, m => nomatch m
  | _, _, _, .cons h r t, m => by
    rcases List.mem_cons.mp m with rfl | m
    · exact ⟨_, h⟩
    · exact Inn.has t m
theorem Inn.last : ∀ {as : List Addr} {acc : List (List D)} {l : List D}, Inn K mg B H as acc → acc.getLast? = some l → ∃ as' a xs, as = as' ++ [a] ∧ H a = some (.lst xs) ∧ AtL K mg B xs l ∧ Inn K mg B H as' acc.dropLast
  | _, _, l, .nil, h => by cases h
  | _, _, l, .cons (acc := []) h r .nil, e => by
    cases e
    exact ⟨[], _, _, rfl, h, r, .nil⟩
  | _, _, l, .cons (acc := _ :: _) h r t, e => by
    rw [List.getLast?_cons_cons] at e
    obtain ⟨as', a, xs, rfl, h1, h2, h3⟩ := Inn.last t e
    exact ⟨_ :: as', a, xs, rfl, h1, h2, .cons h r h3⟩
theorem Inn.atl {Bv : Hp} (l : Same B Bv) : ∀ {as : List Addr} {acc : List (List D)}, (∀ a ∈ as, ∀ o, H a = some o → Bv a = some o) → Inn K mg B H as acc → AtL K mg Bv (as.map V.ref) (acc.map D.lst)
  | _, _, _, .nil => .nil
  | _, _, k, .cons h r t => .cons (.lst (k _ List.mem_cons_self _ h) (r.mono l)) (Inn.atl l (fun a m => k a (List.mem_cons_of_mem _ m)) t)
structure Pts (K : PySem.W.Frag) (mg : Str → Option Value) (Z : Ent) (B : Hp) (σ : St) (H : Hp) (e : En) (ip : Nat) (p : Addr) (as : List Addr) (acc : List (List D)) : Prop where
  sl : σ[ip]? = some (some (.ref p))
  hp : H p = some (.lst (as.map V.ref))
  op : Owd Z B σ e p
  oa : ∀ a ∈ as, Owd Z B σ e a
  nd : (p :: as).Nodup
  inn : Inn K mg B H as acc
theorem Owd.new {p : Addr} (S : SR K mg Z B σ H e) (hp : H p = none) : Owd Z B σ e p :=
  let ⟨_, h1, h2, h3⟩ := S.newO (o := .lst []) hp; ⟨h1, h2, h3⟩
theorem Pts.more {p : Addr} {as : List Addr} {acc : List (List D)} (P : Pts K mg Z B σ H e ip p as acc) (l : Same H H') : Pts K mg Z B σ H' e ip p as acc :=
  ⟨P.sl, l _ _ P.hp, P.op, P.oa, P.nd, P.inn.keep fun a o _ h => l _ _ h⟩
theorem Pts.set {p : Addr} {as : List Addr} {acc : List (List D)} (P : Pts K mg Z B σ H e ip p as acc) (v : V) (d : D) (hj : ip ≠ j) : Pts K mg Z B (σ.set j (some v)) H (e.set j (.val d)) ip p as acc := by
  have fr : ∀ {a}, Owd Z B σ e a → Owd Z B (σ.set j (some v)) (e.set j (.val d)) a := fun w => ⟨w.nb, w.n0, fun i hi => by
    rcases ownAt_set hi with ⟨_, z⟩ | ⟨n1, hi'⟩
    · cases z
    · rw [List.getElem?_set_ne (Ne.symm n1)]
      exact w.fr i hi'⟩
  exact ⟨by rw [List.getElem?_set_ne (Ne.symm hj)]; exact P.sl, P.hp, fr P.op, fun a m => fr (P.oa a m), P.nd, P.inn⟩
open Classical in
/-- all of it known -/
noncomputable def vwB (B H : Hp) (ps : List Addr) : Hp := fun a => if a ∈ ps then H a else B a
theorem vw_same {ps : List Addr} (h : ∀ a ∈ ps, B a = none) : Same B (vwB B H ps) := fun a o q => by
  unfold vwB
  rw [if_neg fun m => by rw [h a m] at q; cases q]
  exact q
theorem vw_in {ps : List Addr} {a : Addr} (m : a ∈ ps) : vwB B H ps a = H a := if_pos m
theorem Pts.view {p : Addr} {as : List Addr} {acc : List (List D)} {v : V} {d : D} (S : SR K mg Z B σ H e) (P : Pts K mg Z B σ H e ip p as acc) (hj : ip ≠ j) (h1 : σ[j]? = some (some v)) (h2 : At K mg B v d) :
    SR K mg ⟨vwB B H (p :: as), H, [], σ⟩ (vwB B H (p :: as)) σ H (evP e.length ip j acc d) := by
  have nn : ∀ a ∈ p :: as, B a = none := fun a m => by
    rcases List.mem_cons.mp m with rfl | m
    · exact P.op.nb
    · exact (P.oa a m).nb
  have sm := vw_same (H := H) nn
  have get : ∀ i s, (evP e.length ip j acc d)[i]? = some s → (i = j ∧ s = .val d) ∨ (i = ip ∧ s = .val (.lst (acc.map D.lst))) ∨ s = .no := fun i s q => by
    unfold evP at q
    rw [List.getElem?_set] at q
    split at q
    · rename_i e1
      split at q
      · cases q; exact .inl ⟨e1.symm, rfl⟩
      · cases q
    · rw [List.getElem?_set] at q
      split at q
      · rename_i e1
        split at q
        · cases q; exact .inr (.inl ⟨e1.symm, rfl⟩)
        · cases q
      · rw [List.getElem?_replicate] at q
        split at q
        · cases q; exact .inr (.inr rfl)
        · cases q
  refine ⟨Same.refl _, fun a o q => ?_, fun a o q _ => q, fun a o q => .inl q, fun a o q => ⟨o, q⟩, ?_, fun i s q => ?_, fun i k a _ hi _ _ => ?_⟩
  · unfold vwB at q
    split at q
    · exact q
    · exact S.bh a o q
  · unfold evP
    rw [List.length_set, List.length_set, List.length_replicate]
    exact S.ln
  · rcases get i s q with ⟨rfl, rfl⟩ | ⟨rfl, rfl⟩ | rfl
    · exact ⟨v, h1, h2.mono sm⟩
    · refine ⟨.ref p, P.sl, .lst ((vw_in List.mem_cons_self).trans P.hp) (P.inn.atl sm fun a m o q => (vw_in (List.mem_cons_of_mem _ m)).trans q)⟩
    · trivial
  · obtain ⟨s, q, hs⟩ := hi
    rcases get i s q with ⟨_, rfl⟩ | ⟨_, rfl⟩ | rfl <;> cases hs
/-- all inner ones known from now on -/
theorem freezeAll : ∀ {as : List Addr} {acc : List (List D)} {B : Hp}, SR K mg Z B σ H e → (∀ a ∈ as, Owd Z B σ e a) → as.Nodup → Inn K mg B H as acc → ∃ B', SR K mg Z B' σ H e ∧ Same B B' ∧ AtL K mg B' (as.map V.ref) (acc.map D.lst) ∧ ∀ p, p ∉ as → B p = none → B' p = none
  | _, _, B, S, _, _, .nil => ⟨B, S, Same.refl B, .nil, fun _ _ h => h⟩
  | a :: as, ds :: acc, B, S, ow, nd, .cons h r t => by
    have w := ow a List.mem_cons_self
    have nd2 := List.nodup_cons.mp nd
    obtain ⟨S1, l1⟩ := S.freeze h w.nb w.n0 w.fr
    have up : ∀ {as : List Addr} {acc : List (List D)}, Inn K mg B H as acc → Inn K mg (upd B a _) H as acc := fun {as acc} h => by
      induction h with
      | nil => exact .nil
      | cons h r _ ih => exact .cons h (r.mono l1) ih
    obtain ⟨B', S', l', r', k'⟩ := freezeAll S1 (fun b m => by
      have w := ow b (List.mem_cons_of_mem _ m)
      have ne : b ≠ a := fun z => nd2.1 (z ▸ m)
      exact ⟨by rw [upd_ne ne]; exact w.nb, w.n0, w.fr⟩) nd2.2 (up t)
    refine ⟨B', S', l1.trans l', .cons (.lst (l' _ _ upd_same) (r.mono (l1.trans l'))) r', fun p np hp => k' p (fun m => np (List.mem_cons_of_mem _ m)) ?_⟩
    rw [upd_ne (show p ≠ a from fun z => np (by rw [z]; exact List.mem_cons_self))]
    exact hp
/-- a walk that lays nothing -/
structure WalkP (K : PySem.W.Frag) (mg : Str → Option Value) (J : It) (B : Hp) (ds : List D) : Prop where
  go : ∀ (i : Nat) d H, Same B H → ds[i]? = some d → J.go i H ∧ ∀ x H2, J.yld i H x H2 → H2 = H ∧ At K mg B x d
  stop : ∀ i H, Same B H → ds.length ≤ i → J.stop i H
theorem walkp_list {xs : List V} {ds : List D} {p : Addr} (h : B p = some (.lst xs)) (r : AtL K mg B xs ds) : WalkP K mg (Itl K p) B ds where
  go := fun i d H l hd => by
    obtain ⟨v, hv, rv⟩ := r.get hd
    refine ⟨⟨xs, v, SqL.of (l _ _ h), hv⟩, fun x H2 y => ?_⟩
    obtain ⟨e, y⟩ := y
    have := y xs (SqL.of (l _ _ h))
    rw [hv] at this
    cases this
    exact ⟨e, rv⟩
  stop := fun i H l hi => ⟨xs, SqL.of (l _ _ h), by rw [r.length]; exact hi⟩
theorem walkp_tup {xs : List V} {ds : List D} {p : Addr} (h : SqT K B p xs) (r : AtL K mg B xs ds) : WalkP K mg (Itt K p) B ds where
  go := fun i d H l hd => by
    obtain ⟨v, hv, rv⟩ := r.get hd
    refine ⟨⟨xs, v, seqT l h, hv⟩, fun x H2 y => ?_⟩
    obtain ⟨e, y⟩ := y
    have := y xs (seqT l h)
    rw [hv] at this
    cases this
    exact ⟨e, rv⟩
  stop := fun i H l hi => ⟨xs, seqT l h, by rw [r.length]; exact hi⟩
theorem isNeg1_ok {r : Res D} (h : isNeg1 r = true) : ∃ e, r = .ok (.int (-1)) e := by
  unfold isNeg1 at h
  split at h
  · rename_i i e
    rw [of_decide_eq_true h]
    exact ⟨e, rfl⟩
  · cases h
theorem atI_end {α : Type} (xs : List α) (d : α) : L2.atI (xs ++ [d]) (-1) = some d := by
  unfold L2.atI L2.ixN
  rw [if_neg (by decide), if_pos (by rw [List.length_append]; show -((xs.length + 1 : Nat) : Int) ≤ -1; omega)]
  have e : ((-1 : Int) + ((xs ++ [d]).length : Nat)).toNat = xs.length := by
    rw [List.length_append]
    show ((-1 : Int) + ((xs.length + 1 : Nat) : Int)).toNat = xs.length
    omega
  show (xs ++ [d])[((-1 : Int) + ((xs ++ [d]).length : Nat)).toNat]? = some d
  rw [e, List.getElem?_append_right (Nat.le_refl _), Nat.sub_self]
  rfl
end
theorem set_same {α : Type} {l : List α} {i : Nat} {a : α} (h : l[i]? = some a) : l.set i a = l := List.ext_getElem? fun k => by
  rw [List.getElem?_set]
  split
  · rename_i e
    subst e
    rw [if_pos (List.getElem?_eq_some_iff.mp h).1, h]
  · rfl
theorem lastSet_snoc (j : Nat) (ds : List D) (d : D) (e : En) : lastSet j (ds ++ [d]) e = (lastSet j ds e).set j (.val d) := by
  unfold lastSet
  rw [List.getLast?_concat]
  cases ds.getLast? with
  | none => rfl
  | some d' => exact (List.set_set ..).symm
/-! ### the rule -/
section
variable {X : Cx} {W : WX} {iter T ix : Expr} {fa fx : M D} {ft : M Bool} {pos px px1 px2 py1 py2 sp ap1 ap2 cp1 cp2 lp pos1 pos2 ipos : Pos} {x y : Str}
theorem psd_parts (ip j : Nat) (hp : PassesOwn (model X.prog X.w) X.A X.env X.xe) (hc : X.calm = true) (hNd : X.N.Nodup) (ha : PED X W iter fa) (hT : PBD X W T ft) (hx : PED X W ix fx) (hix : PlainIx ix := by exact fun _ _ => rfl)
    (hN : X.N[ip]? = some y := by rfl) (hv : Vis X.env.scope y := by first | exact Or.inl rfl | exact Or.inr (Or.inl rfl) | exact Or.inr (Or.inr rfl)) (hd : (y == ("__debug__" : Str)) = false := by decide) (hcd : (y == ("__classdict__" : Str)) = false := by decide)
    (hNx : X.N[j]? = some x := by rfl) (hvx : Vis X.env.scope x := by first | exact Or.inl rfl | exact Or.inr (Or.inl rfl) | exact Or.inr (Or.inr rfl)) (hdx : (x == ("__debug__" : Str)) = false := by decide) (hcdx : (x == ("__classdict__" : Str)) = false := by decide)
    (hlx : Loc X.env.scope x := by first | exact Or.inl rfl | exact Or.inr rfl) (hf : X.fn x = true ∨ X.env.scope.names.lookup x = some .local := by first | exact .inl rfl | exact .inr rfl)
    (hbase1 : attributeBase (.Subscript (.Name y py1) ix sp) "append" X.env (eval (.Subscript (.Name y py1) ix sp) X.env) = eval (.Subscript (.Name y py1) ix sp) X.env := by rfl)
    (hfew1 : ((backTo cp1 (starEach [.Name x px1] X.env)).all (fun x => !x.1) && (backToKw cp1 (keywordEach [] X.env)).all (fun x => x.1.isSome) && decide ([Expr.Name x px1].length + ([] : List Keyword).length + (if ([] : List Keyword).isEmpty then 0 else 1) < 30)) = true := by rfl)
    (hline1 : (ap1.endLine == cp1.line) = true := by rfl) (hs1 : starEach [.Name x px1] X.env = (false, eval (.Name x px1) X.env) :: starEach [] X.env := by rfl) (hplain1 : (backTo cp1 (starEach [] X.env)).any (·.1) = false := by rfl)
    (hw1 : swapsWith (.Call (.Attribute (.Subscript (.Name y py1) ix sp) "append" ap1) [.Name x px1] [] cp1) none pos1.line X.env = pure false := by rfl)
    (hbase2 : attributeBase (.Name y py2) "append" X.env (eval (.Name y py2) X.env) = eval (.Name y py2) X.env := by rfl)
    (hfew2 : ((backTo cp2 (starEach [.List [.Name x px2] lp] X.env)).all (fun x => !x.1) && (backToKw cp2 (keywordEach [] X.env)).all (fun x => x.1.isSome) && decide ([Expr.List [.Name x px2] lp].length + ([] : List Keyword).length + (if ([] : List Keyword).isEmpty then 0 else 1) < 30)) = true := by rfl)
    (hline2 : (ap2.endLine == cp2.line) = true := by rfl) (hs2 : starEach [.List [.Name x px2] lp] X.env = (false, eval (.List [.Name x px2] lp) X.env) :: starEach [] X.env := by rfl) (hplain2 : (backTo cp2 (starEach [] X.env)).any (·.1) = false := by rfl)
    (hsi : starEach [.Name x px2] X.env = (false, eval (.Name x px2) X.env) :: starEach [] X.env := by rfl)
    (hw2 : swapsWith (.Call (.Attribute (.Name y py2) "append" ap2) [.List [.Name x px2] lp] [] cp2) none pos2.line X.env = pure false := by rfl)
    (hs : ∀ z, foldedSetIterable iter X.env z = pure z := by intro _; rfl) :
    PSD X W (.For (.Name x px) iter [.If T [.Expr (.Call (.Attribute (.Subscript (.Name y py1) ix sp) "append" ap1) [.Name x px1] [] cp1) pos1] [.Expr (.Call (.Attribute (.Name y py2) "append" ap2) [.List [.Name x px2] lp] [] cp2) pos2] ipos] [] pos) (fParts ip j fa ft fx) := by
  obtain ⟨ta, pa, ea⟩ := ha
  obtain ⟨tt, pt, et⟩ := hT
  obtain ⟨tx, pxx, ex⟩ := hx
  refine ⟨_, ps_for hp hc (pi_or (pi_list pa) (pi_tup pa)) (pg_name hNd hNx hlx hf) (pss_cons (ps_if pt
    (pss_cons (ps_expr (pe_bm PySem.F.plainAttrs_list PySem.F.slot_list_append PySem.F.type_list_append mt_append (pe_ix ix_list (pe_var hN hv hd hcd) pxx hix) (pa_cons (pe_var hNx hvx hdx hcdx) pa_nil hs1) hbase1 hfew1 hline1 hs1 hplain1) hw1) pss_nil)
    (pss_cons (ps_expr (pe_bm PySem.F.plainAttrs_list PySem.F.slot_list_append PySem.F.type_list_append mt_append (pe_var hN hv hd hcd) (pa_cons (pe_lst (pa_cons (pe_var hNx hvx hdx hcdx) pa_nil hsi)) pa_nil hs2) hbase2 hfew2 hline2 hs2 hplain2) hw2) pss_nil)) pss_nil) hs, fun Z B σ H e Y S h => ?_⟩
  -- the loop, given its walk
  have loop : ∀ (J : It) (ds : List D) (d : D) (B1 : Hp) (H1 : Hp) (e1 : En), itemsP d = some ds → SR X.K X.mg Z B1 σ H1 e1 → Same B B1 → WalkP X.K X.mg J B1 ds → (match partsO ft fx ip j d e1 with | some e' => Res.ok Fl.nx e' | none => .bad).wp (PF X.K X.mg Z B Y) (PXs X.K X.mg Z B W) →
      ∃ W2 : Nat → Nat → St → Hp → Prop, (∃ m, W2 0 m σ H1) ∧ ∀ i m σ H, W2 i m σ H → (J.stop i H ∧ Y.nx σ H) ∨ (J.go i H ∧ ∃ N : St → Hp → Prop, (∀ σ' H', N σ' H' → ∃ m', m' < m ∧ W2 (i + 1) m' σ' H') ∧ ∀ x H', J.yld i H x H' → gName j x σ H' fun σ2 H2 =>
        tSeq (tIfS tt (tSeq (tDrop (tBM X.K "list" rAppend (tOp (rIxL X.K) (tVar ip) tx) (tCons (tVar j) tNil))) tNext) (tSeq (tDrop (tBM X.K "list" rAppend (tVar ip) (tCons (tLst (tCons (tVar j) tNil)) tNil))) tNext)) tNext { Y with nx := N, ct := N, bk := Y.nx } σ2 H2) := by
    intro J ds d B1 H1 e1 hd S1 l1 wk h1
    unfold partsO at h1
    rw [hd] at h1
    cases q1 : e1[ip]? with
    | none => rw [q1] at h1; exact False.elim h1
    | some s1 =>
      cases q2 : e1[j]? with
      | none =>
        rw [q1, q2] at h1
        cases s1 with
        | own r l => cases r <;> cases l <;> exact False.elim h1
        | _ => exact False.elim h1
      | some s2 =>
        rw [q1, q2] at h1
        obtain ⟨rfl⟩ : s1 = .own false [] := by
          cases s1 with
          | own r l => cases r <;> cases l <;> first | rfl | exact False.elim h1
          | _ => exact False.elim h1
        by_cases hc2 : s2.isOwn = false ∧ ip ≠ j
        · simp only [if_pos hc2] at h1
          obtain ⟨hj2, hij⟩ := hc2
          cases q3 : partsGo ft fx e1.length ip j ds [] with
          | none => rw [q3] at h1; exact False.elim h1
          | some fin =>
            rw [q3] at h1
            have h1 : PF X.K X.mg Z B Y .nx ((lastSet j ds (e1.set ip .no)).set ip (.own false (fin.map D.lst))) := h1
            obtain ⟨p, xs0, o1, o2, o3, o4, o5, -⟩ := S1.own q1
            cases o3
            have ln := S1.ln
            have jlt : j < e1.length := (List.getElem?_eq_some_iff.mp q2).1
            have S0 : SR X.K X.mg Z B1 σ H1 (e1.set ip .no) := S1.weak (fun _ => trivial) fun z => nomatch z
            have P0 : Pts X.K X.mg Z B1 σ H1 (e1.set ip .no) ip p [] [] := ⟨o1, o2, ⟨o4, o5 rfl, fun i hi => by
              rcases ownAt_set hi with ⟨_, z⟩ | ⟨n1, hi'⟩
              · cases z
              · exact S1.ds ip i p (Ne.symm n1) ⟨_, q1, rfl⟩ hi' o1⟩, (fun a m => nomatch m), by simp, .nil⟩
            refine ⟨fun i m σ2 H2 => m = ds.length - i ∧ i ≤ ds.length ∧ ∃ e2 as acc, SR X.K X.mg Z B1 σ2 H2 e2 ∧ Pts X.K X.mg Z B1 σ2 H2 e2 ip p as acc ∧ e2.length = e1.length ∧ partsGo ft fx e1.length ip j (ds.drop i) acc = some fin ∧ e2 = lastSet j (ds.take i) (e1.set ip .no), ⟨ds.length, by simp, Nat.zero_le _, _, [], [], S0, P0, by simp, q3, rfl⟩, ?_⟩
            rintro i m σ2 H2 ⟨rfl, hi, e2, as, acc, S2, P2, le2, go2, ee2⟩
            by_cases hlt : i < ds.length
            · obtain ⟨wg, wy⟩ := wk.go i ds[i] H2 S2.bh (by simp [hlt])
              refine .inr ⟨wg, fun σ' H' => ∃ e3 as acc, SR X.K X.mg Z B1 σ' H' e3 ∧ Pts X.K X.mg Z B1 σ' H' e3 ip p as acc ∧ e3.length = e1.length ∧ partsGo ft fx e1.length ip j (ds.drop (i + 1)) acc = some fin ∧ e3 = lastSet j (ds.take (i + 1)) (e1.set ip .no), fun σ' H' ⟨e3, as, acc, h3⟩ => ⟨ds.length - (i + 1), by omega, rfl, hlt, e3, as, acc, h3⟩, fun v H3 y => ?_⟩
              obtain ⟨rfl, rx⟩ := wy v H3 y
              rw [List.drop_eq_getElem_cons hlt] at go2
              have et1 : ds.take (i + 1) = ds.take i ++ [ds[i]] := by rw [List.take_succ, List.getElem?_eq_getElem hlt]; rfl
              rw [et1]
              generalize ds[i] = d at *
              show tSeq (tIfS tt _ _) tNext _ (σ2.set j (some v)) H3
              have S3 := S2.set (i := j) rx
              have P3 := P2.set v d hij
              have hj : (σ2.set j (some v))[j]? = some (some v) := by rw [List.getElem?_set]; simp; rw [S2.ln, le2]; exact jlt
              have le3 : (e2.set j (.val d)).length = e1.length := by rw [List.length_set]; exact le2
              have ee3 : e2.set j (.val d) = lastSet j (ds.take i ++ [d]) (e1.set ip .no) := by rw [ee2, lastSet_snoc]
              generalize e2.set j (.val d) = e3 at *
              generalize σ2.set j (some v) = σ3 at *
              have vw : ∀ {H : Hp}, Same H3 H → SR X.K X.mg ⟨vwB B1 H (p :: as), H, [], σ3⟩ (vwB B1 H (p :: as)) σ3 H (evP e1.length ip j acc d) := fun {H} l => by
                have := (P3.more l).view (j := j) (S3.more l) hij hj rx
                rwa [le3] at this
              unfold partsGo at go2
              cases q4 : ft (evP e1.length ip j acc d) with
              | bad => rw [q4] at go2; cases go2
              | exc x4 e4 => rw [q4] at go2; cases go2
              | ok b e4 =>
                rw [q4] at go2
                refine et _ _ σ3 H3 _ _ (vw (Same.refl _)) ?_
                rw [q4]
                intro B5 H5 S5 l5
                have h35 : Same H3 H5 := fun a o q => S5.fh a o q fun m => nomatch m
                have S5' := S3.more h35
                have P5 := P3.more h35
                cases b with
                | true =>
                  have go2 : (if isNeg1 (fx (evP e1.length ip j acc d)) = true then match acc.getLast? with
                    | some l => if l.length < 10000 then partsGo ft fx e1.length ip j (ds.drop (i + 1)) (acc.dropLast ++ [l ++ [d]]) else none
                    | none => none
                    else none) = some fin := go2
                  by_cases q5 : isNeg1 (fx (evP e1.length ip j acc d)) = true
                  · rw [if_pos q5] at go2
                    obtain ⟨e6, q6⟩ := isNeg1_ok q5
                    cases q7 : acc.getLast? with
                    | none => rw [q7] at go2; cases go2
                    | some l =>
                      rw [q7] at go2
                      by_cases q8 : l.length < 10000
                      · simp only [if_pos q8] at go2
                        refine ⟨_, P3.sl, ex _ _ σ3 H5 _ _ (vw h35) ?_⟩
                        rw [q6]
                        intro v6 B6 H6 S6 l6 a6
                        have h56 : Same H5 H6 := fun a o q => S6.fh a o q fun m => nomatch m
                        have := a6.int_inv
                        subst this
                        have S7 := S5'.more h56
                        have P7 := P5.more h56
                        obtain ⟨as', a, xs, rfl, k1, k2, k3⟩ := P7.inn.last q7
                        have hp7 := P7.hp
                        rw [List.map_append] at hp7
                        have nd := List.nodup_cons.mp P7.nd
                        have nda : ∀ b ∈ as', b ≠ a := fun b m => (List.nodup_append.mp nd.2).2.2 b m a (List.mem_singleton_self a)
                        have pa : p ≠ a := fun z => nd.1 (List.mem_append_right _ (by rw [z]; exact List.mem_singleton_self a))
                        have wa := P7.oa a (List.mem_append_right _ (List.mem_singleton_self a))
                        refine ⟨p, _, -1, .ref a, rfl, rfl, SqL.of hp7, atI_end _ _, .inl ⟨rfl, _, SqL.of k1⟩, v, hj, a, xs, v, rfl, rfl, k1, by rw [sizeLine_eq, k2.length]; omega, ?_⟩
                        refine ⟨e3, as' ++ [a], acc.dropLast ++ [l ++ [d]], S7.wr wa k1, ⟨P7.sl, by rw [upd_ne pa]; exact P7.hp, P7.op, P7.oa, P7.nd, ?_⟩, le3, go2, ee3⟩
                        exact Inn.app (k3.keep fun b o m h => by rw [upd_ne (nda b m)]; exact h) (.cons upd_same (k2.app (.cons rx .nil)) .nil)
                      · simp only [if_neg q8] at go2; cases go2
                  · rw [if_neg q5] at go2; cases go2
                | false =>
                  have go2 : (if acc.length < 10000 then partsGo ft fx e1.length ip j (ds.drop (i + 1)) (acc ++ [[d]]) else none) = some fin := go2
                  by_cases q8 : acc.length < 10000
                  · rw [if_pos q8] at go2
                    refine ⟨_, P3.sl, .inl ⟨rfl, _, SqL.of P5.hp⟩, v, hj, by rw [sizeLine_eq]; show 1 ≤ _; omega, fun q hq => ?_⟩
                    obtain ⟨S6, n1, n2, n3⟩ := S5'.newO (o := .lst [v]) hq
                    have pq : p ≠ q := ne_of_none P5.hp hq
                    have asq : ∀ b ∈ as, b ≠ q := fun b m => by
                      obtain ⟨xs, hb⟩ := P5.inn.has m
                      exact ne_of_none hb hq
                    have nd := List.nodup_cons.mp P5.nd
                    have hp6 : upd H5 q (.lst [v]) p = some (.lst (as.map V.ref)) := by rw [upd_ne pq]; exact P5.hp
                    refine ⟨p, as.map V.ref, .ref q, rfl, rfl, hp6, by rw [sizeLine_eq, List.length_map, P5.inn.length]; omega, ?_⟩
                    refine ⟨e3, as ++ [q], acc ++ [[d]], S6.wr P5.op hp6, ⟨P5.sl, by rw [upd_same, List.map_append]; rfl, P5.op, fun b m => ?_, ?_, ?_⟩, le3, go2, ee3⟩
                    · rcases List.mem_append.mp m with m | m
                      · exact P5.oa b m
                      · rw [List.mem_singleton.mp m]; exact ⟨n1, n2, n3⟩
                    · refine List.nodup_cons.mpr ⟨fun m => ?_, List.nodup_append.mpr ⟨nd.2, by simp, fun b m c m2 => by rw [List.mem_singleton.mp m2]; exact asq b m⟩⟩
                      rcases List.mem_append.mp m with m | m
                      · exact nd.1 m
                      · exact pq (List.mem_singleton.mp m)
                    · refine Inn.app (P5.inn.keep fun b o m h => ?_) (.cons (a := q) (xs := [v]) ?_ (.cons rx .nil) .nil)
                      · rw [upd_ne (show b ≠ p from fun z => nd.1 (z ▸ m)), upd_ne (asq b m)]; exact h
                      · rw [upd_ne (Ne.symm pq), upd_same]
                  · rw [if_neg q8] at go2; cases go2
            · have hle : ds.length ≤ i := by omega
              refine .inl ⟨wk.stop i H2 S2.bh hle, ?_⟩
              rw [List.drop_eq_nil_of_le hle] at go2
              cases go2
              rw [List.take_of_length_le hle] at ee2
              subst ee2
              obtain ⟨B', S', l', r', k'⟩ := freezeAll S2 P2.oa (List.nodup_cons.mp P2.nd).2 P2.inn
              have S3 := S'.setO (i := ip) (s := .own false (fin.map D.lst)) P2.op.fr fun _ => ⟨p, _, rfl, P2.hp, r', k' p (List.nodup_cons.mp P2.nd).1 P2.op.nb, fun _ => P2.op.n0, fun z => nomatch z⟩
              rw [set_same P2.sl] at S3
              exact h1 _ _ _ S3 (l1.trans l')
        · simp only [if_neg hc2] at h1; exact False.elim h1
  cases q : fa e with
  | bad => have := wp_bd.mp h; rw [q] at this; exact False.elim this
  | exc z e' =>
    refine .inl (ea Z B σ H e _ S ?_)
    have := wp_bd.mp h
    rw [q] at this ⊢
    exact PXs.at this
  | ok d e1 =>
    have h' := wp_bd.mp h
    rw [q] at h'
    have h' : (match partsO ft fx ip j d e1 with | some e' => Res.ok Fl.nx e' | none => .bad).wp (PF X.K X.mg Z B Y) (PXs X.K X.mg Z B W) := h'
    cases d with
    | tup xs =>
      refine .inr (ea Z B σ H e _ S ?_)
      rw [q]
      intro v B1 H1 S1 l1 a1
      obtain ⟨p, vs, rfl, g1, g2⟩ := a1.tup_inv
      exact ⟨p, rfl, ⟨vs, seqT S1.bh g1⟩, loop _ xs _ B1 H1 e1 rfl S1 l1 (walkp_tup g1 g2) h'⟩
    | lst xs =>
      refine .inl (ea Z B σ H e _ S ?_)
      rw [q]
      intro v B1 H1 S1 l1 a1
      obtain ⟨p, vs, rfl, g1, g2⟩ := a1.lst_inv
      exact ⟨p, rfl, ⟨vs, SqL.of (S1.bh _ _ g1)⟩, loop _ xs _ B1 H1 e1 rfl S1 l1 (walkp_list g1 g2) h'⟩
    | _ => exact False.elim h'
end
end Dl
set_option maxHeartbeats 1000000
/-! Layer D: t[::-1] of tuples. -/
namespace Dl
open PySem PySem.Spec PyProof.Rows L2 HT
theorem adjust_rev (n : Nat) : Builtin.Slice.sliceAdjust none none (-1) (n : Int) = ((n : Int) - 1, -1) := by
  have h1 : ((-1 : Int) < 0) := by decide
  unfold Builtin.Slice.sliceAdjust
  simp only [h1, if_true]
theorem places_rev (n : Nat) : Builtin.Slice.slicePlaces ((n : Int) - 1) (-1) (-1) = n := by
  unfold Builtin.Slice.slicePlaces
  have h1 : ¬ ((-1 : Int) > 0) := by decide
  simp only [h1, if_false]
  have e : ((n : Int) - 1 - -1 - 1) / - -1 = (n : Int) - 1 := by
    rw [show (- -1 : Int) = 1 by decide, Int.ediv_one]
    omega
  split
  · rw [e]; omega
  · omega
theorem fm_map {α β : Type} {f : α → Option β} {g : α → β} : ∀ {l : List α}, (∀ x ∈ l, f x = some (g x)) → l.filterMap f = l.map g
  | [], _ => rfl
  | x :: l, h => by rw [List.filterMap_cons_some (h x List.mem_cons_self), List.map_cons, fm_map fun y hy => h y (List.mem_cons_of_mem _ hy)]
theorem pick_rev (xs : Array Value) : ((List.range xs.size).filterMap fun (m : Nat) => xs[((xs.size : Int) - 1 + (m : Int) * -1).toNat]?).toArray = xs.toList.reverse.toArray := by
  congr 1
  apply List.ext_getElem?
  intro i
  have all : (List.range xs.size).filterMap (fun (m : Nat) => xs[((xs.size : Int) - 1 + (m : Int) * -1).toNat]?) = (List.range xs.size).map (fun m => xs.toList.reverse.getD m Value.none) := by
    refine fm_map fun m hm => ?_
    have hm := List.mem_range.mp hm
    have e : ((xs.size : Int) - 1 + (m : Int) * -1).toNat = xs.size - 1 - m := by omega
    rw [e]
    have h1 : xs.size - 1 - m < xs.size := by omega
    have h2 : m < xs.toList.reverse.length := by simp; exact hm
    rw [Array.getElem?_eq_getElem h1]
    show _ = some _
    rw [List.getD_eq_getElem?_getD, List.getElem?_eq_getElem h2]
    simp
  rw [all]
  by_cases hi : i < xs.size
  · rw [List.getElem?_map, List.getElem?_range hi]
    have h2 : i < xs.toList.reverse.length := by simp; exact hi
    show some (xs.toList.reverse.getD i Value.none) = _
    rw [List.getD_eq_getElem?_getD, List.getElem?_eq_getElem h2]
    rfl
  · rw [List.getElem?_eq_none (by simp; omega), List.getElem?_eq_none (by simp; omega)]
section
variable {prog : Program} {w : World} {A : Around} {E : Value → Shared → Prop} {s : Shared}
theorem sliceApplied_rev {sl : Addr} {vl vu vs : Value} {n : Nat} {Q : Int × Int × Nat → Shared → Prop} (hs : s.heap.IsSliceOf sl vl vu vs) (pl : IsPart vl none) (pu : IsPart vu none) (ps : IsPart vs (some (-1)))
    (h : Q ((n : Int) - 1, -1, n) s) : wpAny (model prog w) A (Builtin.Slice.sliceApplied (.ref sl) (pure (n : Int))) Q E s := by
  obtain ⟨os, hos, hcs, hds⟩ := id hs
  unfold Builtin.Slice.sliceApplied Builtin.Slice.sliceFields
  refine wpAny_bind (wpAny_bind (wpAny_field hos hds (x := vl) rfl (wpAny_bind (wpAny_field hos hds (x := vu) rfl (wpAny_bind (wpAny_field hos hds (x := vs) rfl (wpAny_pure ?_)))))))
  refine wpAny_bind (slicePart_ ps ?_)
  show wpAny _ _ (if ((-1 : Int) == 0) = true then _ else _) _ _ s
  rw [if_neg (by decide)]
  refine wpAny_bind (slicePart_ pl (wpAny_bind (slicePart_ pu (wpAny_bind (wpAny_pure ?_)))))
  show wpAny _ _ (match Builtin.Slice.sliceAdjust none none (-1) (n : Int) with | (lo, hi) => pure (lo, (-1 : Int), Builtin.Slice.slicePlaces lo hi (-1))) _ _ s
  rw [adjust_rev n]
  show wpAny _ _ (pure ((n : Int) - 1, (-1 : Int), Builtin.Slice.slicePlaces ((n : Int) - 1) (-1) (-1))) _ _ s
  rw [places_rev]
  exact wpAny_pure h
theorem getItem_tuple_rev {t sl : Addr} {items : Array Value} {vl vu vs : Value} {Q : Value → Shared → Prop} (ht : IsTup s.heap t items) (hs : s.heap.IsSliceOf sl vl vu vs) (pl : IsPart vl none) (pu : IsPart vu none) (ps : IsPart vs (some (-1)))
    (h : Q (.ref s.heap.objs.size) { s with heap := s.heap.push { cls := .type "tuple", data := .seq items.toList.reverse.toArray } })
    (hsz : items.size ≤ sizeLine) : wpAny (model prog w) A (getItem (.ref t) (.ref sl)) Q E s := by
  have htake : sizeOk (.seq items.toList.reverse.toArray) := by
    show items.toList.reverse.toArray.size ≤ sizeLine
    rw [List.size_toArray, List.length_reverse, Array.length_toList]
    exact hsz
  obtain ⟨os, hos, hcs, hds⟩ := id hs
  have hTs : s.TypeIs (.ref sl) "slice" := ⟨os, hos, hcs⟩
  unfold getItem
  try with_reducible refine wpAny_holding ?_
  first | refine wpAny_bind (wpAny_pure ?_) | skip
  refine wpAny_bind (wpAny_sequenceKey ht.typeIs (by decide) ?_)
  refine wpAny_bind (wpAny_callSpecial?_slot (name := Str.ofString "__getitem__") ht.typeIs PyProof.Rows.slot_tuple_getitem
    (wpAny_call_entry PyProof.Rows.slot_tuple_getitem ht.typeIs entry_tuple_getitem ?_ (args_tuple_getitem _ _)))
  show wpAny _ _ (Builtin.Tuple.tupleItemsOf (.ref t) >>= _) _ _ s
  refine wpAny_bind (tupleItemsOf_ ht ?_)
  refine wpAny_bind (wpAny_typeOf hTs ?_)
  rw [if_pos (by decide)]
  refine wpAny_bind (sliceApplied_rev hs pl pu ps ?_)
  show wpAny _ _ (if (((items.size : Int) - 1) == 0 && (-1 : Int) == 1 && items.size == items.size) = true then _ else _) _ _ s
  rw [if_neg (by simp), pick_rev]
  first
    | exact wpAny_bind (m := Builtin.Tuple.tupleExact _) (wpAny_newObj_type (wpAny_pure ⟨_, rfl, wpAny_pure h⟩) htake)
    | exact wpAny_bind (m := Builtin.Tuple.tupleExact _) (wpAny_newObj_type (wpAny_bind (wpAny_pure (wpAny_pure ⟨_, rfl, wpAny_pure h⟩))) htake)
    | exact wpAny_bind (wpAny_bind (m := Builtin.Tuple.tupleExact _) (wpAny_newObj_type (wpAny_pure (wpAny_pure ⟨_, rfl, wpAny_pure h⟩)) htake))
    | exact wpAny_bind (wpAny_bind (m := Builtin.Tuple.tupleExact _) (wpAny_newObj_type (wpAny_pure ⟨_, rfl, wpAny_pure h⟩) htake))
end
def tRevT (K : PySem.W.Frag) (te : TE) : TE := fun σ H Q => te σ H fun x H1 => ∃ a xs, x = .ref a ∧ SqT K H1 a xs ∧ ∀ p, H1 p = none → Q (.ref p) (upd H1 p (.tup xs.reverse))
section
variable {X : Cx} {W : WX} {e : Expr} {fa : M D} {te : TE} {k : Nat} {p1 p2 p3 pos : Pos}
theorem pe_revT (he : PE X e te) : PE X (.Subscript e (.Slice none none (some (.UnaryOp .USub (.Constant (.int 1) k p1) p2)) p3) pos) (tRevT X.K te) := by
  refine ⟨fun pins s σ H Q I h => ?_⟩
  refine Subscript_ (thn (he.run pins s σ H _ I h) fun v s1 ⟨x, H1, I1, r1, q1⟩ => ?_)
  obtain ⟨a, xs, ex, hx, q⟩ := q1
  subst ex
  cases r1
  have hst : PO X (some (.UnaryOp .USub (.Constant (.int 1) k p1) p2)) (tPart (tUn (rU fun i => .int (-i)) (tC (.int 1)))) := po_some (pe_un un_neg pe_int)
  refine wpAny_Slice (thn (po_none.run pins s1 σ H1 (fun o H2 => o = none ∧ H2 = H1) I1 ⟨rfl, rfl⟩) fun vl s2 ⟨l, H2, I2, pl, el, e2⟩ => ?_)
  subst el e2
  refine thn (po_none.run pins s2 σ H2 (fun o H3 => o = none ∧ H3 = H2) I2 ⟨rfl, rfl⟩) fun vu s3 ⟨u, H3, I3, pu, eu, e3⟩ => ?_
  subst eu e3
  refine thn (hst.run pins s3 σ H3 (fun o H4 => o = some (-1) ∧ H4 = H3) I3 ⟨1, rfl, -1, rfl, rfl, rfl⟩) fun vs s4 ⟨o, H4, I4, ps, eo, e4⟩ => ?_
  subst eo e4
  have I5 : Inv X pins σ H4 { s4 with heap := s4.heap.push { cls := .type "slice", data := .fields #[vl, vu, vs] } } := I4.kept (t' := s4.toks) fun b ob q => Heap.get?_push_of_some _ q
  obtain ⟨its, r, ht, hz⟩ := I5.tuple hx
  have hlen := r.length
  show wpAny (model X.prog X.w) X.A (subscriptTail e (.Slice none none (some (.UnaryOp .USub (.Constant (.int 1) k p1) p2)) p3) (.ref a) (.ref s4.heap.objs.size)) (EP X pins σ Q) X.xe { s4 with heap := s4.heap.push { cls := .type "slice", data := .fields #[vl, vu, vs] } }
  refine tail_any (ops := [.ref a, .ref s4.heap.objs.size]) ht.typeIs (PyProof.Rows.slot_tuple_getitem.lookup) ?_ (by with_unfolding_all rfl)
  refine getItem_tuple_rev ht (Heap.IsSliceOf.new _ vl vu vs) pl pu ps ?_ (by rw [List.size_toArray]; omega)
  refine ⟨.ref _, _, I5.laid (t' := s4.toks) (o := .tup xs.reverse) (fun b ob q => Heap.get?_push_of_some _ q) (Nat.le_refl _) ?_, rfl, q _ (I5.hok.fresh (Nat.le_refl _))⟩
  exact ⟨by rw [List.length_reverse]; exact hz, _, r.reverse, IsTup.new _ _⟩
def dRevT : D → M D := fun d => li (match d with
  | .tup xs => some (.tup xs.reverse) | _ => none)
theorem ped_revT (ha : PED X W e fa) : PED X W (.Subscript e (.Slice none none (some (.UnaryOp .USub (.Constant (.int 1) k p1) p2)) p3) pos) (bd fa dRevT) := by
  obtain ⟨ta, pa, ea⟩ := ha
  refine ⟨_, pe_revT pa, fun Z B σ H e Q S h => ?_⟩
  refine ea.then S h (fun x e' q => q) fun d e1 v B1 H1 S1 l1 a1 h1 => ?_
  obtain ⟨r, h2, h3⟩ := wp_li h1
  cases d with
  | tup xs =>
    cases h2
    obtain ⟨p, vs, rfl, g1, g2⟩ := a1.tup_inv
    refine ⟨p, vs, rfl, seqT S1.bh g1, fun q hq => ?_⟩
    obtain ⟨S2, l2⟩ := S1.new (o := .tup vs.reverse) hq
    exact h3 _ _ _ S2 (l1.trans l2) (.tup (SqT.of upd_same) (g2.mono l2).rev)
  | _ => cases h2
end
end Dl
set_option maxHeartbeats 1000000
/-! Layer D: a test that looks at a list of one's own; x[::-1] as a new list. -/
namespace Dl
open PySem PySem.Spec PyProof.Rows L2 RZ
def noOwnE (e : En) : En := e.map fun s => if s.isOwn = true then .no else s
def viewI (e : En) (i : Nat) (ds : List D) : En := (noOwnE e).set i (.val (.lst ds))
/-- a test, the list of one's own in slot i only looked at -/
def fPeek (i : Nat) (ft : M Bool) : M Bool := fun e => match e[i]? with
  | some (.own false ds) => match ft (viewI e i ds) with
    | .ok b _ => .ok b e
    | _ => .bad
  | _ => ft e
theorem viewI_get {e : En} {i : Nat} {ds : List D} {k : Nat} {s : Sl} (q : (viewI e i ds)[k]? = some s) : (k = i ∧ s = .val (.lst ds)) ∨ ∃ s0, e[k]? = some s0 ∧ s = (if s0.isOwn = true then .no else s0) := by
  unfold viewI at q
  rw [List.getElem?_set] at q
  split at q
  · rename_i h
    split at q
    · cases q; exact .inl ⟨h.symm, rfl⟩
    · cases q
  · unfold noOwnE at q
    rw [List.getElem?_map] at q
    obtain ⟨s0, h1, h2⟩ := Option.map_eq_some_iff.mp q
    exact .inr ⟨s0, h1, h2.symm⟩
section
variable {K : PySem.W.Frag} {mg : Str → Option Value} {Z : Ent} {B : Hp} {σ : St} {H : Hp} {e : En}
theorem SR.view {i : Nat} {ds : List D} (S : SR K mg Z B σ H e) (q : e[i]? = some (.own false ds)) : ∃ Zv Bv, SR K mg Zv Bv σ H (viewI e i ds) ∧ Zv.H0 = H ∧ Zv.R = [] := by
  obtain ⟨a, xs, o1, o2, o3, o4, _, _⟩ := S.own q
  have sm := vw_same (H := H) (ps := [a]) (B := B) fun b m => by rw [List.mem_singleton.mp m]; exact o4
  refine ⟨⟨vwB B H [a], H, [], σ⟩, vwB B H [a], ⟨Same.refl _, fun b o q => ?_, fun b o q _ => q, fun b o q => .inl q, fun b o q => ⟨o, q⟩, ?_, fun k s q => ?_, fun k j b _ hk _ _ => ?_⟩, rfl, rfl⟩
  · unfold vwB at q
    split at q
    · exact q
    · exact S.bh b o q
  · unfold viewI noOwnE
    rw [List.length_set, List.length_map]
    exact S.ln
  · rcases viewI_get q with ⟨rfl, rfl⟩ | ⟨s0, h1, rfl⟩
    · exact ⟨.ref a, o1, .lst ((vw_in (List.mem_singleton_self a)).trans o2) (o3.mono sm)⟩
    · have sl := S.sl k s0 h1
      split
      · trivial
      · rename_i h
        cases s0 with
        | no => trivial
        | val d =>
          obtain ⟨v, g1, g2⟩ := sl
          exact ⟨v, g1, g2.mono sm⟩
        | own r l => exact absurd rfl h
        | oin r c n l => exact absurd rfl h
  · obtain ⟨s, q, hs⟩ := hk
    rcases viewI_get q with ⟨_, rfl⟩ | ⟨s0, h1, rfl⟩
    · cases hs
    · split at hs
      · cases hs
      · rename_i h; exact absurd hs h
end
section
variable {X : Cx} {W : WX} {T e : Expr} {ft : M Bool} {fa : M D} {k : Nat} {p1 p2 p3 pos : Pos}
theorem pbd_peek (i : Nat) (hT : PBD X W T ft) : PBD X W T (fPeek i ft) := by
  obtain ⟨tt, pt, et⟩ := hT
  refine ⟨tt, pt, fun Z B σ H e Q S h => ?_⟩
  unfold fPeek at h
  have plain : (ft e).wp (PB X.K X.mg Z B σ Q) (PX X.K X.mg Z B σ W) → tt σ H Q := et Z B σ H e Q S
  cases q1 : e[i]? with
  | none => rw [q1] at h; exact plain h
  | some s =>
    rw [q1] at h
    cases s with
    | no => exact plain h
    | val d => exact plain h
    | oin r c n l => exact plain h
    | own r ds =>
      cases r with
      | true => exact plain h
      | false =>
        have h : (match ft (viewI e i ds) with
          | .ok b _ => Res.ok b e
          | _ => .bad).wp (PB X.K X.mg Z B σ Q) (PX X.K X.mg Z B σ W) := h
        obtain ⟨Zv, Bv, Sv, z1, z2⟩ := S.view q1
        refine et Zv Bv σ H _ Q Sv ?_
        cases q : ft (viewI e i ds) with
        | bad => rw [q] at h; exact False.elim h
        | exc x e' => rw [q] at h; exact False.elim h
        | ok b e' =>
          rw [q] at h
          intro B' H' S' l'
          exact h B H' (S.more fun a o g => S'.fh a o (by rw [z1]; exact g) (by rw [z2]; exact fun m => nomatch m)) (Same.refl B)
end
end Dl
set_option maxHeartbeats 1000000
/-! Layer D: x + y of lists as a new list; xs.insert(i, y). -/
namespace Dl
open PySem PySem.Spec PyProof.Rows L2 RZ
end Dl
set_option maxHeartbeats 1000000
/-! Layer D: min of a list of tuples of ints. -/
namespace Dl
open PySem PySem.Spec PyProof.Rows L2 PySem.Calls
/-! ### as a rule -/
end Dl
set_option maxHeartbeats 1000000
/-! Layer D: x or y, x a list. -/
namespace Dl
open PySem PySem.Spec PyProof.Rows L2
end Dl
set_option maxHeartbeats 1000000
/-! Layer D: xs.count(y), xs.index(y) of data. -/
namespace Dl
open PySem PySem.Spec PyProof.Rows L2
def rCountD (K : PySem.W.Frag) : V → List V → Hp → VK → Prop := fun x xs H Q => ∃ (a : Addr) (y : V) (d : PyData) (ds : List PyData), x = V.ref a ∧ xs = [y] ∧ Dp K H (V.ref a) (.list ds) ∧ Dp K H y d ∧
  SeqAt.shaped (.list ds) = true ∧ SeqAt.shaped d = true ∧ Q (.int (ds.countP fun z => PyData.eqv z d : Nat)) H
section
variable {X : Cx}
theorem mt_countD (hu : X.A.units + 65 < cLine) : MtR X "list.count" (rCountD X.K) := by
  intro pins s σ H x xs v us Q I rx rxs h
  obtain ⟨a, y, d, ds, rfl, rfl, hl, hy, sl, sd, q⟩ := h
  cases rx
  cases rxs with
  | cons ry rt =>
    rename_i uy ut
    cases rt
    obtain ⟨bs, r1⟩ := Dp.reads I d y uy hy ry
    have hxs : PyData.canLayAll0 ds = true := SeqAt.canLay_of_shaped sl
    have hroom : X.A.units + 1 + min (PyData.depthAll ds) d.depth < cLine := room_in_shaped sd hu
    cases hl with
    | lst hs ha =>
      obtain ⟨its, rv, ⟨⟨cls, dd, data, sls⟩, n, ho, hc, hdn, hdt⟩, hlen⟩ := I.list hs
      simp only at hc hdt
      subst hc hdt
      obtain ⟨as, h4⟩ := Dp.readsAll I ds _ its ha rv
      have hmap : its.map (SeqAt.readOf s.heap) = ds := SeqAt.readsAll_map ds its as hxs h4
      refine call_meets PySem.F.slot_list_count ⟨_, ho, rfl⟩ PySem.F.entry_list_count (PySem.F.args_list_count_2 _ _)
        (SeqAt.list_countAt a its.toArray n dd sls uy (fun u => PyData.eqv (SeqAt.readOf s.heap u) d)) ⟨ho, SeqAt.items_eqAt (vs := its.toArray) (show ReadsAll s.heap its.toArray.toList ds as from h4) r1 hxs (SeqAt.canLay_of_shaped sd) hroom, ?_⟩
      refine ⟨.int (ds.countP fun z => PyData.eqv z d : Nat), H, I.tok _, ⟨s.toks, ?_⟩, q⟩
      have e : its.toArray.toList.countP (fun u => PyData.eqv (SeqAt.readOf s.heap u) d) = ds.countP fun z => PyData.eqv z d := by
        rw [← hmap, List.countP_map]
        rfl
      show Value.int ((its.toArray.toList.countP (fun u => PyData.eqv (SeqAt.readOf s.heap u) d) : Nat) : Int) s.toks = _
      rw [e]
end
def oCount (a b : D) : Option D := match toP a, toP b with
  | some (.list ps), some q => if SeqAt.shaped (.list ps) = true ∧ SeqAt.shaped q = true then some (.int (ps.countP fun z => PyData.eqv z q : Nat)) else none
  | _, _ => none
section
variable {X : Cx} {W : WX} {o a : Expr} {fo fa : M D} {apos cpos : Pos}
def fListM (f : D → D → Option D) (fo fa : M D) : M D := bd fo fun d => match d with
  | .lst ds => bd fa fun y => li (f (.lst ds) y)
  | _ => fun _ => .bad
theorem ped_countD (hu : X.A.units + 65 < cLine) (ho : PED X W o fo) (ha : PED X W a fa)
    (hbase : attributeBase o "count" X.env (eval o X.env) = eval o X.env := by rfl)
    (hfew : ((backTo cpos (starEach [a] X.env)).all (fun x => !x.1) && (backToKw cpos (keywordEach [] X.env)).all (fun x => x.1.isSome) && decide ([a].length + ([] : List Keyword).length + (if ([] : List Keyword).isEmpty then 0 else 1) < 30)) = true := by rfl)
    (hline : (apos.endLine == cpos.line) = true := by rfl) (hs : starEach [a] X.env = (false, eval a X.env) :: starEach [] X.env := by rfl) (hplain : (backTo cpos (starEach [] X.env)).any (·.1) = false := by rfl) :
    PED X W (.Call (.Attribute o "count" apos) [a] [] cpos) (fListM oCount fo fa) := by
  obtain ⟨to, po, eo⟩ := ho
  obtain ⟨ta, pa, ea⟩ := ha
  refine ⟨_, pe_bm PySem.F.plainAttrs_list PySem.F.slot_list_count PySem.F.type_list_count (mt_countD hu) po (pa_cons pa pa_nil hs) hbase hfew hline hs hplain, fun Z B σ H e Q S h => ?_⟩
  refine eo.then S h (fun x e' q => q) fun d e1 v B1 H1 S1 l1 a1 h1 => ?_
  cases d with
  | lst ds =>
    obtain ⟨p, vs, rfl, g1, g2⟩ := a1.lst_inv
    refine ⟨.inl ⟨rfl, _, SqL.of (S1.bh _ _ g1)⟩, ?_⟩
    refine ea.then S1 h1 (fun x e' q => PX.up l1 q) fun d2 e2 v2 B2 H2 S2 l2 a2 h2 => ?_
    obtain ⟨z, h3, h4⟩ := wp_li h2
    unfold oCount at h3
    split at h3
    · rename_i ps q e3 e4
      split at h3
      · rename_i c
        cases h3
        exact ⟨p, v2, q, ps, rfl, rfl, (a1.mono l2).dp S2.bh e3, a2.dp S2.bh e4, c.1, c.2, h4 _ B2 H2 S2 (l1.trans l2) (.int _)⟩
      · cases h3
    · cases h3
  | _ => exact False.elim h1
theorem units65 {k : Nat} {A : Around} (r : Room k A) : A.units + 65 < cLine := by have := r.un; omega
end
end Dl
set_option maxHeartbeats 1000000
/-! Layer D: comprehensions with two for (what stands outside is only read; the items are numbers, bools, texts or None). -/
namespace Dl
open PySem PySem.Spec PyProof.Rows L2 RZ
section
variable {X : Cx} {W : WX} {elt tg iter tg1 iter1 : Expr} {ifs ifs1 : List Expr} {scope : Scope} {own : List (Str × Nat)} {src src1 : M (List D)} {t t1 : D → M Unit} {c c1 : M Bool} {el : M D} {pos : Pos} {vs1 : List Nat}
def canI (K : PySem.W.Frag) (mg : Str → Option Value) (W : WX) (f : M (List D)) : TI := fun σ H R => ∃ Z B e, SR K mg Z B σ H e ∧ (f e).wp (fun ds e' => ∀ J B' H', SR K mg Z B' σ H' e' → Same B B' → Walks K mg J B' ds → R J H') (PX K mg Z B σ W)
theorem PID.can {a b : Expr} {f : M (List D)} (h : PID X W a b f) : PI X a b (canI X.K X.mg W f) := by
  obtain ⟨wi, p, ev⟩ := h
  exact ⟨fun pins s σ H R I ⟨Z, B, e, S, q⟩ => p.run pins s σ H R I (ev Z B σ H e R S q)⟩
end
end Dl
set_option maxHeartbeats 400000
/-! Layer D: repr of lists in which empty dicts are. -/
namespace PySem
open Sem (wp)
end PySem
namespace Dl
open PySem PySem.Spec PyProof.Rows L2
end Dl
set_option maxHeartbeats 400000
/-! Layer D: sum of a tuple of ints. -/
namespace L2
open PySem PySem.Spec PyProof.Rows
end L2
namespace Dl
open PySem PySem.Spec PyProof.Rows L2 RZ
end Dl
set_option maxHeartbeats 1000000
/-! Layer D: a list of one's own handed on whole; calls of objects that give a new list. -/
namespace Dl
open PySem PySem.Spec PyProof.Rows L2 RZ
end Dl
set_option maxHeartbeats 400000
/-! Layer D: zip of a tuple and a list. -/
namespace Dl
open PySem PySem.Spec PyProof.Rows L2 RZ
end Dl
set_option maxHeartbeats 1000000
/-! Layer D: texts. -/
namespace Dl
open PySem PySem.Spec PyProof.Rows L2 RZ
end Dl
set_option maxHeartbeats 1000000
/-! Layer D: xs[i] as a target among others; f-strings. -/
namespace Dl
open PySem PySem.Spec PyProof.Rows L2 RZ
end Dl
set_option maxHeartbeats 1000000
/-! Layer D: zip of a list and a tuple. -/
namespace Dl
open PySem PySem.Spec PyProof.Rows L2 RZ
end Dl
set_option maxHeartbeats 1000000
/-! Layer D: isinstance of an own object by a built-in class. -/
namespace Dl
open PySem PySem.Spec PyProof.Rows L2 RZ
end Dl
set_option maxHeartbeats 1000000
/-! Layer D: a call whose one argument is a new list, changed by the callee and then gone. -/
namespace Dl
open PySem PySem.Spec PyProof.Rows L2 RZ
end Dl
set_option maxHeartbeats 1000000
/-! Layer D: fields of f-strings at the right of a width. -/
namespace Dl
open PySem PySem.Spec PyProof.Rows L2 RZ
open Builtin Builtin.Str Builtin.Int Builtin.Float PySem.W TL
section
variable {prog : Program} {w : World} {A : Around} {E : Value → Shared → Prop} {s : Shared} {t : Tok} {x sp : Str}
theorem fld (n : Nat) (neg : Bool) {ds : List Nat} (hd : ds ≠ []) : (intField' { align := 62, width := some n } neg [] ds [] 3).cps.toList = List.replicate (n - ((if neg = true then [45] else []) ++ ds).length) 32 ++ ((if neg = true then [45] else []) ++ ds) := by
  have z : (0 : Int).toNat - ds.length = 0 := Nat.zero_sub _
  have key : ∀ sg : List Nat, (List.replicate (((n : Int) - ((sg.length : Int) + (([] : List Nat).length : Int) + (([] : List Nat).length : Int)) - ((List.replicate ((0 : Int).toNat - ds.length) 48 ++ ds).length : Int)).toNat) 32 ++ sg ++ [] ++ List.replicate 0 32 ++ (List.replicate ((0 : Int).toNat - ds.length) 48 ++ ds) ++ [] ++ List.replicate 0 32 : List Nat) = List.replicate (n - (sg ++ ds).length) 32 ++ (sg ++ ds) := fun sg => by
    rw [z, List.replicate_zero, List.nil_append, List.replicate_zero, List.append_nil, List.append_nil, List.append_nil, List.append_nil, List.append_assoc, List.length_append]
    congr 2
    simp only [List.length_nil]
    omega
  cases ds with
  | nil => exact absurd rfl hd
  | cons d r => cases neg with
    | true => exact key [45]
    | false => exact key []
end
end Dl
set_option maxHeartbeats 1000000
/-! Layer D: where a token must be out (replace). -/
namespace Dl
open PySem PySem.Spec PyProof.Rows L2 RZ CwR
def PSDT (X : Cx) (W : WX) (st : Stmt) (f : M Fl) : Prop := ∃ ts, PST X st ts ∧ EvS X.K X.mg W ts f
def PSsDT (X : Cx) (W : WX) (st : List Stmt) (f : M Fl) : Prop := ∃ ts, PSsT X st ts ∧ EvS X.K X.mg W ts f
section
variable {X : Cx} {W : WX} {a : Expr} {fa : M D} {st : Stmt} {rest : List Stmt} {g u : M Fl} {pos : Pos}
theorem PSDT.of (h : PSD X W st g) : PSDT X W st g := by
  obtain ⟨t, p, e⟩ := h
  exact ⟨t, PST.of p, e⟩
theorem PSsDT.of (h : PSsD X W rest g) : PSsDT X W rest g := by
  obtain ⟨t, p, e⟩ := h
  exact ⟨t, PSsT.of p, e⟩
end
/-! ### a def with a parameter: a token is out when its body begins -/
/-! ### replace, and a test that begins with it -/
/-! ### for, whose body needs a token -/
end Dl
set_option maxHeartbeats 400000
/-! Layer D: x.pop() of a list of one's own. -/
namespace Dl
open PySem PySem.Spec PyProof.Rows L2
def popO0 (i : Nat) : M D := fun e => match e[i]? with
  | some (.own r ds) => (match ds[ds.length - 1]? with | some d => .ok d (e.set i (.own r ds.dropLast)) | none => .bad)
  | _ => .bad
def fPop0 (i : Nat) : M D := noExc (popO0 i)
theorem popO0_wp {i : Nat} {e : En} {Q : D → En → Prop} {E : D → En → Prop} (h : (popO0 i e).wp Q E) : ∃ r ds d, e[i]? = some (.own r ds) ∧ ds[ds.length - 1]? = some d ∧ Q d (e.set i (.own r ds.dropLast)) := by
  unfold popO0 at h
  split at h
  · rename_i r ds q
    split at h
    · rename_i d hd
      exact ⟨r, ds, d, q, hd, h⟩
    · exact False.elim h
  · exact False.elim h
theorem AtL.dropLast {K : PySem.W.Frag} {mg : Str → Option Value} {B : Hp} {xs : List V} {ds : List D} (h : AtL K mg B xs ds) : AtL K mg B xs.dropLast ds.dropLast := by
  rw [List.dropLast_eq_take, List.dropLast_eq_take, h.length]
  exact h.take _
section
variable {X : Cx} {W : WX} {x : Str} {px pos apos : Pos}
theorem ped_pop0 (i : Nat) {cpos : Pos} (hN : X.N[i]? = some x := by rfl) (hv : Vis X.env.scope x := by first | exact Or.inl rfl | exact Or.inr (Or.inl rfl) | exact Or.inr (Or.inr rfl)) (hd : (x == ("__debug__" : Str)) = false := by decide) (hcd : (x == ("__classdict__" : Str)) = false := by decide)
    (hbase : attributeBase (.Name x px) "pop" X.env (eval (.Name x px) X.env) = eval (.Name x px) X.env := by rfl)
    (hline : (apos.endLine == cpos.line) = true := by rfl) :
    PED X W (.Call (.Attribute (.Name x px) "pop" apos) [] [] cpos) (fPop0 i) := by
  refine ⟨_, pe_bm0 PySem.F.plainAttrs_list PySem.F.slot_list_pop PySem.F.type_list_pop mt_pop (pe_var hN hv hd hcd) hbase hline, fun Z B σ H e Q S h => ?_⟩
  obtain ⟨r, ds, d, q, hd2, h3⟩ := popO0_wp (noExc_wp h)
  obtain ⟨p, xs, e1, w1, w2, _⟩ := S.own q
  obtain ⟨y, g1, g2⟩ := w2.get hd2
  refine ⟨_, e1, .inl ⟨rfl, _, SqL.of w1⟩, p, xs, y, rfl, rfl, w1, by rw [w2.length]; exact g1, h3 y B _ (S.putL q e1 w2.dropLast) (Same.refl B) g2⟩
end
end Dl
set_option maxHeartbeats 1000000
/-! Layer D: x in a list of instances with an own ==. -/
namespace GB
open PySem PySem.SeqAt
open AutoSeq1 (wpAny_loadPart')
open MeetsSeq MeetsSeq2 MeetsSeq3 SeqRoads2 GQ
/-- a list of a known length, and what its items are to x, read anew at each turn -/
def InH (prog : Program) (w : World) (A : Around) (E : Value → Shared → Prop) (l : Addr) (x : Value) (N : Nat) (e : Nat → Bool) (I : Shared → Prop) : Prop :=
  ∀ s, I s → ∃ (items : Array Value) (n : Nat), s.heap.get? l = some { cls := .type "list", data := .seq items n } ∧ items.size = N ∧
    ∀ i (h1 : i < items.size), (∀ j, j < i → e j = false) → wpAny (model prog w) A.in1 (eqBool items[i] x) (fun r s' => r = e i ∧ I s') E s
def anyN (N : Nat) (e : Nat → Bool) : Bool := (List.range N).any e
theorem anyN_true {N i : Nat} {e : Nat → Bool} (hi : i < N) (h : e i = true) : anyN N e = true := List.any_eq_true.mpr ⟨i, List.mem_range.mpr hi, h⟩
theorem anyN_false {N : Nat} {e : Nat → Bool} (h : ∀ j, j < N → e j = false) : anyN N e = false := List.any_eq_false.mpr fun j hj => by rw [h j (List.mem_range.mp hj)]; exact Bool.false_ne_true
section
variable {prog : Program} {w : World} {A : Around} {R : Result → Shared → Prop}
theorem in_loopH (l : Addr) (x : Value) (N : Nat) (e : Nat → Bool) (I : Shared → Prop) (hI : InH prog w A (fun e s' => R (.error e) s') l x N e I)
    (fin : ∀ s, I s → R (.ok (.ret (.bool (anyN N e)))) s) (k : Nat) :
    ∀ i : Nat, N - i = k → i ≤ N → (∀ j, j < i → e j = false) → ∀ s, I s →
      wpAny (model prog w) A.in1 (Builtin.«list.__contains__.loop» ⟨[.ref l, x, rawInt i], []⟩) (FinOf prog w A R) (fun e s' => R (.error e) s') s := by
  induction k with
  | zero =>
    intro i hk hi hal s h
    obtain ⟨items, n, hl, s1, _⟩ := hI s h
    have hR := fin s h
    rw [anyN_false fun j hj => hal j (by omega)] at hR
    obtain ⟨hp, g, d, tk, os⟩ := s
    wp_walk using wpAny_loadPart' hl
    have hi1 : items[((i : Nat) : Int).toNat]? = none := by simp; omega
    rw [hi1]
    wp_walk
    exact hR
  | succ k ih =>
    intro i hk hi hal s h
    obtain ⟨items, n, hl, s1, turn⟩ := hI s h
    have hlt : i < items.size := by omega
    have ht := turn i hlt hal
    obtain ⟨hp, g, d, tk, os⟩ := s
    wp_walk using wpAny_loadPart' hl
    have hi1 : items[((i : Nat) : Int).toNat]? = some items[i] := by simp [hlt]
    have hc : ((i : Int) + 1) = ((i + 1 : Nat) : Int) := by omega
    rw [hi1]
    refine wpAny_bind (wpAny_mono ht (fun r s2 h2 => ?_) fun _ _ x => x)
    obtain ⟨hr, h2⟩ := h2
    subst hr
    have hR := fin s2 h2
    cases hb' : e i with
    | true =>
      rw [anyN_true (i := i) (by omega) hb'] at hR
      obtain ⟨hp2, g2, d2, tk2, os2⟩ := s2
      wp_walk
      exact hR
    | false =>
      have hrec := ih (i + 1) (by omega) (by omega) (fun j hj => by
        rcases Nat.lt_or_eq_of_le (Nat.le_of_lt_succ hj) with z | rfl
        · exact hal j z
        · exact hb') s2 h2
      obtain ⟨hp2, g2, d2, tk2, os2⟩ := s2
      wp_walk
      rw [hc]
      exact ⟨plainId_quiet plain_contains_loop _, codeAny_builtin entry_contains_loop (by
        rw [Around.under_plainId plain_contains_loop _]
        exact hrec)⟩
theorem list_inH (l : Addr) (x : Value) (N : Nat) (e : Nat → Bool) (I : Shared → Prop) (hI : InH prog w A (fun e s' => R (.error e) s') l x N e I)
    (fin : ∀ s, I s → R (.ok (.ret (.bool (anyN N e)))) s) {s : Shared} (h : I s) :
    wpAny (model prog w) A.in1 (Builtin.«list.__contains__» ⟨[.ref l, x], []⟩) (FinOf prog w A R) (fun e s' => R (.error e) s') s := by
  obtain ⟨items, n, hl, s1, _⟩ := hI s h
  have hrec := in_loopH (A := A) (R := R) l x N e I hI fin _ 0 rfl (Nat.zero_le _) (fun j hj => absurd hj (Nat.not_lt_zero j)) s h
  obtain ⟨hp, g, d, tk, os⟩ := s
  wp_walk using wpAny_loadPart' hl
  exact ⟨plainId_quiet plain_contains_loop _, codeAny_builtin entry_contains_loop (by
    rw [Around.under_plainId plain_contains_loop _]
    exact hrec)⟩
end
section
variable {prog : Program} {w : World} {A : Around} {E : Value → Shared → Prop} {s : Shared}
theorem in_listH {l : Addr} {x : Value} {N : Nat} {Q : Value → Shared → Prop} (e : Nat → Bool) (I : Shared → Prop) (hI : InH prog w A E l x N e I)
    (fin : ∀ s, I s → Q (.bool (anyN N e)) s) (h : I s) : wpAny (model prog w) A (compareOp .In x (.ref l)) Q E s := by
  obtain ⟨items, n, hl, _, _⟩ := hI s h
  show wpAny _ A (do return .bool (← contains (.ref l) x)) Q E s
  refine wpAny_bind (wpAny_contains_slot ⟨_, hl, rfl⟩ F.slot_list_contains (wpAny_mono (Q := fun v s' => ∃ b, v = .bool b ∧ Q (.bool b) s') (call_here F.slot_list_contains ⟨_, hl, rfl⟩ F.entry_list_contains (F.args_list_contains_2 _ _) ?_) (fun v s' hv => ?_) fun _ _ e => e))
  · exact list_inH (R := wants (fun v s' => ∃ b, v = .bool b ∧ Q (.bool b) s') E) l x N e I hI (fun s' q => ⟨_, rfl, fin s' q⟩) h
  · obtain ⟨b, rfl, hq⟩ := hv
    exact wpAny_truthy_bool (wpAny_pure hq)
theorem notIn_listH {l : Addr} {x : Value} {N : Nat} {Q : Value → Shared → Prop} (e : Nat → Bool) (I : Shared → Prop) (hI : InH prog w A E l x N e I)
    (fin : ∀ s, I s → Q (.bool (!anyN N e)) s) (h : I s) : wpAny (model prog w) A (compareOp .NotIn x (.ref l)) Q E s := by
  obtain ⟨items, n, hl, _, _⟩ := hI s h
  show wpAny _ A (do return .bool (!(← contains (.ref l) x))) Q E s
  refine wpAny_bind (wpAny_contains_slot ⟨_, hl, rfl⟩ F.slot_list_contains (wpAny_mono (Q := fun v s' => ∃ b, v = .bool b ∧ Q (.bool (!b)) s') (call_here F.slot_list_contains ⟨_, hl, rfl⟩ F.entry_list_contains (F.args_list_contains_2 _ _) ?_) (fun v s' hv => ?_) fun _ _ e => e))
  · exact list_inH (R := wants (fun v s' => ∃ b, v = .bool b ∧ Q (.bool (!b)) s') E) l x N e I hI (fun s' q => ⟨_, rfl, fin s' q⟩) h
  · obtain ⟨b, rfl, hq⟩ := hv
    exact wpAny_truthy_bool (wpAny_pure hq)
end
end GB
namespace Dl
open PySem PySem.Spec PyProof.Rows L2 RZ
def memO (F : En → Res D) (c : Str) : List D → D → Option Bool
  | [], _ => some false
  | x :: xs, y => match d2r F c x y with
    | some true => some true
    | some false => memO F c xs y
    | none => none
theorem memO_at {F : En → Res D} {c : Str} {y : D} : ∀ {xs : List D} {r : Bool}, memO F c xs y = some r → ∃ e : Nat → Bool, r = GB.anyN xs.length e ∧ ∀ i x, xs[i]? = some x → (∀ j, j < i → e j = false) → d2r F c x y = some (e i)
  | [], r, h => by
    cases h
    exact ⟨fun _ => false, rfl, fun i x h1 => by simp at h1⟩
  | x :: xs, r, h => by
    unfold memO at h
    cases q : d2r F c x y with
    | none => rw [q] at h; cases h
    | some b =>
      rw [q] at h
      cases b with
      | true =>
        cases h
        refine ⟨fun _ => true, (GB.anyN_true (i := 0) (by simp) rfl).symm, fun i z hz hal => ?_⟩
        cases i with
        | zero => cases hz; exact q
        | succ i => exact absurd (hal 0 (by omega)) (by simp)
      | false =>
        obtain ⟨e, hr, he⟩ := memO_at (xs := xs) h
        refine ⟨fun i => match i with
          | 0 => false
          | i + 1 => e i, ?_, fun i z hz hal => ?_⟩
        · rw [hr]
          unfold GB.anyN
          rw [List.length_cons, List.range_succ_eq_map, List.any_cons, List.any_map]
          rfl
        · cases i with
          | zero => cases hz; exact q
          | succ i => exact he i z hz fun j hj => hal (j + 1) (by omega)
section
variable {X : Cx} {k : Nat} {f C : Addr} {c : Str} {F : En → Res D} {W : WX}
/-- what the items are to y -/
def InB (X : Cx) (C : Addr) (sp : Sp) (xs : List V) (y : V) (e : Nat → Bool) (J : Hp → Prop) : Prop :=
  ∀ i x, xs[i]? = some x → (∀ j, j < i → e j = false) → SeqB X C sp [x] [y] (fun _ => e i) J
def rInL (X : Cx) (C : Addr) (sp : Sp) (neg : Bool) : R2 := fun x y H Q => ∃ a xs e J, y = .ref a ∧ J H ∧ (∀ H', J H' → H' a = some (.lst xs)) ∧ InB X C sp xs x e J ∧ ∀ H', J H' → Q (.bl (if neg then !GB.anyN xs.length e else GB.anyN xs.length e)) H'
theorem inH_of {sp : Sp} (G : FnR X.prog X.w X.K X.mg X.base (L2.CX X.prog X.w) k f sp) (hs : PySem.W.findIn X.K (.ref C) "__eq__" = some (some (.ref f))) (hf : PySem.W.isFn X.K (.ref f) = true) (hr : Room (k + 1) X.A)
    {pins : List (Addr × Obj)} {σ : St} {a : Addr} {xs : List V} {x : V} {v : Value} {e : Nat → Bool} {J : Hp → Prop} (rx : RelV x v) (hl : ∀ H', J H' → H' a = some (.lst xs)) (P : InB X C sp xs x e J) :
    GB.InH X.prog X.w X.A X.xe a v xs.length e (fun s' => ∃ H', Inv X pins σ H' s' ∧ J H') := by
  intro s' q
  obtain ⟨H1, I1, j1⟩ := id q
  obtain ⟨z, its, n, r, e1⟩ := I1.hok a _ (hl H1 j1)
  refine ⟨its.toArray, n, e1, by rw [List.size_toArray, ← r.length], fun i h1 hal => ?_⟩
  have k1 : i < xs.length := by rw [r.length]; simpa using h1
  obtain ⟨u, hu, ru⟩ := r.get (List.getElem?_eq_getElem k1)
  have g1 : its[i]? = some its.toArray[i] := by
    have h1' : i < its.length := by simpa using h1
    rw [List.getElem?_eq_getElem h1'] <;> simp
  rw [g1] at hu
  cases hu
  have t := turnB G hs hf ⟨hr, rfl⟩ (P i _ (List.getElem?_eq_getElem k1) hal) (its := [its.toArray[i]]) (its2 := [v]) (.cons ru .nil) (.cons rx .nil) 0 (by simp) (by simp) s' (fun j hj => absurd hj (Nat.not_lt_zero j)) q
  exact t
theorem opr_inL {sp : Sp} (G : FnR X.prog X.w X.K X.mg X.base (L2.CX X.prog X.w) k f sp) (hs : PySem.W.findIn X.K (.ref C) "__eq__" = some (some (.ref f))) (hf : PySem.W.isFn X.K (.ref f) = true) (hr : Room (k + 1) X.A) : OpR X (compareOp .In) (rInL X C sp false) := by
  intro pins s σ H x y v u Q I rx ry h
  obtain ⟨a, xs, e, J, rfl, hj, hl, P, hq⟩ := h
  cases ry
  refine GB.in_listH (N := xs.length) e (fun s' => ∃ H', Inv X pins σ H' s' ∧ J H') (inH_of G hs hf hr rx hl P) (fun s' q => ?_) ⟨H, I, hj⟩
  obtain ⟨H', I', j'⟩ := q
  exact ⟨.bl (GB.anyN xs.length e), H', I', rfl, hq H' j'⟩
theorem opr_notInL {sp : Sp} (G : FnR X.prog X.w X.K X.mg X.base (L2.CX X.prog X.w) k f sp) (hs : PySem.W.findIn X.K (.ref C) "__eq__" = some (some (.ref f))) (hf : PySem.W.isFn X.K (.ref f) = true) (hr : Room (k + 1) X.A) : OpR X (compareOp .NotIn) (rInL X C sp true) := by
  intro pins s σ H x y v u Q I rx ry h
  obtain ⟨a, xs, e, J, rfl, hj, hl, P, hq⟩ := h
  cases ry
  refine GB.notIn_listH (N := xs.length) e (fun s' => ∃ H', Inv X pins σ H' s' ∧ J H') (inH_of G hs hf hr rx hl P) (fun s' q => ?_) ⟨H, I, hj⟩
  obtain ⟨H', I', j'⟩ := q
  exact ⟨.bl (!GB.anyN xs.length e), H', I', rfl, hq H' j'⟩
def dInOL (neg : Bool) (F : En → Res D) (c : Str) : D → D → M D := fun a b => li (match b with
  | .lst xs => (memO F c xs a).map fun r => D.bl (if neg then !r else r)
  | _ => none)
theorem od_inL {neg : Bool} (hm : X.mg c = some (.ref C)) : OpD X.K X.mg W (rInL X C (spD X.K X.mg F) neg) (dInOL neg F c) := by
  intro Z B σ H e x y a b Q S ha hb q
  obtain ⟨d, h1, h2⟩ := wp_li q
  cases b with
  | lst es =>
    obtain ⟨p, xs, rfl, g1, g2⟩ := hb.lst_inv
    have h1 : (memO F c es a).map (fun r => D.bl (if neg then !r else r)) = some d := h1
    cases hq : memO F c es a with
    | none => rw [hq] at h1; cases h1
    | some r =>
      rw [hq] at h1
      cases h1
      obtain ⟨an, hr, han⟩ := memO_at hq
      refine ⟨p, xs, an, fun H' => ∃ B', SR X.K X.mg Z B' σ H' e ∧ Same B B', rfl, ⟨B, S, Same.refl B⟩, fun H' j => ?_, fun i x1 hx hal => ?_, fun H' j => ?_⟩
      · obtain ⟨B', S', l'⟩ := j
        exact S'.bh _ _ (l' _ _ g1)
      · obtain ⟨d1, hd1, rd1⟩ := g2.get' hx
        refine seqB_of (Z := Z) (σ := σ) (e := e) hm (.cons rd1 .nil) (.cons ha .nil) fun i2 x2 y2 q1 q2 _ => ?_
        cases i2 with
        | zero =>
          cases q1
          cases q2
          exact han i d1 hd1 hal
        | succ i2 => simp at q1
      · obtain ⟨B', S', l'⟩ := j
        have := h2 (.bl (if neg then !r else r)) B' H' S' l' (.bl _)
        rw [hr, ← g2.length] at this
        exact this
  | _ => cases h1
variable {j : Nat} {a b : Expr} {fa fb : M D} {pos : Pos}
theorem pbd_inOL (cf : OpI X.prog X.w X.K X.mg X.base k c "__eq__" F) (hr : Room j X.A) (hk : k + 1 ≤ j) (ha : PED X W a fa) (hb : PED X W b fb) (h1 : behindInMarks .In b = false := by first | exact nobehind _ (by decide) (by decide) | rfl) : PBD X W (.Compare a [.In] [b] pos) (fB (f2 (dInOL false F c) fa fb)) := by
  obtain ⟨C, f, hm, hs, hf, sf, G⟩ := cf
  exact pbd_cmp (opr_inL G hs hf (hr.mono hk)) (od_inL hm) ha hb h1
theorem pbd_notInOL (cf : OpI X.prog X.w X.K X.mg X.base k c "__eq__" F) (hr : Room j X.A) (hk : k + 1 ≤ j) (ha : PED X W a fa) (hb : PED X W b fb) (h1 : behindInMarks .NotIn b = false := by first | exact nobehind _ (by decide) (by decide) | rfl) : PBD X W (.Compare a [.NotIn] [b] pos) (fB (f2 (dInOL true F c) fa fb)) := by
  obtain ⟨C, f, hm, hs, hf, sf, G⟩ := cf
  exact pbd_cmp (opr_notInL G hs hf (hr.mono hk)) (od_inL hm) ha hb h1
end
end Dl
namespace Dl
open PySem PySem.Spec PyProof.Rows L2 RZ
/-! ### an int that is read off a list of one's own -/
def fPeekI (i : Nat) (ft : M D) : M D := fun e => match e[i]? with
  | some (.own false ds) => match ft (viewI e i ds) with
    | .ok (.int n) _ => .ok (.int n) e
    | _ => .bad
  | _ => ft e
section
variable {X : Cx} {W : WX} {T : Expr} {ft : M D}
theorem ped_peekI (i : Nat) (hT : PED X W T ft) : PED X W T (fPeekI i ft) := by
  obtain ⟨tt, pt, et⟩ := hT
  refine ⟨tt, pt, fun Z B σ H e Q S h => ?_⟩
  unfold fPeekI at h
  have plain : (ft e).wp (PV X.K X.mg Z B σ Q) (PX X.K X.mg Z B σ W) → tt σ H Q := et Z B σ H e Q S
  cases q1 : e[i]? with
  | none => rw [q1] at h; exact plain h
  | some s =>
    rw [q1] at h
    cases s with
    | no => exact plain h
    | val d => exact plain h
    | oin r c n l => exact plain h
    | own r ds =>
      cases r with
      | true => exact plain h
      | false =>
        have h : (match ft (viewI e i ds) with
          | .ok (.int n) _ => Res.ok (D.int n) e
          | _ => .bad).wp (PV X.K X.mg Z B σ Q) (PX X.K X.mg Z B σ W) := h
        obtain ⟨Zv, Bv, Sv, z1, z2⟩ := S.view q1
        refine et Zv Bv σ H _ Q Sv ?_
        cases q : ft (viewI e i ds) with
        | bad => rw [q] at h; exact False.elim h
        | exc x e' => rw [q] at h; exact False.elim h
        | ok b e' =>
          rw [q] at h
          cases b with
          | int n =>
            intro v B' H' S' l' a'
            have ev := a'.int_inv
            subst ev
            exact h (.int n) B H' (S.more fun a o g => S'.fh a o (by rw [z1]; exact g) (by rw [z2]; exact fun m => nomatch m)) (Same.refl B) (.int n)
          | _ => exact False.elim h
end
end Dl
set_option maxHeartbeats 400000
/-! k36: the walk. -/
namespace Dl.k36
open PySem PySem.Spec PyProof.Rows L2 RZ
def top (i : Nat) : Stmt := PySem.Challenge.pw_rankeffect_k36_exchanges_lead_everywhere.main.body.getD i (.Pass ⟨0, 0, 0, 0⟩)
section
variable {P : Program} {w : World} {K : PySem.W.Frag} {mg : Str → Option Value} {base : Heap} {f : Addr} {fd : FuncData}
/-! ### _law_pool -/
abbrev s__law_pool : Stmt := top 33
def g__law_pool : M Fl := fSeq (fSetT (fC (.int 0)) (setV 2)) (fSeq (fIf (fB (f2 dLt (fVar 1) (bd (fCons (fVar 0) (fNil)) (d1 oLen)))) (fSetT (bd (fCons (f2 dAt (fVar 0) (fVar 1)) (fNil)) (d1 oAbs)) (setV 2)) (pu .nx)) (fSeq (fSetT (f2 dMod (f2 dMul (f2 dAdd (f2 dAdd (f2 dAdd (f2 dMod (fVar 2) (fC (.int 2147483629))) (f2 dMul (f2 dMul (fC (.int 7919)) (fVar 1)) (fVar 1))) (f2 dMul (fC (.int 31)) (fVar 1))) (fC (.int 17))) (fC (.int 48271))) (fC (.int 2147483647))) (setV 3)) (fRetL (fLst (fCons (f2 dMul (fVar 2) (bd (fCons (f2 dGe (fVar 2) (f2 dPow (fC (.int 10)) (fC (.int 18)))) (fNil)) (d1 oInt))) (fCons (f2 dMod (f2 dMul (fVar 3) (fVar 3)) (fC (.int 2147483629))) (fNil)))))))
def R__law_pool : En → Res (List D) := runN 2 4 g__law_pool
theorem sc__law_pool : FnScope ["_law_script", "_law_k", "_law_cell", "_law_mixed"] ["_law_script", "_law_k"] (defScope s__law_pool) := ⟨rfl, rfl, rfl, by decide +kernel, rfl, by decide +kernel, by decide +kernel⟩
theorem ok__law_pool (F : Fun K "_law_pool" "_law_pool" s__law_pool f fd) (b_len : mg "len" = none) (b_abs : mg "abs" = none) (b_int : mg "int" = none) : FnOk P w K mg base (L2.CX P w) 1 f fd ["_law_script", "_law_k"] (spN K mg R__law_pool) := by
  have S := sc__law_pool
  refine fn_okN (g := g__law_pool) F S (by decide) fun cdv A outer s H E hr => ?_
  exact pssd_cons (psd_set (ped_int) (pgd_name 2 S.nd)) (pssd_cons (psd_if (pbd_cmp op_lt od_lt (ped_var 1) (ped_callB call_len_seq cd_len b_len (by decide +kernel) (pad_cons (ped_var 0) (pad_nil)))) (pssd_one (psd_set (ped_callB call_abs cd_abs b_abs (by decide +kernel) (pad_cons (ped_ix (ped_var 0) (ped_var 1)) (pad_nil))) (pgd_name 2 S.nd))) (pssd_nil)) (pssd_cons (psd_set (ped_op op_mod od_mod (ped_op op_mulU od_mul (ped_op op_add od_add (ped_op op_add od_add (ped_op op_add od_add (ped_op op_mod od_mod (ped_var 2) (ped_int)) (ped_op op_mulU od_mul (ped_op op_mulU od_mul (ped_int) (ped_var 1)) (ped_var 1))) (ped_op op_mulU od_mul (ped_int) (ped_var 1))) (ped_int)) (ped_int)) (ped_int)) (pgd_name 3 S.nd)) (pssd_one (psd_retL (pnd_lst (pad_cons (ped_op op_mulU od_mul (ped_var 2) (ped_callTy call_int1 cd_int b_int (by decide +kernel) (pad_cons (ped_cmp op_ge od_ge (ped_var 2) (ped_op op_pow od_pow (ped_int) (ped_int))) (pad_nil)))) (pad_cons (ped_op op_mod od_mod (ped_op op_mulU od_mul (ped_var 3) (ped_var 3)) (ped_int)) (pad_nil))))))))
/-! ### _law_take -/
abbrev s__law_take : Stmt := top 34
def g__law_take : M Fl := fSeq (fIf (fB (f2 dGt (fGetA 0 (fC (.int 0))) (fC (.int 0)))) (fSeq (fSetT (f2 dMod (fGetA 0 (fC (.int 0))) (fVar 1)) (setV 2)) (fSeq (fPut 0 (f2 dDiv (fGetA 0 (fC (.int 0))) (fVar 1)) (fC (.int 0))) (fRet (fVar 2)))) (pu .nx)) (fSeq (fPut 0 (f2 dMod (f2 dAdd (f2 dMul (fGetA 0 (fC (.int 1))) (fC (.int 48271))) (fC (.int 12345))) (fC (.int 2147483647))) (fC (.int 1))) (fRet (f2 dMod (f2 dDiv (f2 dMod (f2 dMul (fGetA 0 (fC (.int 1))) (fGetA 0 (fC (.int 1)))) (fC (.int 2147483629))) (fC (.int 64))) (fVar 1))))
def R__law_take : En → Res D := runF 2 3 g__law_take
theorem sc__law_take : FnScope ["_law_pool_here", "_law_count", "_law_result"] ["_law_pool_here", "_law_count"] (defScope s__law_take) := ⟨rfl, rfl, rfl, by decide +kernel, rfl, by decide +kernel, by decide +kernel⟩
theorem ok__law_take (F : Fun K "_law_take" "_law_take" s__law_take f fd) : FnOk P w K mg base (L2.CX P w) 1 f fd ["_law_pool_here", "_law_count"] (spD K mg R__law_take) := by
  have S := sc__law_take
  refine fn_ok (g := g__law_take) F S (by decide) fun cdv A outer s H E hr => ?_
  exact pssd_cons (psd_if (pbd_cmp op_gt od_gt (ped_getA 0 (ped_int)) (ped_int)) (pssd_cons (psd_set (ped_op op_mod od_mod (ped_getA 0 (ped_int)) (ped_var 1)) (pgd_name 2 S.nd)) (pssd_cons (psd_put 0 (ped_op op_fdivW od_div (ped_getA 0 (ped_int)) (ped_var 1)) (ped_int)) (pssd_one (psd_ret (ped_var 2))))) (pssd_nil)) (pssd_cons (psd_put 0 (ped_op op_mod od_mod (ped_op op_add od_add (ped_op op_mulU od_mul (ped_getA 0 (ped_int)) (ped_int)) (ped_int)) (ped_int)) (ped_int)) (pssd_one (psd_ret (ped_op op_mod od_mod (ped_op op_fdivW od_div (ped_op op_mod od_mod (ped_op op_mulU od_mul (ped_getA 0 (ped_int)) (ped_getA 0 (ped_int))) (ped_int)) (ped_int)) (ped_var 1)))))
/-! ### _law_step -/
abbrev s__law_step : Stmt := top 35
def g__law_step : M Fl := fSeq (fIf (fB (f2 dLt (bd (rO 0 (rD (fC (.int 5)) (rNil))) (callR R__law_take)) (fC (.int 2)))) (fRet (fTup (fCons (fC (.str ("insert" : Str))) (fCons (f2 dSub (bd (rO 0 (rD (fC (.int 9)) (rNil))) (callR R__law_take)) (fC (.int 3))) (fNil))))) (pu .nx)) (fRet (fTup (fCons (fC (.str ("remove" : Str))) (fCons (f2 dAdd (fC (.int 1)) (bd (rO 0 (rD (fVar 1) (rNil))) (callR R__law_take))) (fNil)))))
def R__law_step : En → Res D := runF 2 2 g__law_step
theorem sc__law_step : FnScope ["_law_pool_here", "_law_most"] ["_law_pool_here", "_law_most"] (defScope s__law_step) := ⟨rfl, rfl, rfl, by decide +kernel, rfl, by decide +kernel, by decide +kernel⟩
theorem ok__law_step (F : Fun K "_law_step" "_law_step" s__law_step f fd) (d_Fn__law_take : FnI P w K mg base 1 "_law_take" R__law_take) : FnOk P w K mg base (L2.CX P w) 2 f fd ["_law_pool_here", "_law_most"] (spD K mg R__law_step) := by
  have S := sc__law_step
  refine fn_ok (g := g__law_step) F S (by decide) fun cdv A outer s H E hr => ?_
  exact pssd_cons (psd_if (pbd_cmp op_lt od_lt (ped_call d_Fn__law_take hr (by decide) (takes_of rfl rfl rfl rfl) (prd_o 0 (prd_d (ped_int) (prd_nil)))) (ped_int)) (pssd_one (psd_ret (ped_tup (pad_cons (ped_str) (pad_cons (ped_op op_sub od_sub (ped_call d_Fn__law_take hr (by decide) (takes_of rfl rfl rfl rfl) (prd_o 0 (prd_d (ped_int) (prd_nil)))) (ped_int)) (pad_nil)))))) (pssd_nil)) (pssd_one (psd_ret (ped_tup (pad_cons (ped_str) (pad_cons (ped_op op_add od_add (ped_int) (ped_call d_Fn__law_take hr (by decide) (takes_of rfl rfl rfl rfl) (prd_o 0 (prd_d (ped_var 1) (prd_nil))))) (pad_nil))))))
/-! ### _law_steps -/
abbrev s__law_steps : Stmt := top 36
def g__law_steps : M Fl := fRet (fL (fLc (bd (fCons (bd (rO 0 (rD (f2 dAdd (fVar 1) (fC (.int 1))) (rNil))) (callR R__law_take)) (fNil)) dRngW1) [3] (setV 3) (pu true) (bd (rO 0 (rD (fVar 2) (rNil))) (callR R__law_step))))
def R__law_steps : En → Res D := runF 3 4 g__law_steps
theorem sc__law_steps : FnScope ["_law_pool_here", "_law_many", "_law_most", "_law_turn"] ["_law_pool_here", "_law_many", "_law_most"] (defScope s__law_steps) := ⟨rfl, rfl, rfl, by decide +kernel, rfl, by decide +kernel, by decide +kernel⟩
theorem ok__law_steps (F : Fun K "_law_steps" "_law_steps" s__law_steps f fd) (d_Fn__law_take : FnI P w K mg base 1 "_law_take" R__law_take) (b_range : mg "range" = none) (d_Fn__law_step : FnI P w K mg base 2 "_law_step" R__law_step) : FnOk P w K mg base (L2.CX P w) 3 f fd ["_law_pool_here", "_law_many", "_law_most"] (spD K mg R__law_steps) := by
  have S := sc__law_steps
  refine fn_ok (g := g__law_steps) F S (by decide) fun cdv A outer s H E hr => ?_
  exact pssd_one (psd_ret (ped_new (pnd_lc (own := [("_law_turn", 3)]) (by rfl) S.nd (pid_rangeW1 (pad_cons (ped_call d_Fn__law_take hr (by decide) (takes_of rfl rfl rfl rfl) (prd_o 0 (prd_d (ped_op op_add od_add (ped_var 1) (ped_int)) (prd_nil)))) (pad_nil)) b_range) (by exact blkOk_by (N := ["_law_pool_here", "_law_many", "_law_most", "_law_turn"]) (sc := defScope s__law_steps) (own := [("_law_turn", 3)]) (by decide +kernel)) (fun _ _ _ _ _ => pgv_name 3 S.nd (by decide)) (fun _ _ _ _ _ => ptsd_nil) (fun _ _ _ _ _ => ped_call d_Fn__law_step hr (by decide) takes0 (prd_o 0 (prd_d (ped_var 2) (prd_nil)))))))
/-! ### is_integer -/
abbrev s_is_integer : Stmt := top 9
def g_is_integer : M Fl := fRet (fAndV (bd (fVar 0) fun d => li (oIs "int" d)) (fBl (fNot (fB (bd (fVar 0) fun d => li (oIs "bool" d))))))
def R_is_integer : En → Res D := runF 1 1 g_is_integer
theorem sc_is_integer : FnScope ["value"] ["value"] (defScope s_is_integer) := ⟨rfl, rfl, rfl, by decide +kernel, rfl, by decide +kernel, by decide +kernel⟩
theorem ok_is_integer (F : Fun K "is_integer" "is_integer" s_is_integer f fd) (b_isinstance : mg "isinstance" = none) (b_int : mg "int" = none) (b_bool : mg "bool" = none) : FnOk P w K mg base (L2.CX P w) 1 f fd ["value"] (spD K mg R_is_integer) := by
  have S := sc_is_integer
  refine fn_ok (g := g_is_integer) F S (by decide) fun cdv A outer s H E hr => ?_
  exact pssd_one (psd_ret (ped_and (ped_is tab_int (ped_var 0) b_isinstance b_int (by decide +kernel)) (ped_one (ped_not (ped_is tab_bool (ped_var 0) b_isinstance b_bool (by decide +kernel))))))
/-! ### is_rank -/
abbrev s_is_rank : Stmt := top 11
def g_is_rank : M Fl := fRet (fAndV (bd (rD (fVar 0) (rNil)) (callR R_is_integer)) (f2 dGt (fVar 0) (fC (.int 0))))
def R_is_rank : En → Res D := runF 1 1 g_is_rank
theorem sc_is_rank : FnScope ["value"] ["value"] (defScope s_is_rank) := ⟨rfl, rfl, rfl, by decide +kernel, rfl, by decide +kernel, by decide +kernel⟩
theorem ok_is_rank (F : Fun K "is_rank" "is_rank" s_is_rank f fd) (d_Fn_is_integer : FnI P w K mg base 1 "is_integer" R_is_integer) : FnOk P w K mg base (L2.CX P w) 2 f fd ["value"] (spD K mg R_is_rank) := by
  have S := sc_is_rank
  refine fn_ok (g := g_is_rank) F S (by decide) fun cdv A outer s H E hr => ?_
  exact pssd_one (psd_ret (ped_and (ped_call d_Fn_is_integer hr (by decide) (takes_of rfl rfl rfl rfl) (prd_d (ped_var 0) (prd_nil))) (ped_one (ped_cmp op_gt od_gt (ped_var 0) (ped_int)))))
/-! ### Sequence.is_step -/
abbrev s_Sequence_is_step : Stmt := inClass (top 16) 1
def g_Sequence_is_step : M Fl := fSeq (fIf (fOr (fNot (fB (bd (fVar 0) fun d => li (oIs "tuple" d)))) (fOr (fB (f2 dNe (bd (fCons (fVar 0) (fNil)) (d1 oLen)) (fC (.int 2)))) (fNot (fB (bd (f2 dAt (fVar 0) (fC (.int 0))) fun d => li (oIs "str" d)))))) (fRet (fC (.bl false))) (pu .nx)) (fSeq (fIf (fB (f2 dEq (f2 dAt (fVar 0) (fC (.int 0))) (fC (.str ("insert" : Str))))) (fRet (bd (rD (f2 dAt (fVar 0) (fC (.int 1))) (rNil)) (callR R_is_integer))) (pu .nx)) (fRet (fAndV (f2 dEq (f2 dAt (fVar 0) (fC (.int 0))) (fC (.str ("remove" : Str)))) (bd (rD (f2 dAt (fVar 0) (fC (.int 1))) (rNil)) (callR R_is_rank)))))
def R_Sequence_is_step : En → Res D := runF 1 1 g_Sequence_is_step
theorem sc_Sequence_is_step : FnScope ["value"] ["value"] (defScope s_Sequence_is_step) := ⟨rfl, rfl, rfl, by decide +kernel, rfl, by decide +kernel, by decide +kernel⟩
theorem ok_Sequence_is_step (F : Fun K "is_step" "Sequence.is_step" s_Sequence_is_step f fd) (b_isinstance : mg "isinstance" = none) (b_tuple : mg "tuple" = none) (b_len : mg "len" = none) (b_str : mg "str" = none) (d_Fn_is_integer : FnI P w K mg base 1 "is_integer" R_is_integer) (d_Fn_is_rank : FnI P w K mg base 2 "is_rank" R_is_rank) : FnOk P w K mg base (L2.CX P w) 3 f fd ["value"] (spD K mg R_Sequence_is_step) := by
  have S := sc_Sequence_is_step
  refine fn_ok (g := g_Sequence_is_step) F S (by decide) fun cdv A outer s H E hr => ?_
  exact pssd_cons (psd_if ((pwd_or (pbd_not (pbd_val (ped_is tab_tuple (ped_var 0) b_isinstance b_tuple (by decide +kernel)))) (pwd_or (pbd_cmp (op_neD hr.units) od_ne (ped_callB call_len_seq cd_len b_len (by decide +kernel) (pad_cons (ped_var 0) (pad_nil))) (ped_int)) (pwd_or1 (pbd_not (pbd_val (ped_is tab_str (ped_ix (ped_var 0) (ped_int)) b_isinstance b_str (by decide +kernel))))))).pt) (pssd_one (psd_ret (ped_bl))) (pssd_nil)) (pssd_cons (psd_if (pbd_cmp (op_eqD hr.units) od_eq (ped_ix (ped_var 0) (ped_int)) (ped_str)) (pssd_one (psd_ret (ped_call d_Fn_is_integer hr (by decide) (takes_of rfl rfl rfl rfl) (prd_d (ped_ix (ped_var 0) (ped_int)) (prd_nil))))) (pssd_nil)) (pssd_one (psd_ret (ped_and (ped_cmp (op_eqD hr.units) od_eq (ped_ix (ped_var 0) (ped_int)) (ped_str)) (ped_one (ped_call d_Fn_is_rank hr (by decide) (takes_of rfl rfl rfl rfl) (prd_d (ped_ix (ped_var 0) (ped_int)) (prd_nil))))))))
/-! ### check_steps -/
abbrev s_check_steps : Stmt := top 14
def g_check_steps : M Fl := fWk [1] (fFor (bd (fVar 0) dWalk) (setV 1) (fWk [1] (fIf (fNot (fB (bd (rD (fVar 1) (rNil)) (callR R_Sequence_is_step)))) ((fun _ => .bad)) (pu .nx))))
def R_check_steps : En → Res D := runF 1 2 g_check_steps
theorem sc_check_steps : FnScope ["steps", "step"] ["steps"] (defScope s_check_steps) := ⟨rfl, rfl, rfl, by decide +kernel, rfl, by decide +kernel, by decide +kernel⟩
theorem ok_check_steps (F : Fun K "check_steps" "check_steps" s_check_steps f fd) (d_Sm_Sequence_is_step_Sequence : SmI P w K mg base 3 "Sequence" "is_step" R_Sequence_is_step) : FnOk P w K mg base (L2.CX P w) 4 f fd ["steps"] (spD K mg R_check_steps) := by
  have S := sc_check_steps
  refine fn_ok (g := g_check_steps) F S (by decide) fun cdv A outer s H E hr => ?_
  exact pssd_one (psd_wk [1] (psd_for (passes_of rfl) (by rfl) (pid_seq (ped_var 0)) (pgd_name 1 S.nd) (pssd_wk [1] (pssd_one (psd_if (pbd_not (pbd_val (ped_smeth d_Sm_Sequence_is_step_Sequence hr (by decide) (takes_of rfl rfl rfl rfl) (prd_d (ped_var 1) (prd_nil))))) (pssd_one (psd_never)) (pssd_nil))))))
/-! ### Sequence.__init__ -/
abbrev s_Sequence___init__ : Stmt := inClass (top 16) 0
def g_Sequence___init__ : M Fl := fSeq (fDrop (bd (rD (fVar 1) (rNil)) (callR R_check_steps))) (fFldS 0 "Sequence" "parts" (fVar 1))
def R_Sequence___init__ : En → Res D := runS 1 2 g_Sequence___init__
theorem sc_Sequence___init__ : FnScope ["self", "steps"] ["self", "steps"] (defScope s_Sequence___init__) := ⟨rfl, rfl, rfl, by decide +kernel, rfl, by decide +kernel, by decide +kernel⟩
theorem ok_Sequence___init__ {oc : Value} {od an : Option Addr} {kV doc pm cdv ct : Value} {osl : Array (Option Value)} (lk : K.lookup f = some ⟨oc, od, .func (PySem.W.fnOf "__init__" "Sequence.__init__" (defArgs s_Sequence___init__) (defBody s_Sequence___init__) (defScope s_Sequence___init__) .none kV doc pm an cdv ct), osl⟩) (cd : PySem.W.codeIn K cdv "Sequence.__init__" = true) (d_Fn_check_steps : FnI P w K mg base 4 "check_steps" R_check_steps) (f_Sequence_parts : FlI K mg "Sequence" "parts") :
    FnR P w K mg base (L2.CX P w) 5 f (spD K mg R_Sequence___init__) := by
  have S := sc_Sequence___init__
  refine fn_okS (N := ["self", "steps"]) (ps := ["self"]) (pv := "steps") (g := g_Sequence___init__) lk cd S (by decide) (StX.bind_star1 (B := fun l => bindArgs (PySem.W.fnOf "__init__" "Sequence.__init__" (defArgs s_Sequence___init__) (defBody s_Sequence___init__) (defScope s_Sequence___init__) .none kV doc pm an cdv ct) ⟨l, []⟩) (fun _ => rfl) fun _ _ _ => rfl) fun A outer s H E hr => ?_
  exact pssd_cons (psd_expr (ped_call d_Fn_check_steps hr (by decide) (takes_of rfl rfl rfl rfl) (prd_d (ped_var 1) (prd_nil)))) (pssd_one (psd_fld 0 f_Sequence_parts (ped_var 1)))
/-! ### Sequence.__add__ -/
abbrev s_Sequence___add__ : Stmt := inClass (top 16) 5
def g_Sequence___add__ : M Fl := fRet (fMake "Sequence" R_Sequence___init__ (fStar (bd (bd (fVar 0) (dFld "Sequence" "parts")) dItems) (fStar (bd (bd (fVar 1) (dFld "Sequence" "parts")) dItems) (fNil))))
def R_Sequence___add__ : En → Res D := runF 2 2 g_Sequence___add__
theorem sc_Sequence___add__ : FnScope ["self", "other"] ["self", "other"] (defScope s_Sequence___add__) := ⟨rfl, rfl, rfl, by decide +kernel, rfl, by decide +kernel, by decide +kernel⟩
theorem ok_Sequence___add__ (F : Fun K "__add__" "Sequence.__add__" s_Sequence___add__ f fd) (d_Mk_Sequence___init__ : MkI P w K mg base 5 "Sequence" R_Sequence___init__) (f_Sequence_parts : FlI K mg "Sequence" "parts") : FnOk P w K mg base (L2.CX P w) 7 f fd ["self", "other"] (spD K mg R_Sequence___add__) := by
  have S := sc_Sequence___add__
  refine fn_ok (g := g_Sequence___add__) F S (by decide) fun cdv A outer s H E hr => ?_
  exact pssd_one (psd_ret (ped_makeS2 d_Mk_Sequence___init__ hr (by decide) (takes_of rfl rfl rfl rfl) (pad_star (ped_fld f_Sequence_parts (ped_var 0)) (pad_star (ped_fld f_Sequence_parts (ped_var 1)) (pad_nil)))))
/-! ### _law_sequence -/
abbrev s__law_sequence : Stmt := top 37
def g__law_sequence : M Fl := fSeq (fSetT (fMake "Sequence" R_Sequence___init__ (fNil)) (setV 1)) (fSeq (fWk [2] (fFor (bd (fVar 0) dWalk) (setV 2) (fWk [2] (fSetT (f2 (d2m R_Sequence___add__ "Sequence") (fVar 1) (fMake "Sequence" R_Sequence___init__ (fCons (fVar 2) (fNil)))) (setV 1))))) (fRet (fVar 1)))
def R__law_sequence : En → Res D := runF 1 3 g__law_sequence
theorem sc__law_sequence : FnScope ["_law_steps_here", "_law_result", "_law_step_here"] ["_law_steps_here"] (defScope s__law_sequence) := ⟨rfl, rfl, rfl, by decide +kernel, rfl, by decide +kernel, by decide +kernel⟩
theorem ok__law_sequence (F : Fun K "_law_sequence" "_law_sequence" s__law_sequence f fd) (d_Mk_Sequence___init__ : MkI P w K mg base 5 "Sequence" R_Sequence___init__) (d_Op_Sequence___add___Sequence : OpI P w K mg base 7 "Sequence" "__add__" R_Sequence___add__) : FnOk P w K mg base (L2.CX P w) 8 f fd ["_law_steps_here"] (spD K mg R__law_sequence) := by
  have S := sc__law_sequence
  refine fn_ok (g := g__law_sequence) F S (by decide) fun cdv A outer s H E hr => ?_
  exact pssd_cons (psd_set (ped_make0 d_Mk_Sequence___init__ hr (by decide) (takes_of rfl rfl rfl rfl)) (pgd_name 1 S.nd)) (pssd_cons (psd_wk [2] (psd_for (passes_of rfl) (by rfl) (pid_seq (ped_var 0)) (pgd_name 2 S.nd) (pssd_wk [2] (pssd_one (psd_set (ped_own d_Op_Sequence___add___Sequence hr (by decide) (ped_var 1) (ped_make d_Mk_Sequence___init__ hr (by decide) (takes_of rfl rfl rfl rfl) (pad_cons (ped_var 2) (pad_nil)))) (pgd_name 1 S.nd)))))) (pssd_one (psd_ret (ped_var 1))))
/-! ### Sequence.__eq__ -/
abbrev s_Sequence___eq__ : Stmt := inClass (top 16) 4
def g_Sequence___eq__ : M Fl := fRet (fAndV (bd (fVar 1) fun d => li (oIsO ["Sequence"] ["Table"] d)) (f2 dEq (bd (fVar 0) (dFld "Sequence" "parts")) (bd (fVar 1) (dFld "Sequence" "parts"))))
def R_Sequence___eq__ : En → Res D := runF 2 2 g_Sequence___eq__
theorem sc_Sequence___eq__ : FnScope ["self", "other"] ["self", "other"] (defScope s_Sequence___eq__) := ⟨rfl, rfl, rfl, by decide +kernel, rfl, by decide +kernel, by decide +kernel⟩
theorem ok_Sequence___eq__ (F : Fun K "__eq__" "Sequence.__eq__" s_Sequence___eq__ f fd) (b_isinstance : mg "isinstance" = none) (ko_Sequence : KoI K mg "Sequence" ["Sequence"] ["Table"]) (f_Sequence_parts : FlI K mg "Sequence" "parts") : FnOk P w K mg base (L2.CX P w) 1 f fd ["self", "other"] (spD K mg R_Sequence___eq__) := by
  have S := sc_Sequence___eq__
  refine fn_ok (g := g_Sequence___eq__) F S (by decide) fun cdv A outer s H E hr => ?_
  exact pssd_one (psd_ret (ped_and (ped_isO ko_Sequence (ped_var 1) b_isinstance) (ped_one (ped_cmp (op_eqD hr.units) od_eq (ped_fld f_Sequence_parts (ped_var 0)) (ped_fld f_Sequence_parts (ped_var 1))))))
/-! ### Sequence.__len__ -/
abbrev s_Sequence___len__ : Stmt := inClass (top 16) 3
def g_Sequence___len__ : M Fl := fRet (bd (fCons (bd (fVar 0) (dFld "Sequence" "parts")) (fNil)) (d1 oLen))
def R_Sequence___len__ : En → Res D := runF 1 1 g_Sequence___len__
theorem sc_Sequence___len__ : FnScope ["self"] ["self"] (defScope s_Sequence___len__) := ⟨rfl, rfl, rfl, by decide +kernel, rfl, by decide +kernel, by decide +kernel⟩
theorem ok_Sequence___len__ (F : Fun K "__len__" "Sequence.__len__" s_Sequence___len__ f fd) (f_Sequence_parts : FlI K mg "Sequence" "parts") (b_len : mg "len" = none) : FnOk P w K mg base (L2.CX P w) 1 f fd ["self"] (spD K mg R_Sequence___len__) := by
  have S := sc_Sequence___len__
  refine fn_ok (g := g_Sequence___len__) F S (by decide) fun cdv A outer s H E hr => ?_
  exact pssd_one (psd_ret (ped_callB call_len_seq cd_len b_len (by decide +kernel) (pad_cons (ped_fld f_Sequence_parts (ped_var 0)) (pad_nil))))
/-! ### Sequence.steps -/
abbrev s_Sequence_steps : Stmt := inClass (top 16) 2
def g_Sequence_steps : M Fl := fRet (bd (fVar 0) (dFld "Sequence" "parts"))
def R_Sequence_steps : En → Res D := runF 1 1 g_Sequence_steps
theorem sc_Sequence_steps : FnScope ["self"] ["self"] (defScope s_Sequence_steps) := ⟨rfl, rfl, rfl, by decide +kernel, rfl, by decide +kernel, by decide +kernel⟩
theorem ok_Sequence_steps (F : Fun K "steps" "Sequence.steps" s_Sequence_steps f fd) (f_Sequence_parts : FlI K mg "Sequence" "parts") : FnOk P w K mg base (L2.CX P w) 1 f fd ["self"] (spD K mg R_Sequence_steps) := by
  have S := sc_Sequence_steps
  refine fn_ok (g := g_Sequence_steps) F S (by decide) fun cdv A outer s H E hr => ?_
  exact pssd_one (psd_ret (ped_fld f_Sequence_parts (ped_var 0)))
/-! ### is_count -/
abbrev s_is_count : Stmt := top 10
def g_is_count : M Fl := fRet (fAndV (bd (rD (fVar 0) (rNil)) (callR R_is_integer)) (f2 dGe (fVar 0) (fC (.int 0))))
def R_is_count : En → Res D := runF 1 1 g_is_count
theorem sc_is_count : FnScope ["value"] ["value"] (defScope s_is_count) := ⟨rfl, rfl, rfl, by decide +kernel, rfl, by decide +kernel, by decide +kernel⟩
theorem ok_is_count (F : Fun K "is_count" "is_count" s_is_count f fd) (d_Fn_is_integer : FnI P w K mg base 1 "is_integer" R_is_integer) : FnOk P w K mg base (L2.CX P w) 2 f fd ["value"] (spD K mg R_is_count) := by
  have S := sc_is_count
  refine fn_ok (g := g_is_count) F S (by decide) fun cdv A outer s H E hr => ?_
  exact pssd_one (psd_ret (ped_and (ped_call d_Fn_is_integer hr (by decide) (takes_of rfl rfl rfl rfl) (prd_d (ped_var 0) (prd_nil))) (ped_one (ped_cmp op_ge od_ge (ped_var 0) (ped_int)))))
/-! ### exchanged_pair -/
abbrev s_exchanged_pair : Stmt := top 26
def g_exchanged_pair : M Fl := fSeq (fIf (fB (f2 dNe (f2 dAt (fVar 0) (fC (.int 0))) (f2 dAt (fVar 1) (fC (.int 0))))) (fRet (fC .non)) (pu .nx)) (fSeq (fIf (fB (f2 dEq (f2 dAt (fVar 0) (fC (.int 0))) (fC (.str ("insert" : Str))))) (fRet (fTup (fCons (fVar 1) (fCons (fVar 0) (fNil))))) (pu .nx)) (fSeq (fIf (fB (f2 dGe (f2 dAt (fVar 1) (fC (.int 1))) (f2 dAt (fVar 0) (fC (.int 1))))) (fRet (fTup (fCons (fTup (fCons (fC (.str ("remove" : Str))) (fCons (f2 dAdd (f2 dAt (fVar 1) (fC (.int 1))) (fC (.int 1))) (fNil)))) (fCons (fVar 0) (fNil))))) (pu .nx)) (fRet (fTup (fCons (fVar 1) (fCons (fTup (fCons (fC (.str ("remove" : Str))) (fCons (f2 dSub (f2 dAt (fVar 0) (fC (.int 1))) (fC (.int 1))) (fNil)))) (fNil)))))))
def R_exchanged_pair : En → Res D := runF 2 2 g_exchanged_pair
theorem sc_exchanged_pair : FnScope ["first", "second"] ["first", "second"] (defScope s_exchanged_pair) := ⟨rfl, rfl, rfl, by decide +kernel, rfl, by decide +kernel, by decide +kernel⟩
theorem ok_exchanged_pair (F : Fun K "exchanged_pair" "exchanged_pair" s_exchanged_pair f fd) : FnOk P w K mg base (L2.CX P w) 1 f fd ["first", "second"] (spD K mg R_exchanged_pair) := by
  have S := sc_exchanged_pair
  refine fn_ok (g := g_exchanged_pair) F S (by decide) fun cdv A outer s H E hr => ?_
  exact pssd_cons (psd_if (pbd_cmp (op_neD hr.units) od_ne (ped_ix (ped_var 0) (ped_int)) (ped_ix (ped_var 1) (ped_int))) (pssd_one (psd_ret (ped_non))) (pssd_nil)) (pssd_cons (psd_if (pbd_cmp (op_eqD hr.units) od_eq (ped_ix (ped_var 0) (ped_int)) (ped_str)) (pssd_one (psd_ret (ped_tup (pad_cons (ped_var 1) (pad_cons (ped_var 0) (pad_nil)))))) (pssd_nil)) (pssd_cons (psd_if (pbd_cmp op_ge od_ge (ped_ix (ped_var 1) (ped_int)) (ped_ix (ped_var 0) (ped_int))) (pssd_one (psd_ret (ped_tup (pad_cons (ped_tup (pad_cons (ped_str) (pad_cons (ped_op op_add od_add (ped_ix (ped_var 1) (ped_int)) (ped_int)) (pad_nil)))) (pad_cons (ped_var 0) (pad_nil)))))) (pssd_nil)) (pssd_one (psd_ret (ped_tup (pad_cons (ped_var 1) (pad_cons (ped_tup (pad_cons (ped_str) (pad_cons (ped_op op_sub od_sub (ped_ix (ped_var 0) (ped_int)) (ped_int)) (pad_nil)))) (pad_nil))))))))
/-! ### exchanged -/
abbrev s_exchanged : Stmt := top 27
def g_exchanged : M Fl := fSeq (fSetT (fProp "Sequence" R_Sequence_steps (fVar 0)) (setV 2)) (fSeq (fIf (fOr (fNot (fB (bd (rD (fVar 1) (rNil)) (callR R_is_count)))) (fB (f2 dGe (f2 dAdd (fVar 1) (fC (.int 1))) (bd (fCons (fVar 2) (fNil)) (d1 oLen))))) ((fun _ => .bad)) (pu .nx)) (fSeq (fSetT (bd (rD (f2 dAt (fVar 2) (fVar 1)) (rD (f2 dAt (fVar 2) (f2 dAdd (fVar 1) (fC (.int 1)))) (rNil))) (callR R_exchanged_pair)) (setV 3)) (fSeq (fIf (fB (f2 (dIsN false) (fVar 3) (fC .non))) (fRet (fC .non)) (pu .nx)) (fSeq (fSetT (fL (fLst (fStar (bd (fSl (fVar 2) (fPart none) (fPart (some (fVar 1)))) dItems) (fStar (bd (fVar 3) dItems) (fStar (bd (fSl (fVar 2) (fPart (some (f2 dAdd (fVar 1) (fC (.int 2))))) (fPart none)) dItems) (fNil)))))) (setV 2)) (fRet (fMake "Sequence" R_Sequence___init__ (bd (fVar 2) dItems)))))))
def R_exchanged : En → Res D := runF 2 4 g_exchanged
theorem sc_exchanged : FnScope ["sequence", "index", "steps", "pair"] ["sequence", "index"] (defScope s_exchanged) := ⟨rfl, rfl, rfl, by decide +kernel, rfl, by decide +kernel, by decide +kernel⟩
theorem ok_exchanged (F : Fun K "exchanged" "exchanged" s_exchanged f fd) (d_Pr_Sequence_steps_Sequence : PrI P w K mg base 1 "Sequence" "steps" R_Sequence_steps) (d_Fn_is_count : FnI P w K mg base 2 "is_count" R_is_count) (b_len : mg "len" = none) (d_Fn_exchanged_pair : FnI P w K mg base 1 "exchanged_pair" R_exchanged_pair) (d_Mk_Sequence___init__ : MkI P w K mg base 5 "Sequence" R_Sequence___init__) : FnOk P w K mg base (L2.CX P w) 7 f fd ["sequence", "index"] (spD K mg R_exchanged) := by
  have S := sc_exchanged
  refine fn_ok (g := g_exchanged) F S (by decide) fun cdv A outer s H E hr => ?_
  exact pssd_cons (psd_set (ped_prop d_Pr_Sequence_steps_Sequence hr (by decide) (ped_var 0)) (pgd_name 2 S.nd)) (pssd_cons (psd_if ((pwd_or (pbd_not (pbd_val (ped_call d_Fn_is_count hr (by decide) (takes_of rfl rfl rfl rfl) (prd_d (ped_var 1) (prd_nil))))) (pwd_or1 (pbd_cmp op_ge od_ge (ped_op op_add od_add (ped_var 1) (ped_int)) (ped_callB call_len_seq cd_len b_len (by decide +kernel) (pad_cons (ped_var 2) (pad_nil)))))).pt) (pssd_one (psd_never)) (pssd_nil)) (pssd_cons (psd_set (ped_call d_Fn_exchanged_pair hr (by decide) (takes_of rfl rfl rfl rfl) (prd_d (ped_ix (ped_var 2) (ped_var 1)) (prd_d (ped_ix (ped_var 2) (ped_op op_add od_add (ped_var 1) (ped_int))) (prd_nil)))) (pgd_name 3 S.nd)) (pssd_cons (psd_if (pbd_cmp op_isN od_isN (ped_var 3) (ped_non)) (pssd_one (psd_ret (ped_non))) (pssd_nil)) (pssd_cons (psd_set (ped_new (pnd_lst (pad_star (ped_slice (ped_var 2) pod_none (pod_some (ped_var 1))) (pad_star (ped_var 3) (pad_star (ped_slice (ped_var 2) (pod_some (ped_op op_add od_add (ped_var 1) (ped_int))) pod_none) (pad_nil)))))) (pgd_name 2 S.nd)) (pssd_one (psd_ret (ped_makeS1 d_Mk_Sequence___init__ hr (by decide) (takes_of rfl rfl rfl rfl) (ped_var 2))))))))
/-! ### _law_reached -/
abbrev s__law_reached : Stmt := top 42
noncomputable def g__law_reached : M Fl := fSeq (fParM [1, 2] (nN (fLst (fCons (fVar 0) (fNil))) (nN (fLst (fCons (fVar 0) (fNil))) (nNil)))) (fSeq (fWk [3, 4, 5] (fWhile (fPeek 2 (fB (f2 (dNeOL R_Sequence___eq__ "Sequence") (fAny 2) (fL (fLst (fNil)))))) (fWk [3, 4, 5] (fSeq (fSetT (fPop0 2) (setV 3)) (fWk [4, 5] (fFor (bd (fCons (f2 dSub (bd (fCons (fVar 3) (fNil)) (dLenO R_Sequence___len__ "Sequence")) (fC (.int 1))) (fNil)) dRngW1) (setV 4) (fWk [4, 5] (fSeq (fSetT (bd (rD (fVar 3) (rD (fVar 4) (rNil))) (callR R_exchanged)) (setV 5)) (fSeq (fIf (fB (f2 dNe (f2 (dIsN false) (fVar 5) (fC .non)) (f2 dNe (f2 dAt (f2 dAt (fProp "Sequence" R_Sequence_steps (fVar 3)) (fVar 4)) (fC (.int 0))) (f2 dAt (f2 dAt (fProp "Sequence" R_Sequence_steps (fVar 3)) (f2 dAdd (fVar 4) (fC (.int 1)))) (fC (.int 0)))))) (fRet (fC .non)) (pu .nx)) (fIf (fAnd (fB (f2 (dIsN true) (fVar 5) (fC .non))) (fPeek 1 (fB (f2 (dInOL true R_Sequence___eq__ "Sequence") (fVar 5) (fAny 1))))) (fSeq (fApp 1 (fVar 5)) (fApp 2 (fVar 5))) (pu .nx))))))))))) (fRet (fAny 1)))
noncomputable def R__law_reached : En → Res D := runF 1 6 g__law_reached
theorem sc__law_reached : FnScope ["_law_sequence_here", "_law_found", "_law_line", "_law_current", "_law_index", "_law_other"] ["_law_sequence_here"] (defScope s__law_reached) := ⟨rfl, rfl, rfl, by decide +kernel, rfl, by decide +kernel, by decide +kernel⟩
theorem ok__law_reached (F : Fun K "_law_reached" "_law_reached" s__law_reached f fd) (d_Op_Sequence___eq___Sequence : OpI P w K mg base 1 "Sequence" "__eq__" R_Sequence___eq__) (d_Op_Sequence___len___Sequence : OpI P w K mg base 1 "Sequence" "__len__" R_Sequence___len__) (b_len : mg "len" = none) (b_range : mg "range" = none) (d_Fn_exchanged : FnI P w K mg base 7 "exchanged" R_exchanged) (d_Pr_Sequence_steps_Sequence : PrI P w K mg base 1 "Sequence" "steps" R_Sequence_steps) : FnOk P w K mg base (L2.CX P w) 8 f fd ["_law_sequence_here"] (spD K mg R__law_reached) := by
  have S := sc__law_reached
  refine fn_ok (g := g__law_reached) F S (by decide) fun cdv A outer s H E hr => ?_
  exact pssd_cons (psd_par2 1 2 (by rfl) S.nd (pmd_n (pnd_lst (pad_cons (ped_var 0) (pad_nil))) (pmd_n (pnd_lst (pad_cons (ped_var 0) (pad_nil))) (pmd_nil))) (by decide)) (pssd_cons (psd_wk [3, 4, 5] (psd_while (passes_of rfl) ((pbd_peek 2 (pbd_neOL d_Op_Sequence___eq___Sequence hr (by decide) (ped_any 2) (ped_new (pnd_lst (pad_nil)))))) (pssd_wk [3, 4, 5] (pssd_cons (psd_set (ped_pop0 2) (pgd_name 3 S.nd)) (pssd_one (psd_wk [4, 5] (psd_for (passes_of rfl) (by rfl) (pid_rangeW1 (pad_cons (ped_op op_sub od_sub (ped_lenOwn d_Op_Sequence___len___Sequence hr (by decide) b_len (pad_cons (ped_var 3) (pad_nil))) (ped_int)) (pad_nil)) b_range) (pgd_name 4 S.nd) (pssd_wk [4, 5] (pssd_cons (psd_set (ped_call d_Fn_exchanged hr (by decide) (takes_of rfl rfl rfl rfl) (prd_d (ped_var 3) (prd_d (ped_var 4) (prd_nil)))) (pgd_name 5 S.nd)) (pssd_cons (psd_if (pbd_cmp (op_neD hr.units) od_ne (ped_cmp op_isN od_isN (ped_var 5) (ped_non)) (ped_cmp (op_neD hr.units) od_ne (ped_ix (ped_ix (ped_prop d_Pr_Sequence_steps_Sequence hr (by decide) (ped_var 3)) (ped_var 4)) (ped_int)) (ped_ix (ped_ix (ped_prop d_Pr_Sequence_steps_Sequence hr (by decide) (ped_var 3)) (ped_op op_add od_add (ped_var 4) (ped_int))) (ped_int)))) (pssd_one (psd_ret (ped_non))) (pssd_nil)) (pssd_one (psd_if ((pwd_and (pbd_cmp op_notN od_notN (ped_var 5) (ped_non)) (pwd_and1 ((pbd_peek 1 (pbd_notInOL d_Op_Sequence___eq___Sequence hr (by decide) (ped_var 5) (ped_any 1)))))).pt) (pssd_cons (psd_app 1 (ped_var 5)) (pssd_one (psd_app 2 (ped_var 5)))) (pssd_nil))))))))))))) (pssd_one (psd_ret (ped_any 1))))
/-! ### _law_parts -/
abbrev s__law_parts : Stmt := top 38
def g__law_parts : M Fl := fSeq (fSetN 1 (fLst (fNil))) (fSeq (fWk [2] (fParts 1 2 (fVar 0) (fAnd (fB (f2 dNe (fAny 1) (fL (fLst (fNil))))) (fB (f2 dEq (f2 dAt (f2 dAt (fGetA 1 (bd (fC (.int 1)) dNeg)) (fC (.int 0))) (fC (.int 0))) (f2 dAt (fVar 2) (fC (.int 0)))))) (bd (fC (.int 1)) dNeg))) (fRet (fAny 1)))
def R__law_parts : En → Res D := runF 1 3 g__law_parts
theorem sc__law_parts : FnScope ["_law_steps_here", "_law_result", "_law_step_here"] ["_law_steps_here"] (defScope s__law_parts) := ⟨rfl, rfl, rfl, by decide +kernel, rfl, by decide +kernel, by decide +kernel⟩
theorem ok__law_parts (F : Fun K "_law_parts" "_law_parts" s__law_parts f fd) : FnOk P w K mg base (L2.CX P w) 1 f fd ["_law_steps_here"] (spD K mg R__law_parts) := by
  have S := sc__law_parts
  refine fn_ok (g := g__law_parts) F S (by decide) fun cdv A outer s H E hr => ?_
  exact pssd_cons (psd_setN 1 (pnd_lst (pad_nil)) S.nd) (pssd_cons (psd_wk [2] (psd_parts 1 2 (passes_of rfl) (by rfl) S.nd (ped_var 0) ((pwd_and (pbd_cmp (op_neD hr.units) od_ne (ped_any 1) (ped_new (pnd_lst (pad_nil)))) (pwd_and1 (pbd_cmp (op_eqD hr.units) od_eq (ped_ix (ped_ix (ped_getA 1 (ped_neg (ped_int))) (ped_int)) (ped_int)) (ped_ix (ped_var 2) (ped_int))))).pt) (ped_neg (ped_int)))) (pssd_one (psd_ret (ped_any 1))))
/-! ### _law_normal -/
abbrev s__law_normal : Stmt := top 39
def g__law_normal : M Fl := fSeq (fSetT (fL (fLst (fNil))) (setV 1)) (fSeq (fWk [2, 3, 4] (fFor (bd (bd (rD (fVar 0) (rNil)) (callR R__law_parts)) dWalk) (setV 2) (fWk [2, 3, 4] (fWk [3, 4] (fIf (fB (f2 dEq (f2 dAt (f2 dAt (fVar 2) (fC (.int 0))) (fC (.int 0))) (fC (.str ("insert" : Str))))) (fSetT (f2 dCatL (fVar 1) (fL (bd (fCons (fVar 2) (fNil)) nSortW))) (setV 1)) (fSeq (fSetN 3 (fListRg (fC (.int 1)) (f2 dAdd (f2 dAdd (bd (fCons (fVar 2) (fNil)) (d1 oLen)) (bd (fCons (fL (fLc (bd (fVar 2) dWalk) [5, 6] (gTupD 2 (gConsD (setV 5) (gConsD (setV 6) (gNilD)))) (pu true) (fVar 6))) (fNil)) (d1 (oOf lMax)))) (fC (.int 2))))) (fSeq (fSetT (fL (fLc (bd (fVar 2) dWalk) [5, 6] (gTupD 2 (gConsD (setV 5) (gConsD (setV 6) (gNilD)))) (pu true) (fPop 3 (f2 dSub (fVar 6) (fC (.int 1)))))) (setV 4)) (fSetT (f2 dCatL (fVar 1) (fL (fLc (bd (bd (fL (bd (fCons (fVar 4) (fNil)) nSort)) dRev) dWalk) [6] (setV 6) (pu true) (fTup (fCons (fC (.str ("remove" : Str))) (fCons (fVar 6) (fNil))))))) (setV 1))))))))) (fRet (fVar 1)))
def R__law_normal : En → Res D := runF 1 7 g__law_normal
theorem sc__law_normal : FnScope ["_law_steps_here", "_law_result", "_law_part", "_law_old", "_law_gone", "_law_word", "_law_rank"] ["_law_steps_here"] (defScope s__law_normal) := ⟨rfl, rfl, rfl, by decide +kernel, rfl, by decide +kernel, by decide +kernel⟩
theorem ok__law_normal (F : Fun K "_law_normal" "_law_normal" s__law_normal f fd) (d_Fn__law_parts : FnI P w K mg base 1 "_law_parts" R__law_parts) (b_sorted : mg "sorted" = none) (b_len : mg "len" = none) (b_max : mg "max" = none) (b_list : mg "list" = none) (b_range : mg "range" = none) : FnOk P w K mg base (L2.CX P w) 2 f fd ["_law_steps_here"] (spD K mg R__law_normal) := by
  have S := sc__law_normal
  refine fn_ok (g := g__law_normal) F S (by decide) fun cdv A outer s H E hr => ?_
  exact pssd_cons (psd_set (ped_new (pnd_lst (pad_nil))) (pgd_name 1 S.nd)) (pssd_cons (psd_wk [2, 3, 4] (psd_for (passes_of rfl) (by rfl) (pid_seq (ped_call d_Fn__law_parts hr (by decide) (takes_of rfl rfl rfl rfl) (prd_d (ped_var 0) (prd_nil)))) (pgd_name 2 S.nd) (pssd_wk [2, 3, 4] (pssd_one (psd_wk [3, 4] (psd_if (pbd_cmp (op_eqD hr.units) od_eq (ped_ix (ped_ix (ped_var 2) (ped_int)) (ped_int)) (ped_str)) (pssd_one (psd_set (ped_op op_cat od_catL (ped_var 1) (ped_new (pnd_callB cr_sortedW cn_sortW b_sorted (by decide +kernel) (pad_cons (ped_var 2) (pad_nil))))) (pgd_name 1 S.nd))) (pssd_cons (psd_setN 3 (pnd_listRg (by rfl) (ped_int) (ped_op op_add od_add (ped_op op_add od_add (ped_callB call_len_seq cd_len b_len (by decide +kernel) (pad_cons (ped_var 2) (pad_nil))) (ped_callB (cr_max (by rfl)) cd_maxL b_max (by decide +kernel) (pad_cons (ped_new (pnd_lc (own := [("_law_word", 5), ("_law_rank", 6)]) (by rfl) S.nd (pid_seq (ped_var 2)) (by exact blkOk_by (N := ["_law_steps_here", "_law_result", "_law_part", "_law_old", "_law_gone", "_law_word", "_law_rank"]) (sc := defScope s__law_normal) (own := [("_law_word", 5), ("_law_rank", 6)]) (by decide +kernel)) (fun _ _ _ _ _ => pgv_tup (by rfl) (pgvs_cons (pgv_name 5 S.nd (by decide)) (pgvs_cons (pgv_name 6 S.nd (by decide)) (pgvs_nil)))) (fun _ _ _ _ _ => ptsd_nil) (fun _ _ _ _ _ => ped_var 6))) (pad_nil)))) (ped_int)) b_list b_range) S.nd) (pssd_cons (psd_setLc (setLc_ps (own := [("_law_word", 5), ("_law_rank", 6)]) (by rfl) S.nd (by rfl) (by rfl) (sw_true rfl rfl rfl (by decide +kernel)) (pid_seq (ped_var 2)) (by exact blkOk_by (N := ["_law_steps_here", "_law_result", "_law_part", "_law_old", "_law_gone", "_law_word", "_law_rank"]) (sc := defScope s__law_normal) (own := [("_law_word", 5), ("_law_rank", 6)]) (by decide +kernel)) (fun _ _ _ _ _ => pgv_tup (by rfl) (pgvs_cons (pgv_name 5 S.nd (by decide)) (pgvs_cons (pgv_name 6 S.nd (by decide)) (pgvs_nil)))) (fun _ _ _ _ _ => ptsd_nil) (fun _ _ _ _ _ => ped_pop 3 (ped_op op_sub od_sub (ped_var 6) (ped_int))))) (pssd_one (psd_set (ped_op op_cat od_catL (ped_var 1) (ped_new (pnd_lc (own := [("_law_rank", 6)]) (by rfl) S.nd (pid_seq (ped_rev (ped_new (pnd_callB cr_sortedI cn_sort b_sorted (by decide +kernel) (pad_cons (ped_var 4) (pad_nil)))))) (by exact blkOk_by (N := ["_law_steps_here", "_law_result", "_law_part", "_law_old", "_law_gone", "_law_word", "_law_rank"]) (sc := defScope s__law_normal) (own := [("_law_rank", 6)]) (by decide +kernel)) (fun _ _ _ _ _ => pgv_name 6 S.nd (by decide)) (fun _ _ _ _ _ => ptsd_nil) (fun _ _ _ _ _ => ped_tup (pad_cons (ped_str) (pad_cons (ped_var 6) (pad_nil))))))) (pgd_name 1 S.nd))))))))))) (pssd_one (psd_ret (ped_var 1))))
/-! ### _law_orders -/
abbrev s__law_orders : Stmt := top 40
def g__law_orders : M Fl := fSeq (fParM [1, 2] (nD (fC (.int 1)) (nN (fLst (fNil)) (nNil)))) (fSeq (fWk [3, 4] (fFor (bd (fCons (fVar 0) (fNil)) dEnumA) (gTupD 2 (gConsD (setV 3) (gConsD (setV 4) (gNilD)))) (fWk [3, 4] (fSeq (fApp 2 (fVar 4)) (fSetT (f2 dDiv (f2 dMul (fVar 1) (f2 dAdd (fVar 3) (fC (.int 1)))) (fPeekI 2 (fListM oCount (fAny 2) (fVar 4)))) (setV 1)))))) (fRet (fVar 1)))
def R__law_orders : En → Res D := runF 1 5 g__law_orders
theorem sc__law_orders : FnScope ["_law_items", "_law_result", "_law_rest", "_law_place", "_law_item"] ["_law_items"] (defScope s__law_orders) := ⟨rfl, rfl, rfl, by decide +kernel, rfl, by decide +kernel, by decide +kernel⟩
theorem ok__law_orders (F : Fun K "_law_orders" "_law_orders" s__law_orders f fd) (b_enumerate : mg "enumerate" = none) : FnOk P w K mg base (L2.CX P w) 1 f fd ["_law_items"] (spD K mg R__law_orders) := by
  have S := sc__law_orders
  refine fn_ok (g := g__law_orders) F S (by decide) fun cdv A outer s H E hr => ?_
  exact pssd_cons (psd_par2 1 2 (by rfl) S.nd (pmd_d (ped_int) (pmd_n (pnd_lst (pad_nil)) (pmd_nil))) (by decide)) (pssd_cons (psd_wk [3, 4] (psd_for (passes_of rfl) (by rfl) (pid_enumA (pad_cons (ped_var 0) (pad_nil)) b_enumerate) (pgd_tup (by rfl) (pgsd_cons (pgd_name 3 S.nd) (pgsd_cons (pgd_name 4 S.nd) (pgsd_nil)))) (pssd_wk [3, 4] (pssd_cons (psd_app 2 (ped_var 4)) (pssd_one (psd_set (ped_op op_fdivW od_div (ped_op op_mulU od_mul (ped_var 1) (ped_op op_add od_add (ped_var 3) (ped_int))) (ped_peekI 2 (ped_countD (units65 hr) (ped_any 2) (ped_var 4)))) (pgd_name 1 S.nd))))))) (pssd_one (psd_ret (ped_var 1))))
/-! ### _law_number -/
abbrev s__law_number : Stmt := top 41
def g__law_number : M Fl := fSeq (fSetT (fC (.int 1)) (setV 1)) (fSeq (fWk [2] (fFor (bd (bd (rD (bd (rD (fVar 0) (rNil)) (callR R__law_normal)) (rNil)) (callR R__law_parts)) dWalk) (setV 2) (fWk [2] (fSetT (f2 dMul (fVar 1) (bd (rD (fVar 2) (rNil)) (callR R__law_orders))) (setV 1))))) (fRet (fVar 1)))
def R__law_number : En → Res D := runF 1 3 g__law_number
theorem sc__law_number : FnScope ["_law_steps_here", "_law_result", "_law_part"] ["_law_steps_here"] (defScope s__law_number) := ⟨rfl, rfl, rfl, by decide +kernel, rfl, by decide +kernel, by decide +kernel⟩
theorem ok__law_number (F : Fun K "_law_number" "_law_number" s__law_number f fd) (d_Fn__law_normal : FnI P w K mg base 2 "_law_normal" R__law_normal) (d_Fn__law_parts : FnI P w K mg base 1 "_law_parts" R__law_parts) (d_Fn__law_orders : FnI P w K mg base 1 "_law_orders" R__law_orders) : FnOk P w K mg base (L2.CX P w) 3 f fd ["_law_steps_here"] (spD K mg R__law_number) := by
  have S := sc__law_number
  refine fn_ok (g := g__law_number) F S (by decide) fun cdv A outer s H E hr => ?_
  exact pssd_cons (psd_set (ped_int) (pgd_name 1 S.nd)) (pssd_cons (psd_wk [2] (psd_for (passes_of rfl) (by rfl) (pid_seq (ped_call d_Fn__law_parts hr (by decide) (takes_of rfl rfl rfl rfl) (prd_d (ped_call d_Fn__law_normal hr (by decide) (takes_of rfl rfl rfl rfl) (prd_d (ped_var 0) (prd_nil))) (prd_nil)))) (pgd_name 2 S.nd) (pssd_wk [2] (pssd_one (psd_set (ped_op op_mulU od_mul (ped_var 1) (ped_call d_Fn__law_orders hr (by decide) (takes_of rfl rfl rfl rfl) (prd_d (ped_var 2) (prd_nil)))) (pgd_name 1 S.nd)))))) (pssd_one (psd_ret (ped_var 1))))
/-! ### parts_of -/
abbrev s_parts_of : Stmt := top 28
def g_parts_of : M Fl := fSeq (fSetN 1 (fLst (fNil))) (fSeq (fWk [2] (fParts 1 2 (fVar 0) (fAnd (fB (f2 dNe (fAny 1) (fL (fLst (fNil))))) (fB (f2 dEq (f2 dAt (f2 dAt (fGetA 1 (bd (fC (.int 1)) dNeg)) (fC (.int 0))) (fC (.int 0))) (f2 dAt (fVar 2) (fC (.int 0)))))) (bd (fC (.int 1)) dNeg))) (fRet (fAny 1)))
def R_parts_of : En → Res D := runF 1 3 g_parts_of
theorem sc_parts_of : FnScope ["steps", "parts", "step"] ["steps"] (defScope s_parts_of) := ⟨rfl, rfl, rfl, by decide +kernel, rfl, by decide +kernel, by decide +kernel⟩
theorem ok_parts_of (F : Fun K "parts_of" "parts_of" s_parts_of f fd) : FnOk P w K mg base (L2.CX P w) 1 f fd ["steps"] (spD K mg R_parts_of) := by
  have S := sc_parts_of
  refine fn_ok (g := g_parts_of) F S (by decide) fun cdv A outer s H E hr => ?_
  exact pssd_cons (psd_setN 1 (pnd_lst (pad_nil)) S.nd) (pssd_cons (psd_wk [2] (psd_parts 1 2 (passes_of rfl) (by rfl) S.nd (ped_var 0) ((pwd_and (pbd_cmp (op_neD hr.units) od_ne (ped_any 1) (ped_new (pnd_lst (pad_nil)))) (pwd_and1 (pbd_cmp (op_eqD hr.units) od_eq (ped_ix (ped_ix (ped_getA 1 (ped_neg (ped_int))) (ped_int)) (ped_int)) (ped_ix (ped_var 2) (ped_int))))).pt) (ped_neg (ped_int)))) (pssd_one (psd_ret (ped_any 1))))
/-! ### least_reaching -/
abbrev s_least_reaching : Stmt := top 21
def g_least_reaching : M Fl := fSeq (fSetT (fIf (fB (f2 dGt (fVar 2) (fVar 0))) (f2 dSub (fVar 2) (fVar 0)) (fC (.int 0))) (setV 3)) (fSeq (fWk [4] (fFor (bd (fVar 1) dWalk) (setV 4) (fWk [4] (fIf (fB (f2 dLe (fVar 4) (fVar 3))) (fSetT (f2 dAdd (fVar 3) (fC (.int 1))) (setV 3)) (pu .nx))))) (fRet (fVar 3)))
def R_least_reaching : En → Res D := runF 3 5 g_least_reaching
theorem sc_least_reaching : FnScope ["start", "lost", "count", "result", "rank"] ["start", "lost", "count"] (defScope s_least_reaching) := ⟨rfl, rfl, rfl, by decide +kernel, rfl, by decide +kernel, by decide +kernel⟩
theorem ok_least_reaching (F : Fun K "least_reaching" "least_reaching" s_least_reaching f fd) : FnOk P w K mg base (L2.CX P w) 1 f fd ["start", "lost", "count"] (spD K mg R_least_reaching) := by
  have S := sc_least_reaching
  refine fn_ok (g := g_least_reaching) F S (by decide) fun cdv A outer s H E hr => ?_
  exact pssd_cons (psd_set (ped_ifExp (pbd_cmp op_gt od_gt (ped_var 2) (ped_var 0)) (ped_op op_sub od_sub (ped_var 2) (ped_var 0)) (ped_int)) (pgd_name 3 S.nd)) (pssd_cons (psd_wk [4] (psd_for (passes_of rfl) (by rfl) (pid_seq (ped_var 1)) (pgd_name 4 S.nd) (pssd_wk [4] (pssd_one (psd_if (pbd_cmp op_le od_le (ped_var 4) (ped_var 3)) (pssd_one (psd_set (ped_op op_add od_add (ped_var 3) (ped_int)) (pgd_name 3 S.nd))) (pssd_nil)))))) (pssd_one (psd_ret (ped_var 3))))
/-! ### are_lost_ranks -/
abbrev s_are_lost_ranks : Stmt := top 19
def g_are_lost_ranks : M Fl := fSeq (fIf (fOr (fNot (fB (bd (fVar 0) fun d => li (oIs2 "list" "tuple" d)))) (fNot (fB (bd (fCons (fL (fLc (bd (fVar 0) dWalk) [3] (setV 3) (pu true) (bd (rD (fVar 3) (rNil)) (callR R_is_rank)))) (fNil)) (d1 oAll))))) (fRet (fC (.bl false))) (pu .nx)) (fRet (bd (fCons (fL (fLc (bd (fCons (fVar 0) (fCons (fSl (fVar 0) (fPart (some (fC (.int 1)))) (fPart none)) (fNil))) dZip) [1, 2] (gTupD 2 (gConsD (setV 1) (gConsD (setV 2) (gNilD)))) (pu true) (f2 dLt (fVar 1) (fVar 2)))) (fNil)) (d1 oAll)))
def R_are_lost_ranks : En → Res D := runF 1 4 g_are_lost_ranks
theorem sc_are_lost_ranks : FnScope ["value", "first", "second", "item"] ["value"] (defScope s_are_lost_ranks) := ⟨rfl, rfl, rfl, by decide +kernel, rfl, by decide +kernel, by decide +kernel⟩
theorem ok_are_lost_ranks (F : Fun K "are_lost_ranks" "are_lost_ranks" s_are_lost_ranks f fd) (b_isinstance : mg "isinstance" = none) (b_list : mg "list" = none) (b_tuple : mg "tuple" = none) (d_Fn_is_rank : FnI P w K mg base 2 "is_rank" R_is_rank) (b_all : mg "all" = none) (b_zip : mg "zip" = none) : FnOk P w K mg base (L2.CX P w) 3 f fd ["value"] (spD K mg R_are_lost_ranks) := by
  have S := sc_are_lost_ranks
  refine fn_ok (g := g_are_lost_ranks) F S (by decide) fun cdv A outer s H E hr => ?_
  exact pssd_cons (psd_if ((pwd_or (pbd_not (pbd_val (ped_is2 tab_list tab_tuple (ped_var 0) b_isinstance b_list (by decide +kernel) b_tuple (by decide +kernel)))) (pwd_or1 (pbd_not (pbd_val (ped_callB (cr_all (by rfl)) cd_all b_all (by decide +kernel) (pad_cons (ped_new (pnd_lc (own := [("item", 3)]) (by rfl) S.nd (pid_seq (ped_var 0)) (by exact blkOk_by (N := ["value", "first", "second", "item"]) (sc := defScope s_are_lost_ranks) (own := [("item", 3)]) (by decide +kernel)) (fun _ _ _ _ _ => pgv_name 3 S.nd (by decide)) (fun _ _ _ _ _ => ptsd_nil) (fun _ _ _ _ _ => ped_call d_Fn_is_rank hr (by decide) takes0 (prd_d (ped_var 3) (prd_nil))))) (pad_nil))))))).pt) (pssd_one (psd_ret (ped_bl))) (pssd_nil)) (pssd_one (psd_ret (ped_callB (cr_all (by rfl)) cd_all b_all (by decide +kernel) (pad_cons (ped_new (pnd_lc (own := [("first", 1), ("second", 2)]) (by rfl) S.nd (pid_zip (pad_cons (ped_var 0) (pad_cons (ped_slice (ped_var 0) (pod_some (ped_int)) pod_none) (pad_nil))) b_zip) (by exact blkOk_by (N := ["value", "first", "second", "item"]) (sc := defScope s_are_lost_ranks) (own := [("first", 1), ("second", 2)]) (by decide +kernel)) (fun _ _ _ _ _ => pgv_tup (by rfl) (pgvs_cons (pgv_name 1 S.nd (by decide)) (pgvs_cons (pgv_name 2 S.nd (by decide)) (pgvs_nil)))) (fun _ _ _ _ _ => ptsd_nil) (fun _ _ _ _ _ => ped_cmp op_lt od_lt (ped_var 1) (ped_var 2)))) (pad_nil)))))
/-! ### Table.__init__ -/
abbrev s_Table___init__ : Stmt := inClass (top 22) 0
def g_Table___init__ : M Fl := fSeq (fIf (fOr (fNot (fB (bd (rD (fVar 1) (rNil)) (callR R_is_count)))) (fNot (fB (bd (rD (fVar 2) (rNil)) (callR R_are_lost_ranks))))) ((fun _ => .bad)) (pu .nx)) (fSeq (fFldS 0 "Table" "base" (fVar 1)) (fFldS 0 "Table" "gone" (bd (fCons (fVar 2) (fNil)) (d1 oTuple))))
def R_Table___init__ : En → Res D := runF 3 3 g_Table___init__
theorem sc_Table___init__ : FnScope ["self", "start", "lost"] ["self", "start", "lost"] (defScope s_Table___init__) := ⟨rfl, rfl, rfl, by decide +kernel, rfl, by decide +kernel, by decide +kernel⟩
theorem ok_Table___init__ (F : Fun K "__init__" "Table.__init__" s_Table___init__ f fd) (d_Fn_is_count : FnI P w K mg base 2 "is_count" R_is_count) (d_Fn_are_lost_ranks : FnI P w K mg base 3 "are_lost_ranks" R_are_lost_ranks) (f_Table_base : FlI K mg "Table" "base") (f_Table_gone : FlI K mg "Table" "gone") (b_tuple : mg "tuple" = none) : FnOk P w K mg base (L2.CX P w) 4 f fd ["self", "start", "lost"] (spD K mg R_Table___init__) := by
  have S := sc_Table___init__
  refine fn_ok (g := g_Table___init__) F S (by decide) fun cdv A outer s H E hr => ?_
  exact pssd_cons (psd_if ((pwd_or (pbd_not (pbd_val (ped_call d_Fn_is_count hr (by decide) (takes_of rfl rfl rfl rfl) (prd_d (ped_var 1) (prd_nil))))) (pwd_or1 (pbd_not (pbd_val (ped_call d_Fn_are_lost_ranks hr (by decide) (takes_of rfl rfl rfl rfl) (prd_d (ped_var 2) (prd_nil))))))).pt) (pssd_one (psd_never)) (pssd_nil)) (pssd_cons (psd_fld 0 f_Table_base (ped_var 1)) (pssd_one (psd_fld 0 f_Table_gone (ped_callTy call_tuple_of cd_tuple b_tuple (by decide +kernel) (pad_cons (ped_var 2) (pad_nil))))))
/-! ### table_at -/
abbrev s_table_at : Stmt := top 24
def g_table_at : M Fl := fSeq (fPar 2 3 (fCons (fC (.int 0)) (fCons (fL (fLst (fNil))) (fNil)))) (fSeq (fWk [4, 5] (fFor (bd (fVar 0) dWalk) (gTupD 2 (gConsD (setV 4) (gConsD (setV 5) (gNilD)))) (fWk [4, 5] (fIf (fAnd (fB (f2 dEq (fVar 4) (fC (.str ("remove" : Str))))) (fB (f2 dGt (fVar 5) (fVar 2)))) (fSetT (fL (bd (fCons (fL (fLst (fStar (bd (fVar 3) dItems) (fCons (bd (rD (fVar 2) (rD (fVar 3) (rD (fVar 5) (rNil)))) (callR R_least_reaching)) (fNil))))) (fNil)) nSort)) (setV 3)) (fIf (fB (f2 dEq (fVar 4) (fC (.str ("remove" : Str))))) (fAug 2 dSub (fC (.int 1))) (fIf (fB (f2 dLe (fVar 5) (fVar 1))) (fAug 2 dAdd (fC (.int 1))) (pu .nx))))))) (fRet (fMake "Table" R_Table___init__ (fCons (fVar 2) (fCons (fVar 3) (fNil))))))
def R_table_at : En → Res D := runF 2 6 g_table_at
theorem sc_table_at : FnScope ["steps", "threshold", "start", "lost", "word", "number"] ["steps", "threshold"] (defScope s_table_at) := ⟨rfl, rfl, rfl, by decide +kernel, rfl, by decide +kernel, by decide +kernel⟩
theorem ok_table_at (F : Fun K "table_at" "table_at" s_table_at f fd) (d_Fn_least_reaching : FnI P w K mg base 1 "least_reaching" R_least_reaching) (b_sorted : mg "sorted" = none) (d_Mk_Table___init__ : MkI P w K mg base 4 "Table" R_Table___init__) : FnOk P w K mg base (L2.CX P w) 6 f fd ["steps", "threshold"] (spD K mg R_table_at) := by
  have S := sc_table_at
  refine fn_ok (g := g_table_at) F S (by decide) fun cdv A outer s H E hr => ?_
  exact pssd_cons (psd_par 2 3 (by rfl) S.nd (pad_cons (ped_int) (pad_cons (ped_new (pnd_lst (pad_nil))) (pad_nil))) (by decide)) (pssd_cons (psd_wk [4, 5] (psd_for (passes_of rfl) (by rfl) (pid_seq (ped_var 0)) (pgd_tup (by rfl) (pgsd_cons (pgd_name 4 S.nd) (pgsd_cons (pgd_name 5 S.nd) (pgsd_nil)))) (pssd_wk [4, 5] (pssd_one (psd_if ((pwd_and (pbd_cmp (op_eqD hr.units) od_eq (ped_var 4) (ped_str)) (pwd_and1 (pbd_cmp op_gt od_gt (ped_var 5) (ped_var 2)))).pt) (pssd_one (psd_set (ped_new (pnd_callB cr_sortedI cn_sort b_sorted (by decide +kernel) (pad_cons (ped_new (pnd_lst (pad_star (ped_var 3) (pad_cons (ped_call d_Fn_least_reaching hr (by decide) (takes_of rfl rfl rfl rfl) (prd_d (ped_var 2) (prd_d (ped_var 3) (prd_d (ped_var 5) (prd_nil))))) (pad_nil))))) (pad_nil)))) (pgd_name 3 S.nd))) (pssd_one (psd_if (pbd_cmp (op_eqD hr.units) od_eq (ped_var 4) (ped_str)) (pssd_one (psd_aug 2 ip_sub (ped_int) S.nd)) (pssd_one (psd_if (pbd_cmp op_le od_le (ped_var 5) (ped_var 1)) (pssd_one (psd_aug 2 ip_add (ped_int) S.nd)) (pssd_nil)))))))))) (pssd_one (psd_ret (ped_make d_Mk_Table___init__ hr (by decide) (takes_of rfl rfl rfl rfl) (pad_cons (ped_var 2) (pad_cons (ped_var 3) (pad_nil)))))))
/-! ### Table.lost -/
abbrev s_Table_lost : Stmt := inClass (top 22) 2
def g_Table_lost : M Fl := fRet (bd (fVar 0) (dFld "Table" "gone"))
def R_Table_lost : En → Res D := runF 1 1 g_Table_lost
theorem sc_Table_lost : FnScope ["self"] ["self"] (defScope s_Table_lost) := ⟨rfl, rfl, rfl, by decide +kernel, rfl, by decide +kernel, by decide +kernel⟩
theorem ok_Table_lost (F : Fun K "lost" "Table.lost" s_Table_lost f fd) (f_Table_gone : FlI K mg "Table" "gone") : FnOk P w K mg base (L2.CX P w) 1 f fd ["self"] (spD K mg R_Table_lost) := by
  have S := sc_Table_lost
  refine fn_ok (g := g_Table_lost) F S (by decide) fun cdv A outer s H E hr => ?_
  exact pssd_one (psd_ret (ped_fld f_Table_gone (ped_var 0)))
/-! ### sorted_part -/
abbrev s_sorted_part : Stmt := top 29
def g_sorted_part : M Fl := fSeq (fIf (fB (f2 dEq (f2 dAt (f2 dAt (fVar 0) (fC (.int 0))) (fC (.int 0))) (fC (.str ("insert" : Str))))) (fRet (fL (bd (fCons (fVar 0) (fNil)) nSortW))) (pu .nx)) (fRet (fL (fLc (bd (bd (fProp "Table" R_Table_lost (bd (rD (fVar 0) (rD (fC (.int 0)) (rNil))) (callR R_table_at))) dRevT) dWalk) [1] (setV 1) (pu true) (fTup (fCons (fC (.str ("remove" : Str))) (fCons (fVar 1) (fNil)))))))
def R_sorted_part : En → Res D := runF 1 2 g_sorted_part
theorem sc_sorted_part : FnScope ["part", "rank"] ["part"] (defScope s_sorted_part) := ⟨rfl, rfl, rfl, by decide +kernel, rfl, by decide +kernel, by decide +kernel⟩
theorem ok_sorted_part (F : Fun K "sorted_part" "sorted_part" s_sorted_part f fd) (b_sorted : mg "sorted" = none) (d_Fn_table_at : FnI P w K mg base 6 "table_at" R_table_at) (d_Pr_Table_lost_Table : PrI P w K mg base 1 "Table" "lost" R_Table_lost) : FnOk P w K mg base (L2.CX P w) 7 f fd ["part"] (spD K mg R_sorted_part) := by
  have S := sc_sorted_part
  refine fn_ok (g := g_sorted_part) F S (by decide) fun cdv A outer s H E hr => ?_
  exact pssd_cons (psd_if (pbd_cmp (op_eqD hr.units) od_eq (ped_ix (ped_ix (ped_var 0) (ped_int)) (ped_int)) (ped_str)) (pssd_one (psd_ret (ped_new (pnd_callB cr_sortedW cn_sortW b_sorted (by decide +kernel) (pad_cons (ped_var 0) (pad_nil)))))) (pssd_nil)) (pssd_one (psd_ret (ped_new (pnd_lc (own := [("rank", 1)]) (by rfl) S.nd (pid_seq (ped_revT (ped_prop d_Pr_Table_lost_Table hr (by decide) (ped_call d_Fn_table_at hr (by decide) (takes_of rfl rfl rfl rfl) (prd_d (ped_var 0) (prd_d (ped_int) (prd_nil))))))) (by exact blkOk_by (N := ["part", "rank"]) (sc := defScope s_sorted_part) (own := [("rank", 1)]) (by decide +kernel)) (fun _ _ _ _ _ => pgv_name 1 S.nd (by decide)) (fun _ _ _ _ _ => ptsd_nil) (fun _ _ _ _ _ => ped_tup (pad_cons (ped_str) (pad_cons (ped_var 1) (pad_nil))))))))
/-! ### normal_form -/
abbrev s_normal_form : Stmt := top 30
def g_normal_form : M Fl := fSeq (fSetN 1 (fLst (fNil))) (fSeq (fWk [2] (fFor (bd (bd (rD (fProp "Sequence" R_Sequence_steps (fVar 0)) (rNil)) (callR R_parts_of)) dWalk) (setV 2) (fWk [2] (fExt 1 (bd (rD (fVar 2) (rNil)) (callR R_sorted_part)))))) (fRet (fMake "Sequence" R_Sequence___init__ (bd (fAny 1) dItems))))
def R_normal_form : En → Res D := runF 1 3 g_normal_form
theorem sc_normal_form : FnScope ["sequence", "steps", "part"] ["sequence"] (defScope s_normal_form) := ⟨rfl, rfl, rfl, by decide +kernel, rfl, by decide +kernel, by decide +kernel⟩
theorem ok_normal_form (F : Fun K "normal_form" "normal_form" s_normal_form f fd) (d_Pr_Sequence_steps_Sequence : PrI P w K mg base 1 "Sequence" "steps" R_Sequence_steps) (d_Fn_parts_of : FnI P w K mg base 1 "parts_of" R_parts_of) (d_Fn_sorted_part : FnI P w K mg base 7 "sorted_part" R_sorted_part) (d_Mk_Sequence___init__ : MkI P w K mg base 5 "Sequence" R_Sequence___init__) : FnOk P w K mg base (L2.CX P w) 8 f fd ["sequence"] (spD K mg R_normal_form) := by
  have S := sc_normal_form
  refine fn_ok (g := g_normal_form) F S (by decide) fun cdv A outer s H E hr => ?_
  exact pssd_cons (psd_setN 1 (pnd_lst (pad_nil)) S.nd) (pssd_cons (psd_wk [2] (psd_for (passes_of rfl) (by rfl) (pid_seq (ped_call d_Fn_parts_of hr (by decide) (takes_of rfl rfl rfl rfl) (prd_d (ped_prop d_Pr_Sequence_steps_Sequence hr (by decide) (ped_var 0)) (prd_nil)))) (pgd_name 2 S.nd) (pssd_wk [2] (pssd_one (psd_ext 1 (ped_call d_Fn_sorted_part hr (by decide) (takes_of rfl rfl rfl rfl) (prd_d (ped_var 2) (prd_nil)))))))) (pssd_one (psd_ret (ped_makeS1 d_Mk_Sequence___init__ hr (by decide) (takes_of rfl rfl rfl rfl) (ped_any 1)))))
/-! ### is_connected -/
abbrev s_is_connected : Stmt := top 31
def g_is_connected : M Fl := fRet (f2 (d2m R_Sequence___eq__ "Sequence") (bd (rD (fVar 0) (rNil)) (callR R_normal_form)) (bd (rD (fVar 1) (rNil)) (callR R_normal_form)))
def R_is_connected : En → Res D := runF 2 2 g_is_connected
theorem sc_is_connected : FnScope ["first", "second"] ["first", "second"] (defScope s_is_connected) := ⟨rfl, rfl, rfl, by decide +kernel, rfl, by decide +kernel, by decide +kernel⟩
theorem ok_is_connected (F : Fun K "is_connected" "is_connected" s_is_connected f fd) (d_Fn_normal_form : FnI P w K mg base 8 "normal_form" R_normal_form) (d_Op_Sequence___eq___Sequence : OpI P w K mg base 1 "Sequence" "__eq__" R_Sequence___eq__) : FnOk P w K mg base (L2.CX P w) 9 f fd ["first", "second"] (spD K mg R_is_connected) := by
  have S := sc_is_connected
  refine fn_ok (g := g_is_connected) F S (by decide) fun cdv A outer s H E hr => ?_
  exact pssd_one (psd_ret (ped_ownEq d_Op_Sequence___eq___Sequence hr (by decide) (ped_call d_Fn_normal_form hr (by decide) (takes_of rfl rfl rfl rfl) (prd_d (ped_var 0) (prd_nil))) (ped_call d_Fn_normal_form hr (by decide) (takes_of rfl rfl rfl rfl) (prd_d (ped_var 1) (prd_nil)))))
/-! ### law -/
abbrev s_law : Stmt := top 43
noncomputable def g_law : M Fl := fSeq (fWk [1, 2, 3, 4, 5, 6, 7] (fFor (bd (fCons (bd (fCons (fC (.int 1)) (fCons (bd (fCons (fC (.int 5)) (fCons (bd (fCons (fVar 0) (fNil)) (d1 oLen)) (fNil))) (d2 oMin)) (fNil))) (d2 oMax)) (fNil)) dRngW1) (setV 1) (fWk [1, 2, 3, 4, 5, 6, 7] (fSeq (fSetN 2 (bd (rD (fVar 0) (rD (fVar 1) (rNil))) (callN R__law_pool))) (fSeq (fSetT (bd (rO 2 (rD (fC (.int 5)) (rD (fC (.int 3)) (rNil)))) (callR R__law_steps)) (setV 3)) (fSeq (fSetT (bd (rD (fVar 3) (rNil)) (callR R__law_sequence)) (setV 4)) (fSeq (fSetT (bd (rD (fVar 4) (rNil)) (callR R__law_reached)) (setV 5)) (fSeq (fIf (fOr (fB (f2 (dIsN false) (fVar 5) (fC .non))) (fB (f2 dNe (bd (fCons (fVar 5) (fNil)) (d1 oLen)) (bd (rD (fVar 3) (rNil)) (callR R__law_number))))) (fRet (fC (.bl false))) (pu .nx)) (fSeq (fWk [6] (fFor (bd (fVar 5) dWalk) (setV 6) (fWk [6] (fIf (fOr (fNot (fB (f2 (d2m R_Sequence___eq__ "Sequence") (bd (rD (fVar 6) (rNil)) (callR R_normal_form)) (bd (rD (fVar 4) (rNil)) (callR R_normal_form))))) (fB (f2 (dIsB true) (bd (rD (fVar 6) (rD (fVar 4) (rNil))) (callR R_is_connected)) (fC (.bl true))))) (fRet (fC (.bl false))) (pu .nx))))) (fSeq (fSetT (f2 (d2m R_Sequence___add__ "Sequence") (fVar 4) (fMake "Sequence" R_Sequence___init__ (fCons (bd (rO 2 (rD (fC (.int 3)) (rNil))) (callR R__law_step)) (fNil)))) (setV 7)) (fIf (fOr (fB (f2 (dIsB true) (bd (rD (fVar 4) (rD (fVar 7) (rNil))) (callR R_is_connected)) (fC (.bl false)))) (fB (f2 (dInOL false R_Sequence___eq__ "Sequence") (fVar 7) (fVar 5)))) (fRet (fC (.bl false))) (pu .nx)))))))))))) (fRet (fC (.bl true)))
noncomputable def R_law : En → Res D := runF 1 8 g_law
theorem sc_law : FnScope ["_law_script", "_law_k", "_law_pool_here", "_law_steps_here", "_law_sequence_here", "_law_found", "_law_other", "_law_longer_one"] ["_law_script"] (defScope s_law) := ⟨rfl, rfl, rfl, by decide +kernel, rfl, by decide +kernel, by decide +kernel⟩
theorem ok_law (F : Fun K "law" "law" s_law f fd) (b_len : mg "len" = none) (b_min : mg "min" = none) (b_max : mg "max" = none) (b_range : mg "range" = none) (d_FnN__law_pool : FnN P w K mg base 1 "_law_pool" R__law_pool) (d_Fn__law_steps : FnI P w K mg base 3 "_law_steps" R__law_steps) (d_Fn__law_sequence : FnI P w K mg base 8 "_law_sequence" R__law_sequence) (d_Fn__law_reached : FnI P w K mg base 8 "_law_reached" R__law_reached) (d_Fn__law_number : FnI P w K mg base 3 "_law_number" R__law_number) (d_Fn_normal_form : FnI P w K mg base 8 "normal_form" R_normal_form) (d_Op_Sequence___eq___Sequence : OpI P w K mg base 1 "Sequence" "__eq__" R_Sequence___eq__) (d_Fn_is_connected : FnI P w K mg base 9 "is_connected" R_is_connected) (d_Mk_Sequence___init__ : MkI P w K mg base 5 "Sequence" R_Sequence___init__) (d_Fn__law_step : FnI P w K mg base 2 "_law_step" R__law_step) (d_Op_Sequence___add___Sequence : OpI P w K mg base 7 "Sequence" "__add__" R_Sequence___add__) : FnOk P w K mg base (L2.CX P w) 10 f fd ["_law_script"] (spD K mg R_law) := by
  have S := sc_law
  refine fn_ok (g := g_law) F S (by decide) fun cdv A outer s H E hr => ?_
  exact pssd_cons (psd_wk [1, 2, 3, 4, 5, 6, 7] (psd_for (passes_of rfl) (by rfl) (pid_rangeW1 (pad_cons (ped_callB (call_max2 (by rfl)) cd_max b_max (by decide +kernel) (pad_cons (ped_int) (pad_cons (ped_callB (call_min2 (by rfl)) cd_min b_min (by decide +kernel) (pad_cons (ped_int) (pad_cons (ped_callB call_len_seq cd_len b_len (by decide +kernel) (pad_cons (ped_var 0) (pad_nil))) (pad_nil)))) (pad_nil)))) (pad_nil)) b_range) (pgd_name 1 S.nd) (pssd_wk [1, 2, 3, 4, 5, 6, 7] (pssd_cons (psd_setN 2 (pnd_call d_FnN__law_pool hr (by decide) (takes_of rfl rfl rfl rfl) (prd_d (ped_var 0) (prd_d (ped_var 1) (prd_nil)))) S.nd) (pssd_cons (psd_set (ped_call d_Fn__law_steps hr (by decide) (takes_of rfl rfl rfl rfl) (prd_o 2 (prd_d (ped_int) (prd_d (ped_int) (prd_nil))))) (pgd_name 3 S.nd)) (pssd_cons (psd_set (ped_call d_Fn__law_sequence hr (by decide) (takes_of rfl rfl rfl rfl) (prd_d (ped_var 3) (prd_nil))) (pgd_name 4 S.nd)) (pssd_cons (psd_set (ped_call d_Fn__law_reached hr (by decide) (takes_of rfl rfl rfl rfl) (prd_d (ped_var 4) (prd_nil))) (pgd_name 5 S.nd)) (pssd_cons (psd_if ((pwd_or (pbd_cmp op_isN od_isN (ped_var 5) (ped_non)) (pwd_or1 (pbd_cmp (op_neD hr.units) od_ne (ped_callB call_len_seq cd_len b_len (by decide +kernel) (pad_cons (ped_var 5) (pad_nil))) (ped_call d_Fn__law_number hr (by decide) (takes_of rfl rfl rfl rfl) (prd_d (ped_var 3) (prd_nil)))))).pt) (pssd_one (psd_ret (ped_bl))) (pssd_nil)) (pssd_cons (psd_wk [6] (psd_for (passes_of rfl) (by rfl) (pid_seq (ped_var 5)) (pgd_name 6 S.nd) (pssd_wk [6] (pssd_one (psd_if ((pwd_or (pbd_not (pbd_ownEq d_Op_Sequence___eq___Sequence hr (by decide) (ped_call d_Fn_normal_form hr (by decide) (takes_of rfl rfl rfl rfl) (prd_d (ped_var 6) (prd_nil))) (ped_call d_Fn_normal_form hr (by decide) (takes_of rfl rfl rfl rfl) (prd_d (ped_var 4) (prd_nil))))) (pwd_or1 (pbd_cmp op_notBl od_notB (ped_call d_Fn_is_connected hr (by decide) (takes_of rfl rfl rfl rfl) (prd_d (ped_var 6) (prd_d (ped_var 4) (prd_nil)))) (ped_bl)))).pt) (pssd_one (psd_ret (ped_bl))) (pssd_nil)))))) (pssd_cons (psd_set (ped_own d_Op_Sequence___add___Sequence hr (by decide) (ped_var 4) (ped_make d_Mk_Sequence___init__ hr (by decide) (takes_of rfl rfl rfl rfl) (pad_cons (ped_call d_Fn__law_step hr (by decide) (takes_of rfl rfl rfl rfl) (prd_o 2 (prd_d (ped_int) (prd_nil)))) (pad_nil)))) (pgd_name 7 S.nd)) (pssd_one (psd_if ((pwd_or (pbd_cmp op_notBl od_notB (ped_call d_Fn_is_connected hr (by decide) (takes_of rfl rfl rfl rfl) (prd_d (ped_var 4) (prd_d (ped_var 7) (prd_nil)))) (ped_bl)) (pwd_or1 (pbd_inOL d_Op_Sequence___eq___Sequence hr (by decide) (ped_var 7) (ped_var 5)))).pt) (pssd_one (psd_ret (ped_bl))) (pssd_nil))))))))))))) (pssd_one (psd_ret (ped_bl)))
end
end Dl.k36
set_option maxHeartbeats 400000
/-! Layer P, part 2: how a typed function's answer tells the mirror's. -/
namespace Dl
open PySem PySem.Spec PyProof.Rows L2 RZ
/-! ### flows -/
def Ot {R S : Type} (m : M Fl) (e : En) (P : S → En → Prop) (d : R → Fl) (Q : R → En → Prop) : Fw R S → Prop
  | .nx s => ∃ e1, m e = .ok .nx e1 ∧ P s e1
  | .rt r => ∃ e2, m e = .ok (d r) e2 ∧ Q r e2
  | .bk s => ∃ e1, m e = .ok .bk e1 ∧ P s e1
/-- a flow that leaves -/
def Lv (f : Fl) : Prop := (∃ x, f = .rt x) ∨ ∃ x, f = .rn x
structure Fin {R : Type} (n m : Nat) (os : R → En) (r : R) (e : En) : Prop where
  len : e.length = m
  out : (e.take n).map keepR = os r
section
variable {R S : Type} {e e1 : En} {P P' : S → En → Prop} {d : R → Fl} {Q : R → En → Prop} {w : Fw R S} {a b g : M Fl}
theorem ot_of {m m' : M Fl} (h : m e = m' e1) (h2 : Ot m' e1 P d Q w) : Ot m e P d Q w := by
  cases w with
  | nx s => obtain ⟨e2, h3, h4⟩ := h2; exact ⟨e2, h.trans h3, h4⟩
  | rt r => obtain ⟨e2, h3, h4⟩ := h2; exact ⟨e2, h.trans h3, h4⟩
  | bk s => obtain ⟨e2, h3, h4⟩ := h2; exact ⟨e2, h.trans h3, h4⟩
theorem ot_seq (h : a e = .ok .nx e1) (h2 : Ot b e1 P d Q w) : Ot (fSeq a b) e P d Q w := ot_of (fSeq_nx h rfl) h2
theorem ot_seq_rt {S' : Type} {P' : S' → En → Prop} {r : R} (hd : Lv (d r)) (h : Ot a e P' d Q (.rt r)) : Ot (fSeq a b) e P d Q (.rt r) := by
  obtain ⟨e2, h3, h4⟩ := h
  refine ⟨e2, ?_, h4⟩
  unfold fSeq
  rw [bd_ok h3]
  rcases hd with ⟨x, hx⟩ | ⟨x, hx⟩ <;> rw [hx] <;> rfl
theorem ot_seq_bk {S' : Type} {P' : S' → En → Prop} {s' : S'} {s : S} (h : Ot a e P' d Q (.bk s')) (hs : ∀ e1, P' s' e1 → P s e1) : Ot (fSeq a b) e P d Q (.bk s) := by
  obtain ⟨e2, h3, h4⟩ := h
  refine ⟨e2, ?_, hs _ h4⟩
  unfold fSeq
  rw [bd_ok h3]
  rfl
theorem ot_if_t {c : M Bool} {b' : Bool} (h : c e = .ok b' e1) (hb : b' = true) (h2 : Ot a e1 P d Q w) : Ot (fIf c a b) e P d Q w := ot_of (fIf_t (hb ▸ h) rfl) h2
theorem ot_if_f {c : M Bool} {b' : Bool} (h : c e = .ok b' e1) (hb : ¬ b' = true) (h2 : Ot b e1 P d Q w) : Ot (fIf c a b) e P d Q w := ot_of (fIf_f (eq_false_of_ne_true hb ▸ h) rfl) h2
theorem ot_rt {r : R} {e2 : En} (h : a e = .ok (d r) e2) (hq : Q r e2) : Ot a e P d Q (.rt r) := ⟨e2, h, hq⟩
theorem Fin.wk1 {n m : Nat} {os : R → En} {r : R} {e : En} {j : Nat} (h : Fin n m os r e) (hj : n ≤ j ∨ (os r)[j]? = some .no) : Fin n m os r (e.set j .no) := by
  refine ⟨by rw [List.length_set]; exact h.len, ?_⟩
  rw [List.take_set, List.map_set, h.out]
  rcases hj with hj | hj
  · apply List.set_eq_of_length_le
    rw [← h.out, List.length_map, List.length_take]
    omega
  · apply List.ext_getElem?
    intro i
    rw [List.getElem?_set]
    split
    · rename_i hi
      subst hi
      split
      · rw [hj]; rfl
      · rename_i hl
        rw [List.getElem?_eq_none (by omega)]
    · rfl
theorem Fin.wk {n m : Nat} {os : R → En} {r : R} : ∀ {js : List Nat} {e : En}, Fin n m os r e → (∀ j ∈ js, n ≤ j ∨ (os r)[j]? = some .no) → Fin n m os r (wkE js e)
  | [], _, h, _ => h
  | j :: js, e, h, hj => Fin.wk (js := js) (h.wk1 (hj j List.mem_cons_self)) fun i hi => hj i (List.mem_cons_of_mem _ hi)
theorem ot_wk {js : List Nat} {n m : Nat} {os : R → En} (h : Ot g e P d (Fin n m os) w) (hP : ∀ s e1, P s e1 → P' s (wkE js e1)) (hj : ∀ r, ∀ j ∈ js, n ≤ j ∨ (os r)[j]? = some .no) : Ot (fWk js g) e P' d (Fin n m os) w := by
  cases w with
  | nx s => obtain ⟨e2, h3, h4⟩ := h; exact ⟨_, fWk_ok h3 rfl, hP _ _ h4⟩
  | rt r => obtain ⟨e2, h3, h4⟩ := h; exact ⟨_, fWk_ok h3 rfl, h4.wk (hj r)⟩
  | bk s => obtain ⟨e2, h3, h4⟩ := h; exact ⟨_, fWk_ok h3 rfl, hP _ _ h4⟩
theorem ot_wkQ {js : List Nat} (h : Ot g e (fun s e1 => P s (wkE js e1)) d Q w) (hQ : ∀ r e2, Q r e2 → Q r (wkE js e2)) : Ot (fWk js g) e P d Q w := by
  cases w with
  | nx s => obtain ⟨e2, h3, h4⟩ := h; exact ⟨_, fWk_ok h3 rfl, h4⟩
  | rt r => obtain ⟨e2, h3, h4⟩ := h; exact ⟨_, fWk_ok h3 rfl, hQ _ _ h4⟩
  | bk s => obtain ⟨e2, h3, h4⟩ := h; exact ⟨_, fWk_ok h3 rfl, h4⟩
theorem all_lt {n : Nat} {js : List Nat} (h : (js.all fun j => decide (n ≤ j)) = true) {P : Nat → Prop} : ∀ j ∈ js, n ≤ j ∨ P j := fun j hj => .inl (of_decide_eq_true (List.all_eq_true.mp h j hj))
theorem run_Ot {n m : Nat} {as : En} {dD : R → D} {os : R → En} {r : R} {P : Unit → En → Prop} (h : Ot g (as ++ List.replicate (m - n) .no) P (fun r => .rt (dD r)) (Fin n m os) (.rt r)) (hn : as.length = n) (hm : n ≤ m) : runF n m g as = .ok (dD r) (os r) := by
  obtain ⟨e2, h1, h2⟩ := h
  rw [runF_ok h1 hn hm h2.len, h2.out]
theorem runN_Ot {n m : Nat} {as : En} {dD : R → List D} {os : R → En} {r : R} {P : Unit → En → Prop} (h : Ot g (as ++ List.replicate (m - n) .no) P (fun r => .rn (dD r)) (Fin n m os) (.rt r)) (hn : as.length = n) (hm : n ≤ m) : runN n m g as = .ok (dD r) (os r) := by
  obtain ⟨e2, h1, h2⟩ := h
  unfold runN
  rw [if_pos ⟨hn, hm⟩, h1]
  show (if e2.length = m then Res.ok (dD r) ((e2.take n).map keepR) else .bad) = _
  rw [if_pos h2.len, h2.out]
theorem runX_Ot {n m : Nat} {as : En} {os : S → En} {s : S} (h : Ot (R := Unit) g (as ++ List.replicate (m - n) .no) (fun s e => Fin n m os s e) (fun _ => .rt .non) (fun _ _ => True) (.nx s)) (hn : as.length = n) (hm : n ≤ m) : runF n m g as = .ok .non (os s) := by
  obtain ⟨e2, h1, h2⟩ := h
  rw [runF_nx h1 hn hm h2.len, h2.out]
end
theorem ot_seq_w {R S S' : Type} {e : En} {P : S → En → Prop} {E' : S' → En} {d : R → Fl} {Q : R → En → Prop} {w : Fw R S} {w' : Fw R S'} {a b : M Fl} (hd : ∀ r, Lv (d r)) (h : Ot a e (fun s e1 => e1 = E' s) d Q w') (hn : ∀ s, w' = .nx s → Ot b (E' s) P d Q w) (hr : ∀ r, w' = .rt r → w = .rt r) (hb : ∀ s, w' = .bk s → ∃ s2, w = .bk s2 ∧ P s2 (E' s)) : Ot (fSeq a b) e P d Q w := by
  cases w' with
  | nx s =>
    obtain ⟨e1, h1, rfl⟩ := h
    exact ot_seq h1 (hn s rfl)
  | rt r => rw [hr r rfl]; exact ot_seq_rt (hd r) h
  | bk s =>
    obtain ⟨s2, rfl, e2⟩ := hb s rfl
    exact ot_seq_bk h fun e1 q => q ▸ e2
theorem ot_w {R S S' : Type} {e : En} {P : S → En → Prop} {E' : S' → En} {d : R → Fl} {Q : R → En → Prop} {w : Fw R S} {w' : Fw R S'} {a : M Fl} (h : Ot a e (fun s e1 => e1 = E' s) d Q w') (hn : ∀ s, w' = .nx s → ∃ s2, w = .nx s2 ∧ P s2 (E' s)) (hr : ∀ r, w' = .rt r → w = .rt r) (hb : ∀ s, w' = .bk s → ∃ s2, w = .bk s2 ∧ P s2 (E' s)) : Ot a e P d Q w := by
  cases w' with
  | nx s =>
    obtain ⟨e1, h1, rfl⟩ := h
    obtain ⟨s2, rfl, e2⟩ := hn s rfl
    exact ⟨_, h1, e2⟩
  | rt r => rw [hr r rfl]; exact h
  | bk s =>
    obtain ⟨e1, h1, rfl⟩ := h
    obtain ⟨s2, rfl, e2⟩ := hb s rfl
    exact ⟨_, h1, e2⟩
theorem nx_of {S : Type} {m : M Fl} {e : En} {E : S → En} {s : S} (h : Ot (R := Unit) m e (fun s e1 => e1 = E s) (fun _ => .rt .non) (fun _ _ => True) (.nx s)) : m e = .ok .nx (E s) := by
  obtain ⟨e1, h1, rfl⟩ := h
  exact h1
theorem nx_wk {S : Type} {m : M Fl} {js : List Nat} {e : En} {E : S → En} {s : S} (h : Ot (R := Unit) m e (fun s e1 => wkE js e1 = E s) (fun _ => .rt .non) (fun _ _ => True) (.nx s)) : fWk js m e = .ok .nx (E s) := by
  obtain ⟨e1, h1, h2⟩ := h
  exact fWk_ok h1 h2
theorem fIf_n {α : Type} {c : M Bool} {fa fb : M α} {b : Bool} {e e1 : En} {r : Res α} (h : c e = .ok b e1) (hb : ¬ b = true) (h2 : fb e1 = r) : fIf c fa fb e = r := fIf_f (eq_false_of_ne_true hb ▸ h) h2
theorem findO_no : ∀ {as : List Ar} {os : En} {i : Nat}, owns as = [] → findO as os i = none
  | [], _, _, _ => by unfold findO; rfl
  | .d _ :: as, [], _, _ => rfl
  | .d _ :: as, _ :: os, i, h => findO_no (as := as) (os := os) (i := i) h
  | .o _ :: _, _, _, h => nomatch h
theorem putO_id {as : List Ar} {os e : En} (h : owns as = []) : putO as os e = e := by
  unfold putO
  exact putG_same fun i s => by rw [findO_no h]
theorem fRetL_ok {fl : M (List D)} {e e1 : En} {ds : List D} (h : fl e = .ok ds e1) : fRetL fl e = .ok (.rn ds) e1 := by unfold fRetL; rw [bd_ok h]; rfl
/-! ### loops -/
section
variable {α R S : Type} {enc : α → D} {E : S → En} {t : D → M Unit} {body : M Fl} {src : M (List D)} {e : En} {d : R → Fl} {Q : R → En → Prop}
theorem forS_ot {B : α → S → Option S} (hb : ∀ x s s', B x s = some s' → ∃ e1, t (enc x) (E s) = .ok () e1 ∧ body e1 = .ok .nx (E s')) : ∀ {xs : List α} {s s' : S}, forS B xs s = some s' → forL t body (xs.map enc) (E s) = .ok .nx (E s')
  | [], s, s', h => by cases h; rfl
  | x :: xs, s, s', h => by
    obtain ⟨s1, h1, h2⟩ := bsome h
    obtain ⟨e1, t1, b1⟩ := hb x s s1 h1
    exact forL_nx t1 b1 (forS_ot hb h2)
theorem fFor_S {B : α → S → Option S} {xs : List α} {s s' : S} (h : forS B xs s = some s') (hs : src e = .ok (xs.map enc) (E s)) (hb : ∀ x s s', B x s = some s' → ∃ e1, t (enc x) (E s) = .ok () e1 ∧ body e1 = .ok .nx (E s')) : fFor src t body e = .ok .nx (E s') := fFor_ok hs (forS_ot hb h)
theorem forF_ot {B : α → S → Option (Fw R S)} (hd : ∀ r, Lv (d r)) (hb : ∀ x s w, B x s = some w → ∃ e1, t (enc x) (E s) = .ok () e1 ∧ Ot body e1 (fun s e1 => e1 = E s) d Q w) : ∀ {xs : List α} {s : S} {w : Fw R S}, forF B xs s = some w → Ot (forL t body (xs.map enc)) (E s) (fun s e1 => e1 = E s) d Q w
  | [], s, w, h => by cases h; exact ⟨_, rfl, rfl⟩
  | x :: xs, s, w, h => by
    obtain ⟨w1, h1, h2⟩ := bsome h
    obtain ⟨e1, t1, b1⟩ := hb x s w1 h1
    cases w1 with
    | nx s1 =>
      obtain ⟨e2, b2, rfl⟩ := b1
      exact ot_of (forL_nx t1 b2 rfl) (forF_ot hd hb h2)
    | bk s1 =>
      cases h2
      obtain ⟨e2, b2, rfl⟩ := b1
      refine ⟨_, ?_, rfl⟩
      show forL t body (enc x :: xs.map enc) (E s) = _
      unfold forL
      rw [bd_ok (noExc_ok t1), bd_ok b2]
      rfl
    | rt r =>
      cases h2
      obtain ⟨e2, b2, q⟩ := b1
      refine ⟨e2, ?_, q⟩
      show forL t body (enc x :: xs.map enc) (E s) = _
      unfold forL
      rw [bd_ok (noExc_ok t1), bd_ok b2]
      rcases hd r with ⟨x, hx⟩ | ⟨x, hx⟩ <;> rw [hx] <;> rfl
theorem fFor_F {B : α → S → Option (Fw R S)} {xs : List α} {s : S} {w : Fw R S} (h : forF B xs s = some w) (hs : src e = .ok (xs.map enc) (E s)) (hd : ∀ r, Lv (d r)) (hb : ∀ x s w, B x s = some w → ∃ e1, t (enc x) (E s) = .ok () e1 ∧ Ot body e1 (fun s e1 => e1 = E s) d Q w) : Ot (fFor src t body) e (fun s e1 => e1 = E s) d Q w :=
  ot_of (fFor_ok hs rfl) (forF_ot hd hb h)
end
/-! ### comprehensions -/
section
variable {α β S : Type} {enc : α → D} {encB : β → D} {src : M (List D)} {vs : List Nat} {t : D → M Unit} {c : M Bool} {el : M D} {e e1 : En}
theorem fLc_T {xs : List α} {p : α → Bool} {g : α → β} {r : List β} (h : lcT xs p g = some r) (hs : src e = .ok (xs.map enc) e1) (hn : noOwn vs e1 = true) (hw : restE vs e1 (wipeE vs e1) = e1)
    (ht : ∀ x, ∃ e2, t (enc x) (refE (wipeE vs e1)) = .ok () e2 ∧ c e2 = .ok (p x) e2 ∧ (p x = true → el e2 = .ok (encB (g x)) e2) ∧ e2.length = (wipeE vs e1).length ∧ fixE vs (wipeE vs e1) e2 = wipeE vs e1) : fLc src vs t c el e = .ok (r.map encB) e1 := by
  unfold lcT at h
  split at h
  · rename_i hl
    cases h
    have key : ∀ xs : List α, lcLoop vs t c el (xs.map enc) (wipeE vs e1) = .ok (((xs.filter p).map g).map encB) (wipeE vs e1) := by
      intro xs
      induction xs with
      | nil => rfl
      | cons x xs ih =>
        obtain ⟨e2, h1, h2, h3, h4, h5⟩ := ht x
        rw [List.map_cons]
        unfold lcLoop
        by_cases hp : p x = true
        · rw [hp] at h2
          rw [bd_ok (lcTurn_t h1 h2 (h3 hp) h4), h5, bd_ok ih, List.filter_cons_of_pos hp]
          rfl
        · rw [eq_false_of_ne_true hp] at h2
          rw [bd_ok (lcTurn_f h1 h2 h4), h5, bd_ok ih, List.filter_cons_of_neg hp]
          rfl
    unfold fLc
    rw [bd_ok hs]
    simp only [List.length_map, hl, hn, and_self, if_true, key]
    rw [hw]
  · cases h
theorem fLc_O {f : α → Option (Option β)} {xs : List α} {r : List β} (h : lcG f xs = some r) (hs : src e = .ok (xs.map enc) e1) (hn : noOwn vs e1 = true) (hw : restE vs e1 (wipeE vs e1) = e1)
    (ht : ∀ x o, f x = some o → ∃ e2, t (enc x) (refE (wipeE vs e1)) = .ok () e2 ∧ (match o with
      | some y => c e2 = .ok true e2 ∧ el e2 = .ok (encB y) e2
      | none => c e2 = .ok false e2) ∧ e2.length = (wipeE vs e1).length ∧ fixE vs (wipeE vs e1) e2 = wipeE vs e1) : fLc src vs t c el e = .ok (r.map encB) e1 := by
  unfold lcG at h
  split at h
  case isFalse => cases h
  rename_i hl
  have key : ∀ (xs : List α) (r : List β), lcO f xs = some r → lcLoop vs t c el (xs.map enc) (wipeE vs e1) = .ok (r.map encB) (wipeE vs e1) := by
    intro xs
    induction xs with
    | nil => intro r h; cases h; rfl
    | cons x xs ih =>
      intro r h
      obtain ⟨o, h1, h2⟩ := bsome h
      obtain ⟨r', h3, h4⟩ := bsome h2
      cases h4
      obtain ⟨e2, k1, k2, k3, k4⟩ := ht x o h1
      rw [List.map_cons]
      unfold lcLoop
      cases o with
      | some y =>
        rw [bd_ok (lcTurn_t k1 k2.1 k2.2 k3), k4, bd_ok (ih r' h3)]
        rfl
      | none =>
        rw [bd_ok (lcTurn_f k1 k2 k3), k4, bd_ok (ih r' h3)]
        rfl
  unfold fLc
  rw [bd_ok hs]
  simp only [List.length_map, hl, hn, and_self, if_true, key xs r h]
  rw [hw]
theorem fLc_S {f : α → S → Option (β × S)} {xs : List α} {s : S} {q : List β × S} {E : S → En} (h : lcH f xs s = some q) (hs : src e = .ok (xs.map enc) (E s)) (hn : noOwn vs (E s) = true) (hw : restE vs (E s) (wipeE vs (E q.2)) = E q.2)
    (ht : ∀ x s r, f x s = some r → ∃ e2 e3, t (enc x) (refE (wipeE vs (E s))) = .ok () e2 ∧ c e2 = .ok true e2 ∧ el e2 = .ok (encB r.1) e3 ∧ e3.length = (wipeE vs (E s)).length ∧ fixE vs (wipeE vs (E s)) e3 = wipeE vs (E r.2)) : fLc src vs t c el e = .ok (q.1.map encB) (E q.2) := by
  unfold lcH at h
  split at h
  case isFalse => cases h
  rename_i hl
  have key : ∀ (xs : List α) (s : S) (q : List β × S), lcS f xs s = some q → lcLoop vs t c el (xs.map enc) (wipeE vs (E s)) = .ok (q.1.map encB) (wipeE vs (E q.2)) := by
    intro xs
    induction xs with
    | nil => intro s q h; cases h; rfl
    | cons x xs ih =>
      intro s q h
      obtain ⟨r, h1, h2⟩ := bsome h
      obtain ⟨q', h3, h4⟩ := bsome h2
      cases h4
      obtain ⟨e2, e3, k1, k2, k3, k4, k5⟩ := ht x s r h1
      rw [List.map_cons]
      unfold lcLoop
      rw [bd_ok (lcTurn_t k1 k2 k3 k4), k5, bd_ok (ih r.2 q' h3)]
      rfl
  unfold fLc
  rw [bd_ok hs]
  simp only [List.length_map, hl, hn, and_self, if_true, key xs s q h]
  rw [hw]
end
/-! ### expressions -/
section
variable {α β : Type} {F : α → D} {G : β → D} {e e1 e2 e3 : En} {a b c : Int} {fa fb fo : M D} {xs ys : List α} {x : α}
theorem x_op {o : D → D → M D} {p q r : D} (ha : fa e = .ok p e1) (hb : fb e1 = .ok q e2) (h : o p q e2 = .ok r e3) : f2 o fa fb e = .ok r e3 := (f2_ok ha hb).trans h
theorem o_mul (h : mulP a b = some c) : dMul (.int a) (.int b) e = .ok (.int c) e := by
  unfold mulP at h
  split at h
  · cases h; exact opI_eq (by assumption)
  · cases h
theorem o_div (h : divP a b = some c) : dDiv (.int a) (.int b) e = .ok (.int c) e := by
  unfold divP at h
  split at h
  · rename_i q; cases h; exact dDiv_eq q.1 q.2
  · cases h
theorem o_mod (h : modP a b = some c) : dMod (.int a) (.int b) e = .ok (.int c) e := by
  unfold modP at h
  split at h
  · cases h; exact dMod_eq (by assumption)
  · cases h
theorem o_at (h : L2.atI xs a = some x) : dAt (.lst (xs.map F)) (.int a) e = .ok (F x) e := by
  show li (L2.atI (xs.map F) a) e = _
  rw [atI_map, h]
  rfl
theorem o_atT (h : L2.atI xs a = some x) : dAt (.tup (xs.map F)) (.int a) e = .ok (F x) e := by
  show li (L2.atI (xs.map F) a) e = _
  rw [atI_map, h]
  rfl
theorem o_atS {ns : List Int} (h : L2.atI ns a = some b) : dAt (.scr ns) (.int a) e = .ok (.int b) e := by
  show li ((L2.atI ns a).map D.int) e = _
  rw [h]
  rfl
theorem o_cat {zs : List α} (h : catP xs ys = some zs) : dCatL (.lst (xs.map F)) (.lst (ys.map F)) e = .ok (.lst (zs.map F)) e := by
  unfold catP at h
  split at h
  · cases h
    rename_i hl
    show li (if (xs.map F).length + (ys.map F).length ≤ 16777216 then some (D.lst (xs.map F ++ ys.map F)) else none) e = _
    rw [List.length_map, List.length_map, if_pos hl, List.map_append]
    rfl
  · cases h
theorem x_getA {i : Nat} {fk : M D} {r : Bool} (hi : e[i]? = some (.own r (xs.map F))) (hk : fk e = .ok (.int a) e) (h : L2.atI xs a = some x) : fGetA i fk e = .ok (F x) e := by
  unfold fGetA
  rw [hi]
  unfold fGet isL
  have h1 : (fun e : En => match e[i]? with
    | some (.own _ _) => Res.ok () e | _ => .bad) e = .ok () e := by simp only [hi]
  rw [bd_ok h1, bd_ok hk]
  unfold getOI
  rw [hi]
  show (match L2.atI (xs.map F) a with
    | some d => Res.ok d e | none => .bad) = _
  rw [atI_map, h]
  rfl
theorem x_d1 {g : D → Option D} {p q : D} (ha : fa e = .ok p e1) (h : g p = some q) : bd (fCons fa fNil) (d1 g) e = .ok q e1 := d1_ok' (fCons_ok ha fNil_eq) h
theorem x_d2 {g : D → D → Option D} {p q r : D} (ha : fa e = .ok p e1) (hb : fb e1 = .ok q e2) (h : g p q = some r) : bd (fCons fa (fCons fb fNil)) (d2 g) e = .ok r e2 := d2_ok' (fCons_ok ha (fCons_ok hb fNil_eq)) h
theorem l_lst : oLen (.lst (xs.map F)) = some (.int (xs.length : Int)) := by show some (D.int ((xs.map F).length : Nat)) = _; rw [List.length_map]
theorem l_tup : oLen (.tup (xs.map F)) = some (.int (xs.length : Int)) := by show some (D.int ((xs.map F).length : Nat)) = _; rw [List.length_map]
theorem l_all {bs : List Bool} : oAll (.lst (bs.map D.bl)) = some (.bl (bs.all id)) := all_bls bs
theorem x_wL (ha : fa e = .ok (.lst (xs.map F)) e1) : bd fa dWalk e = .ok (xs.map F) e1 := walk_lst ha
theorem x_wT (ha : fa e = .ok (.tup (xs.map F)) e1) : bd fa dWalk e = .ok (xs.map F) e1 := walk_tup ha
theorem x_iL (ha : fa e = .ok (.lst (xs.map F)) e1) : bd fa dItems e = .ok (xs.map F) e1 := by rw [bd_ok ha]; rfl
theorem x_iT (ha : fa e = .ok (.tup (xs.map F)) e1) : bd fa dItems e = .ok (xs.map F) e1 := by rw [bd_ok ha]; rfl
theorem rngP_eq (lo hi : Int) : rangeD lo (hi - lo).toNat = (rngP lo hi).map D.int := by
  unfold rangeD rngP
  rw [List.map_map]
  rfl
theorem x_rng1 (ha : fa e = .ok (.int a) e1) : bd (fCons fa fNil) dRngW1 e = .ok ((rngP 0 a).map D.int) e1 := by
  rw [bd_ok (fCons_ok ha fNil_eq), ← rngP_eq, Int.sub_zero]
  rfl
theorem zip_eq : ∀ (xs : List α) (ys : List β), zipD (xs.map F) (ys.map G) = (xs.zip ys).map (eP F G)
  | [], _ => by simp [zipD]
  | _ :: _, [] => by simp [zipD]
  | x :: xs, y :: ys => by
    show D.tup [F x, G y] :: zipD (xs.map F) (ys.map G) = _
    rw [zip_eq xs ys]
    rfl
theorem x_zip {ys : List β} (ha : fa e = .ok (.lst (xs.map F)) e1) (hb : fb e1 = .ok (.lst (ys.map G)) e2) : bd (fCons fa (fCons fb fNil)) dZip e = .ok ((xs.zip ys).map (eP F G)) e2 := by
  rw [bd_ok (fCons_ok ha (fCons_ok hb fNil_eq)), ← zip_eq]
  rfl
theorem x_zipT {ys : List β} (ha : fa e = .ok (.tup (xs.map F)) e1) (hb : fb e1 = .ok (.tup (ys.map G)) e2) : bd (fCons fa (fCons fb fNil)) dZip e = .ok ((xs.zip ys).map (eP F G)) e2 := by
  rw [bd_ok (fCons_ok ha (fCons_ok hb fNil_eq)), ← zip_eq]
  rfl
theorem enum_eq : ∀ (n : Nat) (xs : List α), enumD n (xs.map F) = (enumP n xs).map (eP D.int F)
  | _, [] => rfl
  | n, x :: xs => by
    show D.tup [.int (n : Int), F x] :: enumD (n + 1) (xs.map F) = _
    rw [enum_eq (n + 1) xs]
    rfl
theorem x_enL (ha : fa e = .ok (.lst (xs.map F)) e1) : bd (fCons fa fNil) dEnumA e = .ok ((enumP 0 xs).map (eP D.int F)) e1 := by
  rw [bd_ok (fCons_ok ha fNil_eq), ← enum_eq]
  rfl
theorem x_sort {ns : List Int} (ha : fa e = .ok (.lst (ns.map D.int)) e1) : bd (fCons fa fNil) nSort e = .ok ((isort ns).map D.int) e1 := by
  rw [bd_ok (fCons_ok ha fNil_eq)]
  show li (match toInts (ns.map D.int) with
    | some ns => some ((isort ns).map D.int) | none => none) e1 = _
  rw [toInts_map]
  rfl
theorem cut_eq (xs : List α) (lo hi : Option Int) : cutD (xs.map F) lo hi = (cutP xs lo hi).map F := by
  unfold cutD cutP
  rw [List.length_map, List.map_take, List.map_drop]
theorem x_slL {flo fhi : M (Option Int)} {lo hi : Option Int} (ha : fa e = .ok (.lst (xs.map F)) e1) (hl : flo e1 = .ok lo e2) (hh : fhi e2 = .ok hi e3) : fSl fa flo fhi e = .ok (.lst ((cutP xs lo hi).map F)) e3 := by
  unfold fSl
  rw [bd_ok ha, bd_ok hl, bd_ok hh, ← cut_eq]
  rfl
theorem x_slT {flo fhi : M (Option Int)} {lo hi : Option Int} (ha : fa e = .ok (.tup (xs.map F)) e1) (hl : flo e1 = .ok lo e2) (hh : fhi e2 = .ok hi e3) : fSl fa flo fhi e = .ok (.tup ((cutP xs lo hi).map F)) e3 := by
  unfold fSl
  rw [bd_ok ha, bd_ok hl, bd_ok hh, ← cut_eq]
  rfl
theorem x_part (ha : fa e = .ok (.int a) e1) : fPart (some fa) e = .ok (some a) e1 := by
  show bd fa _ e = _
  rw [bd_ok ha]
  rfl
theorem x_lstP {fl : M (List D)} {zs : List α} (h : lstP xs = some zs) (hl : fl e = .ok (xs.map F) e1) : fLst fl e = .ok (zs.map F) e1 := by
  unfold lstP at h
  split at h
  · cases h; exact fLst_ok hl (by rw [List.length_map]; assumption)
  · cases h
theorem x_star {fs fr : M (List D)} (h1 : fs e = .ok (xs.map F) e1) (h2 : fr e1 = .ok (ys.map F) e2) : fStar fs fr e = .ok ((xs ++ ys).map F) e2 := by rw [fStar_ok h1 h2, List.map_append]
theorem x_cons {fr : M (List D)} (h1 : fa e = .ok (F x) e1) (h2 : fr e1 = .ok (ys.map F) e2) : fCons fa fr e = .ok ((x :: ys).map F) e2 := fCons_ok h1 h2
theorem x_nil : fNil e = .ok (([] : List α).map F) e := rfl
theorem x_and {c1 c2 : M Bool} {p q r : Bool} (h : c1 e = .ok p e) (h2 : p = true → c2 e = .ok r e) (h3 : p = false → r = false) : fAnd c1 c2 e = .ok r e := by
  unfold fAnd
  rw [bd_ok h]
  cases p with
  | true => exact h2 rfl
  | false => rw [h3 rfl]; rfl
theorem x_or {c1 c2 : M Bool} {p q r : Bool} (h : c1 e = .ok p e) (h2 : p = false → c2 e = .ok r e) (h3 : p = true → r = true) : fOr c1 c2 e = .ok r e := by
  unfold fOr
  rw [bd_ok h]
  cases p with
  | false => exact h2 rfl
  | true => rw [h3 rfl]; rfl
theorem x_andV {c1 c2 : M D} {p r : Bool} (h : c1 e = .ok (.bl p) e) (h2 : p = true → c2 e = .ok (.bl r) e) (h3 : p = false → r = false) : fAndV c1 c2 e = .ok (.bl r) e := by
  unfold fAndV
  rw [bd_ok (fB_ok h)]
  cases p with
  | true => exact h2 rfl
  | false => rw [h3 rfl]; rfl
theorem x_if {γ : Type} {cc : M Bool} {f1 f2 : M γ} {p : Bool} {r : Res γ} (h : cc e = .ok p e1) (h1 : p = true → f1 e1 = r) (h2 : p = false → f2 e1 = r) : fIf cc f1 f2 e = r := by
  cases p with
  | true => exact fIf_t h (h1 rfl)
  | false => exact fIf_f h (h2 rfl)
theorem x_call {FF : En → Res D} {fr : M (List Ar)} {as : List Ar} {d : D} {os : En} (hr : fr e = .ok as e1) (nd : noDup (owns as) = true) (h : FF (as.map (toSl e1)) = .ok d os) (hp : putO as os e1 = e2) : bd fr (callR FF) e = .ok d e2 := by
  rw [bd_ok hr]
  unfold callR
  rw [if_pos nd, h]
  show Res.ok d (putO as os e1) = _
  rw [hp]
theorem x_callN {FF : En → Res (List D)} {fr : M (List Ar)} {as : List Ar} {d : List D} {os : En} (hr : fr e = .ok as e1) (nd : noDup (owns as) = true) (h : FF (as.map (toSl e1)) = .ok d os) (hp : putO as os e1 = e2) : bd fr (callN FF) e = .ok d e2 := by
  rw [bd_ok hr]
  unfold callN
  rw [if_pos nd, h]
  show Res.ok d (putO as os e1) = _
  rw [hp]
theorem rO_ok {i : Nat} {fr : M (List Ar)} {as : List Ar} {r : Bool} {ds : List D} (h : e[i]? = some (.own r ds)) (h2 : fr e = .ok as e1) (h3 : ∃ r' ds', e1[i]? = some (.own r' ds')) : rO i fr e = .ok (.o i :: as) e1 := by
  obtain ⟨r', ds', h3⟩ := h3
  unfold rO
  have k1 : isO i e = .ok () e := by unfold isO; rw [h]
  have k2 : isO i e1 = .ok () e1 := by unfold isO; rw [h3]
  rw [bd_ok k1, bd_ok h2, bd_ok k2]
  rfl
theorem x_app {i : Nat} {r r0 : Bool} {ds0 : List D} (h : e[i]? = some (.own r0 ds0)) (hf : fa e = .ok (F x) e1) (h1 : e1[i]? = some (.own r (xs.map F))) (hl : appP xs x = some ys) : fApp i fa e = .ok .nx (e1.set i (.own r (ys.map F))) := by
  unfold appP at hl
  split at hl
  · cases hl
    unfold fApp isL
    have k : (fun e : En => match e[i]? with
      | some (.own _ _) => Res.ok () e | _ => .bad) e = .ok () e := by simp only [h]
    rw [bd_ok k, bd_ok hf]
    have k2 : appO i (F x) e1 = .ok () (e1.set i (.own r ((xs ++ [x]).map F))) := by
      unfold appO
      rw [h1]
      show (if (xs.map F).length < 16777216 then Res.ok () (e1.set i (.own r (xs.map F ++ [F x]))) else .bad) = _
      rw [List.length_map, if_pos (by assumption), List.map_append]
      rfl
    rw [bd_ok (noExc_ok k2)]
    rfl
  · cases hl
theorem x_ext {i : Nat} {r r0 : Bool} {ds0 : List D} {zs : List α} (h : e[i]? = some (.own r0 ds0)) (hf : fa e = .ok (.lst (ys.map F)) e1) (h1 : e1[i]? = some (.own r (xs.map F))) (hl : catP xs ys = some zs) : fExt i fa e = .ok .nx (e1.set i (.own r (zs.map F))) := by
  unfold catP at hl
  split at hl
  · cases hl
    unfold fExt isL
    have k : (fun e : En => match e[i]? with
      | some (.own _ _) => Res.ok () e | _ => .bad) e = .ok () e := by simp only [h]
    rw [bd_ok k, bd_ok hf]
    have k2 : extO i (.lst (ys.map F)) e1 = .ok () (e1.set i (.own r ((xs ++ ys).map F))) := by
      unfold extO
      rw [h1]
      show (if (xs.map F).length + (ys.map F).length ≤ 16777216 then Res.ok () (e1.set i (.own r (xs.map F ++ ys.map F))) else .bad) = _
      rw [List.length_map, List.length_map, if_pos (by assumption), List.map_append]
    rw [bd_ok (noExc_ok k2)]
    rfl
  · cases hl
theorem x_put {i : Nat} {fk : M D} {r : Bool} (hf : fa e = .ok (F x) e1) (h1 : ∃ r ds, e1[i]? = some (.own r ds)) (hk : fk e1 = .ok (.int a) e2) (h2 : e2[i]? = some (.own r (xs.map F))) (hl : putP xs a x = some ys) : fPut i fa fk e = .ok .nx (e2.set i (.own r (ys.map F))) := by
  obtain ⟨r1, ds1, h1⟩ := h1
  unfold fPut isL
  have k : (fun e : En => match e[i]? with
    | some (.own _ _) => Res.ok () e | _ => .bad) e1 = .ok () e1 := by simp only [h1]
  rw [bd_ok hf, bd_ok k, bd_ok hk]
  unfold putP at hl
  have k2 : putOI i (.int a) (F x) e2 = .ok () (e2.set i (.own r (ys.map F))) := by
    unfold putOI
    rw [h2]
    show (match ixN (xs.map F).length a with
      | some j => Res.ok () (e2.set i (.own r ((xs.map F).set j (F x)))) | none => .bad) = _
    rw [List.length_map]
    cases q : ixN xs.length a with
    | none => rw [q] at hl; cases hl
    | some j => rw [q] at hl; cases hl; rw [List.map_set]
  rw [bd_ok (noExc_ok k2)]
  rfl
theorem x_aug {i : Nat} {o : D → D → M D} {p q r : D} (h1 : fVar i e = .ok p e) (h2 : fa e = .ok q e1) (h3 : o p q e1 = .ok r e1) (h4 : setV i r e1 = .ok () e2) : fAug i o fa e = .ok .nx e2 := by
  unfold fAug
  rw [bd_ok h1, bd_ok h2, bd_ok h3, bd_ok h4]
  rfl
theorem x_setN {i : Nat} {fl : M (List D)} (h : fl e = .ok (xs.map F) e1) (h2 : setO i (xs.map F) e1 = .ok () e2) : fSetN i fl e = .ok .nx e2 := by
  unfold fSetN
  rw [bd_ok h, bd_ok h2]
  rfl
theorem x_prop {cN : Str} {FF : En → Res D} {ns : List Str} {ds : List D} {d : D} {os : En} (h : fa e = .ok (.obj cN ns ds) e1) (h2 : FF [.val (.obj cN ns ds)] = .ok d os) : fProp cN FF fa e = .ok d e1 := fProp_ok h h2
theorem x_own {cN : Str} {FF : En → Res D} {n1 n2 : List Str} {s1 s2 : List D} {d : D} {os : En} (ha : fa e = .ok (.obj cN n1 s1) e1) (hb : fb e1 = .ok (.obj cN n2 s2) e2) (h : FF [.val (.obj cN n1 s1), .val (.obj cN n2 s2)] = .ok d os) : f2 (d2m FF cN) fa fb e = .ok d e2 := (f2_ok ha hb).trans (d2m_ok h)
theorem x_make {cN : Str} {FF : En → Res D} {fl : M (List D)} {vs : List D} {d : D} (hl : fl e = .ok vs e1) (h : ∃ ns fs r os, d = .obj cN ns fs ∧ FF (.oin true cN [] [] :: vs.map .val) = .ok .non (.oin r cN ns fs :: os)) : fMake cN FF fl e = .ok d e1 := by
  obtain ⟨ns, fs, r, os, rfl, h⟩ := h
  exact fMake_ok hl h
theorem starD_vals' : ∀ ds : List D, starD (ds.map Sl.val) = some ds
  | [] => rfl
  | d :: ds => by
    show (match starD (ds.map Sl.val) with
      | some l => some (d :: l) | none => none) = some (d :: ds)
    rw [starD_vals' ds]
theorem runS_ini {m : Nat} {g : M Fl} {cN : Str} {ns : List Str} {fs ds : List D} (hl : ds.length ≤ 16777216) (h : runF 2 m g [.oin true cN [] [], .val (.tup ds)] = .ok .non [.oin true cN ns fs, Sl.no]) : runS 1 m g (.oin true cN [] [] :: ds.map .val) = .ok .non (.oin true cN ns fs :: List.replicate ds.length Sl.no) := by
  unfold runS
  rw [show (Sl.oin true cN [] [] :: ds.map Sl.val).drop 1 = ds.map Sl.val from rfl, starD_vals']
  show (if 1 ≤ (Sl.oin true cN [] [] :: ds.map Sl.val).length ∧ ds.length ≤ 16777216 then _ else _) = _
  rw [if_pos ⟨by simp, hl⟩]
  show (match runF (1 + 1) m g [.oin true cN [] [], .val (.tup ds)] with
    | .ok d os => Res.ok d (os.take 1 ++ List.replicate ((Sl.oin true cN [] [] :: ds.map Sl.val).length - 1) Sl.no)
    | .exc x os => .exc x (os.take 1 ++ List.replicate ((Sl.oin true cN [] [] :: ds.map Sl.val).length - 1) Sl.no)
    | .bad => .bad) = _
  rw [show (1 + 1 : Nat) = 2 from rfl, h]
  show Res.ok D.non (Sl.oin true cN ns fs :: List.replicate ((Sl.oin true cN [] [] :: ds.map Sl.val).length - 1) Sl.no) = _
  rw [List.length_cons, List.length_map, Nat.add_sub_cancel]
theorem x_par {i j : Nat} {fr : M (List D)} {p q : D} (h : fr e = .ok [p, q] e1) (h2 : bd (setV i p) (fun _ => setV j q) e1 = .ok () e2) : fPar i j fr e = .ok .nx e2 := by
  unfold fPar
  rw [bd_ok h, bd_ok (noExc_ok h2)]
  rfl
theorem x_parM {is : List Nat} {fr : M (List Itm)} {ts : List Itm} (h : fr e = .ok ts e1) (h2 : stI is ts e1 = .ok () e2) : fParM is fr e = .ok .nx e2 := by
  unfold fParM
  rw [bd_ok (noExc_ok h), bd_ok (noExc_ok h2)]
  rfl
theorem x_nD {fr : M (List Itm)} {ts : List Itm} {d : D} (h : fa e = .ok d e1) (h2 : fr e1 = .ok ts e2) : nD fa fr e = .ok (.d d :: ts) e2 := by
  unfold nD
  rw [bd_ok (noExc_ok h), bd_ok h2]
  rfl
theorem x_nN {fl : M (List D)} {fr : M (List Itm)} {ts : List Itm} {ds : List D} (h : fl e = .ok ds e1) (h2 : fr (refE e1) = .ok ts e2) (hl : e2.length = e1.length) (hf : fixE [] e1 e2 = e3) : nN fl fr e = .ok (.n ds :: ts) e3 := by
  unfold nN
  rw [bd_ok (noExc_ok h)]
  show (match fr (refE e1) with
    | .ok ts e' => if e'.length = e1.length then Res.ok (Itm.n ds :: ts) (fixE [] e1 e') else .bad
    | _ => .bad) = _
  rw [h2]
  show (if e2.length = e1.length then Res.ok (Itm.n ds :: ts) (fixE [] e1 e2) else .bad) = _
  rw [if_pos hl, hf]
end
section
variable {α : Type} {F : α → D} {e e1 e2 e3 : En} {a : Int} {fa : M D} {xs ys : List α} {x : α}
theorem x_star0 {fs fr : M (List D)} (h1 : fs e = .ok (xs.map F) e1) (h2 : fr e1 = .ok [] e2) : fStar fs fr e = .ok (xs.map F) e2 := by rw [fStar_ok h1 h2, List.append_nil]
end
section
variable {α : Type} {F : α → D} {e e1 : En} {fa : M D} {xs : List α}
theorem x_rev (ha : fa e = .ok (.lst (xs.map F)) e1) : bd fa dRev e = .ok (.lst (xs.reverse.map F)) e1 := by
  rw [bd_ok ha, List.map_reverse]
  rfl
end
/-! ### a list or a tuple -/
section
variable {α β : Type} {F : α → D} {G : β → D} {e e1 e2 e3 : En} {fa fb : M D} {p : Bool × List α} {q : Bool × List β}
theorem x_wG (ha : fa e = .ok (sqG F p) e1) : bd fa dWalk e = .ok (p.2.map F) e1 := by
  rw [bd_ok ha]
  obtain ⟨b, l⟩ := p
  cases b <;> rfl
theorem x_slG {flo fhi : M (Option Int)} {lo hi : Option Int} (ha : fa e = .ok (sqG F p) e1) (hl : flo e1 = .ok lo e2) (hh : fhi e2 = .ok hi e3) : fSl fa flo fhi e = .ok (sqG F (p.1, cutP p.2 lo hi)) e3 := by
  obtain ⟨b, l⟩ := p
  cases b
  · exact x_slL (xs := l) ha hl hh
  · exact x_slT (xs := l) ha hl hh
theorem x_zipG (ha : fa e = .ok (sqG F p) e1) (hb : fb e1 = .ok (sqG G q) e2) (h : p.1 = q.1) : bd (fCons fa (fCons fb fNil)) dZip e = .ok ((p.2.zip q.2).map (eP F G)) e2 := by
  obtain ⟨b, l⟩ := p
  obtain ⟨c, m⟩ := q
  obtain rfl : b = c := h
  cases b
  · exact x_zip (xs := l) (ys := m) ha hb
  · exact x_zipT (xs := l) (ys := m) ha hb
theorem l_tuplG : oTuple (sqG F p) = some (.tup (p.2.map F)) := by
  obtain ⟨b, l⟩ := p
  cases b <;> rfl
theorem is2_seq : oIs2 "list" "tuple" (sqG F p) = some (.bl true) := by
  obtain ⟨b, l⟩ := p
  cases b <;> rfl
end
theorem x_fldS {i : Nat} {c f : Str} {fa : M D} {d : D} {e e1 e2 : En} (h : fa e = .ok d e1) (h2 : putI i c f d e1 = .ok () e2) : fFldS i c f fa e = .ok .nx e2 := by
  unfold fFldS
  rw [bd_ok h, bd_ok (noExc_ok h2)]
  rfl
/-! ### == of what is typed -/
structure PE {α : Type} (F : α → D) (k : Nat) where
  P : α → PyData
  toP : ∀ a, toP (F a) = some (P a)
  lay : ∀ a, PyData.canLay0 (P a) = true
  dep : ∀ a, PyData.depth (P a) ≤ k
  eqv : ∀ a b, PyData.eqv (P a) (P b) = true ↔ a = b
theorem toPs_map {α : Type} {F : α → D} {P : α → PyData} (h : ∀ a, toP (F a) = some (P a)) : ∀ l : List α, toPs (l.map F) = some (l.map P)
  | [] => rfl
  | x :: l => by
    show (match toP (F x), toPs (l.map F) with
      | some p, some q => some (p :: q) | _, _ => none) = _
    rw [toPs_map h l, h x]
    rfl
theorem lay_map {α : Type} {P : α → PyData} (h : ∀ a, PyData.canLay0 (P a) = true) : ∀ l : List α, PyData.canLayAll0 (l.map P) = true
  | [] => rfl
  | x :: l => by
    show (PyData.canLay0 (P x) && PyData.canLayAll0 (l.map P)) = true
    rw [lay_map h l, h x]
    rfl
theorem dep_map {α : Type} {P : α → PyData} {k : Nat} (h : ∀ a, PyData.depth (P a) ≤ k) : ∀ l : List α, PyData.depthAll (l.map P) ≤ k
  | [] => Nat.zero_le _
  | x :: l => by
    show max (PyData.depth (P x)) (PyData.depthAll (l.map P)) ≤ k
    exact Nat.max_le.mpr ⟨h x, dep_map h l⟩
theorem eqv_map {α : Type} {P : α → PyData} (h : ∀ a b, PyData.eqv (P a) (P b) = true ↔ a = b) : ∀ l m : List α, PyData.eqvAll (l.map P) (m.map P) = true ↔ l = m
  | [], [] => by simp [PyData.eqvAll]
  | [], _ :: _ => by simp [PyData.eqvAll]
  | _ :: _, [] => by simp [PyData.eqvAll]
  | x :: l, y :: m => by
    show (PyData.eqv (P x) (P y) && PyData.eqvAll (l.map P) (m.map P)) = true ↔ _
    rw [Bool.and_eq_true, h x y, eqv_map h l m]
    simp
def PE.int : PE D.int 0 := ⟨.int, fun _ => rfl, fun _ => rfl, fun _ => Nat.le_refl _, fun a b => by show (a == b) = true ↔ _; simp⟩
def PE.bl : PE D.bl 0 := ⟨.bool, fun _ => rfl, fun _ => rfl, fun _ => Nat.le_refl _, fun a b => by show (a == b) = true ↔ _; simp⟩
def PE.list {α : Type} {F : α → D} {k : Nat} (h : PE F k) : PE (fun l : List α => D.lst (l.map F)) (k + 1) := ⟨fun l => .list (l.map h.P), fun l => by unfold Dl.toP; rw [toPs_map h.toP], fun l => lay_map h.lay l, fun l => Nat.succ_le_succ (dep_map h.dep l), fun l m => eqv_map h.eqv l m⟩
def PE.tupl {α : Type} {F : α → D} {k : Nat} (h : PE F k) : PE (fun l : List α => D.tup (l.map F)) (k + 1) := ⟨fun l => .tuple (l.map h.P), fun l => by unfold Dl.toP; rw [toPs_map h.toP], fun l => lay_map h.lay l, fun l => Nat.succ_le_succ (dep_map h.dep l), fun l m => eqv_map h.eqv l m⟩
def PE.step : PE stD 1 := ⟨fun x => .tuple [.str (wd x.1), .int x.2], fun x => rfl, fun x => by
    have : ∀ b : Bool, PyData.canLay0 (.str (wd b)) = true := fun b => by cases b <;> decide +kernel
    show (PyData.canLay0 (.str (wd x.1)) && true) = true
    rw [this]; rfl, fun x => Nat.le_refl _,
  fun x y => by
    show ((wd x.1 == wd y.1) && ((x.2 == y.2) && true)) = true ↔ _
    rw [Bool.and_true, Bool.and_eq_true, beq_iff_eq, beq_iff_eq, Prod.ext_iff]
    have : wd x.1 = wd y.1 ↔ x.1 = y.1 := by cases x.1 <;> cases y.1 <;> decide
    rw [this]⟩
section
variable {α : Type} [DecidableEq α] {F : α → D} {k : Nat} {e : En} {a b : α}
theorem o_eq (h : PE F k) (hk : k ≤ 64 := by decide) : dEq (F a) (F b) e = .ok (.bl (decide (a = b))) e := by
  have sh : ∀ a, SeqAt.shaped (h.P a) = true := fun a => by
    show (PyData.canLay0 (h.P a) && decide (PyData.depth (h.P a) ≤ 64)) = true
    rw [h.lay, decide_eq_true (Nat.le_trans (h.dep a) hk)]
    rfl
  rw [dEq_ok (h.toP a) (h.toP b) (sh a) (sh b)]
  have : PyData.eqv (h.P a) (h.P b) = decide (a = b) := by rw [Bool.eq_iff_iff, h.eqv]; simp
  rw [this]
theorem o_ne (h : PE F k) (hk : k ≤ 64 := by decide) : dNe (F a) (F b) e = .ok (.bl (!decide (a = b))) e := by
  have sh : ∀ a, SeqAt.shaped (h.P a) = true := fun a => by
    show (PyData.canLay0 (h.P a) && decide (PyData.depth (h.P a) ≤ 64)) = true
    rw [h.lay, decide_eq_true (Nat.le_trans (h.dep a) hk)]
    rfl
  rw [dNe_ok (h.toP a) (h.toP b) (sh a) (sh b)]
  have : PyData.eqv (h.P a) (h.P b) = decide (a = b) := by rw [Bool.eq_iff_iff, h.eqv]; simp
  rw [this]
end
theorem dEq_wd' {b c : Bool} {e : En} : dEq (.str (wd b)) (.str (wd c)) e = .ok (.bl (decide (b = c))) e := by
  cases b <;> cases c <;> (rw [dEq_ok (p := .str _) (q := .str _) rfl rfl (by decide +kernel) (by decide +kernel)]; congr 2)
section
variable {α : Type} {F : En → Res D} {c : Str} {enc : α → D} {f : α → α → Option Bool} {e : En} {xs ys : List α} {r : Bool}
theorem eqsO_eq (hf : ∀ x y b, f x y = some b → ∃ os, F [.val (enc x), .val (enc y)] = .ok (.bl b) os) (hc : ∀ x, ∃ ns ds, enc x = .obj c ns ds) : ∀ {xs ys : List α} {r : Bool}, eqOP f enc xs ys = some r → eqsO F c (xs.map enc) (ys.map enc) = some r
  | [], [], r, h => h
  | [], _ :: _, r, h => h
  | _ :: _, [], r, h => h
  | x :: xs, y :: ys, r, h => by
    obtain ⟨b, h1, h2⟩ := bsome h
    obtain ⟨os, e1⟩ := hf x y b h1
    obtain ⟨n1, d1, c1⟩ := hc x
    obtain ⟨n2, d2, c2⟩ := hc y
    rw [List.map_cons, List.map_cons]
    unfold eqsO d2r
    rw [c1, c2]
    simp only [and_self, if_true]
    rw [← c1, ← c2, e1]
    cases b with
    | true => exact eqsO_eq hf hc h2
    | false =>
      simp only [Bool.false_eq_true, if_false] at h2
      by_cases hd : dist (enc x) (enc y) = true
      · rw [if_pos hd] at h2
        cases h2
        simp only [hd, if_true]
      · rw [if_neg hd] at h2; cases h2
end
theorem o_wdI {b : Bool} {e : En} : dEq (.str (wd b)) (.str ("insert" : Str)) e = .ok (.bl b) e := by
  have h := dEq_wd' (b := b) (c := true) (e := e)
  rw [show decide (b = true) = b by cases b <;> rfl] at h
  exact h
theorem o_wdR {b : Bool} {e : En} : dEq (.str (wd b)) (.str ("remove" : Str)) e = .ok (.bl (!b)) e := by
  have h := dEq_wd' (b := b) (c := false) (e := e)
  rw [show decide (b = false) = !b by cases b <;> rfl] at h
  exact h
end Dl
set_option maxHeartbeats 400000
/-! The library, and the defs that many laws share, typed (printed by tgen.py). -/
namespace Dl.lib
open PySem
noncomputable def p__law_pool (script_ : (List Int)) (k_ : Int) : Option (List Int) := ((if (decide (k_ < (script_.length : Int))) = true then (L2.atI script_ k_).bind fun x2 => some (if x2 < 0 then -x2 else x2) else some 0)).bind fun s4 => (mulP (7919 * k_) k_).bind fun x6 => (mulP s4 (if (decide ((10 ^ (18 : Int).toNat) ≤ s4)) = true then 1 else 0)).bind fun x8 => (mulP ((((((s4 % 2147483629) + x6) + (31 * k_)) + 17) * 48271) % 2147483647) ((((((s4 % 2147483629) + x6) + (31 * k_)) + 17) * 48271) % 2147483647)).bind fun x10 => some [x8, x10 % 2147483629]
noncomputable def p__law_take (pool_here_ : (List Int)) (many_ : Int) : Option (Int × (List Int)) := (L2.atI pool_here_ 0).bind fun x1 => (if (decide (0 < x1)) = true then (L2.atI pool_here_ 0).bind fun x4 => (modP x4 many_).bind fun x6 => (L2.atI pool_here_ 0).bind fun x8 => (divP x8 many_).bind fun x10 => (putP pool_here_ 0 x10).bind fun x12 => some (x6, x12) else (L2.atI pool_here_ 1).bind fun x14 => (putP pool_here_ 1 (((x14 * 48271) + 12345) % 2147483647)).bind fun x16 => (L2.atI x16 1).bind fun x18 => (L2.atI x16 1).bind fun x20 => (mulP x18 x20).bind fun x22 => (modP ((x22 % 2147483629) / 64) many_).bind fun x24 => some (x24, x16))
noncomputable def p__law_steps (pool_here_ : (List Int)) (most_ : Int) : Option ((List Stp) × (List Int)) := (p__law_take pool_here_ 4).bind fun x2 => (p__law_take x2.2 (most_ + 1)).bind fun x5 => (forS (fun y7 (s8 : (List Int) × (List Stp)) => (L2.atI [2, 3, 2, 4] x2.1).bind fun x11 => (p__law_take s8.1 x11).bind fun x14 => (if (decide (x14.1 = 0)) = true then (L2.atI [3, 5, 2, 9] x2.1).bind fun x17 => (p__law_take x14.2 x17).bind fun x20 => (appP s8.2 (false, 1 + x20.1)).bind fun x22 => some (x20.2, x22) else (L2.atI [2, 1, 2, 1] x2.1).bind fun x24 => (L2.atI [3, 9, 1, 5] x2.1).bind fun x26 => (p__law_take x14.2 x26).bind fun x29 => (mulP x24 x29.1).bind fun x31 => (appP s8.2 (true, x31 - 2)).bind fun x33 => some (x29.2, x33))) (rngP 0 x5.1) (x5.2, [])).bind fun s9 => some (s9.2, s9.1)
noncomputable def p_is_integer (value_ : Int) : Option Bool := some (true && (!false))
noncomputable def p_is_rank (value_ : Int) : Option Bool := (p_is_integer value_).bind fun x2 => some (x2 && (decide (0 < value_)))
noncomputable def p_Sequence_is_step (value_ : Stp) : Option Bool := (if ((!true) || ((!decide (2 = 2)) || (!true))) = true then some false else (if value_.1 = true then (p_is_integer value_.2).bind fun x4 => some x4 else (if (!value_.1) = true then (p_is_rank value_.2).bind fun x7 => some x7 else some false).bind fun x10 => some x10))
noncomputable def p_check_steps (steps_ : (List Stp)) : Option Unit := (forS (fun y1 (s2 : Unit) => (p_Sequence_is_step y1).bind fun x6 => (if (!x6) = true then none else some ())) steps_ ()).bind fun s3 => some ()
noncomputable def p_Sequence___init__ (steps_ : (List Stp)) : Option (List Stp) := (lstP steps_).bind fun steps_ => (p_check_steps steps_).bind fun x2 => some steps_
noncomputable def p_Sequence___add__ (self_ : (List Stp)) (other_ : (List Stp)) : Option (List Stp) := (p_Sequence___init__ (self_ ++ other_)).bind fun x2 => some x2
noncomputable def p__law_made (steps_here_ : (List Stp)) : Option (List Stp) := (p_Sequence___init__ ([] : List Stp)).bind fun x2 => (forS (fun y4 (s5 : (List Stp)) => (p_Sequence___init__ (y4 :: ([] : List Stp))).bind fun x9 => (p_Sequence___add__ s5 x9).bind fun x12 => some x12) steps_here_ x2).bind fun s6 => some s6
noncomputable def p_Sequence_steps (self_ : (List Stp)) : Option (List Stp) := some self_
noncomputable def p_least_reaching (start_ : Int) (lost_ : (Bool × List Int)) (count_ : Int) : Option Int := (forS (fun y2 (s3 : Int) => (if (decide (y2 ≤ s3)) = true then some (s3 + 1) else some s3)) lost_.2 (if (decide (start_ < count_)) = true then count_ - start_ else 0)).bind fun s4 => some s4
noncomputable def p_is_count (value_ : Int) : Option Bool := (p_is_integer value_).bind fun x2 => some (x2 && (decide (0 ≤ value_)))
noncomputable def p_are_lost_ranks (value_ : (Bool × List Int)) : Option Bool := (if (!true) = true then some true else (lcG (fun y1 => (p_is_rank y1).bind fun x3 => some (some x3)) value_.2).bind fun x6 => some (!(x6.all id))).bind fun x9 => (if x9 = true then some false else (lcT (List.zip value_.2 (value_.1, cutP value_.2 (some 1) none).2) (fun y12 => true) (fun y12 => decide (y12.1 < y12.2))).bind fun x13 => some (x13.all id))
noncomputable def p_Table___init__ (start_ : Int) (lost_ : (Bool × List Int)) : Option (Int × List Int) := (p_is_count start_).bind fun x2 => (if (!x2) = true then some true else (p_are_lost_ranks lost_).bind fun x5 => some (!x5)).bind fun x8 => (if x8 = true then none else some (start_, lost_.2))
noncomputable def p_table_at (steps_ : (List Stp)) (threshold_ : Int) : Option (Int × List Int) := (forS (fun y1 (s2 : Int × (List Int)) => (if ((!y1.1) && (decide (s2.1 < y1.2))) = true then (p_least_reaching s2.1 (false, s2.2) y1.2).bind fun x7 => (lstP (s2.2 ++ (x7 :: ([] : List Int)))).bind fun x9 => some (s2.1, isort x9) else (if (!y1.1) = true then some (s2.1 - 1, s2.2) else (if (decide (y1.2 ≤ threshold_)) = true then some (s2.1 + 1, s2.2) else some (s2.1, s2.2))))) steps_ (0, [])).bind fun s3 => (p_Table___init__ s3.1 (false, s3.2)).bind fun x15 => some x15
end Dl.lib
set_option maxHeartbeats 400000
/-! Layer P: further rules. -/
namespace Dl
open PySem PySem.Spec PyProof.Rows L2 RZ
section
variable {fa fb : M D} {e e1 e2 : En}
theorem d1m_eq {FF : En → Res D} {c : Str} {n1 : List Str} {s1 : List D} {d : D} {os : En} (h : FF [.val (.obj c n1 s1)] = .ok d os) : d1m FF c (.obj c n1 s1) e = .ok d e := by
  show (if c = c then noExc (callR FF [.d (.obj c n1 s1)]) else fun _ => .bad) e = _
  rw [if_pos rfl]
  exact noExc_ok (callR_d (ds := [.obj c n1 s1]) h)
theorem o_isBF {a b : Bool} : dIsB true (.bl a) (.bl b) e = .ok (.bl (!decide (a = b))) e := rfl
theorem x_some {α : Type} {F : α → D} {o : Option α} {x : α} (h : o = some x) (ha : fa e = .ok (eO F o) e1) : fa e = .ok (F x) e1 := by
  subst h
  exact ha
theorem o_isN {α : Type} {F : α → D} {o : Option α} (hF : ∀ a, ∃ b : Bool, (match F a with | .non => true | _ => false) = false := by exact fun _ => ⟨true, rfl⟩) : dIsN false (eO F o) .non e = .ok (.bl o.isNone) e := by
  cases o with
  | none => rfl
  | some a =>
    obtain ⟨_, h⟩ := hF a
    show li (some (D.bl (match F a with | .non => !false | _ => false))) e = _
    cases q : F a <;> rw [q] at h <;> first | rfl | cases h
theorem o_isS {α : Type} {F : α → D} {o : Option α} (hF : ∀ a, ∃ b : Bool, (match F a with | .non => true | _ => false) = false := by exact fun _ => ⟨true, rfl⟩) : dIsN true (eO F o) .non e = .ok (.bl o.isSome) e := by
  cases o with
  | none => rfl
  | some a =>
    obtain ⟨_, h⟩ := hF a
    show li (some (D.bl (match F a with | .non => !true | _ => true))) e = _
    cases q : F a <;> rw [q] at h <;> first | rfl | cases h
end
/-! ### while, with what leaves it -/
def whF {R S : Type} (c : S → Option Bool) (f : S → Option (Fw R S)) : Nat → S → Option (Fw R S)
  | 0, _ => none
  | n + 1, s => (c s).bind fun b => if b = true then (f s).bind fun w => (match w with
    | .nx s => whF c f n s | .rt r => some (.rt r) | .bk s => some (.nx s)) else some (.nx s)
section
variable {R S : Type} {E : S → En} {body : M Fl} {d : R → Fl} {Q : R → En → Prop} {c : M Bool} {C : S → Option Bool} {B : S → Option (Fw R S)}
theorem whF_ot (hd : ∀ r, Lv (d r)) (hc : ∀ s b, C s = some b → c (E s) = .ok b (E s)) (hb : ∀ s w, B s = some w → Ot body (E s) (fun s e1 => e1 = E s) d Q w) : ∀ {n : Nat} {s : S} {w : Fw R S}, whF C B n s = some w → Ot (whileN c body n) (E s) (fun s e1 => e1 = E s) d Q w
  | 0, _, _, h => nomatch h
  | n + 1, s, w, h => by
    obtain ⟨b, h1, h2⟩ := bsome h
    have hc1 := hc s b h1
    cases b with
    | false =>
      simp only [Bool.false_eq_true, if_false] at h2
      cases h2
      refine ⟨_, ?_, rfl⟩
      unfold whileN
      rw [bd_ok hc1]
      rfl
    | true =>
      simp only [if_true] at h2
      obtain ⟨w1, h3, h4⟩ := bsome h2
      have b1 := hb s w1 h3
      cases w1 with
      | nx s1 =>
        obtain ⟨e2, b2, rfl⟩ := b1
        refine ot_of (m' := whileN c body n) (e1 := E s1) ?_ (whF_ot hd hc hb h4)
        conv => lhs; unfold whileN
        rw [bd_ok hc1]
        simp only [if_true]
        rw [bd_ok b2]
      | bk s1 =>
        cases h4
        obtain ⟨e2, b2, rfl⟩ := b1
        refine ⟨_, ?_, rfl⟩
        unfold whileN
        rw [bd_ok hc1]
        simp only [if_true]
        rw [bd_ok b2]
        rfl
      | rt r =>
        cases h4
        obtain ⟨e2, b2, q⟩ := b1
        refine ⟨e2, ?_, q⟩
        unfold whileN
        rw [bd_ok hc1]
        simp only [if_true]
        rw [bd_ok b2]
        rcases hd r with ⟨x, hx⟩ | ⟨x, hx⟩ <;> rw [hx] <;> rfl
theorem fWhile_F {n : Nat} {s : S} {w : Fw R S} (h : whF C B n s = some w) (hd : ∀ r, Lv (d r)) (hc : ∀ s b, C s = some b → c (E s) = .ok b (E s)) (hb : ∀ s w, B s = some w → Ot body (E s) (fun s e1 => e1 = E s) d Q w) : Ot (fWhile c body) (E s) (fun s e1 => e1 = E s) d Q w := by
  have := whF_ot (d := d) (Q := Q) hd hc hb h
  cases w with
  | nx s1 => obtain ⟨e2, b2, q⟩ := this; exact ⟨e2, fWhile_eq b2 (fun z => nomatch z), q⟩
  | rt r => obtain ⟨e2, b2, q⟩ := this; exact ⟨e2, fWhile_eq b2 (fun z => nomatch z), q⟩
  | bk s1 => obtain ⟨e2, b2, q⟩ := this; exact ⟨e2, fWhile_eq b2 (fun z => nomatch z), q⟩
end
def PE.word : PE (fun b : Bool => D.str (wd b)) 0 := ⟨fun b => .str (wd b), fun _ => rfl, fun b => by cases b <;> decide +kernel, fun _ => Nat.le_refl _, fun a b => by
  show (wd a == wd b) = true ↔ _
  rw [beq_iff_eq]
  cases a <;> cases b <;> decide⟩
end Dl
set_option maxHeartbeats 400000
/-! The library, typed: sums and repetitions (printed by tgen.py). -/
namespace Dl.lib
open PySem
end Dl.lib
set_option maxHeartbeats 400000
/-! The library, typed: repetitions of many (printed by tgen.py). -/
namespace Dl.lib
open PySem
noncomputable def p_Table_lost (self_ : (Int × List Int)) : Option (List Int) := some self_.2
end Dl.lib
set_option maxHeartbeats 400000
/-! The library, typed: removals (printed by tgen.py). -/
namespace Dl.lib
open PySem
noncomputable def p_table_at__L (steps_ : (List Stp)) (threshold_ : Int) : Option (Int × List Int) := (forS (fun y1 (s2 : Int × (List Int)) => (if ((!y1.1) && (decide (s2.1 < y1.2))) = true then (p_least_reaching s2.1 (false, s2.2) y1.2).bind fun x7 => (lstP (s2.2 ++ (x7 :: ([] : List Int)))).bind fun x9 => some (s2.1, isort x9) else (if (!y1.1) = true then some (s2.1 - 1, s2.2) else (if (decide (y1.2 ≤ threshold_)) = true then some (s2.1 + 1, s2.2) else some (s2.1, s2.2))))) steps_ (0, [])).bind fun s3 => (p_Table___init__ s3.1 (false, s3.2)).bind fun x15 => some x15
end Dl.lib
set_option maxHeartbeats 400000
/-! Layer P: x.pop(i); steps with ranks from either end, and medians. -/
namespace Dl
open PySem PySem.Spec PyProof.Rows L2 RZ
def popP {α : Type} (xs : List α) (i : Int) : Option (α × List α) := if -(2 ^ 63) ≤ i ∧ i < 2 ^ 63 then (match seqIndex? i xs.length with
  | some j => (match xs[j]? with
    | some x => some (x, xs.eraseIdx j) | none => none)
  | none => none) else none
section
variable {α : Type} {F : α → D} {xs : List α} {e e1 : En} {fa : M D}
theorem erase_map (f : α → D) : ∀ (xs : List α) (j : Nat), (xs.map f).eraseIdx j = (xs.eraseIdx j).map f
  | [], _ => rfl
  | _ :: _, 0 => rfl
  | x :: xs, j + 1 => by
    show f x :: (xs.map f).eraseIdx j = f x :: (xs.eraseIdx j).map f
    rw [erase_map f xs j]
theorem x_pop {i : Nat} {r r0 : Bool} {ds0 : List D} {z : Int} {y : α × List α} (h : e[i]? = some (.own r0 ds0)) (hf : fa e = .ok (.int z) e1) (h1 : e1[i]? = some (.own r (xs.map F))) (hl : popP xs z = some y) : fPop i fa e = .ok (F y.1) (e1.set i (.own r (y.2.map F))) := by
  unfold popP at hl
  split at hl
  · rename_i hz
    split at hl
    · rename_i j hj
      split at hl
      · rename_i x hx
        cases hl
        unfold fPop isL
        have k : (fun e : En => match e[i]? with
          | some (.own _ _) => Res.ok () e | _ => .bad) e = .ok () e := by simp only [h]
        rw [bd_ok k, bd_ok hf]
        have k2 : popOI i (.int z) e1 = .ok (F x) (e1.set i (.own r ((xs.eraseIdx j).map F))) := by
          unfold popOI
          rw [h1]
          show (if -(2 ^ 63) ≤ z ∧ z < 2 ^ 63 then (match seqIndex? z (xs.map F).length with
            | some j => (match (xs.map F)[j]? with | some d => Res.ok d (e1.set i (.own r ((xs.map F).eraseIdx j))) | none => .bad)
            | none => .bad) else .bad) = _
          rw [if_pos hz, List.length_map, hj]
          show (match (xs.map F)[j]? with | some d => Res.ok d (e1.set i (.own r ((xs.map F).eraseIdx j))) | none => .bad) = _
          rw [List.getElem?_map, hx, erase_map]
          rfl
        exact noExc_ok k2
      · cases hl
    · cases hl
  · cases hl
end
end Dl
set_option maxHeartbeats 400000
/-! Layer P: the words of wide steps, their parts. -/
namespace Dl
open PySem PySem.Spec PyProof.Rows L2 RZ
inductive W4 where
  | ins | rem | top | med
  deriving DecidableEq
def w4 : W4 → Str
  | .ins => "insert" | .rem => "remove" | .top => "top" | .med => "median"
end Dl
set_option maxHeartbeats 400000
/-! Layer P: repr. -/
namespace Dl
open PySem PySem.Spec PyProof.Rows L2 RZ
def rgP (i j : Int) : Option (List Int) := if rgOk i j then some (rngP i j) else none
theorem x_listRg {e2 : En} {fb : M D} {i j : Int} {xs : List Int} (ha : fa e = .ok (.int i) e1) (hb : fb e1 = .ok (.int j) e2) (h : rgP i j = some xs) : fListRg fa fb e = .ok (List.map D.int xs) e2 := by
  unfold rgP at h
  split at h
  · rename_i ok
    cases h
    unfold fListRg
    rw [bd_ok ha, bd_ok hb]
    show li (if rgOk i j then some ((rgI i j).map D.int) else none) e2 = _
    rw [if_pos ok]
    rfl
  · cases h
theorem l_max {xs : List Int} {m : Int} (h : lMax xs = some m) : oOf lMax (.lst (xs.map D.int)) = some (.int m) := by
  show (match toInts (xs.map D.int) with
    | some l => (lMax l).map D.int | none => none) = _
  rw [toInts_map]
  show (lMax xs).map D.int = _
  rw [h]
  rfl
/-! what has a display -/
theorem int_short {a : Int} (h : a.natAbs.log2 < 1920) : (PyData.shown (.int a)).length ≤ 2000 := by
  have e := int_text_length_le (k := 1920) (by decide) h
  show (Str.ofString (toString a)).length ≤ 2000
  rw [PySem.ofString_length]
  omega
end Dl
set_option maxHeartbeats 400000
/-! The library, typed: sequences called, steps from the top (printed by tgen.py). -/
namespace Dl.lib
open PySem
end Dl.lib
set_option maxHeartbeats 400000
/-! Layer P: data as they are, class methods through instances, != of lists of instances. -/
namespace Dl
open PySem PySem.Spec PyProof.Rows L2 RZ
section
variable {e e1 e2 e3 : En} {fo : M D}
variable {α : Type} {F : En → Res D} {c : Str} {f : α → α → Option Bool} {enc : α → D} {xs ys : List α} {r : Bool}
theorem o_neOL (hf : ∀ x y b, f x y = some b → ∃ os, F [.val (enc x), .val (enc y)] = .ok (.bl b) os) (hc : ∀ x, ∃ ns ds, enc x = .obj c ns ds) (h : eqOP f enc xs ys = some r) : dNeOL F c (.lst (xs.map enc)) (.lst (ys.map enc)) e = .ok (.bl (!r)) e := by
  show li ((eqsO F c (xs.map enc) (ys.map enc)).map fun b => D.bl (!b)) e = _
  rw [eqsO_eq hf hc h]
  rfl
/-! ### data as they are -/
/-- a pair, starred -/
theorem x_iP {β : Type} {G : β → D} {fa : M D} {p : β × β} (h : fa e = .ok (eP G G p) e1) : bd fa dItems e = .ok ([p.1, p.2].map G) e1 := (bd_ok h).trans rfl
end
end Dl
set_option maxHeartbeats 400000
/-! Layer P: repr where empty dicts may be; runs that end in an exception. -/
namespace Dl
open PySem PySem.Spec PyProof.Rows L2 RZ
section
variable {e e1 e2 e3 : En} {fa : M D}
/-! an item of data -/
/-! ### exceptions -/
variable {x : D}
theorem x_seqX {g1 g2 : M Fl} (h : g1 e = .ok .nx e1) : fSeq g1 g2 e = g2 e1 := by
  unfold fSeq
  rw [bd_ok h]
/-- a def's run that returns -/
theorem x_runR {n m : Nat} {g : M Fl} {as : En} {os : En} {d : D} (hn : as.length = n) (hm : n ≤ m) (h : g (as ++ List.replicate (m - n) .no) = .ok (.rt d) e1) (hl : e1.length = m) (ho : (e1.take n).map keepR = os) : runF n m g as = .ok d os := by
  unfold runF
  rw [if_pos ⟨hn, hm⟩, h]
  show (if e1.length = m then Res.ok d ((e1.take n).map keepR) else .bad) = _
  rw [if_pos hl, ho]
/-! ### own == with values of built-in classes -/
/-! ### instances as tests, their lengths -/
def lenP (n : Int) : Option Int := if 0 ≤ n ∧ n < 2 ^ 63 then some n else none
theorem x_lenO {cN : Str} {FF : En → Res D} {n1 : List Str} {s1 : List D} {n m : Int} {os : En} (ha : fa e = .ok (.obj cN n1 s1) e1) (h : FF [.val (.obj cN n1 s1)] = .ok (.int n) os) (hl : lenP n = some m) : bd (fCons fa fNil) (dLenO FF cN) e = .ok (.int m) e1 := by
  unfold lenP at hl
  split at hl
  · rename_i hn
    cases hl
    rw [bd_ok (fCons_ok ha fNil_eq)]
    show bd (d1m FF cN (.obj cN n1 s1)) _ e1 = _
    rw [bd_ok (d1m_eq h)]
    show li (if 0 ≤ n ∧ n < 2 ^ 63 then some (D.int n) else none) e1 = _
    rw [if_pos hn]
    rfl
  · cases hl
end
end Dl
set_option maxHeartbeats 400000
/-! Layer P: more runs that end in an exception. -/
namespace Dl
open PySem PySem.Spec PyProof.Rows L2 RZ
end Dl
set_option maxHeartbeats 400000
/-! Layer P: wide steps as data; loops that end in an exception. -/
namespace Dl
open PySem PySem.Spec PyProof.Rows L2 RZ
end Dl
set_option maxHeartbeats 400000
/-! Layer P: max by len, sorted(dict(..)). -/
namespace Dl
open PySem PySem.Spec PyProof.Rows L2 RZ
end Dl
set_option maxHeartbeats 400000
/-! The library, typed: comparing effects (printed by tgen.py). -/
namespace Dl.lib
open PySem
end Dl.lib
set_option maxHeartbeats 400000
/-! Layer P: the longest parts of neighbouring steps of one word. -/
namespace Dl
open PySem L2
abbrev pT : M Bool := fAnd (fB (f2 dNe (fAny 1) (fL (fLst (fNil))))) (fB (f2 dEq (f2 dAt (f2 dAt (fGetA 1 (bd (fC (.int 1)) dNeg)) (fC (.int 0))) (fC (.int 0))) (f2 dAt (fVar 2) (fC (.int 0)))))
abbrev pX : M D := bd (fC (.int 1)) dNeg
abbrev pG : M Fl := fSeq (fSetN 1 (fLst (fNil))) (fSeq (fWk [2] (fParts 1 2 (fVar 0) pT pX)) (fRet (fAny 1)))
def sameW (acc : List (List Stp)) (d : Stp) : Bool := match acc.getLast? with
  | some (x :: _) => decide (x.1 = d.1)
  | _ => false
def grp : List Stp → List (List Stp) → List (List Stp)
  | [], acc => acc
  | d :: r, acc => if sameW acc d = true then grp r (acc.dropLast ++ [acc.getLast?.getD [] ++ [d]]) else grp r (acc ++ [[d]])
def partsP (xs : List Stp) : Option (List (List Stp)) := if xs.length < 10000 then some (grp xs []) else none
theorem snoc_eq {α : Type} : ∀ {l : List α} (h : l ≠ []), l.dropLast ++ [l.getLast h] = l
  | [x], _ => rfl
  | x :: y :: r, _ => congrArg (x :: ·) (snoc_eq (l := y :: r) (by simp))
theorem atI_head {α : Type} (x : α) (l : List α) : atI (x :: l) 0 = some x := by
  unfold atI ixN
  rw [if_pos (Int.le_refl _), if_pos (by rw [List.length_cons]; omega)]
  rfl
theorem ev3 (acc : List (List Stp)) (d : Stp) : evP 3 1 2 (acc.map (·.map stD)) (stD d) = [.no, .val (D.lst (acc.map (eL stD))), .val (stD d)] := by
  show [Sl.no, Sl.val (D.lst ((acc.map (·.map stD)).map D.lst)), Sl.val (stD d)] = _
  rw [List.map_map]
  rfl
theorem pT_ok (acc : List (List Stp)) (d : Stp) (h : ∀ l ∈ acc, l ≠ []) : pT (evP 3 1 2 (acc.map (·.map stD)) (stD d)) = .ok (sameW acc d) (evP 3 1 2 (acc.map (·.map stD)) (stD d)) := by
  rw [ev3]
  have e1 : fB (f2 dNe (fAny 1) (fL (fLst (fNil)))) [.no, .val (D.lst (acc.map (eL stD))), .val (stD d)] = .ok (!decide (acc = [])) [.no, .val (D.lst (acc.map (eL stD))), .val (stD d)] :=
    fB_ok (x_op (p := D.lst (acc.map (eL stD))) (q := D.lst (([] : List (List Stp)).map (eL stD))) (e1 := [.no, .val (D.lst (acc.map (eL stD))), .val (stD d)]) (e2 := [.no, .val (D.lst (acc.map (eL stD))), .val (stD d)]) rfl rfl (o_ne (PE.list (PE.list PE.step)) (by decide)))
  unfold pT fAnd
  rw [bd_ok e1]
  by_cases ha : acc = []
  · subst ha
    rfl
  · rw [decide_eq_false ha]
    show fB _ _ = _
    obtain ⟨as, l, rfl⟩ : ∃ as l, acc = as ++ [l] := ⟨acc.dropLast, acc.getLast ha, (snoc_eq ha).symm⟩
    obtain ⟨x, r, rfl⟩ : ∃ x r, l = x :: r := List.exists_cons_of_ne_nil (h l (by simp))
    have s : sameW (as ++ [x :: r]) d = decide (x.1 = d.1) := by unfold sameW; rw [List.getLast?_concat]
    rw [s]
    refine fB_ok (x_op (p := D.str (wd x.1)) (q := D.str (wd d.1)) (e1 := [.no, .val (D.lst ((as ++ [x :: r]).map (eL stD))), .val (stD d)]) (e2 := [.no, .val (D.lst ((as ++ [x :: r]).map (eL stD))), .val (stD d)]) ?_ rfl (o_eq (F := fun b => D.str (wd b)) PE.word (a := x.1) (b := d.1)))
    refine x_op (p := stD x) (q := D.int 0) (e1 := [.no, .val (D.lst ((as ++ [x :: r]).map (eL stD))), .val (stD d)]) (e2 := [.no, .val (D.lst ((as ++ [x :: r]).map (eL stD))), .val (stD d)]) ?_ rfl rfl
    refine x_op (p := eL stD (x :: r)) (q := D.int 0) (e1 := [.no, .val (D.lst ((as ++ [x :: r]).map (eL stD))), .val (stD d)]) (e2 := [.no, .val (D.lst ((as ++ [x :: r]).map (eL stD))), .val (stD d)]) ?_ rfl (by show li (atI (stD x :: r.map stD) 0) _ = _; rw [atI_head]; rfl)
    show f2 dAt (fVar 1) (bd (fC (.int 1)) dNeg) _ = _
    refine x_op (p := D.lst ((as ++ [x :: r]).map (eL stD))) (q := D.int (-1)) (e1 := [.no, .val (D.lst ((as ++ [x :: r]).map (eL stD))), .val (stD d)]) (e2 := [.no, .val (D.lst ((as ++ [x :: r]).map (eL stD))), .val (stD d)]) rfl rfl ?_
    show li (atI ((as ++ [x :: r]).map (eL stD)) (-1)) _ = _
    rw [List.map_append]
    show li (atI (as.map (eL stD) ++ [eL stD (x :: r)]) (-1)) _ = _
    rw [atI_end]
    rfl
theorem go_ok : ∀ (xs : List Stp) (acc : List (List Stp)), (∀ l ∈ acc, l ≠ []) → acc.length + xs.length < 10000 → (∀ l ∈ acc, l.length + xs.length < 10000) → partsGo pT pX 3 1 2 (xs.map stD) (acc.map (·.map stD)) = some ((grp xs acc).map (·.map stD))
  | [], acc, _, _, _ => rfl
  | d :: r, acc, h, h1, h2 => by
    rw [List.length_cons] at h1
    have h2 : ∀ l ∈ acc, l.length + (r.length + 1) < 10000 := fun l hl => h2 l hl
    show (match pT (evP 3 1 2 (acc.map (·.map stD)) (stD d)) with
      | .ok true _ => if isNeg1 (pX (evP 3 1 2 (acc.map (·.map stD)) (stD d))) = true then match (acc.map (·.map stD)).getLast? with
        | some l => if l.length < 10000 then partsGo pT pX 3 1 2 (r.map stD) ((acc.map (·.map stD)).dropLast ++ [l ++ [stD d]]) else none
        | none => none
        else none
      | .ok false _ => if (acc.map (·.map stD)).length < 10000 then partsGo pT pX 3 1 2 (r.map stD) (acc.map (·.map stD) ++ [[stD d]]) else none
      | _ => none) = some ((if sameW acc d = true then grp r (acc.dropLast ++ [acc.getLast?.getD [] ++ [d]]) else grp r (acc ++ [[d]])).map (·.map stD))
    rw [pT_ok acc d h]
    cases q : sameW acc d with
    | false =>
      have ih := go_ok r (acc ++ [[d]]) (fun l hl => by
        rcases List.mem_append.mp hl with hl | hl
        · exact h l hl
        · rw [List.mem_singleton.mp hl]; exact fun z => nomatch z) (by rw [List.length_append]; show acc.length + 1 + _ < _; omega) (fun l hl => by
        rcases List.mem_append.mp hl with hl | hl
        · have := h2 l hl; omega
        · rw [List.mem_singleton.mp hl]; show 1 + _ < _; omega)
      show (if (acc.map (·.map stD)).length < 10000 then partsGo pT pX 3 1 2 (r.map stD) (acc.map (·.map stD) ++ [[stD d]]) else none) = _
      rw [List.length_map, if_pos (by omega), if_neg Bool.false_ne_true, ← ih, List.map_append]
      rfl
    | true =>
      have ne : acc ≠ [] := fun z => by subst z; cases q
      obtain ⟨as, l, rfl⟩ : ∃ as l, acc = as ++ [l] := ⟨acc.dropLast, acc.getLast ne, (snoc_eq ne).symm⟩
      have ih := go_ok r (as ++ [l ++ [d]]) (fun m hl => by
        rcases List.mem_append.mp hl with hl | hl
        · exact h m (List.mem_append_left _ hl)
        · rw [List.mem_singleton.mp hl]; simp) (by rw [List.length_append] at h1 ⊢; show as.length + 1 + _ < _; have : as.length + 1 + (r.length + 1) < 10000 := h1; omega) (fun m hl => by
        rcases List.mem_append.mp hl with hl | hl
        · have := h2 m (List.mem_append_left _ hl); omega
        · rw [List.mem_singleton.mp hl, List.length_append]
          have := h2 l (List.mem_append_right _ (List.mem_singleton_self l))
          show l.length + 1 + _ < _
          omega)
      have hl := h2 l (List.mem_append_right _ (List.mem_singleton_self l))
      have ng : isNeg1 (pX (evP 3 1 2 ((as ++ [l]).map (·.map stD)) (stD d))) = true := rfl
      show (if isNeg1 (pX (evP 3 1 2 ((as ++ [l]).map (·.map stD)) (stD d))) = true then _ else none) = _
      rw [if_pos ng, if_pos rfl, List.map_append, List.getLast?_concat, List.dropLast_concat]
      show (match (as.map (fun (z : List Stp) => z.map stD) ++ [l.map stD]).getLast? with
        | some m => if m.length < 10000 then partsGo pT pX 3 1 2 (r.map stD) ((as.map (fun (z : List Stp) => z.map stD) ++ [l.map stD]).dropLast ++ [m ++ [stD d]]) else none
        | none => none) = _
      rw [List.getLast?_concat, List.dropLast_concat]
      show (if (l.map stD).length < 10000 then partsGo pT pX 3 1 2 (r.map stD) (as.map (fun (z : List Stp) => z.map stD) ++ [l.map stD ++ [stD d]]) else none) = some ((grp r (as ++ [l ++ [d]])).map (fun (z : List Stp) => z.map stD))
      rw [List.length_map, if_pos (by omega), ← ih, List.map_append]
      show _ = partsGo pT pX 3 1 2 (r.map stD) (as.map (fun (z : List Stp) => z.map stD) ++ [(l ++ [d]).map stD])
      rw [List.map_append]
      rfl
theorem parts_ok {xs : List Stp} {d : D} {r : List (List Stp)} (hd : itemsP d = some (xs.map stD)) (h : partsP xs = some r) : runF 1 3 pG [.val d] = .ok (D.lst (r.map (eL stD))) [.no] := by
  unfold partsP at h
  split at h
  case isFalse => cases h
  rename_i hl
  cases h
  have g := go_ok xs [] (fun _ h => nomatch h) (by show 0 + _ < _; omega) (fun _ h => nomatch h)
  have mm : ((grp xs []).map (fun l => l.map stD)).map D.lst = (grp xs []).map (eL stD) := by rw [List.map_map]; rfl
  have po : ∃ s, partsO pT pX 1 2 d [.val d, .own false [], .no] = some [.val d, .own false ((grp xs []).map (eL stD)), s] := by
    unfold partsO
    rw [hd]
    show ∃ s, (if (Sl.no).isOwn = false ∧ (1 : Nat) ≠ 2 then (partsGo pT pX 3 1 2 (xs.map stD) []).map fun (acc : List (List D)) => (lastSet 2 (xs.map stD) [.val d, .no, .no]).set 1 (.own false (acc.map D.lst)) else none) = _
    rw [if_pos ⟨rfl, by decide⟩, show partsGo pT pX 3 1 2 (xs.map stD) [] = _ from g]
    show ∃ s, some ((lastSet 2 (xs.map stD) [.val d, .no, .no]).set 1 (.own false (((grp xs []).map (fun l => l.map stD)).map D.lst))) = _
    rw [mm]
    unfold lastSet
    cases (xs.map stD).getLast? with
    | none => exact ⟨_, rfl⟩
    | some z => exact ⟨_, rfl⟩
  obtain ⟨s, po⟩ := po
  refine x_runR (n := 1) (m := 3) (e1 := [.val d, .val (D.lst ((grp xs []).map (eL stD))), .no]) rfl (by decide) ?_ rfl rfl
  show pG [.val d, .no, .no] = _
  refine Eq.trans (x_seqX (e1 := [.val d, .own false [], .no]) rfl) ?_
  refine Eq.trans (x_seqX (e1 := [.val d, .own false ((grp xs []).map (eL stD)), .no]) ?_) rfl
  refine fWk_ok (e1 := [.val d, .own false ((grp xs []).map (eL stD)), s]) ?_ rfl
  unfold fParts
  rw [bd_ok (show fVar 0 [.val d, .own false [], .no] = .ok d _ from rfl), po]
/-- sorted steps of one word -/
def sortW : List Stp → Option (List Stp)
  | (b, n) :: r => if (r.all fun x => x.1 == b) = true then some ((isort (n :: r.map (·.2))).map fun n => (b, n)) else none
  | [] => none
theorem toWN_map {b : Bool} : ∀ {r : List Stp}, (r.all fun x => x.1 == b) = true → toWN (wd b) (r.map stD) = some (r.map (·.2))
  | [], _ => rfl
  | x :: r, h => by
    rw [List.all_cons, Bool.and_eq_true] at h
    have e : x.1 = b := by simpa using h.1
    show (if wd x.1 = wd b then (toWN (wd b) (r.map stD)).map (x.2 :: ·) else none) = _
    rw [if_pos (by rw [e]), toWN_map h.2]
    rfl
theorem x_sortW {xs zs : List Stp} {fa : M D} {e e1 : En} (h : sortW xs = some zs) (ha : fa e = .ok (.lst (xs.map stD)) e1) : bd (fCons fa fNil) nSortW e = .ok (zs.map stD) e1 := by
  rw [bd_ok (fCons_ok ha fNil_eq)]
  match xs, h with
  | (b, n) :: r, h =>
    have h : (if (r.all fun x => x.1 == b) = true then some ((isort (n :: r.map (·.2))).map fun n => (b, n)) else none) = some zs := h
    split at h
    case isFalse => cases h
    rename_i ha
    cases h
    show li ((toWN (wd b) (r.map stD)).map fun ns => (isort (n :: ns)).map fun n => D.tup [.str (wd b), .int n]) e1 = _
    rw [toWN_map ha, List.map_map]
    rfl
theorem x_revT {α : Type} {F : α → D} {xs : List α} {fa : M D} {e e1 : En} (ha : fa e = .ok (.tup (xs.map F)) e1) : bd fa dRevT e = .ok (.tup (xs.reverse.map F)) e1 := by
  rw [bd_ok ha, List.map_reverse]
  rfl
theorem x_peek {i : Nat} {ft : M Bool} {e e' : En} {b : Bool} {ds : List D} (hi : e[i]? = some (.own false ds)) (h : ft (viewI e i ds) = .ok b e') : fPeek i ft e = .ok b e := by
  unfold fPeek
  rw [hi]
  show (match ft (viewI e i ds) with
    | .ok b _ => Res.ok b e
    | _ => .bad) = _
  rw [h]
end Dl
set_option maxHeartbeats 400000
/-! The library, typed: normal forms (printed by tgen.py). -/
namespace Dl.lib
open PySem
noncomputable def p_parts_of (steps_ : List Stp) : Option (List (List Stp)) := partsP steps_
noncomputable def p_sorted_part (part_ : (List Stp)) : Option (List Stp) := (L2.atI part_ 0).bind fun x1 => (if x1.1 = true then (sortW part_).bind fun x4 => some x4 else (p_table_at__L part_ 0).bind fun x7 => (p_Table_lost x7).bind fun x10 => (lcT x10.reverse (fun y12 => true) (fun y12 => (false, y12))).bind fun x13 => some x13)
noncomputable def p_normal_form (sequence_ : (List Stp)) : Option (List Stp) := (p_Sequence_steps sequence_).bind fun x2 => (p_parts_of x2).bind fun x5 => (forS (fun y7 (s8 : (List Stp)) => (p_sorted_part y7).bind fun x12 => (catP s8 x12).bind fun x14 => some x14) x5 []).bind fun s9 => (p_Sequence___init__ s9).bind fun x18 => some x18
noncomputable def p_Sequence___eq__ (self_ : (List Stp)) (other_ : (List Stp)) : Option Bool := some (true && (decide (self_ = other_)))
noncomputable def p_is_connected (first_ : (List Stp)) (second_ : (List Stp)) : Option Bool := (p_normal_form first_).bind fun x2 => (p_normal_form second_).bind fun x5 => (p_Sequence___eq__ x2 x5).bind fun x8 => some x8
end Dl.lib
set_option maxHeartbeats 400000
/-! Layer P: x + y as a new list, xs.insert(i, y). -/
namespace Dl
open PySem L2
/-! ### the least of triples -/
end Dl
set_option maxHeartbeats 400000
/-! Layer P: xs.count(y), xs.index(y). -/
namespace Dl
open PySem L2
section
variable {α : Type} [DecidableEq α] {F : α → D} {k : Nat} {fo fa : M D} {e e1 e2 : En} {xs : List α} {x : α}
theorem countP_PE (h : PE F k) : ∀ xs : List α, (xs.map h.P).countP (fun z => PyData.eqv z (h.P x)) = xs.count x
  | [] => rfl
  | y :: xs => by
    rw [List.map_cons, List.countP_cons, List.count_cons, countP_PE h xs]
    congr 1
    have : PyData.eqv (h.P y) (h.P x) = (y == x) := by rw [Bool.eq_iff_iff, h.eqv]; simp
    rw [this]
theorem x_countD (h : PE F k) (hk : k + 1 ≤ 64 := by decide) (ha : fo e = .ok (.lst (xs.map F)) e1) (hb : fa e1 = .ok (F x) e2) : fListM oCount fo fa e = .ok (.int (xs.count x : Nat)) e2 := by
  have s1 : SeqAt.shaped (.list (xs.map h.P)) = true := by
    show (PyData.canLay0 ((PE.list h).P xs) && decide (PyData.depth ((PE.list h).P xs) ≤ 64)) = true
    rw [(PE.list h).lay, decide_eq_true (Nat.le_trans ((PE.list h).dep xs) hk)]
    rfl
  have s2 : SeqAt.shaped (h.P x) = true := by
    show (PyData.canLay0 (h.P x) && decide (PyData.depth (h.P x) ≤ 64)) = true
    rw [h.lay, decide_eq_true (Nat.le_trans (h.dep x) (by omega))]
    rfl
  unfold fListM
  rw [bd_ok ha]
  show bd fa (fun y => li (oCount (.lst (xs.map F)) y)) e1 = _
  rw [bd_ok hb]
  have c : oCount (.lst (xs.map F)) (F x) = some (.int (xs.count x : Nat)) := by
    unfold oCount
    rw [(PE.list h).toP xs, h.toP x]
    show (if SeqAt.shaped (.list (xs.map h.P)) = true ∧ SeqAt.shaped (h.P x) = true then some (D.int ((xs.map h.P).countP fun z => PyData.eqv z (h.P x) : Nat)) else none) = _
    rw [if_pos ⟨s1, s2⟩, countP_PE h]
  show li (oCount (.lst (xs.map F)) (F x)) e2 = _
  rw [c]
  rfl
def cntD {α : Type} [DecidableEq α] (xs : List α) (x : α) : Int := (xs.count x : Nat)
theorem x_cntD (h : PE F k) (hk : k + 1 ≤ 64 := by decide) (ha : fo e = .ok (.lst (xs.map F)) e1) (hb : fa e1 = .ok (F x) e2) : fListM oCount fo fa e = .ok (.int (cntD xs x)) e2 := x_countD h hk ha hb
end
/-! ### texts -/
/-! ### lists of lists, tuples of tuples -/
end Dl
set_option maxHeartbeats 400000
/-! Layer P: lists or tuples compared and shown, enumerate of them, x if x is None, a list that gets another kind of item. -/
namespace Dl
open PySem L2
section
variable {α : Type} {F : α → D} {k : Nat}
def PE.seq (h : PE F k) : PE (sqG F) (k + 1) := ⟨fun p => if p.1 then .tuple (p.2.map h.P) else .list (p.2.map h.P),
  fun p => by
    obtain ⟨b, l⟩ := p
    cases b
    · exact (PE.list h).toP l
    · exact (PE.tupl h).toP l,
  fun p => by
    obtain ⟨b, l⟩ := p
    cases b
    · exact (PE.list h).lay l
    · exact (PE.tupl h).lay l,
  fun p => by
    obtain ⟨b, l⟩ := p
    cases b
    · exact (PE.list h).dep l
    · exact (PE.tupl h).dep l,
  fun p q => by
    obtain ⟨b, l⟩ := p
    obtain ⟨c, m⟩ := q
    cases b <;> cases c
    · rw [Prod.mk.injEq]
      exact ((PE.list h).eqv l m).trans ⟨fun z => ⟨rfl, z⟩, fun z => z.2⟩
    · show false = true ↔ _
      simp
    · show false = true ↔ _
      simp
    · rw [Prod.mk.injEq]
      exact ((PE.tupl h).eqv l m).trans ⟨fun z => ⟨rfl, z⟩, fun z => z.2⟩⟩
end
/-! ### data as they are -/
end Dl
set_option maxHeartbeats 400000
/-! Layer P: comprehensions with two for. -/
namespace Dl
open PySem L2
end Dl
set_option maxHeartbeats 400000
/-! Layer P: repr of lists in which empty dicts are. -/
namespace Dl
open PySem PySem.Spec PyProof.Rows L2 RZ
end Dl
set_option maxHeartbeats 400000
/-! Layer P: sums and items of lists or tuples. -/
namespace Dl
open PySem L2
end Dl
set_option maxHeartbeats 400000
/-! Layer P: defs that give a new list out, by facts; calls of objects that do. -/
namespace Dl
open PySem L2
end Dl
set_option maxHeartbeats 400000
/-! Layer P: zip of a tuple and a list. -/
namespace Dl
open PySem L2
end Dl
set_option maxHeartbeats 400000
/-! Layer P: texts. -/
namespace Dl
open PySem L2
def slSP (z : Str) (lo hi : Option Int) : Option Str := if z.length ≤ 16777216 then some (cutS z lo hi) else none
def atSP (z : Str) (i : Int) : Option Str := if z.length ≤ 16777216 then (atI z.cps.toList i).map fun c => ⟨#[c]⟩ else none
def sign1 : Str → Option Nat
  | ⟨⟨[c]⟩⟩ => some c
  | _ => none
def inSP (a z : Str) : Option Bool := (sign1 a).map fun c => decide (c ∈ z.cps.toList)
def intSP (x : Str) : Option Int := if x.length ≤ 640 then PySem.intText? x else none
def signs (x : Str) : List Str := x.cps.toList.map fun c => ⟨#[c]⟩
end Dl
set_option maxHeartbeats 400000
/-! Layer P: zip of a list and a tuple. -/
namespace Dl
open PySem L2
end Dl
set_option maxHeartbeats 400000
/-! Layer P: None in a list; two targets. -/
namespace Dl
open PySem L2
end Dl
set_option maxHeartbeats 400000
/-! Layer P: texts compared. -/
namespace Dl
open PySem L2
end Dl
set_option maxHeartbeats 400000
/-! The typed library: texts. -/
namespace Dl.lib
open PySem L2
noncomputable def p__law_sequence (steps_here_ : (List Stp)) : Option (List Stp) := (p_Sequence___init__ ([] : List Stp)).bind fun x2 => (forS (fun y4 (s5 : (List Stp)) => (p_Sequence___init__ (y4 :: ([] : List Stp))).bind fun x9 => (p_Sequence___add__ s5 x9).bind fun x12 => some x12) steps_here_ x2).bind fun s6 => some s6
noncomputable def p__law_count (part_ : Str) : Option (Option Int) := (if (decide (part_ = ("" : Str))) = true then some true else (lcG (fun y1 => (inSP y1 ("0123456789" : Str)).bind fun x2 => if (!x2) = true then some (some y1) else some none) (signs part_)).bind fun x5 => (eqD (D.lst (List.map D.str x5)) (D.lst (List.map D.str []))).bind fun x8 => some (!x8)).bind fun x11 => (if x11 = true then some none else (if (decide (part_ = ("0" : Str))) = true then some true else (atSP part_ 0).bind fun x14 => some (!decide (x14 = ("0" : Str)))).bind fun x17 => (if x17 = true then (intSP part_).bind fun x19 => some (some x19) else some none).bind fun x21 => some x21)
noncomputable def p__law_number (part_ : Str) : Option (Option Int) := (slSP part_ none (some 1)).bind fun x1 => (if (!decide (x1 = ("-" : Str))) = true then (p__law_count part_).bind fun x5 => some x5 else (slSP part_ (some 1) none).bind fun x7 => (p__law_count x7).bind fun x10 => (if (x10.isNone || (decide (x10 = (some 0)))) = true then some none else (x10).bind fun x12 => some (some (0 - x12))).bind fun x14 => some x14)
end Dl.lib
set_option maxHeartbeats 400000
/-! Layer P: a list without None. -/
namespace Dl
open PySem L2
end Dl
set_option maxHeartbeats 400000
/-! The typed library: effects as texts. -/
namespace Dl.lib
open PySem L2
end Dl.lib
set_option maxHeartbeats 400000
/-! Layer P: the tail of a triple. -/
namespace Dl
open PySem L2
end Dl
set_option maxHeartbeats 400000
/-! Layer P: fields at the right of a width. -/
namespace Dl
open PySem L2
/-! ### replace, and statements that want a token -/
end Dl
set_option maxHeartbeats 400000
/-! Layer P: x.pop(); x in a list of instances with an own ==. -/
namespace Dl
open PySem PySem.Spec PyProof.Rows L2 RZ
def popP0 {α : Type} (xs : List α) : Option (α × List α) := match xs[xs.length - 1]? with
  | some x => some (x, xs.dropLast) | none => none
section
variable {α : Type} {f : α → D} {xs : List α} {e : En}
theorem x_pop0 {i : Nat} {r : Bool} {y : α × List α} (h1 : e[i]? = some (.own r (xs.map f))) (hl : popP0 xs = some y) : fPop0 i e = .ok (f y.1) (e.set i (.own r (y.2.map f))) := by
  unfold popP0 at hl
  split at hl
  · rename_i x hx
    cases hl
    refine noExc_ok ?_
    unfold popO0
    rw [h1]
    show (match (xs.map f)[(xs.map f).length - 1]? with | some d => Res.ok d (e.set i (.own r (xs.map f).dropLast)) | none => .bad) = _
    rw [List.length_map, List.getElem?_map, hx, ← List.map_dropLast]
    rfl
  · cases hl
variable {F : En → Res D} {c : Str} {p : α → α → Option Bool} {enc : α → D} {y : α} {r : Bool}
def memOP {α : Type} (p : α → α → Option Bool) (enc : α → D) : List α → α → Option Bool
  | [], _ => some false
  | x :: xs, y => (p x y).bind fun b => if b = true then some true else if dist (enc x) (enc y) = true then memOP p enc xs y else none
theorem memO_eq (hf : ∀ x y b, p x y = some b → ∃ os, F [.val (enc x), .val (enc y)] = .ok (.bl b) os) (hc : ∀ x, ∃ ns ds, enc x = .obj c ns ds) : ∀ {xs : List α} {r : Bool}, memOP p enc xs y = some r → memO F c (xs.map enc) (enc y) = some r
  | [], r, h => h
  | x :: xs, r, h => by
    obtain ⟨b, h1, h2⟩ := bsome h
    obtain ⟨os, e1⟩ := hf x y b h1
    obtain ⟨n1, d1, c1⟩ := hc x
    obtain ⟨n2, d2, c2⟩ := hc y
    have hd : d2r F c (enc x) (enc y) = if b = true then some true else if dist (enc x) (enc y) = true then some false else none := by
      unfold d2r
      rw [c1, c2] at e1 ⊢
      simp only [and_self, if_true, e1]
      cases b <;> rfl
    rw [List.map_cons]
    unfold memO
    rw [hd]
    cases b with
    | true => exact h2
    | false =>
      have h2 : (if dist (enc x) (enc y) = true then memOP p enc xs y else none) = some r := h2
      show (match (if dist (enc x) (enc y) = true then some false else none : Option Bool) with
        | some true => some true | some false => memO F c (xs.map enc) (enc y) | none => none) = _
      by_cases q : dist (enc x) (enc y) = true
      · rw [if_pos q] at h2 ⊢
        exact memO_eq hf hc h2
      · rw [if_neg q] at h2
        cases h2
theorem o_inOL {neg : Bool} (hf : ∀ x y b, p x y = some b → ∃ os, F [.val (enc x), .val (enc y)] = .ok (.bl b) os) (hc : ∀ x, ∃ ns ds, enc x = .obj c ns ds) (h : memOP p enc xs y = some r) : dInOL neg F c (enc y) (.lst (xs.map enc)) e = .ok (.bl (if neg then !r else r)) e := by
  show li ((memO F c (xs.map enc) (enc y)).map fun r => D.bl (if neg then !r else r)) e = _
  rw [memO_eq hf hc h]
  rfl
theorem x_peekI {i : Nat} {ft : M D} {e e' : En} {n : Int} {ds : List D} (hi : e[i]? = some (.own false ds)) (h : ft (viewI e i ds) = .ok (.int n) e') : fPeekI i ft e = .ok (.int n) e := by
  unfold fPeekI
  rw [hi]
  show (match ft (viewI e i ds) with
    | .ok (.int n) _ => Res.ok (D.int n) e
    | _ => .bad) = _
  rw [h]
end
end Dl
set_option maxHeartbeats 400000
/-! k36: typed. -/
namespace Dl.k36
open PySem Dl.lib
theorem t__law_pool (script_ : (List Int)) (k_ : Int) {r : (List Int)} (h : p__law_pool script_ k_ = some r) : R__law_pool [.val (D.scr script_), .val (D.int k_)] = .ok (List.map D.int r) [.no, .no] := by
  unfold p__law_pool at h
  refine runN_Ot (n := 2) (m := 4) (P := fun _ _ => False) (dD := fun (r : (List Int)) => List.map D.int r) (os := fun (r : (List Int)) => [.no, .no]) (r := r) ?_ rfl (by decide)
  change Ot g__law_pool [.val (D.scr script_), .val (D.int k_), .no, .no] (fun (_ : Unit) _ => False) (fun (r : (List Int)) => Fl.rn (List.map D.int r)) (Fin 2 4 (fun (r : (List Int)) => [.no, .no])) (.rt r)
  unfold g__law_pool
  refine ot_seq (e1 := [.val (D.scr script_), .val (D.int k_), .val (D.int 0), .no]) (fSetT_ok (x := D.int 0) (u := ()) (e1 := [.val (D.scr script_), .val (D.int k_), .no, .no]) rfl rfl) ?_
  obtain ⟨s4, h5, h⟩ := bsome h
  refine ot_seq (e1 := [.val (D.scr script_), .val (D.int k_), .val (D.int s4), .no]) (nx_of (E := fun (s4 : Int) => [.val (D.scr script_), .val (D.int k_), .val (D.int s4), .no]) ?_) ?_
  · have h := h5
    by_cases c1 : (decide (k_ < (script_.length : Int))) = true
    · rw [if_pos c1] at h
      refine ot_if_t (fB_ok (x_op (p := D.int k_) (q := D.int (script_.length : Int)) (e1 := [.val (D.scr script_), .val (D.int k_), .val (D.int 0), .no]) (e2 := [.val (D.scr script_), .val (D.int k_), .val (D.int 0), .no]) rfl (x_d1 (p := D.scr script_) rfl rfl) rfl)) c1 ?_
      obtain ⟨x2, h3, h⟩ := bsome h
      have hE := Option.some.inj h; subst hE
      refine ⟨[.val (D.scr script_), .val (D.int k_), .val (D.int (if x2 < 0 then -x2 else x2)), .no], ?_, rfl⟩
      exact fSetT_ok (x := D.int (if x2 < 0 then -x2 else x2)) (u := ()) (e1 := [.val (D.scr script_), .val (D.int k_), .val (D.int 0), .no]) (x_d1 (p := D.int x2) (x_op (p := D.scr script_) (q := D.int k_) (e1 := [.val (D.scr script_), .val (D.int k_), .val (D.int 0), .no]) (e2 := [.val (D.scr script_), .val (D.int k_), .val (D.int 0), .no]) rfl rfl (o_atS h3)) rfl) rfl
    · rw [if_neg c1] at h
      refine ot_if_f (fB_ok (x_op (p := D.int k_) (q := D.int (script_.length : Int)) (e1 := [.val (D.scr script_), .val (D.int k_), .val (D.int 0), .no]) (e2 := [.val (D.scr script_), .val (D.int k_), .val (D.int 0), .no]) rfl (x_d1 (p := D.scr script_) rfl rfl) rfl)) c1 ?_
      have hE := Option.some.inj h; subst hE
      exact ⟨_, rfl, rfl⟩
  · obtain ⟨x6, h7, h⟩ := bsome h
    refine ot_seq (e1 := [.val (D.scr script_), .val (D.int k_), .val (D.int s4), .val (D.int ((((((s4 % 2147483629) + x6) + (31 * k_)) + 17) * 48271) % 2147483647))]) (fSetT_ok (x := D.int ((((((s4 % 2147483629) + x6) + (31 * k_)) + 17) * 48271) % 2147483647)) (u := ()) (e1 := [.val (D.scr script_), .val (D.int k_), .val (D.int s4), .no]) (x_op (p := D.int (((((s4 % 2147483629) + x6) + (31 * k_)) + 17) * 48271)) (q := D.int 2147483647) (e1 := [.val (D.scr script_), .val (D.int k_), .val (D.int s4), .no]) (e2 := [.val (D.scr script_), .val (D.int k_), .val (D.int s4), .no]) (x_op (p := D.int ((((s4 % 2147483629) + x6) + (31 * k_)) + 17)) (q := D.int 48271) (e1 := [.val (D.scr script_), .val (D.int k_), .val (D.int s4), .no]) (e2 := [.val (D.scr script_), .val (D.int k_), .val (D.int s4), .no]) (x_op (p := D.int (((s4 % 2147483629) + x6) + (31 * k_))) (q := D.int 17) (e1 := [.val (D.scr script_), .val (D.int k_), .val (D.int s4), .no]) (e2 := [.val (D.scr script_), .val (D.int k_), .val (D.int s4), .no]) (x_op (p := D.int ((s4 % 2147483629) + x6)) (q := D.int (31 * k_)) (e1 := [.val (D.scr script_), .val (D.int k_), .val (D.int s4), .no]) (e2 := [.val (D.scr script_), .val (D.int k_), .val (D.int s4), .no]) (x_op (p := D.int (s4 % 2147483629)) (q := D.int x6) (e1 := [.val (D.scr script_), .val (D.int k_), .val (D.int s4), .no]) (e2 := [.val (D.scr script_), .val (D.int k_), .val (D.int s4), .no]) (x_op (p := D.int s4) (q := D.int 2147483629) (e1 := [.val (D.scr script_), .val (D.int k_), .val (D.int s4), .no]) (e2 := [.val (D.scr script_), .val (D.int k_), .val (D.int s4), .no]) rfl rfl (dMod_eq (by decide))) (x_op (p := D.int (7919 * k_)) (q := D.int k_) (e1 := [.val (D.scr script_), .val (D.int k_), .val (D.int s4), .no]) (e2 := [.val (D.scr script_), .val (D.int k_), .val (D.int s4), .no]) (x_op (p := D.int 7919) (q := D.int k_) (e1 := [.val (D.scr script_), .val (D.int k_), .val (D.int s4), .no]) (e2 := [.val (D.scr script_), .val (D.int k_), .val (D.int s4), .no]) rfl rfl (dMul_l (by decide))) rfl (o_mul h7)) rfl) (x_op (p := D.int 31) (q := D.int k_) (e1 := [.val (D.scr script_), .val (D.int k_), .val (D.int s4), .no]) (e2 := [.val (D.scr script_), .val (D.int k_), .val (D.int s4), .no]) rfl rfl (dMul_l (by decide))) rfl) rfl rfl) rfl (dMul_r (by decide))) rfl (dMod_eq (by decide))) rfl) ?_
    obtain ⟨x8, h9, h⟩ := bsome h
    obtain ⟨x10, h11, h⟩ := bsome h
    have hE := Option.some.inj h; subst hE
    exact ot_rt (e2 := [.val (D.scr script_), .val (D.int k_), .val (D.int s4), .val (D.int ((((((s4 % 2147483629) + x6) + (31 * k_)) + 17) * 48271) % 2147483647))]) (fRetL_ok (fLst_ok (fCons_ok (x := D.int x8) (e1 := [.val (D.scr script_), .val (D.int k_), .val (D.int s4), .val (D.int ((((((s4 % 2147483629) + x6) + (31 * k_)) + 17) * 48271) % 2147483647))]) (x_op (p := D.int s4) (q := D.int (if (decide ((10 ^ (18 : Int).toNat) ≤ s4)) = true then 1 else 0)) (e1 := [.val (D.scr script_), .val (D.int k_), .val (D.int s4), .val (D.int ((((((s4 % 2147483629) + x6) + (31 * k_)) + 17) * 48271) % 2147483647))]) (e2 := [.val (D.scr script_), .val (D.int k_), .val (D.int s4), .val (D.int ((((((s4 % 2147483629) + x6) + (31 * k_)) + 17) * 48271) % 2147483647))]) rfl (x_d1 (p := D.bl (decide ((10 ^ (18 : Int).toNat) ≤ s4))) (x_op (p := D.int s4) (q := D.int (10 ^ (18 : Int).toNat)) (e1 := [.val (D.scr script_), .val (D.int k_), .val (D.int s4), .val (D.int ((((((s4 % 2147483629) + x6) + (31 * k_)) + 17) * 48271) % 2147483647))]) (e2 := [.val (D.scr script_), .val (D.int k_), .val (D.int s4), .val (D.int ((((((s4 % 2147483629) + x6) + (31 * k_)) + 17) * 48271) % 2147483647))]) rfl (x_op (p := D.int 10) (q := D.int 18) (e1 := [.val (D.scr script_), .val (D.int k_), .val (D.int s4), .val (D.int ((((((s4 % 2147483629) + x6) + (31 * k_)) + 17) * 48271) % 2147483647))]) (e2 := [.val (D.scr script_), .val (D.int k_), .val (D.int s4), .val (D.int ((((((s4 % 2147483629) + x6) + (31 * k_)) + 17) * 48271) % 2147483647))]) rfl rfl (dPow_eq (by decide))) rfl) rfl) (o_mul h9)) (fCons_ok (x := D.int (x10 % 2147483629)) (e1 := [.val (D.scr script_), .val (D.int k_), .val (D.int s4), .val (D.int ((((((s4 % 2147483629) + x6) + (31 * k_)) + 17) * 48271) % 2147483647))]) (x_op (p := D.int x10) (q := D.int 2147483629) (e1 := [.val (D.scr script_), .val (D.int k_), .val (D.int s4), .val (D.int ((((((s4 % 2147483629) + x6) + (31 * k_)) + 17) * 48271) % 2147483647))]) (e2 := [.val (D.scr script_), .val (D.int k_), .val (D.int s4), .val (D.int ((((((s4 % 2147483629) + x6) + (31 * k_)) + 17) * 48271) % 2147483647))]) (x_op (p := D.int ((((((s4 % 2147483629) + x6) + (31 * k_)) + 17) * 48271) % 2147483647)) (q := D.int ((((((s4 % 2147483629) + x6) + (31 * k_)) + 17) * 48271) % 2147483647)) (e1 := [.val (D.scr script_), .val (D.int k_), .val (D.int s4), .val (D.int ((((((s4 % 2147483629) + x6) + (31 * k_)) + 17) * 48271) % 2147483647))]) (e2 := [.val (D.scr script_), .val (D.int k_), .val (D.int s4), .val (D.int ((((((s4 % 2147483629) + x6) + (31 * k_)) + 17) * 48271) % 2147483647))]) rfl rfl (o_mul h11)) rfl (dMod_eq (by decide))) fNil_eq)) (by show (2 : Nat) ≤ 16777216; decide))) ⟨rfl, rfl⟩
noncomputable def p__law_take (pool_here_ : (List Int)) (count_ : Int) : Option (Int × (List Int)) := (L2.atI pool_here_ 0).bind fun x1 => (if (decide (0 < x1)) = true then (L2.atI pool_here_ 0).bind fun x4 => (modP x4 count_).bind fun x6 => (L2.atI pool_here_ 0).bind fun x8 => (divP x8 count_).bind fun x10 => (putP pool_here_ 0 x10).bind fun x12 => some (x6, x12) else (L2.atI pool_here_ 1).bind fun x14 => (putP pool_here_ 1 (((x14 * 48271) + 12345) % 2147483647)).bind fun x16 => (L2.atI x16 1).bind fun x18 => (L2.atI x16 1).bind fun x20 => (mulP x18 x20).bind fun x22 => (modP ((x22 % 2147483629) / 64) count_).bind fun x24 => some (x24, x16))
theorem t__law_take (pool_here_ : (List Int)) (count_ : Int) {r : (Int × (List Int))} (h : p__law_take pool_here_ count_ = some r) : R__law_take [.own true (List.map D.int pool_here_), .val (D.int count_)] = .ok (D.int r.1) [.own true (List.map D.int r.2), .no] := by
  unfold p__law_take at h
  refine run_Ot (n := 2) (m := 3) (P := fun _ _ => False) (dD := fun (r : (Int × (List Int))) => D.int r.1) (os := fun (r : (Int × (List Int))) => [.own true (List.map D.int r.2), .no]) (r := r) ?_ rfl (by decide)
  change Ot g__law_take [.own true (List.map D.int pool_here_), .val (D.int count_), .no] (fun (_ : Unit) _ => False) (fun (r : (Int × (List Int))) => Fl.rt (D.int r.1)) (Fin 2 3 (fun (r : (Int × (List Int))) => [.own true (List.map D.int r.2), .no])) (.rt r)
  unfold g__law_take
  obtain ⟨x1, h2, h⟩ := bsome h
  by_cases c3 : (decide (0 < x1)) = true
  · rw [if_pos c3] at h
    refine ot_seq_rt (P' := fun (_ : Unit) _ => False) (.inl ⟨_, rfl⟩) (ot_if_t (fB_ok (x_op (p := D.int x1) (q := D.int 0) (e1 := [.own true (List.map D.int pool_here_), .val (D.int count_), .no]) (e2 := [.own true (List.map D.int pool_here_), .val (D.int count_), .no]) (x_getA (r := true) (xs := pool_here_) (F := D.int) rfl rfl h2) rfl rfl)) c3 ?_)
    obtain ⟨x4, h5, h⟩ := bsome h
    obtain ⟨x6, h7, h⟩ := bsome h
    refine ot_seq (e1 := [.own true (List.map D.int pool_here_), .val (D.int count_), .val (D.int x6)]) (fSetT_ok (x := D.int x6) (u := ()) (e1 := [.own true (List.map D.int pool_here_), .val (D.int count_), .no]) (x_op (p := D.int x4) (q := D.int count_) (e1 := [.own true (List.map D.int pool_here_), .val (D.int count_), .no]) (e2 := [.own true (List.map D.int pool_here_), .val (D.int count_), .no]) (x_getA (r := true) (xs := pool_here_) (F := D.int) rfl rfl h5) rfl (o_mod h7)) rfl) ?_
    obtain ⟨x8, h9, h⟩ := bsome h
    obtain ⟨x10, h11, h⟩ := bsome h
    obtain ⟨x12, h13, h⟩ := bsome h
    refine ot_seq (e1 := [.own true (List.map D.int x12), .val (D.int count_), .val (D.int x6)]) (x_put (F := D.int) (xs := pool_here_) (x := x10) (e1 := [.own true (List.map D.int pool_here_), .val (D.int count_), .val (D.int x6)]) (e2 := [.own true (List.map D.int pool_here_), .val (D.int count_), .val (D.int x6)]) (x_op (p := D.int x8) (q := D.int count_) (e1 := [.own true (List.map D.int pool_here_), .val (D.int count_), .val (D.int x6)]) (e2 := [.own true (List.map D.int pool_here_), .val (D.int count_), .val (D.int x6)]) (x_getA (r := true) (xs := pool_here_) (F := D.int) rfl rfl h9) rfl (o_div h11)) ⟨_, _, rfl⟩ rfl rfl h13) ?_
    have hE := Option.some.inj h; subst hE
    exact ot_rt (e2 := [.own true (List.map D.int x12), .val (D.int count_), .val (D.int x6)]) (fRet_ok rfl) ⟨rfl, rfl⟩
  · rw [if_neg c3] at h
    refine ot_seq (e1 := [.own true (List.map D.int pool_here_), .val (D.int count_), .no]) (fIf_n (fB_ok (x_op (p := D.int x1) (q := D.int 0) (e1 := [.own true (List.map D.int pool_here_), .val (D.int count_), .no]) (e2 := [.own true (List.map D.int pool_here_), .val (D.int count_), .no]) (x_getA (r := true) (xs := pool_here_) (F := D.int) rfl rfl h2) rfl rfl)) c3 rfl) ?_
    obtain ⟨x14, h15, h⟩ := bsome h
    obtain ⟨x16, h17, h⟩ := bsome h
    refine ot_seq (e1 := [.own true (List.map D.int x16), .val (D.int count_), .no]) (x_put (F := D.int) (xs := pool_here_) (x := (((x14 * 48271) + 12345) % 2147483647)) (e1 := [.own true (List.map D.int pool_here_), .val (D.int count_), .no]) (e2 := [.own true (List.map D.int pool_here_), .val (D.int count_), .no]) (x_op (p := D.int ((x14 * 48271) + 12345)) (q := D.int 2147483647) (e1 := [.own true (List.map D.int pool_here_), .val (D.int count_), .no]) (e2 := [.own true (List.map D.int pool_here_), .val (D.int count_), .no]) (x_op (p := D.int (x14 * 48271)) (q := D.int 12345) (e1 := [.own true (List.map D.int pool_here_), .val (D.int count_), .no]) (e2 := [.own true (List.map D.int pool_here_), .val (D.int count_), .no]) (x_op (p := D.int x14) (q := D.int 48271) (e1 := [.own true (List.map D.int pool_here_), .val (D.int count_), .no]) (e2 := [.own true (List.map D.int pool_here_), .val (D.int count_), .no]) (x_getA (r := true) (xs := pool_here_) (F := D.int) rfl rfl h15) rfl (dMul_r (by decide))) rfl rfl) rfl (dMod_eq (by decide))) ⟨_, _, rfl⟩ rfl rfl h17) ?_
    obtain ⟨x18, h19, h⟩ := bsome h
    obtain ⟨x20, h21, h⟩ := bsome h
    obtain ⟨x22, h23, h⟩ := bsome h
    obtain ⟨x24, h25, h⟩ := bsome h
    have hE := Option.some.inj h; subst hE
    exact ot_rt (e2 := [.own true (List.map D.int x16), .val (D.int count_), .no]) (fRet_ok (x_op (p := D.int ((x22 % 2147483629) / 64)) (q := D.int count_) (e1 := [.own true (List.map D.int x16), .val (D.int count_), .no]) (e2 := [.own true (List.map D.int x16), .val (D.int count_), .no]) (x_op (p := D.int (x22 % 2147483629)) (q := D.int 64) (e1 := [.own true (List.map D.int x16), .val (D.int count_), .no]) (e2 := [.own true (List.map D.int x16), .val (D.int count_), .no]) (x_op (p := D.int x22) (q := D.int 2147483629) (e1 := [.own true (List.map D.int x16), .val (D.int count_), .no]) (e2 := [.own true (List.map D.int x16), .val (D.int count_), .no]) (x_op (p := D.int x18) (q := D.int x20) (e1 := [.own true (List.map D.int x16), .val (D.int count_), .no]) (e2 := [.own true (List.map D.int x16), .val (D.int count_), .no]) (x_getA (r := true) (xs := x16) (F := D.int) rfl rfl h19) (x_getA (r := true) (xs := x16) (F := D.int) rfl rfl h21) (o_mul h23)) rfl (dMod_eq (by decide))) rfl (dDiv_eq (by decide) (by decide))) rfl (o_mod h25))) ⟨rfl, rfl⟩
noncomputable def p__law_step (pool_here_ : (List Int)) (most_ : Int) : Option (Stp × (List Int)) := (p__law_take pool_here_ 5).bind fun x2 => (if (decide (x2.1 < 2)) = true then (p__law_take x2.2 9).bind fun x6 => some ((true, x6.1 - 3), x6.2) else (p__law_take x2.2 most_).bind fun x9 => some ((false, 1 + x9.1), x9.2))
theorem t__law_step (pool_here_ : (List Int)) (most_ : Int) {r : (Stp × (List Int))} (h : p__law_step pool_here_ most_ = some r) : R__law_step [.own true (List.map D.int pool_here_), .val (D.int most_)] = .ok (stD r.1) [.own true (List.map D.int r.2), .no] := by
  unfold p__law_step at h
  refine run_Ot (n := 2) (m := 2) (P := fun _ _ => False) (dD := fun (r : (Stp × (List Int))) => stD r.1) (os := fun (r : (Stp × (List Int))) => [.own true (List.map D.int r.2), .no]) (r := r) ?_ rfl (by decide)
  change Ot g__law_step [.own true (List.map D.int pool_here_), .val (D.int most_)] (fun (_ : Unit) _ => False) (fun (r : (Stp × (List Int))) => Fl.rt (stD r.1)) (Fin 2 2 (fun (r : (Stp × (List Int))) => [.own true (List.map D.int r.2), .no])) (.rt r)
  unfold g__law_step
  obtain ⟨x2, h3, h⟩ := bsome h
  have k1 := t__law_take pool_here_ 5 h3
  by_cases c4 : (decide (x2.1 < 2)) = true
  · rw [if_pos c4] at h
    refine ot_seq_rt (P' := fun (_ : Unit) _ => False) (.inl ⟨_, rfl⟩) (ot_if_t (fB_ok (x_op (p := D.int x2.1) (q := D.int 2) (e1 := [.own true (List.map D.int x2.2), .val (D.int most_)]) (e2 := [.own true (List.map D.int x2.2), .val (D.int most_)]) (x_call (e2 := [.own true (List.map D.int x2.2), .val (D.int most_)]) (rO_ok rfl (rD_ok (x := D.int 5) (e1 := [.own true (List.map D.int pool_here_), .val (D.int most_)]) rfl rNil_eq) ⟨_, _, rfl⟩) rfl k1 rfl) rfl rfl)) c4 ?_)
    obtain ⟨x6, h7, h⟩ := bsome h
    have k5 := t__law_take x2.2 9 h7
    have hE := Option.some.inj h; subst hE
    exact ot_rt (e2 := [.own true (List.map D.int x6.2), .val (D.int most_)]) (fRet_ok (fTup_ok (fCons_ok (x := D.str ("insert" : Str)) (e1 := [.own true (List.map D.int x2.2), .val (D.int most_)]) rfl (fCons_ok (x := D.int (x6.1 - 3)) (e1 := [.own true (List.map D.int x6.2), .val (D.int most_)]) (x_op (p := D.int x6.1) (q := D.int 3) (e1 := [.own true (List.map D.int x6.2), .val (D.int most_)]) (e2 := [.own true (List.map D.int x6.2), .val (D.int most_)]) (x_call (e2 := [.own true (List.map D.int x6.2), .val (D.int most_)]) (rO_ok rfl (rD_ok (x := D.int 9) (e1 := [.own true (List.map D.int x2.2), .val (D.int most_)]) rfl rNil_eq) ⟨_, _, rfl⟩) rfl k5 rfl) rfl rfl) fNil_eq)) (by show (2 : Nat) ≤ 16777216; decide))) ⟨rfl, rfl⟩
  · rw [if_neg c4] at h
    refine ot_seq (e1 := [.own true (List.map D.int x2.2), .val (D.int most_)]) (fIf_n (fB_ok (x_op (p := D.int x2.1) (q := D.int 2) (e1 := [.own true (List.map D.int x2.2), .val (D.int most_)]) (e2 := [.own true (List.map D.int x2.2), .val (D.int most_)]) (x_call (e2 := [.own true (List.map D.int x2.2), .val (D.int most_)]) (rO_ok rfl (rD_ok (x := D.int 5) (e1 := [.own true (List.map D.int pool_here_), .val (D.int most_)]) rfl rNil_eq) ⟨_, _, rfl⟩) rfl k1 rfl) rfl rfl)) c4 rfl) ?_
    obtain ⟨x9, h10, h⟩ := bsome h
    have k8 := t__law_take x2.2 most_ h10
    have hE := Option.some.inj h; subst hE
    exact ot_rt (e2 := [.own true (List.map D.int x9.2), .val (D.int most_)]) (fRet_ok (fTup_ok (fCons_ok (x := D.str ("remove" : Str)) (e1 := [.own true (List.map D.int x2.2), .val (D.int most_)]) rfl (fCons_ok (x := D.int (1 + x9.1)) (e1 := [.own true (List.map D.int x9.2), .val (D.int most_)]) (x_op (p := D.int 1) (q := D.int x9.1) (e1 := [.own true (List.map D.int x2.2), .val (D.int most_)]) (e2 := [.own true (List.map D.int x9.2), .val (D.int most_)]) rfl (x_call (e2 := [.own true (List.map D.int x9.2), .val (D.int most_)]) (rO_ok rfl (rD_ok (x := D.int most_) (e1 := [.own true (List.map D.int x2.2), .val (D.int most_)]) rfl rNil_eq) ⟨_, _, rfl⟩) rfl k8 rfl) rfl) fNil_eq)) (by show (2 : Nat) ≤ 16777216; decide))) ⟨rfl, rfl⟩
noncomputable def p__law_steps (pool_here_ : (List Int)) (many_ : Int) (most_ : Int) : Option ((List Stp) × (List Int)) := (p__law_take pool_here_ (many_ + 1)).bind fun x2 => (lcH (fun y4 (s8 : (List Int)) => (p__law_step s8 most_).bind fun x10 => some (x10.1, x10.2)) (rngP 0 x2.1) x2.2).bind fun x12 => some (x12.1, x12.2)
theorem t__law_steps (pool_here_ : (List Int)) (many_ : Int) (most_ : Int) {r : ((List Stp) × (List Int))} (h : p__law_steps pool_here_ many_ most_ = some r) : R__law_steps [.own true (List.map D.int pool_here_), .val (D.int many_), .val (D.int most_)] = .ok (D.lst (List.map stD r.1)) [.own true (List.map D.int r.2), .no, .no] := by
  unfold p__law_steps at h
  refine run_Ot (n := 3) (m := 4) (P := fun _ _ => False) (dD := fun (r : ((List Stp) × (List Int))) => D.lst (List.map stD r.1)) (os := fun (r : ((List Stp) × (List Int))) => [.own true (List.map D.int r.2), .no, .no]) (r := r) ?_ rfl (by decide)
  change Ot g__law_steps [.own true (List.map D.int pool_here_), .val (D.int many_), .val (D.int most_), .no] (fun (_ : Unit) _ => False) (fun (r : ((List Stp) × (List Int))) => Fl.rt (D.lst (List.map stD r.1))) (Fin 3 4 (fun (r : ((List Stp) × (List Int))) => [.own true (List.map D.int r.2), .no, .no])) (.rt r)
  unfold g__law_steps
  obtain ⟨x2, h3, h⟩ := bsome h
  have k1 := t__law_take pool_here_ (many_ + 1) h3
  obtain ⟨x12, h13, h⟩ := bsome h
  have hE := Option.some.inj h; subst hE
  exact ot_rt (e2 := [.own true (List.map D.int x12.2), .val (D.int many_), .val (D.int most_), .no]) (fRet_ok (fL_ok (fLc_S (enc := D.int) (encB := stD) (E := fun s8 => [.own true (List.map D.int s8), .val (D.int many_), .val (D.int most_), .no]) h13 (x_rng1 (x_call (e2 := [.own true (List.map D.int x2.2), .val (D.int many_), .val (D.int most_), .no]) (rO_ok rfl (rD_ok (x := D.int (many_ + 1)) (e1 := [.own true (List.map D.int pool_here_), .val (D.int many_), .val (D.int most_), .no]) rfl rNil_eq) ⟨_, _, rfl⟩) rfl k1 rfl)) rfl rfl (fun y4 s8 r14 h => by (obtain ⟨x10, h11, h⟩ := bsome h; have k9 := t__law_step s8 most_ h11; have hE := Option.some.inj h; subst hE; exact ⟨[.own true (List.map D.int s8), .val (D.int many_), .val (D.int most_), .val (D.int y4)], [.own true (List.map D.int x10.2), .val (D.int many_), .val (D.int most_), .val (D.int y4)], rfl, rfl, x_call (e2 := [.own true (List.map D.int x10.2), .val (D.int many_), .val (D.int most_), .val (D.int y4)]) (rO_ok rfl (rD_ok (x := D.int most_) (e1 := [.own true (List.map D.int s8), .val (D.int many_), .val (D.int most_), .val (D.int y4)]) rfl rNil_eq) ⟨_, _, rfl⟩) rfl k9 rfl, rfl, rfl⟩))))) ⟨rfl, rfl⟩
theorem t_is_integer (value_ : Int) {r : Bool} (h : p_is_integer value_ = some r) : R_is_integer [.val (D.int value_)] = .ok (D.bl r) [.no] := by
  unfold p_is_integer at h
  refine run_Ot (n := 1) (m := 1) (P := fun _ _ => False) (dD := fun (r : Bool) => D.bl r) (os := fun (r : Bool) => [.no]) (r := r) ?_ rfl (by decide)
  change Ot g_is_integer [.val (D.int value_)] (fun (_ : Unit) _ => False) (fun (r : Bool) => Fl.rt (D.bl r)) (Fin 1 1 (fun (r : Bool) => [.no])) (.rt r)
  unfold g_is_integer
  have hE := Option.some.inj h; subst hE
  exact ot_rt (e2 := [.val (D.int value_)]) (fRet_ok (fAndV_ok rfl rfl)) ⟨rfl, rfl⟩
theorem t_is_rank (value_ : Int) {r : Bool} (h : p_is_rank value_ = some r) : R_is_rank [.val (D.int value_)] = .ok (D.bl r) [.no] := by
  unfold p_is_rank at h
  refine run_Ot (n := 1) (m := 1) (P := fun _ _ => False) (dD := fun (r : Bool) => D.bl r) (os := fun (r : Bool) => [.no]) (r := r) ?_ rfl (by decide)
  change Ot g_is_rank [.val (D.int value_)] (fun (_ : Unit) _ => False) (fun (r : Bool) => Fl.rt (D.bl r)) (Fin 1 1 (fun (r : Bool) => [.no])) (.rt r)
  unfold g_is_rank
  obtain ⟨x2, h3, h⟩ := bsome h
  have k1 := t_is_integer value_ h3
  have hE := Option.some.inj h; subst hE
  exact ot_rt (e2 := [.val (D.int value_)]) (fRet_ok (fAndV_ok (x_call (e2 := [.val (D.int value_)]) (rD_ok (x := D.int value_) (e1 := [.val (D.int value_)]) rfl rNil_eq) rfl k1 (putO_id rfl)) rfl)) ⟨rfl, rfl⟩
theorem t_Sequence_is_step (value_ : Stp) {r : Bool} (h : p_Sequence_is_step value_ = some r) : R_Sequence_is_step [.val (stD value_)] = .ok (D.bl r) [.no] := by
  unfold p_Sequence_is_step at h
  refine run_Ot (n := 1) (m := 1) (P := fun _ _ => False) (dD := fun (r : Bool) => D.bl r) (os := fun (r : Bool) => [.no]) (r := r) ?_ rfl (by decide)
  change Ot g_Sequence_is_step [.val (stD value_)] (fun (_ : Unit) _ => False) (fun (r : Bool) => Fl.rt (D.bl r)) (Fin 1 1 (fun (r : Bool) => [.no])) (.rt r)
  unfold g_Sequence_is_step
  by_cases c1 : ((!true) || ((!decide (2 = 2)) || (!true))) = true
  · rw [if_pos c1] at h
    refine ot_seq_rt (P' := fun (_ : Unit) _ => False) (.inl ⟨_, rfl⟩) (ot_if_t (fOr_ok rfl (fOr_ok (fB_ok (x_op (p := D.int 2) (q := D.int 2) (e1 := [.val (stD value_)]) (e2 := [.val (stD value_)]) (x_d1 (p := stD value_) rfl rfl) rfl (o_ne (F := D.int) PE.int (a := 2) (b := 2)))) rfl)) c1 ?_)
    have hE := Option.some.inj h; subst hE
    exact ot_rt (e2 := [.val (stD value_)]) (fRet_ok rfl) ⟨rfl, rfl⟩
  · rw [if_neg c1] at h
    refine ot_seq (e1 := [.val (stD value_)]) (fIf_n (fOr_ok rfl (fOr_ok (fB_ok (x_op (p := D.int 2) (q := D.int 2) (e1 := [.val (stD value_)]) (e2 := [.val (stD value_)]) (x_d1 (p := stD value_) rfl rfl) rfl (o_ne (F := D.int) PE.int (a := 2) (b := 2)))) rfl)) c1 rfl) ?_
    by_cases c2 : value_.1 = true
    · rw [if_pos c2] at h
      refine ot_seq_rt (P' := fun (_ : Unit) _ => False) (.inl ⟨_, rfl⟩) (ot_if_t (fB_ok (x_op (p := D.str (wd value_.1)) (q := D.str ("insert" : Str)) (e1 := [.val (stD value_)]) (e2 := [.val (stD value_)]) rfl rfl o_wdI)) c2 ?_)
      obtain ⟨x4, h5, h⟩ := bsome h
      have k3 := t_is_integer value_.2 h5
      have hE := Option.some.inj h; subst hE
      exact ot_rt (e2 := [.val (stD value_)]) (fRet_ok (x_call (e2 := [.val (stD value_)]) (rD_ok (x := D.int value_.2) (e1 := [.val (stD value_)]) rfl rNil_eq) rfl k3 (putO_id rfl))) ⟨rfl, rfl⟩
    · rw [if_neg c2] at h
      refine ot_seq (e1 := [.val (stD value_)]) (fIf_n (fB_ok (x_op (p := D.str (wd value_.1)) (q := D.str ("insert" : Str)) (e1 := [.val (stD value_)]) (e2 := [.val (stD value_)]) rfl rfl o_wdI)) c2 rfl) ?_
      obtain ⟨x10, h11, h⟩ := bsome h
      have hE := Option.some.inj h; subst hE
      exact ot_rt (e2 := [.val (stD value_)]) (fRet_ok (x_andV (p := (!value_.1)) (x_op (p := D.str (wd value_.1)) (q := D.str ("remove" : Str)) (e1 := [.val (stD value_)]) (e2 := [.val (stD value_)]) rfl rfl o_wdR) (fun c9 => by (have h := h11; rw [if_pos c9] at h; obtain ⟨x7, h8, h⟩ := bsome h; have k6 := t_is_rank value_.2 h8; have hE := Option.some.inj h; subst hE; exact x_call (e2 := [.val (stD value_)]) (rD_ok (x := D.int value_.2) (e1 := [.val (stD value_)]) rfl rNil_eq) rfl k6 (putO_id rfl))) (fun c9 => by (have h := h11; rw [if_neg (show ¬ ((!value_.1) = true) from fun z => Bool.false_ne_true (Eq.trans (Eq.symm c9) z))] at h; exact (Option.some.inj h).symm)))) ⟨rfl, rfl⟩
theorem t_check_steps (steps_ : (List Stp)) {r : Unit} (h : p_check_steps steps_ = some r) : R_check_steps [.val (D.tup (List.map stD steps_))] = .ok .non [.no] := by
  unfold p_check_steps at h
  refine runX_Ot (n := 1) (m := 2) (os := fun (r : Unit) => [.no]) (s := r) ?_ rfl (by decide)
  change Ot (R := Unit) g_check_steps [.val (D.tup (List.map stD steps_)), .no] (fun (r : Unit) e => Fin 1 2 (fun (r : Unit) => [.no]) r e) (fun _ => .rt .non) (fun _ _ => True) (.nx r)
  unfold g_check_steps
  obtain ⟨s3, h4, h⟩ := bsome h
  have hE := Option.some.inj h; subst hE
  refine ⟨[.val (D.tup (List.map stD steps_)), .no], ?_, ⟨rfl, rfl⟩⟩
  refine fWk_ok (e1 := [.val (D.tup (List.map stD steps_)), .no]) (fFor_S (enc := stD) (E := fun (s2 : Unit) => [.val (D.tup (List.map stD steps_)), .no]) h4 (x_wT (F := stD) rfl) (fun y1 s2 s9 h => ?_)) rfl
  refine ⟨[.val (D.tup (List.map stD steps_)), .val (stD y1)], rfl, nx_wk ?_⟩
  obtain ⟨x6, h7, h⟩ := bsome h
  have k5 := t_Sequence_is_step y1 h7
  by_cases c8 : (!x6) = true
  · rw [if_pos c8] at h
    refine ot_if_t (fNot_ok (fB_ok (x_call (e2 := [.val (D.tup (List.map stD steps_)), .val (stD y1)]) (rD_ok (x := stD y1) (e1 := [.val (D.tup (List.map stD steps_)), .val (stD y1)]) rfl rNil_eq) rfl k5 (putO_id rfl)))) c8 ?_
    cases h
  · rw [if_neg c8] at h
    refine ot_if_f (fNot_ok (fB_ok (x_call (e2 := [.val (D.tup (List.map stD steps_)), .val (stD y1)]) (rD_ok (x := stD y1) (e1 := [.val (D.tup (List.map stD steps_)), .val (stD y1)]) rfl rNil_eq) rfl k5 (putO_id rfl)))) c8 ?_
    have hE := Option.some.inj h; subst hE
    exact ⟨_, rfl, rfl⟩
theorem t_Sequence___init__ (steps_ : (List Stp)) {r : (List Stp)} (h : p_Sequence___init__ steps_ = some r) : R_Sequence___init__ (.oin true "Sequence" [] [] :: (List.map stD steps_).map Sl.val) = .ok .non (.oin true "Sequence" ["parts"] [D.tup (List.map stD r)] :: List.replicate (List.map stD steps_).length .no) := by
  unfold p_Sequence___init__ at h
  obtain ⟨z, hz, h⟩ := bsome h
  unfold lstP at hz
  split at hz
  case isFalse => cases hz
  rename_i hl
  cases hz
  refine runS_ini (by rw [List.length_map]; exact hl) ?_
  refine runX_Ot (n := 2) (m := 2) (os := fun (r : (List Stp)) => [.oin true "Sequence" ["parts"] [D.tup (List.map stD r)], .no]) (s := r) ?_ rfl (by decide)
  change Ot (R := Unit) g_Sequence___init__ [.oin true "Sequence" [] [], .val (D.tup (List.map stD steps_))] (fun (r : (List Stp)) e => Fin 2 2 (fun (r : (List Stp)) => [.oin true "Sequence" ["parts"] [D.tup (List.map stD r)], .no]) r e) (fun _ => .rt .non) (fun _ _ => True) (.nx r)
  unfold g_Sequence___init__
  obtain ⟨x2, h3, h⟩ := bsome h
  have k1 := t_check_steps steps_ h3
  refine ot_seq (e1 := [.oin true "Sequence" [] [], .val (D.tup (List.map stD steps_))]) (fDrop_ok (x_call (e2 := [.oin true "Sequence" [] [], .val (D.tup (List.map stD steps_))]) (rD_ok (x := D.tup (List.map stD steps_)) (e1 := [.oin true "Sequence" [] [], .val (D.tup (List.map stD steps_))]) rfl rNil_eq) rfl k1 (putO_id rfl))) ?_
  have hE := Option.some.inj h; subst hE
  refine ⟨[.oin true "Sequence" ["parts"] [D.tup (List.map stD steps_)], .val (D.tup (List.map stD steps_))], ?_, ⟨rfl, rfl⟩⟩
  exact x_fldS (d := D.tup (List.map stD steps_)) (e1 := [.oin true "Sequence" [] [], .val (D.tup (List.map stD steps_))]) rfl rfl
theorem t_Sequence___add__ (self_ : (List Stp)) (other_ : (List Stp)) {r : (List Stp)} (h : p_Sequence___add__ self_ other_ = some r) : R_Sequence___add__ [.val (sqD self_), .val (sqD other_)] = .ok (sqD r) [.no, .no] := by
  unfold p_Sequence___add__ at h
  refine run_Ot (n := 2) (m := 2) (P := fun _ _ => False) (dD := fun (r : (List Stp)) => sqD r) (os := fun (r : (List Stp)) => [.no, .no]) (r := r) ?_ rfl (by decide)
  change Ot g_Sequence___add__ [.val (sqD self_), .val (sqD other_)] (fun (_ : Unit) _ => False) (fun (r : (List Stp)) => Fl.rt (sqD r)) (Fin 2 2 (fun (r : (List Stp)) => [.no, .no])) (.rt r)
  unfold g_Sequence___add__
  obtain ⟨x2, h3, h⟩ := bsome h
  have k1 := t_Sequence___init__ (self_ ++ other_) h3
  have hE := Option.some.inj h; subst hE
  exact ot_rt (e2 := [.val (sqD self_), .val (sqD other_)]) (fRet_ok (x_make (x_star (F := stD) (xs := self_) (e1 := [.val (sqD self_), .val (sqD other_)]) (x_iT rfl) (x_star0 (F := stD) (xs := other_) (e1 := [.val (sqD self_), .val (sqD other_)]) (x_iT rfl) fNil_eq)) ⟨_, _, _, _, rfl, k1⟩)) ⟨rfl, rfl⟩
theorem t__law_sequence (steps_here_ : (List Stp)) {r : (List Stp)} (h : p__law_sequence steps_here_ = some r) : R__law_sequence [.val (D.lst (List.map stD steps_here_))] = .ok (sqD r) [.no] := by
  unfold p__law_sequence at h
  refine run_Ot (n := 1) (m := 3) (P := fun _ _ => False) (dD := fun (r : (List Stp)) => sqD r) (os := fun (r : (List Stp)) => [.no]) (r := r) ?_ rfl (by decide)
  change Ot g__law_sequence [.val (D.lst (List.map stD steps_here_)), .no, .no] (fun (_ : Unit) _ => False) (fun (r : (List Stp)) => Fl.rt (sqD r)) (Fin 1 3 (fun (r : (List Stp)) => [.no])) (.rt r)
  unfold g__law_sequence
  obtain ⟨x2, h3, h⟩ := bsome h
  have k1 := t_Sequence___init__ ([] : List Stp) h3
  refine ot_seq (e1 := [.val (D.lst (List.map stD steps_here_)), .val (sqD x2), .no]) (fSetT_ok (x := sqD x2) (u := ()) (e1 := [.val (D.lst (List.map stD steps_here_)), .no, .no]) (x_make x_nil ⟨_, _, _, _, rfl, k1⟩) rfl) ?_
  obtain ⟨s6, h7, h⟩ := bsome h
  refine ot_seq (e1 := [.val (D.lst (List.map stD steps_here_)), .val (sqD s6), .no]) ?_ ?_
  · refine fWk_ok (e1 := [.val (D.lst (List.map stD steps_here_)), .val (sqD s6), .no]) (fFor_S (enc := stD) (E := fun (s5 : (List Stp)) => [.val (D.lst (List.map stD steps_here_)), .val (sqD s5), .no]) h7 (x_wL (F := stD) rfl) (fun y4 s5 s14 h => ?_)) rfl
    refine ⟨[.val (D.lst (List.map stD steps_here_)), .val (sqD s5), .val (stD y4)], rfl, nx_wk ?_⟩
    obtain ⟨x9, h10, h⟩ := bsome h
    have k8 := t_Sequence___init__ (y4 :: ([] : List Stp)) h10
    obtain ⟨x12, h13, h⟩ := bsome h
    have k11 := t_Sequence___add__ s5 x9 h13
    have hE := Option.some.inj h; subst hE
    refine ⟨[.val (D.lst (List.map stD steps_here_)), .val (sqD x12), .val (stD y4)], ?_, rfl⟩
    exact fSetT_ok (x := sqD x12) (u := ()) (e1 := [.val (D.lst (List.map stD steps_here_)), .val (sqD s5), .val (stD y4)]) (x_own rfl (x_make (x_cons (F := stD) (x := y4) (e1 := [.val (D.lst (List.map stD steps_here_)), .val (sqD s5), .val (stD y4)]) rfl (x_nil (F := stD))) ⟨_, _, _, _, rfl, k8⟩) k11) rfl
  · have hE := Option.some.inj h; subst hE
    exact ot_rt (e2 := [.val (D.lst (List.map stD steps_here_)), .val (sqD s6), .no]) (fRet_ok rfl) ⟨rfl, rfl⟩
theorem t_Sequence___eq__ (self_ : (List Stp)) (other_ : (List Stp)) {r : Bool} (h : p_Sequence___eq__ self_ other_ = some r) : R_Sequence___eq__ [.val (sqD self_), .val (sqD other_)] = .ok (D.bl r) [.no, .no] := by
  unfold p_Sequence___eq__ at h
  refine run_Ot (n := 2) (m := 2) (P := fun _ _ => False) (dD := fun (r : Bool) => D.bl r) (os := fun (r : Bool) => [.no, .no]) (r := r) ?_ rfl (by decide)
  change Ot g_Sequence___eq__ [.val (sqD self_), .val (sqD other_)] (fun (_ : Unit) _ => False) (fun (r : Bool) => Fl.rt (D.bl r)) (Fin 2 2 (fun (r : Bool) => [.no, .no])) (.rt r)
  unfold g_Sequence___eq__
  have hE := Option.some.inj h; subst hE
  exact ot_rt (e2 := [.val (sqD self_), .val (sqD other_)]) (fRet_ok (fAndV_ok rfl (x_op (p := D.tup (List.map stD self_)) (q := D.tup (List.map stD other_)) (e1 := [.val (sqD self_), .val (sqD other_)]) (e2 := [.val (sqD self_), .val (sqD other_)]) rfl rfl (o_eq (F := (eT stD)) (PE.tupl PE.step) (a := self_) (b := other_))))) ⟨rfl, rfl⟩
noncomputable def p_Sequence___len__ (self_ : (List Stp)) : Option Int := some (self_.length : Int)
theorem t_Sequence___len__ (self_ : (List Stp)) {r : Int} (h : p_Sequence___len__ self_ = some r) : R_Sequence___len__ [.val (sqD self_)] = .ok (D.int r) [.no] := by
  unfold p_Sequence___len__ at h
  refine run_Ot (n := 1) (m := 1) (P := fun _ _ => False) (dD := fun (r : Int) => D.int r) (os := fun (r : Int) => [.no]) (r := r) ?_ rfl (by decide)
  change Ot g_Sequence___len__ [.val (sqD self_)] (fun (_ : Unit) _ => False) (fun (r : Int) => Fl.rt (D.int r)) (Fin 1 1 (fun (r : Int) => [.no])) (.rt r)
  unfold g_Sequence___len__
  have hE := Option.some.inj h; subst hE
  exact ot_rt (e2 := [.val (sqD self_)]) (fRet_ok (x_d1 (p := D.tup (List.map stD self_)) rfl l_tup)) ⟨rfl, rfl⟩
theorem t_Sequence_steps (self_ : (List Stp)) {r : (List Stp)} (h : p_Sequence_steps self_ = some r) : R_Sequence_steps [.val (sqD self_)] = .ok (D.tup (List.map stD r)) [.no] := by
  unfold p_Sequence_steps at h
  refine run_Ot (n := 1) (m := 1) (P := fun _ _ => False) (dD := fun (r : (List Stp)) => D.tup (List.map stD r)) (os := fun (r : (List Stp)) => [.no]) (r := r) ?_ rfl (by decide)
  change Ot g_Sequence_steps [.val (sqD self_)] (fun (_ : Unit) _ => False) (fun (r : (List Stp)) => Fl.rt (D.tup (List.map stD r))) (Fin 1 1 (fun (r : (List Stp)) => [.no])) (.rt r)
  unfold g_Sequence_steps
  have hE := Option.some.inj h; subst hE
  exact ot_rt (e2 := [.val (sqD self_)]) (fRet_ok rfl) ⟨rfl, rfl⟩
theorem t_is_count (value_ : Int) {r : Bool} (h : p_is_count value_ = some r) : R_is_count [.val (D.int value_)] = .ok (D.bl r) [.no] := by
  unfold p_is_count at h
  refine run_Ot (n := 1) (m := 1) (P := fun _ _ => False) (dD := fun (r : Bool) => D.bl r) (os := fun (r : Bool) => [.no]) (r := r) ?_ rfl (by decide)
  change Ot g_is_count [.val (D.int value_)] (fun (_ : Unit) _ => False) (fun (r : Bool) => Fl.rt (D.bl r)) (Fin 1 1 (fun (r : Bool) => [.no])) (.rt r)
  unfold g_is_count
  obtain ⟨x2, h3, h⟩ := bsome h
  have k1 := t_is_integer value_ h3
  have hE := Option.some.inj h; subst hE
  exact ot_rt (e2 := [.val (D.int value_)]) (fRet_ok (fAndV_ok (x_call (e2 := [.val (D.int value_)]) (rD_ok (x := D.int value_) (e1 := [.val (D.int value_)]) rfl rNil_eq) rfl k1 (putO_id rfl)) rfl)) ⟨rfl, rfl⟩
noncomputable def p_exchanged_pair (first_ : Stp) (second_ : Stp) : Option (Option (Stp × Stp)) := (if (!decide (first_.1 = second_.1)) = true then some none else (if first_.1 = true then some (some (second_, first_)) else (if (decide (first_.2 ≤ second_.2)) = true then some (some ((false, second_.2 + 1), first_)) else some (some (second_, (false, first_.2 - 1))))))
theorem t_exchanged_pair (first_ : Stp) (second_ : Stp) {r : (Option (Stp × Stp))} (h : p_exchanged_pair first_ second_ = some r) : R_exchanged_pair [.val (stD first_), .val (stD second_)] = .ok ((eO (eP stD stD)) r) [.no, .no] := by
  unfold p_exchanged_pair at h
  refine run_Ot (n := 2) (m := 2) (P := fun _ _ => False) (dD := fun (r : (Option (Stp × Stp))) => (eO (eP stD stD)) r) (os := fun (r : (Option (Stp × Stp))) => [.no, .no]) (r := r) ?_ rfl (by decide)
  change Ot g_exchanged_pair [.val (stD first_), .val (stD second_)] (fun (_ : Unit) _ => False) (fun (r : (Option (Stp × Stp))) => Fl.rt ((eO (eP stD stD)) r)) (Fin 2 2 (fun (r : (Option (Stp × Stp))) => [.no, .no])) (.rt r)
  unfold g_exchanged_pair
  by_cases c1 : (!decide (first_.1 = second_.1)) = true
  · rw [if_pos c1] at h
    refine ot_seq_rt (P' := fun (_ : Unit) _ => False) (.inl ⟨_, rfl⟩) (ot_if_t (fB_ok (x_op (p := D.str (wd first_.1)) (q := D.str (wd second_.1)) (e1 := [.val (stD first_), .val (stD second_)]) (e2 := [.val (stD first_), .val (stD second_)]) rfl rfl (o_ne (F := fun b => D.str (wd b)) PE.word (a := first_.1) (b := second_.1)))) c1 ?_)
    have hE := Option.some.inj h; subst hE
    exact ot_rt (e2 := [.val (stD first_), .val (stD second_)]) (fRet_ok rfl) ⟨rfl, rfl⟩
  · rw [if_neg c1] at h
    refine ot_seq (e1 := [.val (stD first_), .val (stD second_)]) (fIf_n (fB_ok (x_op (p := D.str (wd first_.1)) (q := D.str (wd second_.1)) (e1 := [.val (stD first_), .val (stD second_)]) (e2 := [.val (stD first_), .val (stD second_)]) rfl rfl (o_ne (F := fun b => D.str (wd b)) PE.word (a := first_.1) (b := second_.1)))) c1 rfl) ?_
    by_cases c2 : first_.1 = true
    · rw [if_pos c2] at h
      refine ot_seq_rt (P' := fun (_ : Unit) _ => False) (.inl ⟨_, rfl⟩) (ot_if_t (fB_ok (x_op (p := D.str (wd first_.1)) (q := D.str ("insert" : Str)) (e1 := [.val (stD first_), .val (stD second_)]) (e2 := [.val (stD first_), .val (stD second_)]) rfl rfl o_wdI)) c2 ?_)
      have hE := Option.some.inj h; subst hE
      exact ot_rt (e2 := [.val (stD first_), .val (stD second_)]) (fRet_ok rfl) ⟨rfl, rfl⟩
    · rw [if_neg c2] at h
      refine ot_seq (e1 := [.val (stD first_), .val (stD second_)]) (fIf_n (fB_ok (x_op (p := D.str (wd first_.1)) (q := D.str ("insert" : Str)) (e1 := [.val (stD first_), .val (stD second_)]) (e2 := [.val (stD first_), .val (stD second_)]) rfl rfl o_wdI)) c2 rfl) ?_
      by_cases c3 : (decide (first_.2 ≤ second_.2)) = true
      · rw [if_pos c3] at h
        refine ot_seq_rt (P' := fun (_ : Unit) _ => False) (.inl ⟨_, rfl⟩) (ot_if_t rfl c3 ?_)
        have hE := Option.some.inj h; subst hE
        exact ot_rt (e2 := [.val (stD first_), .val (stD second_)]) (fRet_ok rfl) ⟨rfl, rfl⟩
      · rw [if_neg c3] at h
        refine ot_seq (e1 := [.val (stD first_), .val (stD second_)]) (fIf_n rfl c3 rfl) ?_
        have hE := Option.some.inj h; subst hE
        exact ot_rt (e2 := [.val (stD first_), .val (stD second_)]) (fRet_ok rfl) ⟨rfl, rfl⟩
noncomputable def p_exchanged (sequence_ : (List Stp)) (index_ : Int) : Option (Option (List Stp)) := (p_Sequence_steps sequence_).bind fun x2 => (p_is_count index_).bind fun x5 => (if ((!x5) || (decide ((x2.length : Int) ≤ (index_ + 1)))) = true then none else (L2.atI x2 index_).bind fun x8 => (L2.atI x2 (index_ + 1)).bind fun x10 => (p_exchanged_pair x8 x10).bind fun x13 => (if x13.isNone = true then some none else (x13).bind fun x16 => (lstP ((cutP x2 none (some index_)) ++ ([x16.1, x16.2] ++ (cutP x2 (some (index_ + 2)) none)))).bind fun x18 => (p_Sequence___init__ x18).bind fun x21 => some (some x21)))
theorem t_exchanged (sequence_ : (List Stp)) (index_ : Int) {r : (Option (List Stp))} (h : p_exchanged sequence_ index_ = some r) : R_exchanged [.val (sqD sequence_), .val (D.int index_)] = .ok ((eO sqD) r) [.no, .no] := by
  unfold p_exchanged at h
  refine run_Ot (n := 2) (m := 4) (P := fun _ _ => False) (dD := fun (r : (Option (List Stp))) => (eO sqD) r) (os := fun (r : (Option (List Stp))) => [.no, .no]) (r := r) ?_ rfl (by decide)
  change Ot g_exchanged [.val (sqD sequence_), .val (D.int index_), .no, .no] (fun (_ : Unit) _ => False) (fun (r : (Option (List Stp))) => Fl.rt ((eO sqD) r)) (Fin 2 4 (fun (r : (Option (List Stp))) => [.no, .no])) (.rt r)
  unfold g_exchanged
  obtain ⟨x2, h3, h⟩ := bsome h
  have k1 := t_Sequence_steps sequence_ h3
  refine ot_seq (e1 := [.val (sqD sequence_), .val (D.int index_), .val (D.tup (List.map stD x2)), .no]) (fSetT_ok (x := D.tup (List.map stD x2)) (u := ()) (e1 := [.val (sqD sequence_), .val (D.int index_), .no, .no]) (x_prop rfl k1) rfl) ?_
  obtain ⟨x5, h6, h⟩ := bsome h
  have k4 := t_is_count index_ h6
  by_cases c7 : ((!x5) || (decide ((x2.length : Int) ≤ (index_ + 1)))) = true
  · rw [if_pos c7] at h
    cases h
  · rw [if_neg c7] at h
    refine ot_seq (e1 := [.val (sqD sequence_), .val (D.int index_), .val (D.tup (List.map stD x2)), .no]) (fIf_n (fOr_ok (fNot_ok (fB_ok (x_call (e2 := [.val (sqD sequence_), .val (D.int index_), .val (D.tup (List.map stD x2)), .no]) (rD_ok (x := D.int index_) (e1 := [.val (sqD sequence_), .val (D.int index_), .val (D.tup (List.map stD x2)), .no]) rfl rNil_eq) rfl k4 (putO_id rfl)))) (fB_ok (x_op (p := D.int (index_ + 1)) (q := D.int (x2.length : Int)) (e1 := [.val (sqD sequence_), .val (D.int index_), .val (D.tup (List.map stD x2)), .no]) (e2 := [.val (sqD sequence_), .val (D.int index_), .val (D.tup (List.map stD x2)), .no]) rfl (x_d1 (p := D.tup (List.map stD x2)) rfl l_tup) rfl))) c7 rfl) ?_
    obtain ⟨x8, h9, h⟩ := bsome h
    obtain ⟨x10, h11, h⟩ := bsome h
    obtain ⟨x13, h14, h⟩ := bsome h
    have k12 := t_exchanged_pair x8 x10 h14
    refine ot_seq (e1 := [.val (sqD sequence_), .val (D.int index_), .val (D.tup (List.map stD x2)), .val ((eO (eP stD stD)) x13)]) (fSetT_ok (x := (eO (eP stD stD)) x13) (u := ()) (e1 := [.val (sqD sequence_), .val (D.int index_), .val (D.tup (List.map stD x2)), .no]) (x_call (e2 := [.val (sqD sequence_), .val (D.int index_), .val (D.tup (List.map stD x2)), .no]) (rD_ok (x := stD x8) (e1 := [.val (sqD sequence_), .val (D.int index_), .val (D.tup (List.map stD x2)), .no]) (x_op (p := D.tup (List.map stD x2)) (q := D.int index_) (e1 := [.val (sqD sequence_), .val (D.int index_), .val (D.tup (List.map stD x2)), .no]) (e2 := [.val (sqD sequence_), .val (D.int index_), .val (D.tup (List.map stD x2)), .no]) rfl rfl (o_atT (F := stD) h9)) (rD_ok (x := stD x10) (e1 := [.val (sqD sequence_), .val (D.int index_), .val (D.tup (List.map stD x2)), .no]) (x_op (p := D.tup (List.map stD x2)) (q := D.int (index_ + 1)) (e1 := [.val (sqD sequence_), .val (D.int index_), .val (D.tup (List.map stD x2)), .no]) (e2 := [.val (sqD sequence_), .val (D.int index_), .val (D.tup (List.map stD x2)), .no]) rfl rfl (o_atT (F := stD) h11)) rNil_eq)) rfl k12 (putO_id rfl)) rfl) ?_
    by_cases c15 : x13.isNone = true
    · rw [if_pos c15] at h
      refine ot_seq_rt (P' := fun (_ : Unit) _ => False) (.inl ⟨_, rfl⟩) (ot_if_t (fB_ok (x_op (p := (eO (eP stD stD)) x13) (q := D.non) (e1 := [.val (sqD sequence_), .val (D.int index_), .val (D.tup (List.map stD x2)), .val ((eO (eP stD stD)) x13)]) (e2 := [.val (sqD sequence_), .val (D.int index_), .val (D.tup (List.map stD x2)), .val ((eO (eP stD stD)) x13)]) rfl rfl o_isN)) c15 ?_)
      have hE := Option.some.inj h; subst hE
      exact ot_rt (e2 := [.val (sqD sequence_), .val (D.int index_), .val (D.tup (List.map stD x2)), .val ((eO (eP stD stD)) x13)]) (fRet_ok rfl) ⟨rfl, rfl⟩
    · rw [if_neg c15] at h
      refine ot_seq (e1 := [.val (sqD sequence_), .val (D.int index_), .val (D.tup (List.map stD x2)), .val ((eO (eP stD stD)) x13)]) (fIf_n (fB_ok (x_op (p := (eO (eP stD stD)) x13) (q := D.non) (e1 := [.val (sqD sequence_), .val (D.int index_), .val (D.tup (List.map stD x2)), .val ((eO (eP stD stD)) x13)]) (e2 := [.val (sqD sequence_), .val (D.int index_), .val (D.tup (List.map stD x2)), .val ((eO (eP stD stD)) x13)]) rfl rfl o_isN)) c15 rfl) ?_
      obtain ⟨x16, h17, h⟩ := bsome h
      obtain ⟨x18, h19, h⟩ := bsome h
      refine ot_seq (e1 := [.val (sqD sequence_), .val (D.int index_), .val (D.lst (List.map stD x18)), .val ((eO (eP stD stD)) x13)]) (fSetT_ok (x := D.lst (List.map stD x18)) (u := ()) (e1 := [.val (sqD sequence_), .val (D.int index_), .val (D.tup (List.map stD x2)), .val ((eO (eP stD stD)) x13)]) (fL_ok (x_lstP (F := stD) h19 (x_star (F := stD) (xs := (cutP x2 none (some index_))) (e1 := [.val (sqD sequence_), .val (D.int index_), .val (D.tup (List.map stD x2)), .val ((eO (eP stD stD)) x13)]) (x_iT (x_slT rfl rfl (x_part rfl))) (x_star (F := stD) (xs := [x16.1, x16.2]) (e1 := [.val (sqD sequence_), .val (D.int index_), .val (D.tup (List.map stD x2)), .val ((eO (eP stD stD)) x13)]) (x_iP (x_some (F := (eP stD stD)) h17 rfl)) (x_star0 (F := stD) (xs := (cutP x2 (some (index_ + 2)) none)) (e1 := [.val (sqD sequence_), .val (D.int index_), .val (D.tup (List.map stD x2)), .val ((eO (eP stD stD)) x13)]) (x_iT (x_slT rfl (x_part rfl) rfl)) fNil_eq))))) rfl) ?_
      obtain ⟨x21, h22, h⟩ := bsome h
      have k20 := t_Sequence___init__ x18 h22
      have hE := Option.some.inj h; subst hE
      exact ot_rt (e2 := [.val (sqD sequence_), .val (D.int index_), .val (D.lst (List.map stD x18)), .val ((eO (eP stD stD)) x13)]) (fRet_ok (x_make (x_iL (F := stD) rfl) ⟨_, _, _, _, rfl, k20⟩)) ⟨rfl, rfl⟩
noncomputable def p__law_reached (sequence_here_ : (List Stp)) : Option (Option (List (List Stp))) := ((whF (R := (Option (List (List Stp)))) (fun (s1 : (List (List Stp)) × (List (List Stp))) => (eqOP p_Sequence___eq__ sqD s1.2 []).bind fun x2 => some (!x2)) (fun (s1 : (List (List Stp)) × (List (List Stp))) => (popP0 s1.2).bind fun x7 => (p_Sequence___len__ x7.1).bind fun x10 => (lenP x10).bind fun x12 => ((forF (R := (Option (List (List Stp)))) (fun y14 (s15 : (List (List Stp)) × (List (List Stp))) => (p_exchanged x7.1 y14).bind fun x19 => (p_Sequence_steps x7.1).bind fun x22 => (L2.atI x22 y14).bind fun x24 => (p_Sequence_steps x7.1).bind fun x27 => (L2.atI x27 (y14 + 1)).bind fun x29 => (if (!decide (x19.isNone = (!decide (x24.1 = x29.1)))) = true then (some none).bind fun q32 => some (Fw.rt q32) else (if x19.isSome = true then (x19).bind fun x34 => (memOP p_Sequence___eq__ sqD s15.1 x34).bind fun x36 => some (!x36) else some false).bind fun x39 => (if x39 = true then (x19).bind fun x42 => (appP s15.1 x42).bind fun x44 => (x19).bind fun x46 => (appP s15.2 x46).bind fun x48 => some (Fw.nx (x44, x48)) else some (Fw.nx (s15.1, s15.2))))) (rngP 0 (x12 - 1)) (s1.1, x7.2)).bind fun w50 => match w50 with | .nx s16 => some (Fw.nx (s16.1, s16.2)) | .rt r53 => some (Fw.rt r53) | .bk _ => none)) 100000 ([sequence_here_], [sequence_here_])).bind fun w54 => match w54 with | .nx s5 => some (some s5.1) | .rt r57 => some r57 | .bk _ => none)
theorem t__law_reached (sequence_here_ : (List Stp)) {r : (Option (List (List Stp)))} (h : p__law_reached sequence_here_ = some r) : R__law_reached [.val (sqD sequence_here_)] = .ok ((eO (eL sqD)) r) [.no] := by
  unfold p__law_reached at h
  refine run_Ot (n := 1) (m := 6) (P := fun _ _ => False) (dD := fun (r : (Option (List (List Stp)))) => (eO (eL sqD)) r) (os := fun (r : (Option (List (List Stp)))) => [.no]) (r := r) ?_ rfl (by decide)
  change Ot g__law_reached [.val (sqD sequence_here_), .no, .no, .no, .no, .no] (fun (_ : Unit) _ => False) (fun (r : (Option (List (List Stp)))) => Fl.rt ((eO (eL sqD)) r)) (Fin 1 6 (fun (r : (Option (List (List Stp)))) => [.no])) (.rt r)
  unfold g__law_reached
  refine ot_seq (e1 := [.val (sqD sequence_here_), .own false (List.map sqD [sequence_here_]), .own false (List.map sqD [sequence_here_]), .no, .no, .no]) (x_parM (e1 := [.val (sqD sequence_here_), .no, .no, .no, .no, .no]) (x_nN (ds := List.map sqD [sequence_here_]) (e1 := [.val (sqD sequence_here_), .no, .no, .no, .no, .no]) (e2 := [.val (sqD sequence_here_), .no, .no, .no, .no, .no]) (e3 := [.val (sqD sequence_here_), .no, .no, .no, .no, .no]) rfl (x_nN (ds := List.map sqD [sequence_here_]) (e1 := [.val (sqD sequence_here_), .no, .no, .no, .no, .no]) (e2 := [.val (sqD sequence_here_), .no, .no, .no, .no, .no]) (e3 := [.val (sqD sequence_here_), .no, .no, .no, .no, .no]) rfl rfl rfl rfl) rfl rfl) rfl) ?_
  obtain ⟨w54, h55, h⟩ := bsome h
  refine ot_seq_w (E' := fun (s1 : (List (List Stp)) × (List (List Stp))) => [.val (sqD sequence_here_), .own false (List.map sqD s1.1), .own false (List.map sqD s1.2), .no, .no, .no]) (w' := w54) (fun _ => .inl ⟨_, rfl⟩) ?_ (fun s5 hw => ?_) (fun _ hw => ?_) (fun _ hw => ?_)
  · refine ot_wk (P := fun s e1 => e1 = (fun (s1 : (List (List Stp)) × (List (List Stp))) => [.val (sqD sequence_here_), .own false (List.map sqD s1.1), .own false (List.map sqD s1.2), .no, .no, .no]) s) (fWhile_F (E := fun (s1 : (List (List Stp)) × (List (List Stp))) => [.val (sqD sequence_here_), .own false (List.map sqD s1.1), .own false (List.map sqD s1.2), .no, .no, .no]) h55 (fun _ => .inl ⟨_, rfl⟩) (fun s1 b4 h => by (obtain ⟨x2, h3, h⟩ := bsome h; have hE := Option.some.inj h; subst hE; exact x_peek (ds := List.map sqD s1.2) rfl (fB_ok (x_op (p := D.lst (List.map sqD s1.2)) (q := D.lst (List.map sqD [])) (e1 := [.val (sqD sequence_here_), .no, .val (D.lst (List.map sqD s1.2)), .no, .no, .no]) (e2 := [.val (sqD sequence_here_), .no, .val (D.lst (List.map sqD s1.2)), .no, .no, .no]) rfl rfl (o_neOL (enc := sqD) (fun _ _ _ h => ⟨_, t_Sequence___eq__ _ _ h⟩) (fun _ => ⟨_, _, rfl⟩) h3))))) (fun s1 w56 h => ?_)) (fun _ _ hq => by rw [hq]; rfl) (fun _ => all_lt rfl)
    refine ot_wkQ ?_ (by first | exact fun _ _ _ => trivial | exact fun _ _ h => h.wk (all_lt rfl))
    obtain ⟨x7, h8, h⟩ := bsome h
    refine ot_seq (e1 := [.val (sqD sequence_here_), .own false (List.map sqD s1.1), .own false (List.map sqD x7.2), .val (sqD x7.1), .no, .no]) (fSetT_ok (x := sqD x7.1) (u := ()) (e1 := [.val (sqD sequence_here_), .own false (List.map sqD s1.1), .own false (List.map sqD x7.2), .no, .no, .no]) (x_pop0 (f := sqD) (xs := s1.2) (e := [.val (sqD sequence_here_), .own false (List.map sqD s1.1), .own false (List.map sqD s1.2), .no, .no, .no]) rfl h8) rfl) ?_
    obtain ⟨x10, h11, h⟩ := bsome h
    have k9 := t_Sequence___len__ x7.1 h11
    obtain ⟨x12, h13, h⟩ := bsome h
    obtain ⟨w50, h51, h⟩ := bsome h
    refine ot_w (E' := fun (s15 : (List (List Stp)) × (List (List Stp))) => [.val (sqD sequence_here_), .own false (List.map sqD s15.1), .own false (List.map sqD s15.2), .val (sqD x7.1), .no, .no]) (w' := w50) ?_ (fun s16 hw => ?_) (fun _ hw => ?_) (fun _ hw => ?_)
    · refine ot_wk (P := fun s e1 => e1 = (fun (s15 : (List (List Stp)) × (List (List Stp))) => [.val (sqD sequence_here_), .own false (List.map sqD s15.1), .own false (List.map sqD s15.2), .val (sqD x7.1), .no, .no]) s) (fFor_F (enc := D.int) (E := fun (s15 : (List (List Stp)) × (List (List Stp))) => [.val (sqD sequence_here_), .own false (List.map sqD s15.1), .own false (List.map sqD s15.2), .val (sqD x7.1), .no, .no]) h51 (x_rng1 (x_op (p := D.int x12) (q := D.int 1) (e1 := [.val (sqD sequence_here_), .own false (List.map sqD s1.1), .own false (List.map sqD x7.2), .val (sqD x7.1), .no, .no]) (e2 := [.val (sqD sequence_here_), .own false (List.map sqD s1.1), .own false (List.map sqD x7.2), .val (sqD x7.1), .no, .no]) (x_lenO rfl k9 h13) rfl rfl)) (fun _ => .inl ⟨_, rfl⟩) (fun y14 s15 w52 h => ?_)) (fun _ _ hq => by rw [hq]; rfl) (fun _ => all_lt rfl)
      refine ⟨[.val (sqD sequence_here_), .own false (List.map sqD s15.1), .own false (List.map sqD s15.2), .val (sqD x7.1), .val (D.int y14), .no], rfl, ot_wkQ ?_ (by first | exact fun _ _ _ => trivial | exact fun _ _ h => h.wk (all_lt rfl))⟩
      obtain ⟨x19, h20, h⟩ := bsome h
      have k18 := t_exchanged x7.1 y14 h20
      refine ot_seq (e1 := [.val (sqD sequence_here_), .own false (List.map sqD s15.1), .own false (List.map sqD s15.2), .val (sqD x7.1), .val (D.int y14), .val ((eO sqD) x19)]) (fSetT_ok (x := (eO sqD) x19) (u := ()) (e1 := [.val (sqD sequence_here_), .own false (List.map sqD s15.1), .own false (List.map sqD s15.2), .val (sqD x7.1), .val (D.int y14), .no]) (x_call (e2 := [.val (sqD sequence_here_), .own false (List.map sqD s15.1), .own false (List.map sqD s15.2), .val (sqD x7.1), .val (D.int y14), .no]) (rD_ok (x := sqD x7.1) (e1 := [.val (sqD sequence_here_), .own false (List.map sqD s15.1), .own false (List.map sqD s15.2), .val (sqD x7.1), .val (D.int y14), .no]) rfl (rD_ok (x := D.int y14) (e1 := [.val (sqD sequence_here_), .own false (List.map sqD s15.1), .own false (List.map sqD s15.2), .val (sqD x7.1), .val (D.int y14), .no]) rfl rNil_eq)) rfl k18 (putO_id rfl)) rfl) ?_
      obtain ⟨x22, h23, h⟩ := bsome h
      have k21 := t_Sequence_steps x7.1 h23
      obtain ⟨x24, h25, h⟩ := bsome h
      obtain ⟨x27, h28, h⟩ := bsome h
      have k26 := t_Sequence_steps x7.1 h28
      obtain ⟨x29, h30, h⟩ := bsome h
      by_cases c31 : (!decide (x19.isNone = (!decide (x24.1 = x29.1)))) = true
      · rw [if_pos c31] at h
        obtain ⟨q32, h33, h⟩ := bsome h
        have hE := Option.some.inj h; subst hE
        have h := h33
        refine ot_seq_rt (P' := fun (_ : Unit) _ => False) (.inl ⟨_, rfl⟩) (ot_if_t (fB_ok (x_op (p := D.bl x19.isNone) (q := D.bl (!decide (x24.1 = x29.1))) (e1 := [.val (sqD sequence_here_), .own false (List.map sqD s15.1), .own false (List.map sqD s15.2), .val (sqD x7.1), .val (D.int y14), .val ((eO sqD) x19)]) (e2 := [.val (sqD sequence_here_), .own false (List.map sqD s15.1), .own false (List.map sqD s15.2), .val (sqD x7.1), .val (D.int y14), .val ((eO sqD) x19)]) (x_op (p := (eO sqD) x19) (q := D.non) (e1 := [.val (sqD sequence_here_), .own false (List.map sqD s15.1), .own false (List.map sqD s15.2), .val (sqD x7.1), .val (D.int y14), .val ((eO sqD) x19)]) (e2 := [.val (sqD sequence_here_), .own false (List.map sqD s15.1), .own false (List.map sqD s15.2), .val (sqD x7.1), .val (D.int y14), .val ((eO sqD) x19)]) rfl rfl o_isN) (x_op (p := D.str (wd x24.1)) (q := D.str (wd x29.1)) (e1 := [.val (sqD sequence_here_), .own false (List.map sqD s15.1), .own false (List.map sqD s15.2), .val (sqD x7.1), .val (D.int y14), .val ((eO sqD) x19)]) (e2 := [.val (sqD sequence_here_), .own false (List.map sqD s15.1), .own false (List.map sqD s15.2), .val (sqD x7.1), .val (D.int y14), .val ((eO sqD) x19)]) (x_op (p := stD x24) (q := D.int 0) (e1 := [.val (sqD sequence_here_), .own false (List.map sqD s15.1), .own false (List.map sqD s15.2), .val (sqD x7.1), .val (D.int y14), .val ((eO sqD) x19)]) (e2 := [.val (sqD sequence_here_), .own false (List.map sqD s15.1), .own false (List.map sqD s15.2), .val (sqD x7.1), .val (D.int y14), .val ((eO sqD) x19)]) (x_op (p := D.tup (List.map stD x22)) (q := D.int y14) (e1 := [.val (sqD sequence_here_), .own false (List.map sqD s15.1), .own false (List.map sqD s15.2), .val (sqD x7.1), .val (D.int y14), .val ((eO sqD) x19)]) (e2 := [.val (sqD sequence_here_), .own false (List.map sqD s15.1), .own false (List.map sqD s15.2), .val (sqD x7.1), .val (D.int y14), .val ((eO sqD) x19)]) (x_prop rfl k21) rfl (o_atT (F := stD) h25)) rfl rfl) (x_op (p := stD x29) (q := D.int 0) (e1 := [.val (sqD sequence_here_), .own false (List.map sqD s15.1), .own false (List.map sqD s15.2), .val (sqD x7.1), .val (D.int y14), .val ((eO sqD) x19)]) (e2 := [.val (sqD sequence_here_), .own false (List.map sqD s15.1), .own false (List.map sqD s15.2), .val (sqD x7.1), .val (D.int y14), .val ((eO sqD) x19)]) (x_op (p := D.tup (List.map stD x27)) (q := D.int (y14 + 1)) (e1 := [.val (sqD sequence_here_), .own false (List.map sqD s15.1), .own false (List.map sqD s15.2), .val (sqD x7.1), .val (D.int y14), .val ((eO sqD) x19)]) (e2 := [.val (sqD sequence_here_), .own false (List.map sqD s15.1), .own false (List.map sqD s15.2), .val (sqD x7.1), .val (D.int y14), .val ((eO sqD) x19)]) (x_prop rfl k26) rfl (o_atT (F := stD) h30)) rfl rfl) (o_ne (F := fun b => D.str (wd b)) PE.word (a := x24.1) (b := x29.1))) (o_ne (F := D.bl) PE.bl (a := x19.isNone) (b := (!decide (x24.1 = x29.1)))))) c31 ?_)
        have hE := Option.some.inj h; subst hE
        exact ot_rt (e2 := [.val (sqD sequence_here_), .own false (List.map sqD s15.1), .own false (List.map sqD s15.2), .val (sqD x7.1), .val (D.int y14), .val ((eO sqD) x19)]) (fRet_ok rfl) ⟨rfl, rfl⟩
      · rw [if_neg c31] at h
        refine ot_seq (e1 := [.val (sqD sequence_here_), .own false (List.map sqD s15.1), .own false (List.map sqD s15.2), .val (sqD x7.1), .val (D.int y14), .val ((eO sqD) x19)]) (fIf_n (fB_ok (x_op (p := D.bl x19.isNone) (q := D.bl (!decide (x24.1 = x29.1))) (e1 := [.val (sqD sequence_here_), .own false (List.map sqD s15.1), .own false (List.map sqD s15.2), .val (sqD x7.1), .val (D.int y14), .val ((eO sqD) x19)]) (e2 := [.val (sqD sequence_here_), .own false (List.map sqD s15.1), .own false (List.map sqD s15.2), .val (sqD x7.1), .val (D.int y14), .val ((eO sqD) x19)]) (x_op (p := (eO sqD) x19) (q := D.non) (e1 := [.val (sqD sequence_here_), .own false (List.map sqD s15.1), .own false (List.map sqD s15.2), .val (sqD x7.1), .val (D.int y14), .val ((eO sqD) x19)]) (e2 := [.val (sqD sequence_here_), .own false (List.map sqD s15.1), .own false (List.map sqD s15.2), .val (sqD x7.1), .val (D.int y14), .val ((eO sqD) x19)]) rfl rfl o_isN) (x_op (p := D.str (wd x24.1)) (q := D.str (wd x29.1)) (e1 := [.val (sqD sequence_here_), .own false (List.map sqD s15.1), .own false (List.map sqD s15.2), .val (sqD x7.1), .val (D.int y14), .val ((eO sqD) x19)]) (e2 := [.val (sqD sequence_here_), .own false (List.map sqD s15.1), .own false (List.map sqD s15.2), .val (sqD x7.1), .val (D.int y14), .val ((eO sqD) x19)]) (x_op (p := stD x24) (q := D.int 0) (e1 := [.val (sqD sequence_here_), .own false (List.map sqD s15.1), .own false (List.map sqD s15.2), .val (sqD x7.1), .val (D.int y14), .val ((eO sqD) x19)]) (e2 := [.val (sqD sequence_here_), .own false (List.map sqD s15.1), .own false (List.map sqD s15.2), .val (sqD x7.1), .val (D.int y14), .val ((eO sqD) x19)]) (x_op (p := D.tup (List.map stD x22)) (q := D.int y14) (e1 := [.val (sqD sequence_here_), .own false (List.map sqD s15.1), .own false (List.map sqD s15.2), .val (sqD x7.1), .val (D.int y14), .val ((eO sqD) x19)]) (e2 := [.val (sqD sequence_here_), .own false (List.map sqD s15.1), .own false (List.map sqD s15.2), .val (sqD x7.1), .val (D.int y14), .val ((eO sqD) x19)]) (x_prop rfl k21) rfl (o_atT (F := stD) h25)) rfl rfl) (x_op (p := stD x29) (q := D.int 0) (e1 := [.val (sqD sequence_here_), .own false (List.map sqD s15.1), .own false (List.map sqD s15.2), .val (sqD x7.1), .val (D.int y14), .val ((eO sqD) x19)]) (e2 := [.val (sqD sequence_here_), .own false (List.map sqD s15.1), .own false (List.map sqD s15.2), .val (sqD x7.1), .val (D.int y14), .val ((eO sqD) x19)]) (x_op (p := D.tup (List.map stD x27)) (q := D.int (y14 + 1)) (e1 := [.val (sqD sequence_here_), .own false (List.map sqD s15.1), .own false (List.map sqD s15.2), .val (sqD x7.1), .val (D.int y14), .val ((eO sqD) x19)]) (e2 := [.val (sqD sequence_here_), .own false (List.map sqD s15.1), .own false (List.map sqD s15.2), .val (sqD x7.1), .val (D.int y14), .val ((eO sqD) x19)]) (x_prop rfl k26) rfl (o_atT (F := stD) h30)) rfl rfl) (o_ne (F := fun b => D.str (wd b)) PE.word (a := x24.1) (b := x29.1))) (o_ne (F := D.bl) PE.bl (a := x19.isNone) (b := (!decide (x24.1 = x29.1)))))) c31 rfl) ?_
        obtain ⟨x39, h40, h⟩ := bsome h
        by_cases c41 : x39 = true
        · rw [if_pos c41] at h
          refine ot_if_t (x_and (q := true) (p := x19.isSome) (fB_ok (x_op (p := (eO sqD) x19) (q := D.non) (e1 := [.val (sqD sequence_here_), .own false (List.map sqD s15.1), .own false (List.map sqD s15.2), .val (sqD x7.1), .val (D.int y14), .val ((eO sqD) x19)]) (e2 := [.val (sqD sequence_here_), .own false (List.map sqD s15.1), .own false (List.map sqD s15.2), .val (sqD x7.1), .val (D.int y14), .val ((eO sqD) x19)]) rfl rfl o_isS)) (fun c38 => by (have h := h40; rw [if_pos c38] at h; obtain ⟨x34, h35, h⟩ := bsome h; obtain ⟨x36, h37, h⟩ := bsome h; have hE := Option.some.inj h; subst hE; exact x_peek (ds := List.map sqD s15.1) rfl (fB_ok (x_op (p := sqD x34) (q := D.lst (List.map sqD s15.1)) (e1 := [.val (sqD sequence_here_), .val (D.lst (List.map sqD s15.1)), .no, .val (sqD x7.1), .val (D.int y14), .val ((eO sqD) x19)]) (e2 := [.val (sqD sequence_here_), .val (D.lst (List.map sqD s15.1)), .no, .val (sqD x7.1), .val (D.int y14), .val ((eO sqD) x19)]) (x_some (F := sqD) h35 rfl) rfl (o_inOL (neg := true) (enc := sqD) (fun _ _ _ h => ⟨_, t_Sequence___eq__ _ _ h⟩) (fun _ => ⟨_, _, rfl⟩) h37))))) (fun c38 => by (have h := h40; rw [if_neg (show ¬ (x19.isSome = true) from fun z => Bool.false_ne_true (Eq.trans (Eq.symm c38) z))] at h; exact (Option.some.inj h).symm))) c41 ?_
          obtain ⟨x42, h43, h⟩ := bsome h
          obtain ⟨x44, h45, h⟩ := bsome h
          refine ot_seq (e1 := [.val (sqD sequence_here_), .own false (List.map sqD x44), .own false (List.map sqD s15.2), .val (sqD x7.1), .val (D.int y14), .val ((eO sqD) x19)]) (x_app (F := sqD) (xs := s15.1) (x := x42) (e1 := [.val (sqD sequence_here_), .own false (List.map sqD s15.1), .own false (List.map sqD s15.2), .val (sqD x7.1), .val (D.int y14), .val ((eO sqD) x19)]) rfl (x_some (F := sqD) h43 rfl) rfl h45) ?_
          obtain ⟨x46, h47, h⟩ := bsome h
          obtain ⟨x48, h49, h⟩ := bsome h
          have hE := Option.some.inj h; subst hE
          refine ⟨[.val (sqD sequence_here_), .own false (List.map sqD x44), .own false (List.map sqD x48), .val (sqD x7.1), .val (D.int y14), .val ((eO sqD) x19)], ?_, rfl⟩
          exact x_app (F := sqD) (xs := s15.2) (x := x46) (e1 := [.val (sqD sequence_here_), .own false (List.map sqD x44), .own false (List.map sqD s15.2), .val (sqD x7.1), .val (D.int y14), .val ((eO sqD) x19)]) rfl (x_some (F := sqD) h47 rfl) rfl h49
        · rw [if_neg c41] at h
          refine ot_if_f (x_and (q := true) (p := x19.isSome) (fB_ok (x_op (p := (eO sqD) x19) (q := D.non) (e1 := [.val (sqD sequence_here_), .own false (List.map sqD s15.1), .own false (List.map sqD s15.2), .val (sqD x7.1), .val (D.int y14), .val ((eO sqD) x19)]) (e2 := [.val (sqD sequence_here_), .own false (List.map sqD s15.1), .own false (List.map sqD s15.2), .val (sqD x7.1), .val (D.int y14), .val ((eO sqD) x19)]) rfl rfl o_isS)) (fun c38 => by (have h := h40; rw [if_pos c38] at h; obtain ⟨x34, h35, h⟩ := bsome h; obtain ⟨x36, h37, h⟩ := bsome h; have hE := Option.some.inj h; subst hE; exact x_peek (ds := List.map sqD s15.1) rfl (fB_ok (x_op (p := sqD x34) (q := D.lst (List.map sqD s15.1)) (e1 := [.val (sqD sequence_here_), .val (D.lst (List.map sqD s15.1)), .no, .val (sqD x7.1), .val (D.int y14), .val ((eO sqD) x19)]) (e2 := [.val (sqD sequence_here_), .val (D.lst (List.map sqD s15.1)), .no, .val (sqD x7.1), .val (D.int y14), .val ((eO sqD) x19)]) (x_some (F := sqD) h35 rfl) rfl (o_inOL (neg := true) (enc := sqD) (fun _ _ _ h => ⟨_, t_Sequence___eq__ _ _ h⟩) (fun _ => ⟨_, _, rfl⟩) h37))))) (fun c38 => by (have h := h40; rw [if_neg (show ¬ (x19.isSome = true) from fun z => Bool.false_ne_true (Eq.trans (Eq.symm c38) z))] at h; exact (Option.some.inj h).symm))) c41 ?_
          have hE := Option.some.inj h; subst hE
          exact ⟨_, rfl, rfl⟩
    · subst hw
      have hE := Option.some.inj h; subst hE
      exact ⟨_, rfl, rfl⟩
    · subst hw
      have hE := Option.some.inj h; subst hE
      rfl
    · subst hw
      cases h
  · subst hw
    show Ot _ [.val (sqD sequence_here_), .own false (List.map sqD s5.1), .own false (List.map sqD s5.2), .no, .no, .no] _ _ _ _
    have hE := Option.some.inj h; subst hE
    exact ot_rt (e2 := [.val (sqD sequence_here_), .val (D.lst (List.map sqD s5.1)), .own false (List.map sqD s5.2), .no, .no, .no]) (fRet_ok rfl) ⟨rfl, rfl⟩
  · subst hw
    have hE := Option.some.inj h; subst hE
    rfl
  · subst hw
    cases h
noncomputable def p__law_parts (steps_here_ : List Stp) : Option (List (List Stp)) := partsP steps_here_
theorem t__law_parts (steps_here_ : List Stp) {r : List (List Stp)} (h : p__law_parts steps_here_ = some r) : R__law_parts [.val (.lst (List.map stD steps_here_))] = .ok (D.lst (List.map (eL stD) r)) [.no] := parts_ok (xs := steps_here_) (d := (.lst (List.map stD steps_here_))) rfl h
noncomputable def p__law_normal (steps_here_ : (List Stp)) : Option (List Stp) := (p__law_parts steps_here_).bind fun x2 => (forS (fun y4 (s5 : (List Stp)) => (L2.atI y4 0).bind fun x8 => (if x8.1 = true then (sortW y4).bind fun x11 => (catP s5 x11).bind fun x13 => some x13 else (lcT y4 (fun y15 => true) (fun y15 => y15.2)).bind fun x16 => (lMax x16).bind fun x18 => (rgP 1 (((y4.length : Int) + x18) + 2)).bind fun x20 => (lcH (fun y22 (s25 : (List Int)) => (popP s25 (y22.2 - 1)).bind fun x26 => some (x26.1, x26.2)) y4 x20).bind fun x28 => (lcT ((isort x28.1).reverse) (fun y31 => true) (fun y31 => (false, y31))).bind fun x32 => (catP s5 x32).bind fun x34 => some x34)) x2 []).bind fun s6 => some s6
theorem t__law_normal (steps_here_ : (List Stp)) {r : (List Stp)} (h : p__law_normal steps_here_ = some r) : R__law_normal [.val (D.lst (List.map stD steps_here_))] = .ok (D.lst (List.map stD r)) [.no] := by
  unfold p__law_normal at h
  refine run_Ot (n := 1) (m := 7) (P := fun _ _ => False) (dD := fun (r : (List Stp)) => D.lst (List.map stD r)) (os := fun (r : (List Stp)) => [.no]) (r := r) ?_ rfl (by decide)
  change Ot g__law_normal [.val (D.lst (List.map stD steps_here_)), .no, .no, .no, .no, .no, .no] (fun (_ : Unit) _ => False) (fun (r : (List Stp)) => Fl.rt (D.lst (List.map stD r))) (Fin 1 7 (fun (r : (List Stp)) => [.no])) (.rt r)
  unfold g__law_normal
  refine ot_seq (e1 := [.val (D.lst (List.map stD steps_here_)), .val (D.lst (List.map stD [])), .no, .no, .no, .no, .no]) (fSetT_ok (x := D.lst (List.map stD [])) (u := ()) (e1 := [.val (D.lst (List.map stD steps_here_)), .no, .no, .no, .no, .no, .no]) rfl rfl) ?_
  obtain ⟨x2, h3, h⟩ := bsome h
  have k1 := t__law_parts steps_here_ h3
  obtain ⟨s6, h7, h⟩ := bsome h
  refine ot_seq (e1 := [.val (D.lst (List.map stD steps_here_)), .val (D.lst (List.map stD s6)), .no, .no, .no, .no, .no]) ?_ ?_
  · refine fWk_ok (e1 := [.val (D.lst (List.map stD steps_here_)), .val (D.lst (List.map stD s6)), .no, .no, .no, .no, .no]) (fFor_S (enc := (eL stD)) (E := fun (s5 : (List Stp)) => [.val (D.lst (List.map stD steps_here_)), .val (D.lst (List.map stD s5)), .no, .no, .no, .no, .no]) h7 (x_wL (F := (eL stD)) (x_call (e2 := [.val (D.lst (List.map stD steps_here_)), .val (D.lst (List.map stD [])), .no, .no, .no, .no, .no]) (rD_ok (x := D.lst (List.map stD steps_here_)) (e1 := [.val (D.lst (List.map stD steps_here_)), .val (D.lst (List.map stD [])), .no, .no, .no, .no, .no]) rfl rNil_eq) rfl k1 (putO_id rfl))) (fun y4 s5 s36 h => ?_)) rfl
    refine ⟨[.val (D.lst (List.map stD steps_here_)), .val (D.lst (List.map stD s5)), .val (D.lst (List.map stD y4)), .no, .no, .no, .no], rfl, nx_wk ?_⟩
    obtain ⟨x8, h9, h⟩ := bsome h
    refine ot_wkQ ?_ (by first | exact fun _ _ _ => trivial | exact fun _ _ h => h.wk (all_lt rfl))
    by_cases c10 : x8.1 = true
    · rw [if_pos c10] at h
      refine ot_if_t (fB_ok (x_op (p := D.str (wd x8.1)) (q := D.str ("insert" : Str)) (e1 := [.val (D.lst (List.map stD steps_here_)), .val (D.lst (List.map stD s5)), .val (D.lst (List.map stD y4)), .no, .no, .no, .no]) (e2 := [.val (D.lst (List.map stD steps_here_)), .val (D.lst (List.map stD s5)), .val (D.lst (List.map stD y4)), .no, .no, .no, .no]) (x_op (p := stD x8) (q := D.int 0) (e1 := [.val (D.lst (List.map stD steps_here_)), .val (D.lst (List.map stD s5)), .val (D.lst (List.map stD y4)), .no, .no, .no, .no]) (e2 := [.val (D.lst (List.map stD steps_here_)), .val (D.lst (List.map stD s5)), .val (D.lst (List.map stD y4)), .no, .no, .no, .no]) (x_op (p := D.lst (List.map stD y4)) (q := D.int 0) (e1 := [.val (D.lst (List.map stD steps_here_)), .val (D.lst (List.map stD s5)), .val (D.lst (List.map stD y4)), .no, .no, .no, .no]) (e2 := [.val (D.lst (List.map stD steps_here_)), .val (D.lst (List.map stD s5)), .val (D.lst (List.map stD y4)), .no, .no, .no, .no]) rfl rfl (o_at (F := stD) h9)) rfl rfl) rfl o_wdI)) c10 ?_
      obtain ⟨x11, h12, h⟩ := bsome h
      obtain ⟨x13, h14, h⟩ := bsome h
      have hE := Option.some.inj h; subst hE
      refine ⟨[.val (D.lst (List.map stD steps_here_)), .val (D.lst (List.map stD x13)), .val (D.lst (List.map stD y4)), .no, .no, .no, .no], ?_, rfl⟩
      exact fSetT_ok (x := D.lst (List.map stD x13)) (u := ()) (e1 := [.val (D.lst (List.map stD steps_here_)), .val (D.lst (List.map stD s5)), .val (D.lst (List.map stD y4)), .no, .no, .no, .no]) (x_op (p := D.lst (List.map stD s5)) (q := D.lst (List.map stD x11)) (e1 := [.val (D.lst (List.map stD steps_here_)), .val (D.lst (List.map stD s5)), .val (D.lst (List.map stD y4)), .no, .no, .no, .no]) (e2 := [.val (D.lst (List.map stD steps_here_)), .val (D.lst (List.map stD s5)), .val (D.lst (List.map stD y4)), .no, .no, .no, .no]) rfl (fL_ok (x_sortW h12 rfl)) (o_cat h14)) rfl
    · rw [if_neg c10] at h
      refine ot_if_f (fB_ok (x_op (p := D.str (wd x8.1)) (q := D.str ("insert" : Str)) (e1 := [.val (D.lst (List.map stD steps_here_)), .val (D.lst (List.map stD s5)), .val (D.lst (List.map stD y4)), .no, .no, .no, .no]) (e2 := [.val (D.lst (List.map stD steps_here_)), .val (D.lst (List.map stD s5)), .val (D.lst (List.map stD y4)), .no, .no, .no, .no]) (x_op (p := stD x8) (q := D.int 0) (e1 := [.val (D.lst (List.map stD steps_here_)), .val (D.lst (List.map stD s5)), .val (D.lst (List.map stD y4)), .no, .no, .no, .no]) (e2 := [.val (D.lst (List.map stD steps_here_)), .val (D.lst (List.map stD s5)), .val (D.lst (List.map stD y4)), .no, .no, .no, .no]) (x_op (p := D.lst (List.map stD y4)) (q := D.int 0) (e1 := [.val (D.lst (List.map stD steps_here_)), .val (D.lst (List.map stD s5)), .val (D.lst (List.map stD y4)), .no, .no, .no, .no]) (e2 := [.val (D.lst (List.map stD steps_here_)), .val (D.lst (List.map stD s5)), .val (D.lst (List.map stD y4)), .no, .no, .no, .no]) rfl rfl (o_at (F := stD) h9)) rfl rfl) rfl o_wdI)) c10 ?_
      obtain ⟨x16, h17, h⟩ := bsome h
      obtain ⟨x18, h19, h⟩ := bsome h
      obtain ⟨x20, h21, h⟩ := bsome h
      refine ot_seq (e1 := [.val (D.lst (List.map stD steps_here_)), .val (D.lst (List.map stD s5)), .val (D.lst (List.map stD y4)), .own false (List.map D.int x20), .no, .no, .no]) (x_setN (F := D.int) (xs := x20) (e1 := [.val (D.lst (List.map stD steps_here_)), .val (D.lst (List.map stD s5)), .val (D.lst (List.map stD y4)), .no, .no, .no, .no]) (x_listRg rfl (x_op (p := D.int ((y4.length : Int) + x18)) (q := D.int 2) (e1 := [.val (D.lst (List.map stD steps_here_)), .val (D.lst (List.map stD s5)), .val (D.lst (List.map stD y4)), .no, .no, .no, .no]) (e2 := [.val (D.lst (List.map stD steps_here_)), .val (D.lst (List.map stD s5)), .val (D.lst (List.map stD y4)), .no, .no, .no, .no]) (x_op (p := D.int (y4.length : Int)) (q := D.int x18) (e1 := [.val (D.lst (List.map stD steps_here_)), .val (D.lst (List.map stD s5)), .val (D.lst (List.map stD y4)), .no, .no, .no, .no]) (e2 := [.val (D.lst (List.map stD steps_here_)), .val (D.lst (List.map stD s5)), .val (D.lst (List.map stD y4)), .no, .no, .no, .no]) (x_d1 (p := D.lst (List.map stD y4)) rfl l_lst) (x_d1 (p := D.lst (List.map D.int x16)) (fL_ok (fLc_T (enc := stD) (encB := D.int) h17 (x_wL (F := stD) rfl) rfl rfl (fun y15 => ⟨[.val (D.lst (List.map stD steps_here_)), .val (D.lst (List.map stD s5)), .val (D.lst (List.map stD y4)), .no, .no, .val (D.str (wd y15.1)), .val (D.int y15.2)], rfl, rfl, fun _ => rfl, rfl, rfl⟩))) (l_max h19)) rfl) rfl rfl) h21) rfl) ?_
      obtain ⟨x28, h29, h⟩ := bsome h
      refine ot_seq (e1 := [.val (D.lst (List.map stD steps_here_)), .val (D.lst (List.map stD s5)), .val (D.lst (List.map stD y4)), .own false (List.map D.int x28.2), .val (D.lst (List.map D.int x28.1)), .no, .no]) (fSetT_ok (x := D.lst (List.map D.int x28.1)) (u := ()) (e1 := [.val (D.lst (List.map stD steps_here_)), .val (D.lst (List.map stD s5)), .val (D.lst (List.map stD y4)), .own false (List.map D.int x28.2), .no, .no, .no]) (fL_ok (fLc_S (enc := stD) (encB := D.int) (E := fun s25 => [.val (D.lst (List.map stD steps_here_)), .val (D.lst (List.map stD s5)), .val (D.lst (List.map stD y4)), .own false (List.map D.int s25), .no, .no, .no]) h29 (x_wL (F := stD) rfl) rfl rfl (fun y22 s25 r30 h => by (obtain ⟨x26, h27, h⟩ := bsome h; have hE := Option.some.inj h; subst hE; exact ⟨[.val (D.lst (List.map stD steps_here_)), .val (D.lst (List.map stD s5)), .val (D.lst (List.map stD y4)), .own true (List.map D.int s25), .no, .val (D.str (wd y22.1)), .val (D.int y22.2)], [.val (D.lst (List.map stD steps_here_)), .val (D.lst (List.map stD s5)), .val (D.lst (List.map stD y4)), .own true (List.map D.int x26.2), .no, .val (D.str (wd y22.1)), .val (D.int y22.2)], rfl, rfl, x_pop (F := D.int) (xs := s25) (e1 := [.val (D.lst (List.map stD steps_here_)), .val (D.lst (List.map stD s5)), .val (D.lst (List.map stD y4)), .own true (List.map D.int s25), .no, .val (D.str (wd y22.1)), .val (D.int y22.2)]) rfl rfl rfl h27, rfl, rfl⟩)))) rfl) ?_
      obtain ⟨x32, h33, h⟩ := bsome h
      obtain ⟨x34, h35, h⟩ := bsome h
      have hE := Option.some.inj h; subst hE
      refine ⟨[.val (D.lst (List.map stD steps_here_)), .val (D.lst (List.map stD x34)), .val (D.lst (List.map stD y4)), .own false (List.map D.int x28.2), .val (D.lst (List.map D.int x28.1)), .no, .no], ?_, rfl⟩
      exact fSetT_ok (x := D.lst (List.map stD x34)) (u := ()) (e1 := [.val (D.lst (List.map stD steps_here_)), .val (D.lst (List.map stD s5)), .val (D.lst (List.map stD y4)), .own false (List.map D.int x28.2), .val (D.lst (List.map D.int x28.1)), .no, .no]) (x_op (p := D.lst (List.map stD s5)) (q := D.lst (List.map stD x32)) (e1 := [.val (D.lst (List.map stD steps_here_)), .val (D.lst (List.map stD s5)), .val (D.lst (List.map stD y4)), .own false (List.map D.int x28.2), .val (D.lst (List.map D.int x28.1)), .no, .no]) (e2 := [.val (D.lst (List.map stD steps_here_)), .val (D.lst (List.map stD s5)), .val (D.lst (List.map stD y4)), .own false (List.map D.int x28.2), .val (D.lst (List.map D.int x28.1)), .no, .no]) rfl (fL_ok (fLc_T (enc := D.int) (encB := stD) h33 (x_wL (F := D.int) (x_rev (fL_ok (x_sort rfl)))) rfl rfl (fun y31 => ⟨[.val (D.lst (List.map stD steps_here_)), .val (D.lst (List.map stD s5)), .val (D.lst (List.map stD y4)), .own true (List.map D.int x28.2), .val (D.lst (List.map D.int x28.1)), .no, .val (D.int y31)], rfl, rfl, fun _ => rfl, rfl, rfl⟩))) (o_cat h35)) rfl
  · have hE := Option.some.inj h; subst hE
    exact ot_rt (e2 := [.val (D.lst (List.map stD steps_here_)), .val (D.lst (List.map stD s6)), .no, .no, .no, .no, .no]) (fRet_ok rfl) ⟨rfl, rfl⟩
noncomputable def p__law_orders (items_ : (List Stp)) : Option Int := (forS (fun y1 (s2 : Int × (List Stp)) => (appP s2.2 y1.2).bind fun x5 => (mulP s2.1 (y1.1 + 1)).bind fun x7 => (divP x7 (cntD x5 y1.2)).bind fun x9 => some (x9, x5)) (enumP 0 items_) (1, [])).bind fun s3 => some s3.1
theorem t__law_orders (items_ : (List Stp)) {r : Int} (h : p__law_orders items_ = some r) : R__law_orders [.val (D.lst (List.map stD items_))] = .ok (D.int r) [.no] := by
  unfold p__law_orders at h
  refine run_Ot (n := 1) (m := 5) (P := fun _ _ => False) (dD := fun (r : Int) => D.int r) (os := fun (r : Int) => [.no]) (r := r) ?_ rfl (by decide)
  change Ot g__law_orders [.val (D.lst (List.map stD items_)), .no, .no, .no, .no] (fun (_ : Unit) _ => False) (fun (r : Int) => Fl.rt (D.int r)) (Fin 1 5 (fun (r : Int) => [.no])) (.rt r)
  unfold g__law_orders
  refine ot_seq (e1 := [.val (D.lst (List.map stD items_)), .val (D.int 1), .own false (List.map stD []), .no, .no]) (x_parM (e1 := [.val (D.lst (List.map stD items_)), .no, .no, .no, .no]) (x_nD (d := D.int 1) (e1 := [.val (D.lst (List.map stD items_)), .no, .no, .no, .no]) rfl (x_nN (ds := List.map stD []) (e1 := [.val (D.lst (List.map stD items_)), .no, .no, .no, .no]) (e2 := [.val (D.lst (List.map stD items_)), .no, .no, .no, .no]) (e3 := [.val (D.lst (List.map stD items_)), .no, .no, .no, .no]) rfl rfl rfl rfl)) rfl) ?_
  obtain ⟨s3, h4, h⟩ := bsome h
  refine ot_seq (e1 := [.val (D.lst (List.map stD items_)), .val (D.int s3.1), .own false (List.map stD s3.2), .no, .no]) ?_ ?_
  · refine fWk_ok (e1 := [.val (D.lst (List.map stD items_)), .val (D.int s3.1), .own false (List.map stD s3.2), .no, .no]) (fFor_S (enc := (eP D.int stD)) (E := fun (s2 : Int × (List Stp)) => [.val (D.lst (List.map stD items_)), .val (D.int s2.1), .own false (List.map stD s2.2), .no, .no]) h4 (x_enL (F := stD) rfl) (fun y1 s2 s11 h => ?_)) rfl
    refine ⟨[.val (D.lst (List.map stD items_)), .val (D.int s2.1), .own false (List.map stD s2.2), .val (D.int y1.1), .val (stD y1.2)], rfl, nx_wk ?_⟩
    obtain ⟨x5, h6, h⟩ := bsome h
    refine ot_seq (e1 := [.val (D.lst (List.map stD items_)), .val (D.int s2.1), .own false (List.map stD x5), .val (D.int y1.1), .val (stD y1.2)]) (x_app (F := stD) (xs := s2.2) (x := y1.2) (e1 := [.val (D.lst (List.map stD items_)), .val (D.int s2.1), .own false (List.map stD s2.2), .val (D.int y1.1), .val (stD y1.2)]) rfl rfl rfl h6) ?_
    obtain ⟨x7, h8, h⟩ := bsome h
    obtain ⟨x9, h10, h⟩ := bsome h
    have hE := Option.some.inj h; subst hE
    refine ⟨[.val (D.lst (List.map stD items_)), .val (D.int x9), .own false (List.map stD x5), .val (D.int y1.1), .val (stD y1.2)], ?_, rfl⟩
    exact fSetT_ok (x := D.int x9) (u := ()) (e1 := [.val (D.lst (List.map stD items_)), .val (D.int s2.1), .own false (List.map stD x5), .val (D.int y1.1), .val (stD y1.2)]) (x_op (p := D.int x7) (q := D.int (cntD x5 y1.2)) (e1 := [.val (D.lst (List.map stD items_)), .val (D.int s2.1), .own false (List.map stD x5), .val (D.int y1.1), .val (stD y1.2)]) (e2 := [.val (D.lst (List.map stD items_)), .val (D.int s2.1), .own false (List.map stD x5), .val (D.int y1.1), .val (stD y1.2)]) (x_op (p := D.int s2.1) (q := D.int (y1.1 + 1)) (e1 := [.val (D.lst (List.map stD items_)), .val (D.int s2.1), .own false (List.map stD x5), .val (D.int y1.1), .val (stD y1.2)]) (e2 := [.val (D.lst (List.map stD items_)), .val (D.int s2.1), .own false (List.map stD x5), .val (D.int y1.1), .val (stD y1.2)]) rfl rfl (o_mul h8)) (x_peekI (ds := List.map stD x5) rfl (x_cntD (F := stD) (xs := x5) (x := y1.2) (e1 := [.val (D.lst (List.map stD items_)), .val (D.int s2.1), .val (D.lst (List.map stD x5)), .val (D.int y1.1), .val (stD y1.2)]) (e2 := [.val (D.lst (List.map stD items_)), .val (D.int s2.1), .val (D.lst (List.map stD x5)), .val (D.int y1.1), .val (stD y1.2)]) PE.step (by decide) rfl rfl)) (o_div h10)) rfl
  · have hE := Option.some.inj h; subst hE
    exact ot_rt (e2 := [.val (D.lst (List.map stD items_)), .val (D.int s3.1), .own false (List.map stD s3.2), .no, .no]) (fRet_ok rfl) ⟨rfl, rfl⟩
noncomputable def p__law_number (steps_here_ : (List Stp)) : Option Int := (p__law_normal steps_here_).bind fun x2 => (p__law_parts x2).bind fun x5 => (forS (fun y7 (s8 : Int) => (p__law_orders y7).bind fun x12 => (mulP s8 x12).bind fun x14 => some x14) x5 1).bind fun s9 => some s9
theorem t__law_number (steps_here_ : (List Stp)) {r : Int} (h : p__law_number steps_here_ = some r) : R__law_number [.val (D.lst (List.map stD steps_here_))] = .ok (D.int r) [.no] := by
  unfold p__law_number at h
  refine run_Ot (n := 1) (m := 3) (P := fun _ _ => False) (dD := fun (r : Int) => D.int r) (os := fun (r : Int) => [.no]) (r := r) ?_ rfl (by decide)
  change Ot g__law_number [.val (D.lst (List.map stD steps_here_)), .no, .no] (fun (_ : Unit) _ => False) (fun (r : Int) => Fl.rt (D.int r)) (Fin 1 3 (fun (r : Int) => [.no])) (.rt r)
  unfold g__law_number
  refine ot_seq (e1 := [.val (D.lst (List.map stD steps_here_)), .val (D.int 1), .no]) (fSetT_ok (x := D.int 1) (u := ()) (e1 := [.val (D.lst (List.map stD steps_here_)), .no, .no]) rfl rfl) ?_
  obtain ⟨x2, h3, h⟩ := bsome h
  have k1 := t__law_normal steps_here_ h3
  obtain ⟨x5, h6, h⟩ := bsome h
  have k4 := t__law_parts x2 h6
  obtain ⟨s9, h10, h⟩ := bsome h
  refine ot_seq (e1 := [.val (D.lst (List.map stD steps_here_)), .val (D.int s9), .no]) ?_ ?_
  · refine fWk_ok (e1 := [.val (D.lst (List.map stD steps_here_)), .val (D.int s9), .no]) (fFor_S (enc := (eL stD)) (E := fun (s8 : Int) => [.val (D.lst (List.map stD steps_here_)), .val (D.int s8), .no]) h10 (x_wL (F := (eL stD)) (x_call (e2 := [.val (D.lst (List.map stD steps_here_)), .val (D.int 1), .no]) (rD_ok (x := D.lst (List.map stD x2)) (e1 := [.val (D.lst (List.map stD steps_here_)), .val (D.int 1), .no]) (x_call (e2 := [.val (D.lst (List.map stD steps_here_)), .val (D.int 1), .no]) (rD_ok (x := D.lst (List.map stD steps_here_)) (e1 := [.val (D.lst (List.map stD steps_here_)), .val (D.int 1), .no]) rfl rNil_eq) rfl k1 (putO_id rfl)) rNil_eq) rfl k4 (putO_id rfl))) (fun y7 s8 s16 h => ?_)) rfl
    refine ⟨[.val (D.lst (List.map stD steps_here_)), .val (D.int s8), .val (D.lst (List.map stD y7))], rfl, nx_wk ?_⟩
    obtain ⟨x12, h13, h⟩ := bsome h
    have k11 := t__law_orders y7 h13
    obtain ⟨x14, h15, h⟩ := bsome h
    have hE := Option.some.inj h; subst hE
    refine ⟨[.val (D.lst (List.map stD steps_here_)), .val (D.int x14), .val (D.lst (List.map stD y7))], ?_, rfl⟩
    exact fSetT_ok (x := D.int x14) (u := ()) (e1 := [.val (D.lst (List.map stD steps_here_)), .val (D.int s8), .val (D.lst (List.map stD y7))]) (x_op (p := D.int s8) (q := D.int x12) (e1 := [.val (D.lst (List.map stD steps_here_)), .val (D.int s8), .val (D.lst (List.map stD y7))]) (e2 := [.val (D.lst (List.map stD steps_here_)), .val (D.int s8), .val (D.lst (List.map stD y7))]) rfl (x_call (e2 := [.val (D.lst (List.map stD steps_here_)), .val (D.int s8), .val (D.lst (List.map stD y7))]) (rD_ok (x := D.lst (List.map stD y7)) (e1 := [.val (D.lst (List.map stD steps_here_)), .val (D.int s8), .val (D.lst (List.map stD y7))]) rfl rNil_eq) rfl k11 (putO_id rfl)) (o_mul h15)) rfl
  · have hE := Option.some.inj h; subst hE
    exact ot_rt (e2 := [.val (D.lst (List.map stD steps_here_)), .val (D.int s9), .no]) (fRet_ok rfl) ⟨rfl, rfl⟩
theorem t_parts_of (steps_ : List Stp) {r : List (List Stp)} (h : p_parts_of steps_ = some r) : R_parts_of [.val (.tup (List.map stD steps_))] = .ok (D.lst (List.map (eL stD) r)) [.no] := parts_ok (xs := steps_) (d := (.tup (List.map stD steps_))) rfl h
theorem t_least_reaching (start_ : Int) (lost_ : (Bool × List Int)) (count_ : Int) {r : Int} (h : p_least_reaching start_ lost_ count_ = some r) : R_least_reaching [.val (D.int start_), .val ((sqG D.int) lost_), .val (D.int count_)] = .ok (D.int r) [.no, .no, .no] := by
  unfold p_least_reaching at h
  refine run_Ot (n := 3) (m := 5) (P := fun _ _ => False) (dD := fun (r : Int) => D.int r) (os := fun (r : Int) => [.no, .no, .no]) (r := r) ?_ rfl (by decide)
  change Ot g_least_reaching [.val (D.int start_), .val ((sqG D.int) lost_), .val (D.int count_), .no, .no] (fun (_ : Unit) _ => False) (fun (r : Int) => Fl.rt (D.int r)) (Fin 3 5 (fun (r : Int) => [.no, .no, .no])) (.rt r)
  unfold g_least_reaching
  refine ot_seq (e1 := [.val (D.int start_), .val ((sqG D.int) lost_), .val (D.int count_), .val (D.int (if (decide (start_ < count_)) = true then count_ - start_ else 0)), .no]) (fSetT_ok (x := D.int (if (decide (start_ < count_)) = true then count_ - start_ else 0)) (u := ()) (e1 := [.val (D.int start_), .val ((sqG D.int) lost_), .val (D.int count_), .no, .no]) (x_if (r := .ok (D.int (if (decide (start_ < count_)) = true then count_ - start_ else 0)) [.val (D.int start_), .val ((sqG D.int) lost_), .val (D.int count_), .no, .no]) rfl (fun c1 => by rw [if_pos c1]; exact rfl) (fun c1 => by rw [if_neg (show ¬ ((decide (start_ < count_)) = true) from fun z => Bool.false_ne_true (Eq.trans (Eq.symm c1) z))]; exact rfl)) rfl) ?_
  obtain ⟨s4, h5, h⟩ := bsome h
  refine ot_seq (e1 := [.val (D.int start_), .val ((sqG D.int) lost_), .val (D.int count_), .val (D.int s4), .no]) ?_ ?_
  · refine fWk_ok (e1 := [.val (D.int start_), .val ((sqG D.int) lost_), .val (D.int count_), .val (D.int s4), .no]) (fFor_S (enc := D.int) (E := fun (s3 : Int) => [.val (D.int start_), .val ((sqG D.int) lost_), .val (D.int count_), .val (D.int s3), .no]) h5 (x_wG (F := D.int) rfl) (fun y2 s3 s7 h => ?_)) rfl
    refine ⟨[.val (D.int start_), .val ((sqG D.int) lost_), .val (D.int count_), .val (D.int s3), .val (D.int y2)], rfl, nx_wk ?_⟩
    by_cases c6 : (decide (y2 ≤ s3)) = true
    · rw [if_pos c6] at h
      refine ot_if_t rfl c6 ?_
      have hE := Option.some.inj h; subst hE
      refine ⟨[.val (D.int start_), .val ((sqG D.int) lost_), .val (D.int count_), .val (D.int (s3 + 1)), .val (D.int y2)], ?_, rfl⟩
      exact fSetT_ok (x := D.int (s3 + 1)) (u := ()) (e1 := [.val (D.int start_), .val ((sqG D.int) lost_), .val (D.int count_), .val (D.int s3), .val (D.int y2)]) rfl rfl
    · rw [if_neg c6] at h
      refine ot_if_f rfl c6 ?_
      have hE := Option.some.inj h; subst hE
      exact ⟨_, rfl, rfl⟩
  · have hE := Option.some.inj h; subst hE
    exact ot_rt (e2 := [.val (D.int start_), .val ((sqG D.int) lost_), .val (D.int count_), .val (D.int s4), .no]) (fRet_ok rfl) ⟨rfl, rfl⟩
theorem t_are_lost_ranks (value_ : (Bool × List Int)) {r : Bool} (h : p_are_lost_ranks value_ = some r) : R_are_lost_ranks [.val ((sqG D.int) value_)] = .ok (D.bl r) [.no] := by
  unfold p_are_lost_ranks at h
  refine run_Ot (n := 1) (m := 4) (P := fun _ _ => False) (dD := fun (r : Bool) => D.bl r) (os := fun (r : Bool) => [.no]) (r := r) ?_ rfl (by decide)
  change Ot g_are_lost_ranks [.val ((sqG D.int) value_), .no, .no, .no] (fun (_ : Unit) _ => False) (fun (r : Bool) => Fl.rt (D.bl r)) (Fin 1 4 (fun (r : Bool) => [.no])) (.rt r)
  unfold g_are_lost_ranks
  obtain ⟨x9, h10, h⟩ := bsome h
  by_cases c11 : x9 = true
  · rw [if_pos c11] at h
    refine ot_seq_rt (P' := fun (_ : Unit) _ => False) (.inl ⟨_, rfl⟩) (ot_if_t (x_or (q := true) (p := (!true)) (fNot_ok (fB_ok (bdli rfl is2_seq))) (fun c8 => by (have h := h10; rw [if_neg (show ¬ ((!true) = true) from fun z => Bool.false_ne_true (Eq.trans (Eq.symm c8) z))] at h; obtain ⟨x6, h7, h⟩ := bsome h; have hE := Option.some.inj h; subst hE; exact fNot_ok (fB_ok (x_d1 (p := D.lst (List.map D.bl x6)) (fL_ok (fLc_O (enc := D.int) (encB := D.bl) h7 (x_wG (F := D.int) rfl) rfl rfl (fun y1 o5 h => by (obtain ⟨x3, h4, h⟩ := bsome h; have k2 := t_is_rank y1 h4; have hE := Option.some.inj h; subst hE; exact ⟨[.val ((sqG D.int) value_), .no, .no, .val (D.int y1)], rfl, ⟨rfl, x_call (e2 := [.val ((sqG D.int) value_), .no, .no, .val (D.int y1)]) (rD_ok (x := D.int y1) (e1 := [.val ((sqG D.int) value_), .no, .no, .val (D.int y1)]) rfl rNil_eq) rfl k2 (putO_id rfl)⟩, rfl, rfl⟩)))) l_all)))) (fun c8 => by (have h := h10; rw [if_pos c8] at h; exact (Option.some.inj h).symm))) c11 ?_)
    have hE := Option.some.inj h; subst hE
    exact ot_rt (e2 := [.val ((sqG D.int) value_), .no, .no, .no]) (fRet_ok rfl) ⟨rfl, rfl⟩
  · rw [if_neg c11] at h
    refine ot_seq (e1 := [.val ((sqG D.int) value_), .no, .no, .no]) (fIf_n (x_or (q := true) (p := (!true)) (fNot_ok (fB_ok (bdli rfl is2_seq))) (fun c8 => by (have h := h10; rw [if_neg (show ¬ ((!true) = true) from fun z => Bool.false_ne_true (Eq.trans (Eq.symm c8) z))] at h; obtain ⟨x6, h7, h⟩ := bsome h; have hE := Option.some.inj h; subst hE; exact fNot_ok (fB_ok (x_d1 (p := D.lst (List.map D.bl x6)) (fL_ok (fLc_O (enc := D.int) (encB := D.bl) h7 (x_wG (F := D.int) rfl) rfl rfl (fun y1 o5 h => by (obtain ⟨x3, h4, h⟩ := bsome h; have k2 := t_is_rank y1 h4; have hE := Option.some.inj h; subst hE; exact ⟨[.val ((sqG D.int) value_), .no, .no, .val (D.int y1)], rfl, ⟨rfl, x_call (e2 := [.val ((sqG D.int) value_), .no, .no, .val (D.int y1)]) (rD_ok (x := D.int y1) (e1 := [.val ((sqG D.int) value_), .no, .no, .val (D.int y1)]) rfl rNil_eq) rfl k2 (putO_id rfl)⟩, rfl, rfl⟩)))) l_all)))) (fun c8 => by (have h := h10; rw [if_pos c8] at h; exact (Option.some.inj h).symm))) c11 rfl) ?_
    obtain ⟨x13, h14, h⟩ := bsome h
    have hE := Option.some.inj h; subst hE
    exact ot_rt (e2 := [.val ((sqG D.int) value_), .no, .no, .no]) (fRet_ok (x_d1 (p := D.lst (List.map D.bl x13)) (fL_ok (fLc_T (enc := (eP D.int D.int)) (encB := D.bl) h14 (x_zipG (F := D.int) (G := D.int) (e1 := [.val ((sqG D.int) value_), .no, .no, .no]) rfl (x_slG rfl (x_part rfl) rfl) rfl) rfl rfl (fun y12 => ⟨[.val ((sqG D.int) value_), .val (D.int y12.1), .val (D.int y12.2), .no], rfl, rfl, fun _ => rfl, rfl, rfl⟩))) l_all)) ⟨rfl, rfl⟩
theorem t_Table___init__ (start_ : Int) (lost_ : (Bool × List Int)) {r : (Int × List Int)} (h : p_Table___init__ start_ lost_ = some r) : R_Table___init__ [.oin true "Table" [] [], .val (D.int start_), .val ((sqG D.int) lost_)] = .ok .non [.oin true "Table" ["base", "gone"] [D.int r.1, D.tup (List.map D.int r.2)], .no, .no] := by
  unfold p_Table___init__ at h
  refine runX_Ot (n := 3) (m := 3) (os := fun (r : (Int × List Int)) => [.oin true "Table" ["base", "gone"] [D.int r.1, D.tup (List.map D.int r.2)], .no, .no]) (s := r) ?_ rfl (by decide)
  change Ot (R := Unit) g_Table___init__ [.oin true "Table" [] [], .val (D.int start_), .val ((sqG D.int) lost_)] (fun (r : (Int × List Int)) e => Fin 3 3 (fun (r : (Int × List Int)) => [.oin true "Table" ["base", "gone"] [D.int r.1, D.tup (List.map D.int r.2)], .no, .no]) r e) (fun _ => .rt .non) (fun _ _ => True) (.nx r)
  unfold g_Table___init__
  obtain ⟨x2, h3, h⟩ := bsome h
  have k1 := t_is_count start_ h3
  obtain ⟨x8, h9, h⟩ := bsome h
  by_cases c10 : x8 = true
  · rw [if_pos c10] at h
    cases h
  · rw [if_neg c10] at h
    refine ot_seq (e1 := [.oin true "Table" [] [], .val (D.int start_), .val ((sqG D.int) lost_)]) (fIf_n (x_or (q := true) (p := (!x2)) (fNot_ok (fB_ok (x_call (e2 := [.oin true "Table" [] [], .val (D.int start_), .val ((sqG D.int) lost_)]) (rD_ok (x := D.int start_) (e1 := [.oin true "Table" [] [], .val (D.int start_), .val ((sqG D.int) lost_)]) rfl rNil_eq) rfl k1 (putO_id rfl)))) (fun c7 => by (have h := h9; rw [if_neg (show ¬ ((!x2) = true) from fun z => Bool.false_ne_true (Eq.trans (Eq.symm c7) z))] at h; obtain ⟨x5, h6, h⟩ := bsome h; have k4 := t_are_lost_ranks lost_ h6; have hE := Option.some.inj h; subst hE; exact fNot_ok (fB_ok (x_call (e2 := [.oin true "Table" [] [], .val (D.int start_), .val ((sqG D.int) lost_)]) (rD_ok (x := (sqG D.int) lost_) (e1 := [.oin true "Table" [] [], .val (D.int start_), .val ((sqG D.int) lost_)]) rfl rNil_eq) rfl k4 (putO_id rfl))))) (fun c7 => by (have h := h9; rw [if_pos c7] at h; exact (Option.some.inj h).symm))) c10 rfl) ?_
    refine ot_seq (e1 := [.oin true "Table" ["base"] [D.int start_], .val (D.int start_), .val ((sqG D.int) lost_)]) (x_fldS (d := D.int start_) (e1 := [.oin true "Table" [] [], .val (D.int start_), .val ((sqG D.int) lost_)]) rfl rfl) ?_
    have hE := Option.some.inj h; subst hE
    refine ⟨[.oin true "Table" ["base", "gone"] [D.int start_, D.tup (List.map D.int lost_.2)], .val (D.int start_), .val ((sqG D.int) lost_)], ?_, ⟨rfl, rfl⟩⟩
    exact x_fldS (d := D.tup (List.map D.int lost_.2)) (e1 := [.oin true "Table" ["base"] [D.int start_], .val (D.int start_), .val ((sqG D.int) lost_)]) (x_d1 (p := (sqG D.int) lost_) rfl l_tuplG) rfl
theorem t_table_at__L (steps_ : (List Stp)) (threshold_ : Int) {r : (Int × List Int)} (h : p_table_at__L steps_ threshold_ = some r) : R_table_at [.val (D.lst (List.map stD steps_)), .val (D.int threshold_)] = .ok (tD r) [.no, .no] := by
  unfold p_table_at__L at h
  refine run_Ot (n := 2) (m := 6) (P := fun _ _ => False) (dD := fun (r : (Int × List Int)) => tD r) (os := fun (r : (Int × List Int)) => [.no, .no]) (r := r) ?_ rfl (by decide)
  change Ot g_table_at [.val (D.lst (List.map stD steps_)), .val (D.int threshold_), .no, .no, .no, .no] (fun (_ : Unit) _ => False) (fun (r : (Int × List Int)) => Fl.rt (tD r)) (Fin 2 6 (fun (r : (Int × List Int)) => [.no, .no])) (.rt r)
  unfold g_table_at
  refine ot_seq (e1 := [.val (D.lst (List.map stD steps_)), .val (D.int threshold_), .val (D.int 0), .val (D.lst (List.map D.int [])), .no, .no]) (x_par (p := D.int 0) (q := D.lst (List.map D.int [])) (e1 := [.val (D.lst (List.map stD steps_)), .val (D.int threshold_), .no, .no, .no, .no]) (fCons_ok (x := D.int 0) (e1 := [.val (D.lst (List.map stD steps_)), .val (D.int threshold_), .no, .no, .no, .no]) rfl (fCons_ok (x := D.lst (List.map D.int [])) (e1 := [.val (D.lst (List.map stD steps_)), .val (D.int threshold_), .no, .no, .no, .no]) rfl fNil_eq)) rfl) ?_
  obtain ⟨s3, h4, h⟩ := bsome h
  refine ot_seq (e1 := [.val (D.lst (List.map stD steps_)), .val (D.int threshold_), .val (D.int s3.1), .val (D.lst (List.map D.int s3.2)), .no, .no]) ?_ ?_
  · refine fWk_ok (e1 := [.val (D.lst (List.map stD steps_)), .val (D.int threshold_), .val (D.int s3.1), .val (D.lst (List.map D.int s3.2)), .no, .no]) (fFor_S (enc := stD) (E := fun (s2 : Int × (List Int)) => [.val (D.lst (List.map stD steps_)), .val (D.int threshold_), .val (D.int s2.1), .val (D.lst (List.map D.int s2.2)), .no, .no]) h4 (x_wL (F := stD) rfl) (fun y1 s2 s13 h => ?_)) rfl
    refine ⟨[.val (D.lst (List.map stD steps_)), .val (D.int threshold_), .val (D.int s2.1), .val (D.lst (List.map D.int s2.2)), .val (D.str (wd y1.1)), .val (D.int y1.2)], rfl, nx_wk ?_⟩
    by_cases c5 : ((!y1.1) && (decide (s2.1 < y1.2))) = true
    · rw [if_pos c5] at h
      refine ot_if_t (fAnd_ok (fB_ok (x_op (p := D.str (wd y1.1)) (q := D.str ("remove" : Str)) (e1 := [.val (D.lst (List.map stD steps_)), .val (D.int threshold_), .val (D.int s2.1), .val (D.lst (List.map D.int s2.2)), .val (D.str (wd y1.1)), .val (D.int y1.2)]) (e2 := [.val (D.lst (List.map stD steps_)), .val (D.int threshold_), .val (D.int s2.1), .val (D.lst (List.map D.int s2.2)), .val (D.str (wd y1.1)), .val (D.int y1.2)]) rfl rfl o_wdR)) rfl) c5 ?_
      obtain ⟨x7, h8, h⟩ := bsome h
      have k6 := t_least_reaching s2.1 (false, s2.2) y1.2 h8
      obtain ⟨x9, h10, h⟩ := bsome h
      have hE := Option.some.inj h; subst hE
      refine ⟨[.val (D.lst (List.map stD steps_)), .val (D.int threshold_), .val (D.int s2.1), .val (D.lst (List.map D.int (isort x9))), .val (D.str (wd y1.1)), .val (D.int y1.2)], ?_, rfl⟩
      exact fSetT_ok (x := D.lst (List.map D.int (isort x9))) (u := ()) (e1 := [.val (D.lst (List.map stD steps_)), .val (D.int threshold_), .val (D.int s2.1), .val (D.lst (List.map D.int s2.2)), .val (D.str (wd y1.1)), .val (D.int y1.2)]) (fL_ok (x_sort (fL_ok (x_lstP (F := D.int) h10 (x_star (F := D.int) (xs := s2.2) (e1 := [.val (D.lst (List.map stD steps_)), .val (D.int threshold_), .val (D.int s2.1), .val (D.lst (List.map D.int s2.2)), .val (D.str (wd y1.1)), .val (D.int y1.2)]) (x_iL rfl) (x_cons (F := D.int) (x := x7) (e1 := [.val (D.lst (List.map stD steps_)), .val (D.int threshold_), .val (D.int s2.1), .val (D.lst (List.map D.int s2.2)), .val (D.str (wd y1.1)), .val (D.int y1.2)]) (x_call (e2 := [.val (D.lst (List.map stD steps_)), .val (D.int threshold_), .val (D.int s2.1), .val (D.lst (List.map D.int s2.2)), .val (D.str (wd y1.1)), .val (D.int y1.2)]) (rD_ok (x := D.int s2.1) (e1 := [.val (D.lst (List.map stD steps_)), .val (D.int threshold_), .val (D.int s2.1), .val (D.lst (List.map D.int s2.2)), .val (D.str (wd y1.1)), .val (D.int y1.2)]) rfl (rD_ok (x := D.lst (List.map D.int s2.2)) (e1 := [.val (D.lst (List.map stD steps_)), .val (D.int threshold_), .val (D.int s2.1), .val (D.lst (List.map D.int s2.2)), .val (D.str (wd y1.1)), .val (D.int y1.2)]) rfl (rD_ok (x := D.int y1.2) (e1 := [.val (D.lst (List.map stD steps_)), .val (D.int threshold_), .val (D.int s2.1), .val (D.lst (List.map D.int s2.2)), .val (D.str (wd y1.1)), .val (D.int y1.2)]) rfl rNil_eq))) rfl k6 (putO_id rfl)) (x_nil (F := D.int)))))))) rfl
    · rw [if_neg c5] at h
      refine ot_if_f (fAnd_ok (fB_ok (x_op (p := D.str (wd y1.1)) (q := D.str ("remove" : Str)) (e1 := [.val (D.lst (List.map stD steps_)), .val (D.int threshold_), .val (D.int s2.1), .val (D.lst (List.map D.int s2.2)), .val (D.str (wd y1.1)), .val (D.int y1.2)]) (e2 := [.val (D.lst (List.map stD steps_)), .val (D.int threshold_), .val (D.int s2.1), .val (D.lst (List.map D.int s2.2)), .val (D.str (wd y1.1)), .val (D.int y1.2)]) rfl rfl o_wdR)) rfl) c5 ?_
      by_cases c11 : (!y1.1) = true
      · rw [if_pos c11] at h
        refine ot_if_t (fB_ok (x_op (p := D.str (wd y1.1)) (q := D.str ("remove" : Str)) (e1 := [.val (D.lst (List.map stD steps_)), .val (D.int threshold_), .val (D.int s2.1), .val (D.lst (List.map D.int s2.2)), .val (D.str (wd y1.1)), .val (D.int y1.2)]) (e2 := [.val (D.lst (List.map stD steps_)), .val (D.int threshold_), .val (D.int s2.1), .val (D.lst (List.map D.int s2.2)), .val (D.str (wd y1.1)), .val (D.int y1.2)]) rfl rfl o_wdR)) c11 ?_
        have hE := Option.some.inj h; subst hE
        refine ⟨[.val (D.lst (List.map stD steps_)), .val (D.int threshold_), .val (D.int (s2.1 - 1)), .val (D.lst (List.map D.int s2.2)), .val (D.str (wd y1.1)), .val (D.int y1.2)], ?_, rfl⟩
        exact x_aug (p := D.int s2.1) (q := D.int 1) (e1 := [.val (D.lst (List.map stD steps_)), .val (D.int threshold_), .val (D.int s2.1), .val (D.lst (List.map D.int s2.2)), .val (D.str (wd y1.1)), .val (D.int y1.2)]) rfl rfl rfl rfl
      · rw [if_neg c11] at h
        refine ot_if_f (fB_ok (x_op (p := D.str (wd y1.1)) (q := D.str ("remove" : Str)) (e1 := [.val (D.lst (List.map stD steps_)), .val (D.int threshold_), .val (D.int s2.1), .val (D.lst (List.map D.int s2.2)), .val (D.str (wd y1.1)), .val (D.int y1.2)]) (e2 := [.val (D.lst (List.map stD steps_)), .val (D.int threshold_), .val (D.int s2.1), .val (D.lst (List.map D.int s2.2)), .val (D.str (wd y1.1)), .val (D.int y1.2)]) rfl rfl o_wdR)) c11 ?_
        by_cases c12 : (decide (y1.2 ≤ threshold_)) = true
        · rw [if_pos c12] at h
          refine ot_if_t rfl c12 ?_
          have hE := Option.some.inj h; subst hE
          refine ⟨[.val (D.lst (List.map stD steps_)), .val (D.int threshold_), .val (D.int (s2.1 + 1)), .val (D.lst (List.map D.int s2.2)), .val (D.str (wd y1.1)), .val (D.int y1.2)], ?_, rfl⟩
          exact x_aug (p := D.int s2.1) (q := D.int 1) (e1 := [.val (D.lst (List.map stD steps_)), .val (D.int threshold_), .val (D.int s2.1), .val (D.lst (List.map D.int s2.2)), .val (D.str (wd y1.1)), .val (D.int y1.2)]) rfl rfl rfl rfl
        · rw [if_neg c12] at h
          refine ot_if_f rfl c12 ?_
          have hE := Option.some.inj h; subst hE
          exact ⟨_, rfl, rfl⟩
  · obtain ⟨x15, h16, h⟩ := bsome h
    have k14 := t_Table___init__ s3.1 (false, s3.2) h16
    have hE := Option.some.inj h; subst hE
    exact ot_rt (e2 := [.val (D.lst (List.map stD steps_)), .val (D.int threshold_), .val (D.int s3.1), .val (D.lst (List.map D.int s3.2)), .no, .no]) (fRet_ok (x_make (fCons_ok (x := D.int s3.1) (e1 := [.val (D.lst (List.map stD steps_)), .val (D.int threshold_), .val (D.int s3.1), .val (D.lst (List.map D.int s3.2)), .no, .no]) rfl (fCons_ok (x := D.lst (List.map D.int s3.2)) (e1 := [.val (D.lst (List.map stD steps_)), .val (D.int threshold_), .val (D.int s3.1), .val (D.lst (List.map D.int s3.2)), .no, .no]) rfl fNil_eq)) ⟨_, _, _, _, rfl, k14⟩)) ⟨rfl, rfl⟩
theorem t_Table_lost (self_ : (Int × List Int)) {r : (List Int)} (h : p_Table_lost self_ = some r) : R_Table_lost [.val (tD self_)] = .ok (D.tup (List.map D.int r)) [.no] := by
  unfold p_Table_lost at h
  refine run_Ot (n := 1) (m := 1) (P := fun _ _ => False) (dD := fun (r : (List Int)) => D.tup (List.map D.int r)) (os := fun (r : (List Int)) => [.no]) (r := r) ?_ rfl (by decide)
  change Ot g_Table_lost [.val (tD self_)] (fun (_ : Unit) _ => False) (fun (r : (List Int)) => Fl.rt (D.tup (List.map D.int r))) (Fin 1 1 (fun (r : (List Int)) => [.no])) (.rt r)
  unfold g_Table_lost
  have hE := Option.some.inj h; subst hE
  exact ot_rt (e2 := [.val (tD self_)]) (fRet_ok rfl) ⟨rfl, rfl⟩
theorem t_sorted_part (part_ : (List Stp)) {r : (List Stp)} (h : p_sorted_part part_ = some r) : R_sorted_part [.val (D.lst (List.map stD part_))] = .ok (D.lst (List.map stD r)) [.no] := by
  unfold p_sorted_part at h
  refine run_Ot (n := 1) (m := 2) (P := fun _ _ => False) (dD := fun (r : (List Stp)) => D.lst (List.map stD r)) (os := fun (r : (List Stp)) => [.no]) (r := r) ?_ rfl (by decide)
  change Ot g_sorted_part [.val (D.lst (List.map stD part_)), .no] (fun (_ : Unit) _ => False) (fun (r : (List Stp)) => Fl.rt (D.lst (List.map stD r))) (Fin 1 2 (fun (r : (List Stp)) => [.no])) (.rt r)
  unfold g_sorted_part
  obtain ⟨x1, h2, h⟩ := bsome h
  by_cases c3 : x1.1 = true
  · rw [if_pos c3] at h
    refine ot_seq_rt (P' := fun (_ : Unit) _ => False) (.inl ⟨_, rfl⟩) (ot_if_t (fB_ok (x_op (p := D.str (wd x1.1)) (q := D.str ("insert" : Str)) (e1 := [.val (D.lst (List.map stD part_)), .no]) (e2 := [.val (D.lst (List.map stD part_)), .no]) (x_op (p := stD x1) (q := D.int 0) (e1 := [.val (D.lst (List.map stD part_)), .no]) (e2 := [.val (D.lst (List.map stD part_)), .no]) (x_op (p := D.lst (List.map stD part_)) (q := D.int 0) (e1 := [.val (D.lst (List.map stD part_)), .no]) (e2 := [.val (D.lst (List.map stD part_)), .no]) rfl rfl (o_at (F := stD) h2)) rfl rfl) rfl o_wdI)) c3 ?_)
    obtain ⟨x4, h5, h⟩ := bsome h
    have hE := Option.some.inj h; subst hE
    exact ot_rt (e2 := [.val (D.lst (List.map stD part_)), .no]) (fRet_ok (fL_ok (x_sortW h5 rfl))) ⟨rfl, rfl⟩
  · rw [if_neg c3] at h
    refine ot_seq (e1 := [.val (D.lst (List.map stD part_)), .no]) (fIf_n (fB_ok (x_op (p := D.str (wd x1.1)) (q := D.str ("insert" : Str)) (e1 := [.val (D.lst (List.map stD part_)), .no]) (e2 := [.val (D.lst (List.map stD part_)), .no]) (x_op (p := stD x1) (q := D.int 0) (e1 := [.val (D.lst (List.map stD part_)), .no]) (e2 := [.val (D.lst (List.map stD part_)), .no]) (x_op (p := D.lst (List.map stD part_)) (q := D.int 0) (e1 := [.val (D.lst (List.map stD part_)), .no]) (e2 := [.val (D.lst (List.map stD part_)), .no]) rfl rfl (o_at (F := stD) h2)) rfl rfl) rfl o_wdI)) c3 rfl) ?_
    obtain ⟨x7, h8, h⟩ := bsome h
    have k6 := t_table_at__L part_ 0 h8
    obtain ⟨x10, h11, h⟩ := bsome h
    have k9 := t_Table_lost x7 h11
    obtain ⟨x13, h14, h⟩ := bsome h
    have hE := Option.some.inj h; subst hE
    exact ot_rt (e2 := [.val (D.lst (List.map stD part_)), .no]) (fRet_ok (fL_ok (fLc_T (enc := D.int) (encB := stD) h14 (x_wT (F := D.int) (x_revT (x_prop (x_call (e2 := [.val (D.lst (List.map stD part_)), .no]) (rD_ok (x := D.lst (List.map stD part_)) (e1 := [.val (D.lst (List.map stD part_)), .no]) rfl (rD_ok (x := D.int 0) (e1 := [.val (D.lst (List.map stD part_)), .no]) rfl rNil_eq)) rfl k6 (putO_id rfl)) k9))) rfl rfl (fun y12 => ⟨[.val (D.lst (List.map stD part_)), .val (D.int y12)], rfl, rfl, fun _ => rfl, rfl, rfl⟩)))) ⟨rfl, rfl⟩
theorem t_normal_form (sequence_ : (List Stp)) {r : (List Stp)} (h : p_normal_form sequence_ = some r) : R_normal_form [.val (sqD sequence_)] = .ok (sqD r) [.no] := by
  unfold p_normal_form at h
  refine run_Ot (n := 1) (m := 3) (P := fun _ _ => False) (dD := fun (r : (List Stp)) => sqD r) (os := fun (r : (List Stp)) => [.no]) (r := r) ?_ rfl (by decide)
  change Ot g_normal_form [.val (sqD sequence_), .no, .no] (fun (_ : Unit) _ => False) (fun (r : (List Stp)) => Fl.rt (sqD r)) (Fin 1 3 (fun (r : (List Stp)) => [.no])) (.rt r)
  unfold g_normal_form
  refine ot_seq (e1 := [.val (sqD sequence_), .own false (List.map stD []), .no]) (x_setN (F := stD) (xs := []) (e1 := [.val (sqD sequence_), .no, .no]) rfl rfl) ?_
  obtain ⟨x2, h3, h⟩ := bsome h
  have k1 := t_Sequence_steps sequence_ h3
  obtain ⟨x5, h6, h⟩ := bsome h
  have k4 := t_parts_of x2 h6
  obtain ⟨s9, h10, h⟩ := bsome h
  refine ot_seq (e1 := [.val (sqD sequence_), .own false (List.map stD s9), .no]) ?_ ?_
  · refine fWk_ok (e1 := [.val (sqD sequence_), .own false (List.map stD s9), .no]) (fFor_S (enc := (eL stD)) (E := fun (s8 : (List Stp)) => [.val (sqD sequence_), .own false (List.map stD s8), .no]) h10 (x_wL (F := (eL stD)) (x_call (e2 := [.val (sqD sequence_), .own false (List.map stD []), .no]) (rD_ok (x := D.tup (List.map stD x2)) (e1 := [.val (sqD sequence_), .own false (List.map stD []), .no]) (x_prop rfl k1) rNil_eq) rfl k4 (putO_id rfl))) (fun y7 s8 s16 h => ?_)) rfl
    refine ⟨[.val (sqD sequence_), .own false (List.map stD s8), .val (D.lst (List.map stD y7))], rfl, nx_wk ?_⟩
    obtain ⟨x12, h13, h⟩ := bsome h
    have k11 := t_sorted_part y7 h13
    obtain ⟨x14, h15, h⟩ := bsome h
    have hE := Option.some.inj h; subst hE
    refine ⟨[.val (sqD sequence_), .own false (List.map stD x14), .val (D.lst (List.map stD y7))], ?_, rfl⟩
    exact x_ext (F := stD) (xs := s8) (ys := x12) (e1 := [.val (sqD sequence_), .own false (List.map stD s8), .val (D.lst (List.map stD y7))]) rfl (x_call (e2 := [.val (sqD sequence_), .own false (List.map stD s8), .val (D.lst (List.map stD y7))]) (rD_ok (x := D.lst (List.map stD y7)) (e1 := [.val (sqD sequence_), .own false (List.map stD s8), .val (D.lst (List.map stD y7))]) rfl rNil_eq) rfl k11 (putO_id rfl)) rfl h15
  · obtain ⟨x18, h19, h⟩ := bsome h
    have k17 := t_Sequence___init__ s9 h19
    have hE := Option.some.inj h; subst hE
    exact ot_rt (e2 := [.val (sqD sequence_), .val (D.lst (List.map stD s9)), .no]) (fRet_ok (x_make (x_iL (F := stD) rfl) ⟨_, _, _, _, rfl, k17⟩)) ⟨rfl, rfl⟩
theorem t_is_connected (first_ : (List Stp)) (second_ : (List Stp)) {r : Bool} (h : p_is_connected first_ second_ = some r) : R_is_connected [.val (sqD first_), .val (sqD second_)] = .ok (D.bl r) [.no, .no] := by
  unfold p_is_connected at h
  refine run_Ot (n := 2) (m := 2) (P := fun _ _ => False) (dD := fun (r : Bool) => D.bl r) (os := fun (r : Bool) => [.no, .no]) (r := r) ?_ rfl (by decide)
  change Ot g_is_connected [.val (sqD first_), .val (sqD second_)] (fun (_ : Unit) _ => False) (fun (r : Bool) => Fl.rt (D.bl r)) (Fin 2 2 (fun (r : Bool) => [.no, .no])) (.rt r)
  unfold g_is_connected
  obtain ⟨x2, h3, h⟩ := bsome h
  have k1 := t_normal_form first_ h3
  obtain ⟨x5, h6, h⟩ := bsome h
  have k4 := t_normal_form second_ h6
  obtain ⟨x8, h9, h⟩ := bsome h
  have k7 := t_Sequence___eq__ x2 x5 h9
  have hE := Option.some.inj h; subst hE
  exact ot_rt (e2 := [.val (sqD first_), .val (sqD second_)]) (fRet_ok (x_own (x_call (e2 := [.val (sqD first_), .val (sqD second_)]) (rD_ok (x := sqD first_) (e1 := [.val (sqD first_), .val (sqD second_)]) rfl rNil_eq) rfl k1 (putO_id rfl)) (x_call (e2 := [.val (sqD first_), .val (sqD second_)]) (rD_ok (x := sqD second_) (e1 := [.val (sqD first_), .val (sqD second_)]) rfl rNil_eq) rfl k4 (putO_id rfl)) k7)) ⟨rfl, rfl⟩
noncomputable def p_law (script_ : (List Int)) : Option Bool := ((forF (R := Bool) (fun y1 (s2 : Unit) => (p__law_pool script_ y1).bind fun x6 => (p__law_steps x6 5 3).bind fun x9 => (p__law_sequence x9.1).bind fun x12 => (p__law_reached x12).bind fun x15 => (if x15.isNone = true then some true else (x15).bind fun x17 => (p__law_number x9.1).bind fun x20 => some (!decide ((x17.length : Int) = x20))).bind fun x23 => (if x23 = true then (some false).bind fun q26 => some (Fw.rt q26) else (x15).bind fun x28 => ((forF (R := Bool) (fun y30 (s31 : Unit) => (p_normal_form y30).bind fun x35 => (p_normal_form x12).bind fun x38 => (p_Sequence___eq__ x35 x38).bind fun x41 => (if (!x41) = true then some true else (p_is_connected y30 x12).bind fun x44 => some (!decide (x44 = true))).bind fun x47 => (if x47 = true then some (Fw.rt false) else some (Fw.nx ()))) x28 ()).bind fun w50 => match w50 with | .nx s32 => (p__law_step x9.2 3).bind fun x54 => (p_Sequence___init__ (x54.1 :: ([] : List Stp))).bind fun x57 => (p_Sequence___add__ x12 x57).bind fun x60 => (p_is_connected x12 x60).bind fun x63 => (if (!decide (x63 = false)) = true then some true else (x15).bind fun x65 => (memOP p_Sequence___eq__ sqD x65 x60).bind fun x67 => some x67).bind fun x70 => (if x70 = true then some (Fw.rt false) else some (Fw.nx ())) | .rt r73 => some (Fw.rt r73) | .bk _ => none))) (rngP 0 (if (if (script_.length : Int) < 5 then (script_.length : Int) else 5) > 1 then (if (script_.length : Int) < 5 then (script_.length : Int) else 5) else 1)) ()).bind fun w74 => match w74 with | .nx s3 => some true | .rt r77 => some r77 | .bk _ => none)
theorem t_law (script_ : (List Int)) {r : Bool} (h : p_law script_ = some r) : R_law [.val (D.scr script_)] = .ok (D.bl r) [.no] := by
  unfold p_law at h
  refine run_Ot (n := 1) (m := 8) (P := fun _ _ => False) (dD := fun (r : Bool) => D.bl r) (os := fun (r : Bool) => [.no]) (r := r) ?_ rfl (by decide)
  change Ot g_law [.val (D.scr script_), .no, .no, .no, .no, .no, .no, .no] (fun (_ : Unit) _ => False) (fun (r : Bool) => Fl.rt (D.bl r)) (Fin 1 8 (fun (r : Bool) => [.no])) (.rt r)
  unfold g_law
  obtain ⟨w74, h75, h⟩ := bsome h
  refine ot_seq_w (E' := fun (s2 : Unit) => [.val (D.scr script_), .no, .no, .no, .no, .no, .no, .no]) (w' := w74) (fun _ => .inl ⟨_, rfl⟩) ?_ (fun s3 hw => ?_) (fun _ hw => ?_) (fun _ hw => ?_)
  · refine ot_wk (P := fun s e1 => e1 = (fun (s2 : Unit) => [.val (D.scr script_), .no, .no, .no, .no, .no, .no, .no]) s) (fFor_F (enc := D.int) (E := fun (s2 : Unit) => [.val (D.scr script_), .no, .no, .no, .no, .no, .no, .no]) h75 (x_rng1 (x_d2 (p := D.int 1) (q := D.int (if (script_.length : Int) < 5 then (script_.length : Int) else 5)) (e1 := [.val (D.scr script_), .no, .no, .no, .no, .no, .no, .no]) rfl (x_d2 (p := D.int 5) (q := D.int (script_.length : Int)) (e1 := [.val (D.scr script_), .no, .no, .no, .no, .no, .no, .no]) rfl (x_d1 (p := D.scr script_) rfl rfl) rfl) rfl)) (fun _ => .inl ⟨_, rfl⟩) (fun y1 s2 w76 h => ?_)) (fun _ _ hq => by rw [hq]; rfl) (fun _ => all_lt rfl)
    refine ⟨[.val (D.scr script_), .val (D.int y1), .no, .no, .no, .no, .no, .no], rfl, ot_wkQ ?_ (by first | exact fun _ _ _ => trivial | exact fun _ _ h => h.wk (all_lt rfl))⟩
    obtain ⟨x6, h7, h⟩ := bsome h
    have k5 := t__law_pool script_ y1 h7
    refine ot_seq (e1 := [.val (D.scr script_), .val (D.int y1), .own false (List.map D.int x6), .no, .no, .no, .no, .no]) (x_setN (F := D.int) (xs := x6) (e1 := [.val (D.scr script_), .val (D.int y1), .no, .no, .no, .no, .no, .no]) (x_callN (e2 := [.val (D.scr script_), .val (D.int y1), .no, .no, .no, .no, .no, .no]) (rD_ok (x := D.scr script_) (e1 := [.val (D.scr script_), .val (D.int y1), .no, .no, .no, .no, .no, .no]) rfl (rD_ok (x := D.int y1) (e1 := [.val (D.scr script_), .val (D.int y1), .no, .no, .no, .no, .no, .no]) rfl rNil_eq)) rfl k5 (putO_id rfl)) rfl) ?_
    obtain ⟨x9, h10, h⟩ := bsome h
    have k8 := t__law_steps x6 5 3 h10
    refine ot_seq (e1 := [.val (D.scr script_), .val (D.int y1), .own false (List.map D.int x9.2), .val (D.lst (List.map stD x9.1)), .no, .no, .no, .no]) (fSetT_ok (x := D.lst (List.map stD x9.1)) (u := ()) (e1 := [.val (D.scr script_), .val (D.int y1), .own false (List.map D.int x9.2), .no, .no, .no, .no, .no]) (x_call (e2 := [.val (D.scr script_), .val (D.int y1), .own false (List.map D.int x9.2), .no, .no, .no, .no, .no]) (rO_ok rfl (rD_ok (x := D.int 5) (e1 := [.val (D.scr script_), .val (D.int y1), .own false (List.map D.int x6), .no, .no, .no, .no, .no]) rfl (rD_ok (x := D.int 3) (e1 := [.val (D.scr script_), .val (D.int y1), .own false (List.map D.int x6), .no, .no, .no, .no, .no]) rfl rNil_eq)) ⟨_, _, rfl⟩) rfl k8 rfl) rfl) ?_
    obtain ⟨x12, h13, h⟩ := bsome h
    have k11 := t__law_sequence x9.1 h13
    refine ot_seq (e1 := [.val (D.scr script_), .val (D.int y1), .own false (List.map D.int x9.2), .val (D.lst (List.map stD x9.1)), .val (sqD x12), .no, .no, .no]) (fSetT_ok (x := sqD x12) (u := ()) (e1 := [.val (D.scr script_), .val (D.int y1), .own false (List.map D.int x9.2), .val (D.lst (List.map stD x9.1)), .no, .no, .no, .no]) (x_call (e2 := [.val (D.scr script_), .val (D.int y1), .own false (List.map D.int x9.2), .val (D.lst (List.map stD x9.1)), .no, .no, .no, .no]) (rD_ok (x := D.lst (List.map stD x9.1)) (e1 := [.val (D.scr script_), .val (D.int y1), .own false (List.map D.int x9.2), .val (D.lst (List.map stD x9.1)), .no, .no, .no, .no]) rfl rNil_eq) rfl k11 (putO_id rfl)) rfl) ?_
    obtain ⟨x15, h16, h⟩ := bsome h
    have k14 := t__law_reached x12 h16
    refine ot_seq (e1 := [.val (D.scr script_), .val (D.int y1), .own false (List.map D.int x9.2), .val (D.lst (List.map stD x9.1)), .val (sqD x12), .val ((eO (eL sqD)) x15), .no, .no]) (fSetT_ok (x := (eO (eL sqD)) x15) (u := ()) (e1 := [.val (D.scr script_), .val (D.int y1), .own false (List.map D.int x9.2), .val (D.lst (List.map stD x9.1)), .val (sqD x12), .no, .no, .no]) (x_call (e2 := [.val (D.scr script_), .val (D.int y1), .own false (List.map D.int x9.2), .val (D.lst (List.map stD x9.1)), .val (sqD x12), .no, .no, .no]) (rD_ok (x := sqD x12) (e1 := [.val (D.scr script_), .val (D.int y1), .own false (List.map D.int x9.2), .val (D.lst (List.map stD x9.1)), .val (sqD x12), .no, .no, .no]) rfl rNil_eq) rfl k14 (putO_id rfl)) rfl) ?_
    obtain ⟨x23, h24, h⟩ := bsome h
    by_cases c25 : x23 = true
    · rw [if_pos c25] at h
      obtain ⟨q26, h27, h⟩ := bsome h
      have hE := Option.some.inj h; subst hE
      have h := h27
      refine ot_seq_rt (P' := fun (_ : Unit) _ => False) (.inl ⟨_, rfl⟩) (ot_if_t (x_or (q := true) (p := x15.isNone) (fB_ok (x_op (p := (eO (eL sqD)) x15) (q := D.non) (e1 := [.val (D.scr script_), .val (D.int y1), .own false (List.map D.int x9.2), .val (D.lst (List.map stD x9.1)), .val (sqD x12), .val ((eO (eL sqD)) x15), .no, .no]) (e2 := [.val (D.scr script_), .val (D.int y1), .own false (List.map D.int x9.2), .val (D.lst (List.map stD x9.1)), .val (sqD x12), .val ((eO (eL sqD)) x15), .no, .no]) rfl rfl o_isN)) (fun c22 => by (have h := h24; rw [if_neg (show ¬ (x15.isNone = true) from fun z => Bool.false_ne_true (Eq.trans (Eq.symm c22) z))] at h; obtain ⟨x17, h18, h⟩ := bsome h; obtain ⟨x20, h21, h⟩ := bsome h; have k19 := t__law_number x9.1 h21; have hE := Option.some.inj h; subst hE; exact fB_ok (x_op (p := D.int (x17.length : Int)) (q := D.int x20) (e1 := [.val (D.scr script_), .val (D.int y1), .own false (List.map D.int x9.2), .val (D.lst (List.map stD x9.1)), .val (sqD x12), .val ((eO (eL sqD)) x15), .no, .no]) (e2 := [.val (D.scr script_), .val (D.int y1), .own false (List.map D.int x9.2), .val (D.lst (List.map stD x9.1)), .val (sqD x12), .val ((eO (eL sqD)) x15), .no, .no]) (x_d1 (p := D.lst (List.map sqD x17)) (x_some (F := (eL sqD)) h18 rfl) l_lst) (x_call (e2 := [.val (D.scr script_), .val (D.int y1), .own false (List.map D.int x9.2), .val (D.lst (List.map stD x9.1)), .val (sqD x12), .val ((eO (eL sqD)) x15), .no, .no]) (rD_ok (x := D.lst (List.map stD x9.1)) (e1 := [.val (D.scr script_), .val (D.int y1), .own false (List.map D.int x9.2), .val (D.lst (List.map stD x9.1)), .val (sqD x12), .val ((eO (eL sqD)) x15), .no, .no]) rfl rNil_eq) rfl k19 (putO_id rfl)) (o_ne (F := D.int) PE.int (a := (x17.length : Int)) (b := x20))))) (fun c22 => by (have h := h24; rw [if_pos c22] at h; exact (Option.some.inj h).symm))) c25 ?_)
      have hE := Option.some.inj h; subst hE
      exact ot_rt (e2 := [.val (D.scr script_), .val (D.int y1), .own false (List.map D.int x9.2), .val (D.lst (List.map stD x9.1)), .val (sqD x12), .val ((eO (eL sqD)) x15), .no, .no]) (fRet_ok rfl) ⟨rfl, rfl⟩
    · rw [if_neg c25] at h
      refine ot_seq (e1 := [.val (D.scr script_), .val (D.int y1), .own false (List.map D.int x9.2), .val (D.lst (List.map stD x9.1)), .val (sqD x12), .val ((eO (eL sqD)) x15), .no, .no]) (fIf_n (x_or (q := true) (p := x15.isNone) (fB_ok (x_op (p := (eO (eL sqD)) x15) (q := D.non) (e1 := [.val (D.scr script_), .val (D.int y1), .own false (List.map D.int x9.2), .val (D.lst (List.map stD x9.1)), .val (sqD x12), .val ((eO (eL sqD)) x15), .no, .no]) (e2 := [.val (D.scr script_), .val (D.int y1), .own false (List.map D.int x9.2), .val (D.lst (List.map stD x9.1)), .val (sqD x12), .val ((eO (eL sqD)) x15), .no, .no]) rfl rfl o_isN)) (fun c22 => by (have h := h24; rw [if_neg (show ¬ (x15.isNone = true) from fun z => Bool.false_ne_true (Eq.trans (Eq.symm c22) z))] at h; obtain ⟨x17, h18, h⟩ := bsome h; obtain ⟨x20, h21, h⟩ := bsome h; have k19 := t__law_number x9.1 h21; have hE := Option.some.inj h; subst hE; exact fB_ok (x_op (p := D.int (x17.length : Int)) (q := D.int x20) (e1 := [.val (D.scr script_), .val (D.int y1), .own false (List.map D.int x9.2), .val (D.lst (List.map stD x9.1)), .val (sqD x12), .val ((eO (eL sqD)) x15), .no, .no]) (e2 := [.val (D.scr script_), .val (D.int y1), .own false (List.map D.int x9.2), .val (D.lst (List.map stD x9.1)), .val (sqD x12), .val ((eO (eL sqD)) x15), .no, .no]) (x_d1 (p := D.lst (List.map sqD x17)) (x_some (F := (eL sqD)) h18 rfl) l_lst) (x_call (e2 := [.val (D.scr script_), .val (D.int y1), .own false (List.map D.int x9.2), .val (D.lst (List.map stD x9.1)), .val (sqD x12), .val ((eO (eL sqD)) x15), .no, .no]) (rD_ok (x := D.lst (List.map stD x9.1)) (e1 := [.val (D.scr script_), .val (D.int y1), .own false (List.map D.int x9.2), .val (D.lst (List.map stD x9.1)), .val (sqD x12), .val ((eO (eL sqD)) x15), .no, .no]) rfl rNil_eq) rfl k19 (putO_id rfl)) (o_ne (F := D.int) PE.int (a := (x17.length : Int)) (b := x20))))) (fun c22 => by (have h := h24; rw [if_pos c22] at h; exact (Option.some.inj h).symm))) c25 rfl) ?_
      obtain ⟨x28, h29, h⟩ := bsome h
      obtain ⟨w50, h51, h⟩ := bsome h
      refine ot_seq_w (E' := fun (s31 : Unit) => [.val (D.scr script_), .val (D.int y1), .own false (List.map D.int x9.2), .val (D.lst (List.map stD x9.1)), .val (sqD x12), .val ((eO (eL sqD)) x15), .no, .no]) (w' := w50) (fun _ => .inl ⟨_, rfl⟩) ?_ (fun s32 hw => ?_) (fun _ hw => ?_) (fun _ hw => ?_)
      · refine ot_wk (P := fun s e1 => e1 = (fun (s31 : Unit) => [.val (D.scr script_), .val (D.int y1), .own false (List.map D.int x9.2), .val (D.lst (List.map stD x9.1)), .val (sqD x12), .val ((eO (eL sqD)) x15), .no, .no]) s) (fFor_F (enc := sqD) (E := fun (s31 : Unit) => [.val (D.scr script_), .val (D.int y1), .own false (List.map D.int x9.2), .val (D.lst (List.map stD x9.1)), .val (sqD x12), .val ((eO (eL sqD)) x15), .no, .no]) h51 (x_wL (F := sqD) (x_some (F := (eL sqD)) h29 rfl)) (fun _ => .inl ⟨_, rfl⟩) (fun y30 s31 w52 h => ?_)) (fun _ _ hq => by rw [hq]; rfl) (fun _ => all_lt rfl)
        refine ⟨[.val (D.scr script_), .val (D.int y1), .own false (List.map D.int x9.2), .val (D.lst (List.map stD x9.1)), .val (sqD x12), .val ((eO (eL sqD)) x15), .val (sqD y30), .no], rfl, ot_wkQ ?_ (by first | exact fun _ _ _ => trivial | exact fun _ _ h => h.wk (all_lt rfl))⟩
        obtain ⟨x35, h36, h⟩ := bsome h
        have k34 := t_normal_form y30 h36
        obtain ⟨x38, h39, h⟩ := bsome h
        have k37 := t_normal_form x12 h39
        obtain ⟨x41, h42, h⟩ := bsome h
        have k40 := t_Sequence___eq__ x35 x38 h42
        obtain ⟨x47, h48, h⟩ := bsome h
        by_cases c49 : x47 = true
        · rw [if_pos c49] at h
          refine ot_if_t (x_or (q := true) (p := (!x41)) (fNot_ok (fB_ok (x_own (x_call (e2 := [.val (D.scr script_), .val (D.int y1), .own false (List.map D.int x9.2), .val (D.lst (List.map stD x9.1)), .val (sqD x12), .val ((eO (eL sqD)) x15), .val (sqD y30), .no]) (rD_ok (x := sqD y30) (e1 := [.val (D.scr script_), .val (D.int y1), .own false (List.map D.int x9.2), .val (D.lst (List.map stD x9.1)), .val (sqD x12), .val ((eO (eL sqD)) x15), .val (sqD y30), .no]) rfl rNil_eq) rfl k34 (putO_id rfl)) (x_call (e2 := [.val (D.scr script_), .val (D.int y1), .own false (List.map D.int x9.2), .val (D.lst (List.map stD x9.1)), .val (sqD x12), .val ((eO (eL sqD)) x15), .val (sqD y30), .no]) (rD_ok (x := sqD x12) (e1 := [.val (D.scr script_), .val (D.int y1), .own false (List.map D.int x9.2), .val (D.lst (List.map stD x9.1)), .val (sqD x12), .val ((eO (eL sqD)) x15), .val (sqD y30), .no]) rfl rNil_eq) rfl k37 (putO_id rfl)) k40))) (fun c46 => by (have h := h48; rw [if_neg (show ¬ ((!x41) = true) from fun z => Bool.false_ne_true (Eq.trans (Eq.symm c46) z))] at h; obtain ⟨x44, h45, h⟩ := bsome h; have k43 := t_is_connected y30 x12 h45; have hE := Option.some.inj h; subst hE; exact fB_ok (x_op (p := D.bl x44) (q := D.bl true) (e1 := [.val (D.scr script_), .val (D.int y1), .own false (List.map D.int x9.2), .val (D.lst (List.map stD x9.1)), .val (sqD x12), .val ((eO (eL sqD)) x15), .val (sqD y30), .no]) (e2 := [.val (D.scr script_), .val (D.int y1), .own false (List.map D.int x9.2), .val (D.lst (List.map stD x9.1)), .val (sqD x12), .val ((eO (eL sqD)) x15), .val (sqD y30), .no]) (x_call (e2 := [.val (D.scr script_), .val (D.int y1), .own false (List.map D.int x9.2), .val (D.lst (List.map stD x9.1)), .val (sqD x12), .val ((eO (eL sqD)) x15), .val (sqD y30), .no]) (rD_ok (x := sqD y30) (e1 := [.val (D.scr script_), .val (D.int y1), .own false (List.map D.int x9.2), .val (D.lst (List.map stD x9.1)), .val (sqD x12), .val ((eO (eL sqD)) x15), .val (sqD y30), .no]) rfl (rD_ok (x := sqD x12) (e1 := [.val (D.scr script_), .val (D.int y1), .own false (List.map D.int x9.2), .val (D.lst (List.map stD x9.1)), .val (sqD x12), .val ((eO (eL sqD)) x15), .val (sqD y30), .no]) rfl rNil_eq)) rfl k43 (putO_id rfl)) rfl o_isBF))) (fun c46 => by (have h := h48; rw [if_pos c46] at h; exact (Option.some.inj h).symm))) c49 ?_
          have hE := Option.some.inj h; subst hE
          exact ot_rt (e2 := [.val (D.scr script_), .val (D.int y1), .own false (List.map D.int x9.2), .val (D.lst (List.map stD x9.1)), .val (sqD x12), .val ((eO (eL sqD)) x15), .val (sqD y30), .no]) (fRet_ok rfl) ⟨rfl, rfl⟩
        · rw [if_neg c49] at h
          refine ot_if_f (x_or (q := true) (p := (!x41)) (fNot_ok (fB_ok (x_own (x_call (e2 := [.val (D.scr script_), .val (D.int y1), .own false (List.map D.int x9.2), .val (D.lst (List.map stD x9.1)), .val (sqD x12), .val ((eO (eL sqD)) x15), .val (sqD y30), .no]) (rD_ok (x := sqD y30) (e1 := [.val (D.scr script_), .val (D.int y1), .own false (List.map D.int x9.2), .val (D.lst (List.map stD x9.1)), .val (sqD x12), .val ((eO (eL sqD)) x15), .val (sqD y30), .no]) rfl rNil_eq) rfl k34 (putO_id rfl)) (x_call (e2 := [.val (D.scr script_), .val (D.int y1), .own false (List.map D.int x9.2), .val (D.lst (List.map stD x9.1)), .val (sqD x12), .val ((eO (eL sqD)) x15), .val (sqD y30), .no]) (rD_ok (x := sqD x12) (e1 := [.val (D.scr script_), .val (D.int y1), .own false (List.map D.int x9.2), .val (D.lst (List.map stD x9.1)), .val (sqD x12), .val ((eO (eL sqD)) x15), .val (sqD y30), .no]) rfl rNil_eq) rfl k37 (putO_id rfl)) k40))) (fun c46 => by (have h := h48; rw [if_neg (show ¬ ((!x41) = true) from fun z => Bool.false_ne_true (Eq.trans (Eq.symm c46) z))] at h; obtain ⟨x44, h45, h⟩ := bsome h; have k43 := t_is_connected y30 x12 h45; have hE := Option.some.inj h; subst hE; exact fB_ok (x_op (p := D.bl x44) (q := D.bl true) (e1 := [.val (D.scr script_), .val (D.int y1), .own false (List.map D.int x9.2), .val (D.lst (List.map stD x9.1)), .val (sqD x12), .val ((eO (eL sqD)) x15), .val (sqD y30), .no]) (e2 := [.val (D.scr script_), .val (D.int y1), .own false (List.map D.int x9.2), .val (D.lst (List.map stD x9.1)), .val (sqD x12), .val ((eO (eL sqD)) x15), .val (sqD y30), .no]) (x_call (e2 := [.val (D.scr script_), .val (D.int y1), .own false (List.map D.int x9.2), .val (D.lst (List.map stD x9.1)), .val (sqD x12), .val ((eO (eL sqD)) x15), .val (sqD y30), .no]) (rD_ok (x := sqD y30) (e1 := [.val (D.scr script_), .val (D.int y1), .own false (List.map D.int x9.2), .val (D.lst (List.map stD x9.1)), .val (sqD x12), .val ((eO (eL sqD)) x15), .val (sqD y30), .no]) rfl (rD_ok (x := sqD x12) (e1 := [.val (D.scr script_), .val (D.int y1), .own false (List.map D.int x9.2), .val (D.lst (List.map stD x9.1)), .val (sqD x12), .val ((eO (eL sqD)) x15), .val (sqD y30), .no]) rfl rNil_eq)) rfl k43 (putO_id rfl)) rfl o_isBF))) (fun c46 => by (have h := h48; rw [if_pos c46] at h; exact (Option.some.inj h).symm))) c49 ?_
          have hE := Option.some.inj h; subst hE
          exact ⟨_, rfl, rfl⟩
      · subst hw
        show Ot _ [.val (D.scr script_), .val (D.int y1), .own false (List.map D.int x9.2), .val (D.lst (List.map stD x9.1)), .val (sqD x12), .val ((eO (eL sqD)) x15), .no, .no] _ _ _ _
        obtain ⟨x54, h55, h⟩ := bsome h
        have k53 := t__law_step x9.2 3 h55
        obtain ⟨x57, h58, h⟩ := bsome h
        have k56 := t_Sequence___init__ (x54.1 :: ([] : List Stp)) h58
        obtain ⟨x60, h61, h⟩ := bsome h
        have k59 := t_Sequence___add__ x12 x57 h61
        refine ot_seq (e1 := [.val (D.scr script_), .val (D.int y1), .own false (List.map D.int x54.2), .val (D.lst (List.map stD x9.1)), .val (sqD x12), .val ((eO (eL sqD)) x15), .no, .val (sqD x60)]) (fSetT_ok (x := sqD x60) (u := ()) (e1 := [.val (D.scr script_), .val (D.int y1), .own false (List.map D.int x54.2), .val (D.lst (List.map stD x9.1)), .val (sqD x12), .val ((eO (eL sqD)) x15), .no, .no]) (x_own rfl (x_make (x_cons (F := stD) (x := x54.1) (e1 := [.val (D.scr script_), .val (D.int y1), .own false (List.map D.int x54.2), .val (D.lst (List.map stD x9.1)), .val (sqD x12), .val ((eO (eL sqD)) x15), .no, .no]) (x_call (e2 := [.val (D.scr script_), .val (D.int y1), .own false (List.map D.int x54.2), .val (D.lst (List.map stD x9.1)), .val (sqD x12), .val ((eO (eL sqD)) x15), .no, .no]) (rO_ok rfl (rD_ok (x := D.int 3) (e1 := [.val (D.scr script_), .val (D.int y1), .own false (List.map D.int x9.2), .val (D.lst (List.map stD x9.1)), .val (sqD x12), .val ((eO (eL sqD)) x15), .no, .no]) rfl rNil_eq) ⟨_, _, rfl⟩) rfl k53 rfl) (x_nil (F := stD))) ⟨_, _, _, _, rfl, k56⟩) k59) rfl) ?_
        obtain ⟨x63, h64, h⟩ := bsome h
        have k62 := t_is_connected x12 x60 h64
        obtain ⟨x70, h71, h⟩ := bsome h
        by_cases c72 : x70 = true
        · rw [if_pos c72] at h
          refine ot_if_t (x_or (q := true) (p := (!decide (x63 = false))) (fB_ok (x_op (p := D.bl x63) (q := D.bl false) (e1 := [.val (D.scr script_), .val (D.int y1), .own false (List.map D.int x54.2), .val (D.lst (List.map stD x9.1)), .val (sqD x12), .val ((eO (eL sqD)) x15), .no, .val (sqD x60)]) (e2 := [.val (D.scr script_), .val (D.int y1), .own false (List.map D.int x54.2), .val (D.lst (List.map stD x9.1)), .val (sqD x12), .val ((eO (eL sqD)) x15), .no, .val (sqD x60)]) (x_call (e2 := [.val (D.scr script_), .val (D.int y1), .own false (List.map D.int x54.2), .val (D.lst (List.map stD x9.1)), .val (sqD x12), .val ((eO (eL sqD)) x15), .no, .val (sqD x60)]) (rD_ok (x := sqD x12) (e1 := [.val (D.scr script_), .val (D.int y1), .own false (List.map D.int x54.2), .val (D.lst (List.map stD x9.1)), .val (sqD x12), .val ((eO (eL sqD)) x15), .no, .val (sqD x60)]) rfl (rD_ok (x := sqD x60) (e1 := [.val (D.scr script_), .val (D.int y1), .own false (List.map D.int x54.2), .val (D.lst (List.map stD x9.1)), .val (sqD x12), .val ((eO (eL sqD)) x15), .no, .val (sqD x60)]) rfl rNil_eq)) rfl k62 (putO_id rfl)) rfl o_isBF)) (fun c69 => by (have h := h71; rw [if_neg (show ¬ ((!decide (x63 = false)) = true) from fun z => Bool.false_ne_true (Eq.trans (Eq.symm c69) z))] at h; obtain ⟨x65, h66, h⟩ := bsome h; obtain ⟨x67, h68, h⟩ := bsome h; have hE := Option.some.inj h; subst hE; exact fB_ok (x_op (p := sqD x60) (q := D.lst (List.map sqD x65)) (e1 := [.val (D.scr script_), .val (D.int y1), .own false (List.map D.int x54.2), .val (D.lst (List.map stD x9.1)), .val (sqD x12), .val ((eO (eL sqD)) x15), .no, .val (sqD x60)]) (e2 := [.val (D.scr script_), .val (D.int y1), .own false (List.map D.int x54.2), .val (D.lst (List.map stD x9.1)), .val (sqD x12), .val ((eO (eL sqD)) x15), .no, .val (sqD x60)]) rfl (x_some (F := (eL sqD)) h66 rfl) (o_inOL (neg := false) (enc := sqD) (fun _ _ _ h => ⟨_, t_Sequence___eq__ _ _ h⟩) (fun _ => ⟨_, _, rfl⟩) h68)))) (fun c69 => by (have h := h71; rw [if_pos c69] at h; exact (Option.some.inj h).symm))) c72 ?_
          have hE := Option.some.inj h; subst hE
          exact ot_rt (e2 := [.val (D.scr script_), .val (D.int y1), .own false (List.map D.int x54.2), .val (D.lst (List.map stD x9.1)), .val (sqD x12), .val ((eO (eL sqD)) x15), .no, .val (sqD x60)]) (fRet_ok rfl) ⟨rfl, rfl⟩
        · rw [if_neg c72] at h
          refine ot_if_f (x_or (q := true) (p := (!decide (x63 = false))) (fB_ok (x_op (p := D.bl x63) (q := D.bl false) (e1 := [.val (D.scr script_), .val (D.int y1), .own false (List.map D.int x54.2), .val (D.lst (List.map stD x9.1)), .val (sqD x12), .val ((eO (eL sqD)) x15), .no, .val (sqD x60)]) (e2 := [.val (D.scr script_), .val (D.int y1), .own false (List.map D.int x54.2), .val (D.lst (List.map stD x9.1)), .val (sqD x12), .val ((eO (eL sqD)) x15), .no, .val (sqD x60)]) (x_call (e2 := [.val (D.scr script_), .val (D.int y1), .own false (List.map D.int x54.2), .val (D.lst (List.map stD x9.1)), .val (sqD x12), .val ((eO (eL sqD)) x15), .no, .val (sqD x60)]) (rD_ok (x := sqD x12) (e1 := [.val (D.scr script_), .val (D.int y1), .own false (List.map D.int x54.2), .val (D.lst (List.map stD x9.1)), .val (sqD x12), .val ((eO (eL sqD)) x15), .no, .val (sqD x60)]) rfl (rD_ok (x := sqD x60) (e1 := [.val (D.scr script_), .val (D.int y1), .own false (List.map D.int x54.2), .val (D.lst (List.map stD x9.1)), .val (sqD x12), .val ((eO (eL sqD)) x15), .no, .val (sqD x60)]) rfl rNil_eq)) rfl k62 (putO_id rfl)) rfl o_isBF)) (fun c69 => by (have h := h71; rw [if_neg (show ¬ ((!decide (x63 = false)) = true) from fun z => Bool.false_ne_true (Eq.trans (Eq.symm c69) z))] at h; obtain ⟨x65, h66, h⟩ := bsome h; obtain ⟨x67, h68, h⟩ := bsome h; have hE := Option.some.inj h; subst hE; exact fB_ok (x_op (p := sqD x60) (q := D.lst (List.map sqD x65)) (e1 := [.val (D.scr script_), .val (D.int y1), .own false (List.map D.int x54.2), .val (D.lst (List.map stD x9.1)), .val (sqD x12), .val ((eO (eL sqD)) x15), .no, .val (sqD x60)]) (e2 := [.val (D.scr script_), .val (D.int y1), .own false (List.map D.int x54.2), .val (D.lst (List.map stD x9.1)), .val (sqD x12), .val ((eO (eL sqD)) x15), .no, .val (sqD x60)]) rfl (x_some (F := (eL sqD)) h66 rfl) (o_inOL (neg := false) (enc := sqD) (fun _ _ _ h => ⟨_, t_Sequence___eq__ _ _ h⟩) (fun _ => ⟨_, _, rfl⟩) h68)))) (fun c69 => by (have h := h71; rw [if_pos c69] at h; exact (Option.some.inj h).symm))) c72 ?_
          have hE := Option.some.inj h; subst hE
          exact ⟨_, rfl, rfl⟩
      · subst hw
        have hE := Option.some.inj h; subst hE
        rfl
      · subst hw
        cases h
  · subst hw
    show Ot _ [.val (D.scr script_), .no, .no, .no, .no, .no, .no, .no] _ _ _ _
    have hE := Option.some.inj h; subst hE
    exact ot_rt (e2 := [.val (D.scr script_), .no, .no, .no, .no, .no, .no, .no]) (fRet_ok rfl) ⟨rfl, rfl⟩
  · subst hw
    have hE := Option.some.inj h; subst hE
    rfl
  · subst hw
    cases h
end Dl.k36
set_option maxHeartbeats 400000
/-! Layer P, part 3: plain rules for what typed functions are made of. -/
namespace Dl
open PySem PySem.Spec PyProof.Rows L2 RZ
theorem obind {α β : Type} {o : Option α} {a : α} {f : α → Option β} (h : o = some a) : o.bind f = f a := by rw [h]; rfl
theorem forF_inv {α R S : Type} {f : α → S → Option (Fw R S)} {I : S → Prop} : ∀ {xs : List α} {s : S}, I s → (∀ x ∈ xs, ∀ s, I s → ∃ s', f x s = some (.nx s') ∧ I s') → ∃ s', forF f xs s = some (.nx s') ∧ I s'
  | [], s, hs, _ => ⟨s, rfl, hs⟩
  | x :: xs, s, hs, h => by
    obtain ⟨s1, h1, h2⟩ := h x List.mem_cons_self s hs
    obtain ⟨s2, h3, h4⟩ := forF_inv (xs := xs) h2 fun y hy => h y (List.mem_cons_of_mem _ hy)
    exact ⟨s2, by unfold forF; rw [h1]; exact h3, h4⟩
theorem forS_inv {α S : Type} {f : α → S → Option S} {I : S → Prop} : ∀ {xs : List α} {s : S}, I s → (∀ x ∈ xs, ∀ s, I s → ∃ s', f x s = some s' ∧ I s') → ∃ s', forS f xs s = some s' ∧ I s'
  | [], s, hs, _ => ⟨s, rfl, hs⟩
  | x :: xs, s, hs, h => by
    obtain ⟨s1, h1, h2⟩ := h x List.mem_cons_self s hs
    obtain ⟨s2, h3, h4⟩ := forS_inv (xs := xs) h2 fun y hy => h y (List.mem_cons_of_mem _ hy)
    exact ⟨s2, by unfold forS; rw [h1]; exact h3, h4⟩
theorem forS_fold {α S : Type} {f : α → S → Option S} {g : S → α → S} : ∀ {xs : List α} {s : S}, (∀ x ∈ xs, ∀ s, f x s = some (g s x)) → forS f xs s = some (xs.foldl g s)
  | [], s, _ => rfl
  | x :: xs, s, h => by
    unfold forS
    rw [h x List.mem_cons_self]
    exact forS_fold fun y hy => h y (List.mem_cons_of_mem _ hy)
theorem rngP_len {lo hi : Int} : (rngP lo hi).length = (hi - lo).toNat := by unfold rngP; simp
theorem rngP_get {lo hi : Int} {i : Nat} (h : i < (rngP lo hi).length) : (rngP lo hi)[i] = lo + (i : Int) := by
  have : (rngP lo hi)[i]? = some (lo + (i : Int)) := by
    unfold rngP
    rw [List.getElem?_map, List.getElem?_range (by rw [rngP_len] at h; exact h)]
    rfl
  exact Option.some.inj ((List.getElem?_eq_getElem h).symm.trans this)
theorem rngP_mem {lo hi x : Int} : x ∈ rngP lo hi ↔ lo ≤ x ∧ x < hi := by
  unfold rngP
  simp only [List.mem_map, List.mem_range]
  constructor
  · rintro ⟨i, h, rfl⟩; omega
  · rintro ⟨h1, h2⟩; exact ⟨(x - lo).toNat, by omega, by omega⟩
theorem lcT_eq {α β : Type} {xs : List α} {p : α → Bool} {g : α → β} (h : xs.length ≤ 16777216) : lcT xs p g = some ((xs.filter p).map g) := if_pos h
theorem lcO_map {α β : Type} {f : α → Option (Option β)} {g : α → β} : ∀ {xs : List α}, (∀ x ∈ xs, f x = some (some (g x))) → lcO f xs = some (xs.map g)
  | [], _ => rfl
  | x :: xs, h => by
    unfold lcO
    rw [h x List.mem_cons_self, lcO_map fun y hy => h y (List.mem_cons_of_mem _ hy)]
    rfl
theorem lcG_map {α β : Type} {f : α → Option (Option β)} {g : α → β} {xs : List α} (hl : xs.length ≤ 16777216) (h : ∀ x ∈ xs, f x = some (some (g x))) : lcG f xs = some (xs.map g) := (if_pos hl).trans (lcO_map h)
theorem lcH_inv {α β S : Type} {f : α → S → Option (β × S)} {I : S → Prop} {J : β → Prop} {xs : List α} {s : S} (hl : xs.length ≤ 16777216) (hs : I s) (h : ∀ x ∈ xs, ∀ s, I s → ∃ r, f x s = some r ∧ J r.1 ∧ I r.2) : ∃ q, lcH f xs s = some q ∧ q.1.length = xs.length ∧ (∀ y ∈ q.1, J y) ∧ I q.2 := by
  have key : ∀ (xs : List α) (s : S), I s → (∀ x ∈ xs, ∀ s, I s → ∃ r, f x s = some r ∧ J r.1 ∧ I r.2) → ∃ q, lcS f xs s = some q ∧ q.1.length = xs.length ∧ (∀ y ∈ q.1, J y) ∧ I q.2 := by
    intro xs
    induction xs with
    | nil => intro s hs _; exact ⟨([], s), rfl, rfl, fun y hy => (nomatch hy), hs⟩
    | cons x xs ih =>
      intro s hs h
      obtain ⟨r, h1, h2, h3⟩ := h x List.mem_cons_self s hs
      obtain ⟨q, k1, k2, k3, k4⟩ := ih r.2 h3 fun y hy => h y (List.mem_cons_of_mem _ hy)
      refine ⟨(r.1 :: q.1, q.2), by unfold lcS; rw [h1]; show (lcS f xs r.2).bind _ = _; rw [k1]; rfl, by simp [k2], fun y hy => ?_, k4⟩
      rcases List.mem_cons.mp hy with rfl | hy
      · exact h2
      · exact k3 y hy
  obtain ⟨q, h1, h2⟩ := key xs s hs h
  exact ⟨q, (if_pos hl).trans h1, h2⟩
theorem mulP_l {a b : Int} (h : -(2 ^ 64) < a ∧ a < 2 ^ 64) : mulP a b = some (a * b) := if_pos (by unfold cMul; simp only [Bool.or_eq_true, decide_eq_true_eq]; exact .inl (.inl h))
theorem mulP_r {a b : Int} (h : -(2 ^ 64) < b ∧ b < 2 ^ 64) : mulP a b = some (a * b) := if_pos (by unfold cMul; simp only [Bool.or_eq_true, decide_eq_true_eq]; exact .inl (.inr h))
theorem modP_eq {a b : Int} (h : 0 < b) : modP a b = some (a % b) := if_pos h
theorem divP_eq {a b : Int} (h : 0 < b) (h2 : b.natAbs.log2 < 9000) : divP a b = some (a / b) := if_pos ⟨h, h2⟩
theorem catP_eq {α : Type} {xs ys : List α} (h : xs.length + ys.length ≤ 16777216) : catP xs ys = some (xs ++ ys) := if_pos h
theorem appP_eq {α : Type} {xs : List α} {y : α} (h : xs.length < 16777216) : appP xs y = some (xs ++ [y]) := if_pos h
theorem lstP_eq {α : Type} {xs : List α} (h : xs.length ≤ 16777216) : lstP xs = some xs := if_pos h
theorem atI_at {α : Type} {xs : List α} {i : Nat} (h : i < xs.length) : L2.atI xs (i : Int) = some xs[i] := by
  unfold L2.atI L2.ixN
  rw [if_pos (by omega), if_pos (by omega)]
  show xs[((i : Int)).toNat]? = _
  rw [Int.toNat_natCast]
  exact List.getElem?_eq_getElem h
theorem atI_int {α : Type} {xs : List α} {i : Int} (h0 : 0 ≤ i) (h : i < xs.length) : L2.atI xs i = some (xs[i.toNat]'(by omega)) := by
  have := atI_at (xs := xs) (i := i.toNat) (by omega)
  rw [Int.toNat_of_nonneg h0] at this
  exact this
theorem cutP_hi {α : Type} (xs : List α) (k : Nat) : cutP xs none (some (k : Int)) = xs.take k := by
  unfold cutP
  rw [HT.sIx_none, HT.sIx_nat]
  simp only [List.drop_zero, Nat.sub_zero]
  rcases Nat.le_total k xs.length with h | h
  · rw [Nat.min_eq_left h]
  · rw [Nat.min_eq_right h, List.take_of_length_le (Nat.le_refl _), List.take_of_length_le h]
theorem cutP_lo {α : Type} (xs : List α) (k : Nat) : cutP xs (some (k : Int)) none = xs.drop k := by
  unfold cutP
  rw [HT.sIx_none, HT.sIx_nat]
  rcases Nat.le_total k xs.length with h | h
  · rw [Nat.min_eq_left h, List.take_of_length_le (by simp)]
  · rw [Nat.min_eq_right h, Nat.sub_self, List.drop_eq_nil_of_le h]; simp
/-! ### encodings are told apart -/
end Dl
set_option maxHeartbeats 400000
/-! Sequences of steps and their tables at a threshold, in plain Lean. A step: inserted or removed, and its number. -/
namespace Tab
open Dl
abbrev Tb := Int × List Int
abbrev Sp := Bool × Int
def V (a : Tb) : Prop := Vl a.1 a.2
def af (a : Tb) (c : Int) : Int := aft a.1 a.2 c
def plus (a b : Tb) : Tb := (aft b.1 b.2 a.1, sumL a.1 a.2 b.2)
def stT (x : Sp) (t : Int) : Tb := if x.1 then (if x.2 ≤ t then (1, []) else (0, [])) else (0, [x.2])
def okS (x : Sp) : Prop := x.1 = false → 0 < x.2
def fT (t : Int) (a : Tb) (xs : List Sp) : Tb := xs.foldl (fun a x => plus a (stT x t)) a
def tAt (xs : List Sp) (t : Int) : Tb := fT t (0, []) xs
theorem V0 : V (0, []) := vl0
theorem stT_V {x : Sp} (h : okS x) (t : Int) : V (stT x t) := by
  obtain ⟨b, n⟩ := x
  cases b with
  | true =>
    by_cases q : n ≤ t
    · simp only [stT, q, if_true]; exact ⟨by decide, .nil, fun x h => nomatch h⟩
    · simp only [stT, q, if_true, if_false]; exact V0
  | false => exact ⟨Int.le_refl _, by simp [stT], fun x hx => by simp [stT] at hx; subst hx; exact h rfl⟩
theorem plus_V {a b : Tb} (ha : V a) (hb : V b) : V (plus a b) := sum_vl ha hb
theorem plus_af {a b : Tb} (ha : V a) {c : Int} (hc : 0 ≤ c) : af (plus a b) c = af b (af a c) := comp ha hc
theorem af_nn {a : Tb} (ha : V a) {c : Int} (hc : 0 ≤ c) : 0 ≤ af a c := aft_nn ha hc
theorem Tb.ext {a b : Tb} (ha : V a) (hb : V b) (h : ∀ c, 0 ≤ c → af a c = af b c) : a = b := by
  obtain ⟨e1, e2⟩ := Tab.ext ha hb h
  exact Prod.ext e1 e2
theorem plus_assoc {a b c : Tb} (ha : V a) (hb : V b) (hc : V c) : plus (plus a b) c = plus a (plus b c) :=
  Tb.ext (plus_V (plus_V ha hb) hc) (plus_V ha (plus_V hb hc)) fun k hk => by
    rw [plus_af (plus_V ha hb) hk, plus_af ha hk, plus_af ha hk, plus_af hb (af_nn ha hk)]
theorem af0 (c : Int) : af (0, []) c = c := by show 0 + c - 0 = c; omega
theorem plus_0l {a : Tb} (ha : V a) : plus (0, []) a = a := Tb.ext (plus_V V0 ha) ha fun c hc => by rw [plus_af V0 hc, af0]
theorem plus_0r {a : Tb} (ha : V a) : plus a (0, []) = a := Tb.ext (plus_V ha V0) ha fun c hc => by rw [plus_af ha hc, af0]
theorem fT_V {t : Int} : ∀ {xs : List Sp} {a : Tb}, V a → (∀ x ∈ xs, okS x) → V (fT t a xs)
  | [], _, h, _ => h
  | x :: xs, a, h, hx => fT_V (xs := xs) (plus_V h (stT_V (hx x List.mem_cons_self) t)) fun y hy => hx y (List.mem_cons_of_mem _ hy)
theorem tAt_V {xs : List Sp} (hx : ∀ x ∈ xs, okS x) (t : Int) : V (tAt xs t) := fT_V V0 hx
theorem fT_plus {t : Int} : ∀ {xs : List Sp} {a : Tb}, V a → (∀ x ∈ xs, okS x) → fT t a xs = plus a (tAt xs t)
  | [], a, h, _ => (plus_0r h).symm
  | x :: xs, a, h, hx => by
    have hs := stT_V (hx x List.mem_cons_self) t
    have hx' : ∀ y ∈ xs, okS y := fun y hy => hx y (List.mem_cons_of_mem _ hy)
    show fT t (plus a (stT x t)) xs = plus a (fT t (plus (0, []) (stT x t)) xs)
    rw [fT_plus (plus_V h hs) hx', plus_0l hs, fT_plus hs hx', plus_assoc h hs (tAt_V hx' t)]
/-- one after the other -/
theorem tAt_app {xs ys : List Sp} (hx : ∀ x ∈ xs, okS x) (hy : ∀ x ∈ ys, okS x) (t : Int) : tAt (xs ++ ys) t = plus (tAt xs t) (tAt ys t) := by
  show fT t _ _ = _
  unfold fT
  rw [List.foldl_append]
  exact fT_plus (tAt_V hx t) hy
/-- a step as the code does it -/
theorem stp_rm_gt {s n t : Int} {l : List Int} (h : s < n) : plus (s, l) (stT (false, n) t) = (s, isort (l ++ [lr s l n])) := by
  show (aft 0 [n] s, sumL s l [n]) = _
  unfold aft sumL
  rw [cnt_zero (by simpa using h)]
  simp [h]
theorem stp_rm_le {s n t : Int} {l : List Int} (v : Vl s l) (h : n ≤ s) : plus (s, l) (stT (false, n) t) = (s - 1, l) := by
  have e : sumL s l [n] = sumL s l [] := by unfold sumL; simp [Int.not_lt.mpr h]
  show (aft 0 [n] s, sumL s l [n]) = _
  rw [e, (zero_r v).2]
  have : cnt [n] s = 1 := by rw [cnt_cons, cnt_nil, if_pos h]; rfl
  unfold aft
  rw [this]
  congr 1; omega
theorem stp_in_le {s n t : Int} {l : List Int} (v : Vl s l) (h : n ≤ t) : plus (s, l) (stT (true, n) t) = (s + 1, l) := by
  have e : stT (true, n) t = (1, []) := by simp [stT, h]
  rw [e]
  show (aft 1 [] s, sumL s l []) = _
  rw [(zero_r v).2]
  unfold aft
  rw [cnt_nil]
  congr 1; omega
theorem stp_in_gt {s n t : Int} {l : List Int} (v : Vl s l) (h : ¬ n ≤ t) : plus (s, l) (stT (true, n) t) = (s, l) := by
  have e : stT (true, n) t = (0, []) := by simp [stT, h]
  rw [e]; exact plus_0r (a := (s, l)) v
/-! ### run on a list -/
def stL (x : Sp) (l : List Int) : Option (List Int) := if x.1 then some (isort (l ++ [x.2])) else if (l.length : Int) < x.2 then none else some (l.take (x.2 - 1).toNat ++ l.drop x.2.toNat)
def run : List Int → List Sp → Option (List Int)
  | l, [] => some l
  | l, x :: xs => (stL x l).bind fun l' => run l' xs
theorem cnt1 (n t : Int) : cnt [n] t = if n ≤ t then 1 else 0 := by rw [cnt_cons, cnt_nil]; omega
end Tab
set_option maxHeartbeats 400000
/-! Effects: breaks and tables, in plain Lean. -/
namespace Tab
open Dl
section
variable {α : Type} [DecidableEq α]
def val (a : α) (ps : List (Int × α)) (t : Int) : α := ps.foldl (fun a p => if p.1 ≤ t then p.2 else a) a
/-- neighbours that are equal merged -/
def mg (a : α) : List (Int × α) → List (Int × α)
  | [] => []
  | p :: ps => if p.2 = a then mg a ps else p :: mg p.2 ps
end
/-! ### a list from its counts -/
/-- sorted lists with the same counts -/
theorem same_cnt : ∀ {l m : List Int}, l.Pairwise (· ≤ ·) → m.Pairwise (· ≤ ·) → (∀ t, cnt l t = cnt m t) → l = m
  | [], [], _, _, _ => rfl
  | x :: l, [], _, _, h => by
    have := h x
    rw [cnt_cons, if_pos (Int.le_refl _), cnt_nil] at this
    have := cnt_nn l x
    omega
  | [], y :: m, _, _, h => by
    have := h y
    rw [cnt_cons, if_pos (Int.le_refl _), cnt_nil] at this
    have := cnt_nn m y
    omega
  | x :: l, y :: m, hl, hm, h => by
    have h1 := List.pairwise_cons.mp hl
    have h2 := List.pairwise_cons.mp hm
    have e : x = y := by
      have a := h x
      have b := h y
      rw [cnt_cons, cnt_cons] at a b
      have nx := cnt_nn l x
      have ny := cnt_nn m y
      rcases Int.lt_trichotomy x y with q | q | q
      · rw [if_pos (Int.le_refl _), if_neg (by omega), cnt_zero (l := m) (fun z hz => by have := h2.1 z hz; omega)] at a
        omega
      · exact q
      · rw [if_pos (Int.le_refl _), if_neg (by omega), cnt_zero (l := l) (fun z hz => by have := h1.1 z hz; omega)] at b
        omega
    subst e
    rw [same_cnt h1.2 h2.2 fun t => by have := h t; rw [cnt_cons, cnt_cons] at this; omega]
end Tab
set_option maxHeartbeats 400000
/-! An effect called, in plain Lean. -/
namespace Tab
open Dl
/-! ### the last table -/
/-! ### how large the lost ranks are -/
theorem fld_le : ∀ (l : List Int) (m : Int), fld l m ≤ m + l.length
  | [], m => by show m ≤ m + 0; omega
  | x :: l, m => by
    have := fld_le l (if x ≤ m then m + 1 else m)
    rw [fld_cons]
    have : (if x ≤ m then m + 1 else m) ≤ m + 1 := by split <;> omega
    simp only [List.length_cons]
    omega
end Tab
set_option maxHeartbeats 400000
/-! Numbers renamed in their order; runs of joined steps; plain Lean. -/
namespace Tab
open Dl
theorem cnt_isort (l : List Int) (t : Int) : cnt (isort l) t = cnt l t := cnt_perm (isort_perm l) t
theorem sorted_isort {l : List Int} (h : l.Pairwise (· ≤ ·)) : isort l = l := same_cnt (isort_sorted l) h fun t => cnt_isort l t
theorem cnt_all {l : List Int} {t : Int} (h : ∀ x ∈ l, x ≤ t) : cnt l t = l.length := by
  unfold cnt
  rw [List.filter_eq_self.mpr fun x hx => decide_eq_true (h x hx)]
theorem run_app : ∀ {xs ys : List Sp} {l : List Int}, run l (xs ++ ys) = (run l xs).bind fun m => run m ys
  | [], _, _ => rfl
  | x :: xs, ys, l => by
    show (stL x l).bind (fun l' => run l' (xs ++ ys)) = ((stL x l).bind fun l' => run l' xs).bind fun m => run m ys
    cases q : stL x l with
    | none => rfl
    | some l1 => exact run_app (xs := xs)
/-! ### renamed -/
def Up (f : Int → Int) : Prop := ∀ m n : Int, m < n → f m < f n
theorem Up.le {f : Int → Int} (h : Up f) (m n : Int) : f m ≤ f n ↔ m ≤ n := by
  constructor
  · intro h1
    apply Classical.byContradiction
    intro h2
    have := h n m (by omega)
    omega
  · intro h1
    rcases Int.lt_or_eq_of_le h1 with q | q
    · exact Int.le_of_lt (h m n q)
    · rw [q]; exact Int.le_refl _
theorem Up.inj {f : Int → Int} (h : Up f) {m n : Int} (e : f m = f n) : m = n := by
  have h1 := (h.le m n).mp (by omega)
  have h2 := (h.le n m).mp (by omega)
  omega
end Tab
set_option maxHeartbeats 400000
/-! What the typed library answers, plain. -/
namespace Dl.lib
open PySem Tab
/-! ### sizes -/
theorem plus_len (a : Tb) (x : Sp) (t : Int) : (plus a (stT x t)).2.length ≤ a.2.length + 1 := by
  have h := len_sum a.1 a.2 (stT x t).2
  have h2 : (stT x t).2.length ≤ 1 := by
    unfold stT
    split
    · split <;> simp
    · simp
  have := cnt_nn (stT x t).2 a.1
  show (sumL a.1 a.2 (stT x t).2).length ≤ _
  omega
theorem fT_len {t : Int} : ∀ {xs : List Sp} {a : Tb}, (fT t a xs).2.length ≤ a.2.length + xs.length
  | [], a => Nat.le_refl _
  | x :: xs, a => by
    have h1 := fT_len (t := t) (xs := xs) (a := plus a (stT x t))
    have h2 := plus_len a x t
    show (fT t (plus a (stT x t)) xs).2.length ≤ _
    rw [List.length_cons]
    omega
theorem tAt_len (xs : List Sp) (t : Int) : (tAt xs t).2.length ≤ xs.length := by
  have h := fT_len (t := t) (xs := xs) (a := (0, []))
  simp only [List.length_nil, Nat.zero_add] at h
  exact h
theorem isort_len (l : List Int) : (isort l).length = l.length := (isort_perm l).length_eq
/-! ### numbers, lists -/
theorem q_isrank (i : Int) : p_is_rank i = some (decide (0 < i)) := rfl
theorem q_iscount (i : Int) : p_is_count i = some (decide (0 ≤ i)) := rfl
theorem q_least {b : Bool} (l : List Int) (s c : Int) : p_least_reaching s (b, l) c = some (lr s l c) := by
  unfold p_least_reaching
  rw [forS_fold (g := fun r x => if x ≤ r then r + 1 else r) fun x _ r => by by_cases h : x ≤ r <;> simp [h], Option.bind_some]
  unfold lr Tab.fld
  by_cases h : s < c <;> simp [h]
/-! ### steps, sequences -/
theorem q_step {x : Sp} (h : okS x) : p_Sequence_is_step x = some true := by
  unfold p_Sequence_is_step
  rw [if_neg (by decide)]
  obtain ⟨b, n⟩ := x
  cases b with
  | true => rfl
  | false =>
    rw [if_neg Bool.false_ne_true]
    refine Eq.trans (obind (a := true) (Eq.trans (if_pos rfl) ?_)) rfl
    rw [q_isrank]
    exact congrArg some (decide_eq_true (h rfl))
theorem q_steps {xs : List Sp} (h : ∀ x ∈ xs, okS x) : p_check_steps xs = some () := by
  unfold p_check_steps
  obtain ⟨s, e, _⟩ := forS_inv (I := fun _ : Unit => True) (f := fun y1 (s2 : Unit) => (p_Sequence_is_step y1).bind fun x6 => (if (!x6) = true then none else some ())) (xs := xs) (s := ()) trivial fun x hx s _ => ⟨(), by rw [q_step (h x hx)]; rfl, trivial⟩
  rw [e]; rfl
theorem q_seq {xs : List Sp} (h : ∀ x ∈ xs, okS x) (hl : xs.length ≤ 16777216) : p_Sequence___init__ xs = some xs := by
  unfold p_Sequence___init__
  rw [lstP_eq hl, Option.bind_some, q_steps h]
  rfl
theorem q_seqadd {xs ys : List Sp} (hx : ∀ x ∈ xs, okS x) (hy : ∀ x ∈ ys, okS x) (hl : xs.length + ys.length ≤ 16777216) : p_Sequence___add__ xs ys = some (xs ++ ys) := by
  unfold p_Sequence___add__
  rw [q_seq (fun x h => (List.mem_append.mp h).elim (hx x) (hy x)) (by rw [List.length_append]; exact hl)]
  rfl
/-! ### tables -/
theorem zip1 {α : Type} {R : α → α → Prop} : ∀ {l : List α}, l.Pairwise R → ∀ p ∈ List.zip l (l.drop 1), R p.1 p.2
  | [], _, p, h => by simp at h
  | [x], _, p, h => by simp at h
  | x :: y :: l, hp, p, h => by
    have h1 := List.pairwise_cons.mp hp
    have h : p ∈ List.zip (x :: y :: l) (y :: l) := h
    rw [List.zip_cons_cons] at h
    rcases List.mem_cons.mp h with rfl | h
    · exact h1.1 y List.mem_cons_self
    · exact zip1 h1.2 p h
theorem q_ranks {b : Bool} {l : List Int} (h : l.Pairwise (· < ·)) (hp : ∀ x ∈ l, 0 < x) (hl : l.length ≤ 16777216) : p_are_lost_ranks (b, l) = some true := by
  unfold p_are_lost_ranks
  rw [if_neg (by decide), lcG_map (g := fun x => decide (0 < x)) hl (fun y _ => by rw [q_isrank]; rfl), Option.bind_some, Option.bind_some]
  have e : ((l.map fun x => decide (0 < x)).all id) = true := by
    rw [List.all_map, List.all_eq_true]
    exact fun x hx => decide_eq_true (hp x hx)
  rw [if_neg (by simp [e])]
  have c : cutP l (some 1) none = l.drop 1 := cutP_lo l 1
  show (lcT (List.zip l (cutP l (some 1) none)) _ _).bind _ = _
  rw [c, lcT_eq (by rw [List.length_zip]; omega), Option.bind_some]
  congr 1
  rw [List.all_map, List.all_eq_true]
  intro p hp
  exact decide_eq_true (zip1 h p (List.mem_filter.mp hp).1)
theorem q_tab {b : Bool} {s : Int} {l : List Int} (v : Vl s l) (hl : l.length ≤ 16777216) : p_Table___init__ s (b, l) = some (s, l) := by
  unfold p_Table___init__
  rw [q_iscount, Option.bind_some, decide_eq_true v.s0, if_neg (by decide), q_ranks v.up v.pos hl]
  rfl
theorem at_body {t : Int} {a : Tb} {x : Sp} (va : V a) (ho : okS x) (hl : a.2.length ≤ 16000000) :
    (if ((!x.1) && (decide (a.1 < x.2))) = true then (p_least_reaching a.1 (false, a.2) x.2).bind fun x7 => (lstP (a.2 ++ (x7 :: ([] : List Int)))).bind fun x9 => some (a.1, isort x9) else (if (!x.1) = true then some (a.1 - 1, a.2) else (if (decide (x.2 ≤ t)) = true then some (a.1 + 1, a.2) else some (a.1, a.2)))) = some (plus a (stT x t)) := by
  obtain ⟨s, l⟩ := a
  obtain ⟨b, n⟩ := x
  cases b with
  | false =>
    by_cases h : s < n
    · rw [if_pos (by simp [h]), q_least, Option.bind_some, lstP_eq (by rw [List.length_append]; simp; simp at hl; omega), Option.bind_some]
      rw [stp_rm_gt h]
    · rw [if_neg (by simp [h]), stp_rm_le va (by omega)]
      exact if_pos rfl
  | true =>
    rw [if_neg (by simp), if_neg (by simp)]
    by_cases h : n ≤ t
    · rw [if_pos (decide_eq_true h), stp_in_le va h]
    · rw [if_neg (by simp [h]), stp_in_gt va h]
theorem q_at {xs : List Sp} (hx : ∀ x ∈ xs, okS x) (t : Int) (hl : xs.length ≤ 10000000) : p_table_at xs t = some (tAt xs t) := by
  have key : ∀ (ys : List Sp) (a : Tb), V a → (∀ x ∈ ys, okS x) → a.2.length + ys.length ≤ 10000000 → forS (fun y1 (s2 : Int × (List Int)) => (if ((!y1.1) && (decide (s2.1 < y1.2))) = true then (p_least_reaching s2.1 (false, s2.2) y1.2).bind fun x7 => (lstP (s2.2 ++ (x7 :: ([] : List Int)))).bind fun x9 => some (s2.1, isort x9) else (if (!y1.1) = true then some (s2.1 - 1, s2.2) else (if (decide (y1.2 ≤ t)) = true then some (s2.1 + 1, s2.2) else some (s2.1, s2.2))))) ys a = some (fT t a ys) := by
    intro ys
    induction ys with
    | nil => intro a _ _ _; rfl
    | cons y ys ih =>
      intro a va hy hn
      rw [List.length_cons] at hn
      unfold forS
      rw [at_body (t := t) va (hy y List.mem_cons_self) (by omega), Option.bind_some]
      exact ih _ (plus_V va (stT_V (hy y List.mem_cons_self) t)) (fun x h => hy x (List.mem_cons_of_mem _ h)) (by have := plus_len a y t; omega)
  unfold p_table_at
  refine Eq.trans (obind (key xs (0, []) V0 hx (by simpa using hl))) ?_
  have hv := tAt_V hx t
  have hl2 := tAt_len xs t
  refine Eq.trans (obind (q_tab (s := (tAt xs t).1) (l := (tAt xs t).2) hv (by omega))) rfl
/-! ### effects -/
/-! ### drawn values -/
theorem at0 (a b : Int) : L2.atI [a, b] 0 = some a := rfl
theorem at1 (a b : Int) : L2.atI [a, b] 1 = some b := rfl
theorem put0 (a b x : Int) : putP [a, b] 0 x = some [x, b] := rfl
theorem put1 (a b x : Int) : putP [a, b] 1 x = some [a, x] := rfl
theorem log_small {m : Int} (h0 : 0 ≤ m) (h1 : m ≤ 100000) : m.natAbs.log2 < 9000 := by
  obtain ⟨n, rfl⟩ : ∃ n : Nat, m = n := ⟨m.toNat, by omega⟩
  show n.log2 < 9000
  have h2 : n.log2 < 20 := by
    by_cases hn : n = 0
    · subst hn; decide
    · exact (Nat.log2_lt hn).mpr (by omega)
  omega
theorem q_take {a b m : Int} (hm : 0 < m) (hs : m.natAbs.log2 < 9000) : ∃ r a' b', 0 ≤ r ∧ r < m ∧ p__law_take [a, b] m = some (r, [a', b']) := by
  unfold p__law_take
  simp only [at0, at1, put0, put1, Option.bind_some, modP_eq hm, divP_eq hm hs]
  by_cases h : (0 : Int) < a
  · simp only [h, decide_true, if_true]
    exact ⟨_, _, _, Int.emod_nonneg _ (by omega), Int.emod_lt_of_pos _ hm, rfl⟩
  · simp only [h, decide_false, Bool.false_eq_true, if_false, at1, Option.bind_some]
    rw [mulP_l (by omega), Option.bind_some]
    exact ⟨_, _, _, Int.emod_nonneg _ (by omega), Int.emod_lt_of_pos _ hm, rfl⟩
def tw2 (p : List Int) : Prop := ∃ a b, p = [a, b]
theorem q_take' {p : List Int} {m : Int} (h : tw2 p) (hm : 0 < m) (hs : m ≤ 100000) : ∃ r, p__law_take p m = some r ∧ (0 ≤ r.1 ∧ r.1 < m) ∧ tw2 r.2 := by
  obtain ⟨a, b, rfl⟩ := h
  obtain ⟨r, a', b', h0, h1, e⟩ := q_take (a := a) (b := b) hm (log_small (by omega) hs)
  exact ⟨_, e, ⟨h0, h1⟩, a', b', rfl⟩
theorem q_pool (ns : List Int) {k : Int} (h0 : 0 ≤ k) (h1 : k < 64) : ∃ p, p__law_pool ns k = some p ∧ tw2 p := by
  unfold p__law_pool
  have hc : ∃ c, (if decide (k < (ns.length : Int)) = true then (L2.atI ns k).bind fun x2 => some (if x2 < 0 then -x2 else x2) else some 0) = some c := by
    by_cases h : k < (ns.length : Int)
    · simp only [h, decide_true, if_true]
      rw [atI_int h0 h]
      exact ⟨_, rfl⟩
    · simp only [h, decide_false, Bool.false_eq_true, if_false]
      exact ⟨0, rfl⟩
  obtain ⟨c, hc⟩ := hc
  rw [hc, Option.bind_some, mulP_r (by omega), Option.bind_some, mulP_r (by split <;> omega), Option.bind_some, mulP_l (by omega)]
  exact ⟨_, rfl, _, _, rfl⟩
theorem q_made {xs : List Sp} (hx : ∀ x ∈ xs, okS x) (hl : xs.length ≤ 16777216) : p__law_made xs = some xs := by
  have key : ∀ (ys acc : List Sp), (∀ x ∈ acc, okS x) → (∀ x ∈ ys, okS x) → acc.length + ys.length ≤ 16777216 → forS (fun y4 (s5 : (List Stp)) => (p_Sequence___init__ (y4 :: ([] : List Stp))).bind fun x9 => (p_Sequence___add__ s5 x9).bind fun x12 => some x12) ys acc = some (acc ++ ys) := by
    intro ys
    induction ys with
    | nil => intro acc _ _ _; rw [List.append_nil]; rfl
    | cons y ys ih =>
      intro acc ha hy h
      rw [List.length_cons] at h
      have h1 : ∀ x ∈ [y], okS x := fun x hx => by
        obtain rfl := List.mem_singleton.mp hx
        exact hy x List.mem_cons_self
      unfold forS
      refine Eq.trans (obind (Eq.trans (obind (q_seq h1 (by simp))) (Eq.trans (obind (q_seqadd ha h1 (by simp; omega))) rfl))) ?_
      refine Eq.trans (ih _ (fun x hx => (List.mem_append.mp hx).elim (ha x) (h1 x)) (fun x hx => hy x (List.mem_cons_of_mem _ hx)) (by rw [List.length_append, List.length_singleton]; omega)) ?_
      rw [List.append_assoc]; rfl
  unfold p__law_made
  refine Eq.trans (obind (q_seq (fun _ h => nomatch h) (by simp))) (Eq.trans (obind (key xs [] (fun _ h => nomatch h) hx (by simpa using hl))) rfl)
/-! ### how much is needed -/
end Dl.lib
set_option maxHeartbeats 400000
/-! Layer P, part 4: what an option's answer keeps. -/
namespace Dl.lib
open PySem Tab
def An {β : Type} (o : Option β) (Q : β → Prop) : Prop := ∃ b, o = some b ∧ Q b
theorem An.mk {β : Type} {o : Option β} {b : β} {Q : β → Prop} (h : o = some b) (q : Q b) : An o Q := ⟨b, h, q⟩
theorem An.ok {β : Type} {b : β} {Q : β → Prop} (q : Q b) : An (some b) Q := ⟨b, rfl, q⟩
theorem An.is {β : Type} {o : Option β} {b : β} (h : An o fun x => x = b) : o = some b := by
  obtain ⟨_, h, rfl⟩ := h
  exact h
theorem An.bd {α β : Type} {o : Option α} {a : α} {f : α → Option β} {Q : β → Prop} (h : o = some a) (k : An (f a) Q) : An (o.bind f) Q := by
  subst h
  exact k
theorem An.bq {α β : Type} {o : Option α} {f : α → Option β} {P : α → Prop} {Q : β → Prop} (h : An o P) (k : ∀ a, P a → An (f a) Q) : An (o.bind f) Q := by
  obtain ⟨a, rfl, p⟩ := h
  exact k a p
theorem An.no {β : Type} {c : Prop} [Decidable c] {a b : Option β} {Q : β → Prop} (h : ¬ c) (k : An b Q) : An (if c then a else b) Q := by rw [if_neg h]; exact k
theorem An.ff {β : Type} {c : Bool} {a b : Option β} {Q : β → Prop} (h : c = false) (k : An b Q) : An (if c = true then a else b) Q := by rw [h, if_neg Bool.false_ne_true]; exact k
/-- a turn that goes on -/
def Go {R S : Type} (I : S → Prop) (w : Fw R S) : Prop := ∃ s, w = .nx s ∧ I s
theorem An.go {R S : Type} {s : S} {I : S → Prop} (i : I s) : An (some (Fw.nx s : Fw R S)) (Go I) := ⟨_, rfl, s, rfl, i⟩
theorem An.forF {α R S : Type} {f : α → S → Option (Fw R S)} {I : S → Prop} {xs : List α} {s : S} (i : I s) (h : ∀ x ∈ xs, ∀ s, I s → An (f x s) (Go I)) : An (Dl.forF f xs s) (Go I) := by
  obtain ⟨s', e, j⟩ := forF_inv i fun x hx s hs => by
    obtain ⟨w, e, s', rfl, j⟩ := h x hx s hs
    exact ⟨s', e, j⟩
  exact ⟨_, e, s', rfl, j⟩
theorem An.lcH {α β S : Type} {f : α → S → Option (β × S)} {I : S → Prop} {J : β → Prop} {xs : List α} {s : S} (hl : xs.length ≤ 16777216) (i : I s) (h : ∀ x ∈ xs, ∀ s, I s → An (f x s) fun r => J r.1 ∧ I r.2) : An (Dl.lcH f xs s) fun q => q.1.length = xs.length ∧ (∀ y ∈ q.1, J y) ∧ I q.2 := lcH_inv hl i h
theorem a_take {p : List Int} {m : Int} (h : tw2 p) (hm : 0 < m) (hs : m ≤ 100000) : An (p__law_take p m) fun r => (0 ≤ r.1 ∧ r.1 < m) ∧ tw2 r.2 := q_take' h hm hs
theorem a_pool (ns : List Int) {k : Int} (h0 : 0 ≤ k) (h1 : k < 64) : An (p__law_pool ns k) tw2 := q_pool ns h0 h1
end Dl.lib
set_option maxHeartbeats 400000
/-! What the typed library answers, plain: sums, repetitions, what a list must have. -/
namespace Dl.lib
open PySem Tab
/-! ### a list that is too short -/
/-! ### an effect is told by its tables -/
/-! ### sums -/
/-! ### repetitions -/
def rp (n : Nat) (xs : List Sp) : List Sp := (List.replicate n xs).flatten
/-! ### growths and needs of sums -/
end Dl.lib
set_option maxHeartbeats 400000
/-! What the typed library answers, plain: repetitions of many. -/
namespace Dl.lib
open PySem Tab
/-! ### loops, by a number that falls -/
/-! ### counts in ascending lists -/
theorem cnt_len (l : List Int) (t : Int) : cnt l t ≤ l.length := by
  unfold cnt
  have := List.length_filter_le (fun x => decide (x ≤ t)) l
  omega
theorem cnt_at {l : List Int} (h : l.Pairwise (· ≤ ·)) {i : Nat} (hi : i < l.length) (t : Int) : (l[i] ≤ t → (i : Int) + 1 ≤ cnt l t) ∧ (t < l[i] → cnt l t ≤ i) := by
  have hp := List.pairwise_iff_getElem.mp h
  constructor
  · intro ht
    have e : cnt l t = cnt (l.take (i + 1)) t + cnt (l.drop (i + 1)) t := by rw [← cnt_app, List.take_append_drop]
    have e2 : cnt (l.take (i + 1)) t = (l.take (i + 1)).length := cnt_all fun x hx => by
      obtain ⟨j, hj, rfl⟩ := List.mem_take_iff_getElem.mp hx
      rcases Nat.lt_or_eq_of_le (show j ≤ i by omega) with q | q
      · exact Int.le_trans (hp j i (by omega) hi q) ht
      · subst q; exact ht
    have := cnt_nn (l.drop (i + 1)) t
    rw [e, e2, List.length_take]
    omega
  · intro ht
    have e : cnt l t = cnt (l.take i) t + cnt (l.drop i) t := by rw [← cnt_app, List.take_append_drop]
    have e2 : cnt (l.drop i) t = 0 := cnt_zero fun x hx => by
      obtain ⟨j, hj, rfl⟩ := List.mem_drop_iff_getElem.mp hx
      rcases Nat.eq_zero_or_pos j with q | q
      · subst q; simpa using ht
      · exact Int.lt_of_lt_of_le ht (hp i (i + j) hi (by omega) (by omega))
    have := cnt_len (l.take i) t
    rw [List.length_take] at this
    omega
theorem up_le {l : List Int} (h : l.Pairwise (· < ·)) : l.Pairwise (· ≤ ·) := h.imp fun h => Int.le_of_lt h
theorem af_up {a : Tb} (v : V a) {c d : Int} (h : c ≤ d) : af a c ≤ af a d := by
  have := cnt_le v.up h
  unfold af aft
  omega
/-! ### a table over and over -/
def it (a : Tb) : Nat → Int → Int
  | 0, c => c
  | n + 1, c => it a n (af a c)
/-! ### repeated -/
/-! ### lost ranks of many repetitions -/
/-! ### a repetition is the effect of the steps over and over -/
end Dl.lib
set_option maxHeartbeats 400000
/-! What the typed library answers, plain: removals of old elements. -/
namespace Dl.lib
open PySem Tab
/-! ### ascending ranks -/
theorem cnt_self {l : List Int} (h : l.Pairwise (· < ·)) {i : Nat} (hi : i < l.length) : cnt l l[i] = i + 1 ∧ cnt l (l[i] - 1) = i := by
  have up := up_le h
  have hp := List.pairwise_iff_getElem.mp h
  have a1 := (cnt_at up hi l[i]).1 (Int.le_refl _)
  have a2 := (cnt_at up hi (l[i] - 1)).2 (by omega)
  refine ⟨?_, ?_⟩
  · by_cases q : i + 1 < l.length
    · have := hp i (i + 1) hi q (by omega)
      have := (cnt_at up q l[i]).2 (by omega)
      omega
    · have := cnt_len l l[i]
      omega
  · rcases Nat.eq_zero_or_pos i with z | z
    · have := cnt_nn l (l[i] - 1)
      omega
    · obtain ⟨j, rfl⟩ : ∃ j, i = j + 1 := ⟨i - 1, by omega⟩
      have := hp j (j + 1) (by omega) hi (by omega)
      have := (cnt_at up (show j < l.length by omega) (l[j + 1] - 1)).1 (by omega)
      omega
theorem lost_mem {a : Tb} (v : V a) {x : Int} (hx : 0 < x) : x ∈ a.2 ↔ af a x = af a (x - 1) := by
  have := mem_iff v x
  constructor
  · intro h; exact (this.mp h).2
  · intro h; exact this.mpr ⟨hx, h⟩
/-- what comes back: a rank that is not lost is the least that becomes what it becomes -/
theorem lr_af {a : Tb} (v : V a) {x : Int} (hx : 0 < x) (h : x ∉ a.2) : lr a.1 a.2 (af a x) = x := by
  have g1 := (galois v (af a x) (k := x) (by omega)).mpr (Int.le_refl _)
  by_cases e : lr a.1 a.2 (af a x) = x
  · exact e
  · have g2 := (galois v (af a x) (k := x - 1) (by omega)).mp (by omega)
    have g2 : af a x ≤ af a (x - 1) := g2
    have g3 := af_up v (c := x - 1) (d := x) (by omega)
    exact absurd ((lost_mem v hx).mpr (by omega)) h
theorem lr_afb {a : Tb} (v : V a) (h0 : a.1 = 0) {c : Int} (h : 0 < c) : af a (lr a.1 a.2 c) = c ∧ lr a.1 a.2 c ∉ a.2 ∧ 0 < lr a.1 a.2 c := lr_back v (by omega)
/-! ### removals alone -/
def rms (xs : List Sp) : List Sp := xs.filter fun x => !x.1
theorem rms_mem {xs : List Sp} {x : Sp} : x ∈ rms xs ↔ x ∈ xs ∧ x.1 = false := by unfold rms; rw [List.mem_filter]; simp
theorem rms_ok {xs : List Sp} (h : ∀ x ∈ xs, okS x) : ∀ x ∈ rms xs, okS x ∧ x.1 = false := fun x hx => ⟨h x (rms_mem.mp hx).1, (rms_mem.mp hx).2⟩
theorem rms_len (xs : List Sp) : (rms xs).length ≤ xs.length := List.length_filter_le _ _
theorem stT_rm {x : Sp} (h : x.1 = false) (t : Int) : stT x t = (0, [x.2]) := by unfold stT; rw [if_neg (by simp [h])]
def T0 (xs : List Sp) : Tb := tAt (rms xs) 0
theorem T0_len (xs : List Sp) : (T0 xs).2.length ≤ xs.length := by
  have := tAt_len (rms xs) 0
  have := rms_len xs
  unfold T0
  omega
theorem fT_z {t : Int} : ∀ {xs : List Sp} {a : Tb}, a.1 = 0 → (∀ x ∈ xs, okS x ∧ x.1 = false) → (fT t a xs).1 = 0
  | [], _, h, _ => h
  | x :: xs, a, h, ho => by
    show (fT t (plus a (stT x t)) xs).1 = 0
    refine fT_z ?_ fun y hy => ho y (List.mem_cons_of_mem _ hy)
    have hx := ho x List.mem_cons_self
    have := hx.1 hx.2
    rw [stT_rm hx.2]
    show 0 + a.1 - cnt [x.2] a.1 = 0
    rw [cnt1, if_neg (by omega)]
    omega
/-! ### the ranks that are removed, in the order of the removals -/
def od (a : Tb) : List Sp → List Int
  | [] => []
  | x :: xs => lr a.1 a.2 x.2 :: od (plus a (stT x 0)) xs
theorem plus_rm {a : Tb} {x : Sp} (h0 : a.1 = 0) (hx : okS x ∧ x.1 = false) : plus a (stT x 0) = (0, isort (a.2 ++ [lr a.1 a.2 x.2])) := by
  obtain ⟨s, l⟩ := a
  obtain ⟨b, n⟩ := x
  obtain rfl : b = false := hx.2
  obtain rfl : s = 0 := h0
  exact stp_rm_gt (hx.1 rfl)
theorem od_perm : ∀ {xs : List Sp} {a : Tb}, a.1 = 0 → (∀ x ∈ xs, okS x ∧ x.1 = false) → (fT 0 a xs).2.Perm (a.2 ++ od a xs)
  | [], a, _, _ => by
    show a.2.Perm (a.2 ++ [])
    rw [List.append_nil]
  | x :: xs, a, h0, ho => by
    have e := plus_rm h0 (ho x List.mem_cons_self)
    have ih := od_perm (xs := xs) (a := plus a (stT x 0)) (by rw [e]) fun y hy => ho y (List.mem_cons_of_mem _ hy)
    refine ih.trans ?_
    show ((plus a (stT x 0)).2 ++ od (plus a (stT x 0)) xs).Perm (a.2 ++ (lr a.1 a.2 x.2 :: od (plus a (stT x 0)) xs))
    rw [show a.2 ++ (lr a.1 a.2 x.2 :: od (plus a (stT x 0)) xs) = (a.2 ++ [lr a.1 a.2 x.2]) ++ od (plus a (stT x 0)) xs by simp]
    refine List.Perm.append_right _ ?_
    rw [e]
    exact isort_perm _
theorem od_sort {xs : List Sp} (ho : ∀ x ∈ xs, okS x ∧ x.1 = false) : isort (od (0, []) xs) = (tAt xs 0).2 := by
  have p := od_perm (xs := xs) (a := (0, [])) rfl ho
  rw [List.nil_append] at p
  refine same_cnt (isort_sorted _) (up_le (tAt_V (fun x hx => (ho x hx).1) 0).up) fun t => ?_
  rw [cnt_isort]
  exact (cnt_perm p t).symm
/-! ### what the defs answer -/
theorem q_atL {xs : List Sp} (hx : ∀ x ∈ xs, okS x) (hl : xs.length ≤ 10000000) : p_table_at__L (rms xs) 0 = some (T0 xs) := by
  have e : p_table_at__L (rms xs) 0 = p_table_at (rms xs) 0 := rfl
  rw [e]
  exact q_at (fun x h => (rms_ok hx x h).1) 0 (by have := rms_len xs; omega)
end Dl.lib
set_option maxHeartbeats 400000
/-! What the typed library answers, plain: sequences called; steps from the top. -/
namespace Dl.lib
open PySem Tab
/-! ### ascending lists, by their counts -/
/-! ### a sequence called -/
/-! ### popping -/
theorem popP_eq {α : Type} {xs : List α} {i : Int} (h0 : 0 ≤ i) (h : i < xs.length) (hz : xs.length ≤ 10000000) : popP xs i = some (xs[i.toNat]'(by omega), xs.eraseIdx i.toNat) := by
  unfold popP
  have e : seqIndex? i xs.length = some i.toNat := by
    unfold seqIndex?
    simp only [show ¬ i < 0 by omega, if_false]
    rw [if_pos (by simp [h0, h])]
  rw [if_pos (by omega), e]
  show (match xs[i.toNat]? with
    | some x => some (x, xs.eraseIdx i.toNat) | none => none) = _
  rw [List.getElem?_eq_getElem (by omega)]
/-! ### steps from the top -/
end Dl.lib
set_option maxHeartbeats 400000
/-! What is shown of ints and of lists of them; equal data; draws by great numbers. -/
namespace Dl.lib
open PySem Tab L2 PySem.Spec PyProof.Rows
/-! ### texts -/
theorem ok_app {a b : Str} (ha : PyData.strOk a = true) (hb : PyData.strOk b = true) : PyData.strOk (a ++ b) = true := by
  show (a.cps ++ b.cps).all (· < 0x110000) = true
  rw [Array.all_append]
  exact Bool.and_eq_true_iff.mpr ⟨ha, hb⟩
theorem ok_from : ∀ (ts : List Str) (k : Nat) (acc : Str), PyData.strOk acc = true → (∀ t ∈ ts, PyData.strOk t = true) → PyData.strOk (textFrom k acc ts) = true
  | [], _, acc, h, _ => h
  | t :: ts, k, acc, h, ht => by
    show PyData.strOk (textFrom (k + 1) (acc ++ (if k > 0 then ", " else "" : String) ++ t) ts) = true
    refine ok_from ts _ _ (ok_app (ok_app h ?_) (ht t (List.mem_cons_self ..))) fun u hu => ht u (List.mem_cons_of_mem _ hu)
    split
    · decide +kernel
    · decide +kernel
theorem ok_string (x : String) : PyData.strOk (Str.ofString x) = true := by
  show (Str.ofString x).cps.all (fun c => decide (c < 0x110000)) = true
  rw [Str.ofString_eq_toList]
  simp only [List.all_toArray, List.all_map, List.all_eq_true]
  intro c _
  have v := c.valid
  show decide (c.toNat < 0x110000) = true
  refine decide_eq_true ?_
  rcases v with v | v
  · have : c.toNat < 0xd800 := v
    omega
  · have : c.toNat < 0x110000 := v.2
    omega
theorem log_small2 {a : Int} (h : a.natAbs < 2 ^ 256) : a.natAbs.log2 < 1920 := by
  have h1 : a.natAbs.log2 < 256 := by
    by_cases z : a.natAbs = 0
    · rw [z]; decide
    · exact (Nat.log2_lt z).mpr h
  omega
/-- p is shown in at most n signs -/
structure Sh (n : Nat) (p : PyData) : Prop where
  ok : p.showable = true
  nd : p.hasDict = false
  dp : p.depth ≤ 5
  len : p.shown.length ≤ n
  st : PyData.strOk p.shown = true
theorem Sh.int {a : Int} (h : a.natAbs < 2 ^ 256) : Sh 2000 (.int a) :=
  ⟨decide_eq_true (log_small2 h), rfl, by show 0 ≤ 5; omega, int_short (log_small2 h), ok_string _⟩
theorem shAll {l : List Int} (h : ∀ x ∈ l, x.natAbs < 2 ^ 256) : ∀ t ∈ PyData.shownAll (l.map PyData.int), t.length ≤ 2000 ∧ PyData.strOk t = true := by
  induction l with
  | nil => exact fun t ht => nomatch ht
  | cons a l ih =>
    intro t ht
    rcases List.mem_cons.mp ht with rfl | ht
    · have z := Sh.int (h a (List.mem_cons_self ..))
      exact ⟨z.len, z.st⟩
    · exact ih (fun x hx => h x (List.mem_cons_of_mem _ hx)) t ht
theorem shAll_len (l : List PyData) : (PyData.shownAll l).length = l.length := by
  induction l with
  | nil => rfl
  | cons a l ih => show (PyData.shownAll l).length + 1 = l.length + 1; rw [ih]
theorem shAll_ok {l : List Int} (h : ∀ x ∈ l, x.natAbs < 2 ^ 256) : PyData.showableAll (l.map PyData.int) = true ∧ PyData.hasDictAll (l.map PyData.int) = false ∧ PyData.depthAll (l.map PyData.int) = 0 := by
  induction l with
  | nil => exact ⟨rfl, rfl, rfl⟩
  | cons a l ih =>
    obtain ⟨i1, i2, i3⟩ := ih fun x hx => h x (List.mem_cons_of_mem _ hx)
    have z := Sh.int (h a (List.mem_cons_self ..))
    refine ⟨?_, ?_, ?_⟩
    · show (PyData.showable (.int a) && PyData.showableAll (l.map PyData.int)) = true
      rw [z.ok, i1]; rfl
    · show (PyData.hasDict (.int a) || PyData.hasDictAll (l.map PyData.int)) = false
      rw [z.nd, i2]; rfl
    · show max (PyData.depth (.int a)) (PyData.depthAll (l.map PyData.int)) = 0
      rw [i3]; rfl
theorem sum_le : ∀ {ts : List Str} {n : Nat}, (∀ t ∈ ts, t.length ≤ n) → (ts.map (·.length)).sum ≤ n * ts.length
  | [], n, _ => Nat.zero_le _
  | t :: ts, n, h => by
    have h1 := sum_le (ts := ts) (n := n) fun u hu => h u (List.mem_cons_of_mem _ hu)
    have h2 := h t (List.mem_cons_self ..)
    show t.length + (ts.map (·.length)).sum ≤ n * (ts.length + 1)
    rw [Nat.mul_succ]
    omega
theorem Sh.ints {l : List Int} (h : ∀ x ∈ l, x.natAbs < 2 ^ 256) (hl : l.length ≤ 400) : Sh 900000 (.list (l.map PyData.int)) := by
  obtain ⟨i1, i2, i3⟩ := shAll_ok h
  have z := shAll h
  refine ⟨i1, i2, ?_, ?_, ?_⟩
  · show PyData.depthAll (l.map PyData.int) + 1 ≤ 5
    omega
  · show (listText (PyData.shownAll (l.map PyData.int))).length ≤ 900000
    have h1 := listText_len_le (PyData.shownAll (l.map PyData.int))
    have h2 := sum_le (n := 2000) fun t ht => (z t ht).1
    have h3 := shAll_len (l.map PyData.int)
    rw [List.length_map] at h3
    have h4 : 2000 * (PyData.shownAll (l.map PyData.int)).length ≤ 2000 * 400 := Nat.mul_le_mul_left _ (by omega)
    omega
  · show PyData.strOk (textFrom 0 "[" (PyData.shownAll (l.map PyData.int)) ++ "]") = true
    exact ok_app (ok_from _ _ _ (by decide +kernel) fun t ht => (z t ht).2) (by decide +kernel)
end Dl.lib
set_option maxHeartbeats 400000
/-! What is shown, by how long and how deep it is. -/
namespace Dl.lib
open PySem Tab L2 PySem.Spec PyProof.Rows
/-- p is shown in at most n signs, its depth at most d -/
structure Sw (n d : Nat) (p : PyData) : Prop where
  ok : p.showable = true
  nd : p.hasDict = false
  dp : p.depth ≤ d
  len : p.shown.length ≤ n
theorem Sw.int {a : Int} (h : a.natAbs.log2 < 1920) : Sw 2000 0 (.int a) := ⟨decide_eq_true h, rfl, Nat.le_refl _, int_short h⟩
theorem Sw.mono {n d n' d' : Nat} {p : PyData} (h : Sw n d p) (hn : n ≤ n') (hd : d ≤ d') : Sw n' d' p := ⟨h.ok, h.nd, Nat.le_trans h.dp hd, Nat.le_trans h.len hn⟩
theorem Sw.wd (b : Bool) : Sw 2000 0 (.str (wd b)) := ⟨rfl, rfl, Nat.le_refl _, by cases b <;> decide +kernel⟩
theorem Sw.non : Sw 2000 0 .none := ⟨rfl, rfl, Nat.le_refl _, by decide +kernel⟩
theorem Sw.bl (b : Bool) : Sw 2000 0 (.bool b) := ⟨rfl, rfl, Nat.le_refl _, by cases b <;> decide +kernel⟩
theorem Sw.all {n d : Nat} : ∀ {ps : List PyData}, (∀ p ∈ ps, Sw n d p) → PyData.showableAll ps = true ∧ PyData.hasDictAll ps = false ∧ PyData.depthAll ps ≤ d ∧ ∀ t ∈ PyData.shownAll ps, t.length ≤ n
  | [], _ => ⟨rfl, rfl, Nat.zero_le _, fun t h => nomatch h⟩
  | p :: ps, h => by
    obtain ⟨h1, h2, h3, h4⟩ := Sw.all fun q hq => h q (List.mem_cons_of_mem _ hq)
    have hp := h p List.mem_cons_self
    refine ⟨?_, ?_, ?_, fun t ht => ?_⟩
    · show (p.showable && PyData.showableAll ps) = true
      rw [hp.ok, h1]; rfl
    · show (p.hasDict || PyData.hasDictAll ps) = false
      rw [hp.nd, h2]; rfl
    · show max p.depth (PyData.depthAll ps) ≤ d
      have := hp.dp
      omega
    · rcases List.mem_cons.mp ht with rfl | ht
      · exact hp.len
      · exact h4 t ht
theorem Sw.sum {n m : Nat} {ps : List PyData} (h : ∀ t ∈ PyData.shownAll ps, t.length ≤ n) (hl : ps.length ≤ m) : ((PyData.shownAll ps).map (·.length)).sum + 2 * (PyData.shownAll ps).length + 3 ≤ m * (n + 2) + 3 := by
  have h1 := sum_le h
  have h2 := shAll_len ps
  rw [h2] at h1 ⊢
  have h3 : n * ps.length + 2 * ps.length = ps.length * (n + 2) := by rw [Nat.mul_comm n, Nat.mul_comm 2, Nat.mul_add]
  have h4 : ps.length * (n + 2) ≤ m * (n + 2) := Nat.mul_le_mul_right _ hl
  omega
theorem Sw.list {n d m : Nat} {ps : List PyData} (h : ∀ p ∈ ps, Sw n d p) (hl : ps.length ≤ m) : Sw (m * (n + 2) + 3) (d + 1) (.list ps) := by
  obtain ⟨h1, h2, h3, h4⟩ := Sw.all h
  exact ⟨h1, h2, by show PyData.depthAll ps + 1 ≤ _; omega, Nat.le_trans (listText_len_le _) (Sw.sum h4 hl)⟩
theorem Sw.tup {n d m : Nat} {ps : List PyData} (h : ∀ p ∈ ps, Sw n d p) (hl : ps.length ≤ m) : Sw (m * (n + 2) + 3) (d + 1) (.tuple ps) := by
  obtain ⟨h1, h2, h3, h4⟩ := Sw.all h
  exact ⟨h1, h2, by show PyData.depthAll ps + 1 ≤ _; omega, Nat.le_trans (tupleText_len_le _) (Sw.sum h4 hl)⟩
theorem Sw.step {x : Stp} (h : x.2.natAbs.log2 < 1920) : Sw (2 * 2002 + 3) 1 (PE.step.P x) := Sw.tup (m := 2) (fun p hp => by
  rcases List.mem_cons.mp hp with rfl | hp
  · exact Sw.wd _
  · rw [List.mem_singleton.mp hp]; exact Sw.int h) (Nat.le_refl _)
end Dl.lib
set_option maxHeartbeats 400000
/-! Comparing effects: the least count at which two tables differ, the first difference, the separating list. -/
namespace Dl.lib
open PySem Tab
/-! ### two tables -/
def un : List Int → List Int → Option Int
  | [], [] => none
  | x :: _, [] => some x
  | [], y :: _ => some y
  | x :: xs, y :: ys => if x = y then un xs ys else some (if y < x then y else x)
/-! ### the first difference -/
end Dl.lib
set_option maxHeartbeats 400000
/-! Comparing effects: outcomes, and the list that separates. -/
namespace Dl.lib
open PySem Tab
theorem lMax_some : ∀ (l : List Int), l ≠ [] → ∃ m, lMax l = some m
  | [], h => absurd rfl h
  | x :: r, _ => by
    show ∃ m, (match lMax r with | none => _ | some m => _) = some m
    split <;> exact ⟨_, rfl⟩
end Dl.lib
set_option maxHeartbeats 400000
/-! Parts and normal forms, plain. -/
namespace Dl.lib
open PySem Tab
/-- one word -/
def PartOk (l : List Sp) : Prop := ∃ x r, l = x :: r ∧ ∀ y ∈ r, y.1 = x.1
theorem sameW_iff {acc : List (List Sp)} {d : Sp} (h : sameW acc d = true) : ∃ as x r, acc = as ++ [x :: r] ∧ x.1 = d.1 := by
  unfold sameW at h
  split at h
  · rename_i x r e
    obtain ⟨as, rfl⟩ := List.getLast?_eq_some_iff.mp e
    exact ⟨as, x, r, rfl, of_decide_eq_true h⟩
  · cases h
theorem grp_ok : ∀ {xs : List Sp} {acc : List (List Sp)}, (∀ l ∈ acc, PartOk l) → ∀ l ∈ grp xs acc, PartOk l
  | [], _, h => h
  | d :: r, acc, h => by
    unfold grp
    split
    · rename_i q
      obtain ⟨as, x, r2, rfl, e⟩ := sameW_iff q
      refine grp_ok fun l hl => ?_
      rw [List.getLast?_concat, List.dropLast_concat] at hl
      rcases List.mem_append.mp hl with hl | hl
      · exact h l (List.mem_append_left _ hl)
      · rw [List.mem_singleton.mp hl]
        obtain ⟨x', r', e', h'⟩ := h (x :: r2) (List.mem_append_right _ (List.mem_singleton_self _))
        cases e'
        refine ⟨x, r2 ++ [d], rfl, fun y hy => ?_⟩
        rcases List.mem_append.mp hy with hy | hy
        · exact h' y hy
        · rw [List.mem_singleton.mp hy]; exact e.symm
    · refine grp_ok fun l hl => ?_
      rcases List.mem_append.mp hl with hl | hl
      · exact h l hl
      · rw [List.mem_singleton.mp hl]
        exact ⟨d, [], rfl, fun y hy => nomatch hy⟩
theorem grp_flat : ∀ (xs : List Sp) (acc : List (List Sp)), (grp xs acc).flatten = acc.flatten ++ xs
  | [], acc => (List.append_nil _).symm
  | d :: r, acc => by
    unfold grp
    split
    · rename_i q
      obtain ⟨as, x, r2, rfl, e⟩ := sameW_iff q
      rw [grp_flat r, List.getLast?_concat, List.dropLast_concat]
      simp
    · rw [grp_flat r]
      simp
/-- a part in its normal form -/
def nfP (part : List Sp) : List Sp := match part with
  | (true, n) :: r => (isort (n :: r.map (·.2))).map fun n => (true, n)
  | _ => (tAt part 0).2.reverse.map fun n => (false, n)
def nf (xs : List Sp) : List Sp := (grp xs []).flatMap nfP
theorem rms_all {l : List Sp} (h : ∀ x ∈ l, x.1 = false) : rms l = l := by
  unfold rms
  exact List.filter_eq_self.mpr fun x hx => by simp [h x hx]
theorem part_rm {l : List Sp} {x : Sp} {r : List Sp} (e : l = x :: r) (hx : x.1 = false) (h : ∀ y ∈ r, y.1 = x.1) : ∀ y ∈ l, y.1 = false := fun y hy => by
  rw [e] at hy
  rcases List.mem_cons.mp hy with rfl | hy
  · exact hx
  · rw [h y hy, hx]
theorem q_part {l : List Sp} (hl : l.length ≤ 100000) (hp : PartOk l) (ho : ∀ x ∈ l, okS x) : p_sorted_part l = some (nfP l) ∧ (nfP l).length ≤ l.length ∧ ∀ x ∈ nfP l, okS x := by
  obtain ⟨⟨b, n⟩, r, rfl, h⟩ := hp
  unfold p_sorted_part
  rw [obind (show L2.atI ((b, n) :: r) 0 = some (b, n) from atI_head _ _)]
  cases b with
  | true =>
    have al : (r.all fun x => x.1 == true) = true := List.all_eq_true.mpr fun x hx => by simp [h x hx]
    refine ⟨?_, ?_, fun x hx => ?_⟩
    · rw [if_pos rfl]
      refine Eq.trans (obind (a := nfP ((true, n) :: r)) ?_) rfl
      show (if (r.all fun x => x.1 == true) = true then some ((isort (n :: r.map (·.2))).map fun n => (true, n)) else none) = _
      rw [if_pos al]
      rfl
    · show ((isort (n :: r.map (·.2))).map fun n => ((true, n) : Sp)).length ≤ _
      rw [List.length_map, isort_len, List.length_cons, List.length_map, List.length_cons]
      exact Nat.le_refl _
    · obtain ⟨m, _, rfl⟩ := List.mem_map.mp (show x ∈ (isort (n :: r.map (·.2))).map fun n => ((true, n) : Sp) from hx)
      exact fun z => nomatch z
  | false =>
    have al := part_rm (l := (false, n) :: r) rfl rfl h
    have er := rms_all al
    have le := T0_len ((false, n) :: r)
    have t0 : T0 ((false, n) :: r) = tAt ((false, n) :: r) 0 := by unfold T0; rw [er]
    rw [t0] at le
    have qa := q_atL ho (by omega)
    rw [er, t0] at qa
    refine ⟨?_, ?_, fun x hx => ?_⟩
    · rw [if_neg Bool.false_ne_true]
      refine Eq.trans (obind qa) (Eq.trans (obind (a := (tAt ((false, n) :: r) 0).2) rfl) (Eq.trans (obind (lcT_eq (by rw [List.length_reverse]; omega))) ?_))
      rw [List.filter_eq_self.mpr fun _ _ => rfl]
      rfl
    · show ((tAt ((false, n) :: r) 0).2.reverse.map fun n => ((false, n) : Sp)).length ≤ _
      rw [List.length_map, List.length_reverse]
      exact le
    · obtain ⟨m, hm, rfl⟩ := List.mem_map.mp (show x ∈ (tAt ((false, n) :: r) 0).2.reverse.map fun n => ((false, n) : Sp) from hx)
      exact fun _ => (tAt_V ho 0).pos m (List.mem_reverse.mp hm)
theorem q_parts : ∀ (ps : List (List Sp)) (s : List Sp), s.length + ps.flatten.length ≤ 100000 → (∀ l ∈ ps, PartOk l ∧ ∀ x ∈ l, okS x) → (∀ x ∈ s, okS x) → forS (fun y7 (s8 : (List Stp)) => (p_sorted_part y7).bind fun x12 => (catP s8 x12).bind fun x14 => some x14) ps s = some (s ++ ps.flatMap nfP) ∧ (s ++ ps.flatMap nfP).length ≤ 100000 ∧ ∀ x ∈ s ++ ps.flatMap nfP, okS x
  | [], s, hl, _, hs => by
    rw [List.flatMap_nil, List.append_nil]
    exact ⟨rfl, by omega, hs⟩
  | l :: ps, s, hl, hp, hs => by
    rw [List.flatten_cons, List.length_append] at hl
    obtain ⟨h1, h2, h3⟩ := q_part (by omega) (hp l List.mem_cons_self).1 (hp l List.mem_cons_self).2
    obtain ⟨g1, g2, g3⟩ := q_parts ps (s ++ nfP l) (by rw [List.length_append]; omega) (fun m hm => hp m (List.mem_cons_of_mem _ hm)) (fun x hx => by
      rcases List.mem_append.mp hx with hx | hx
      · exact hs x hx
      · exact h3 x hx)
    rw [List.flatMap_cons, ← List.append_assoc]
    refine ⟨?_, g2, g3⟩
    show Option.bind ((p_sorted_part l).bind fun x12 => (catP s x12).bind fun x14 => some x14) _ = _
    exact Eq.trans (obind (Eq.trans (obind h1) (Eq.trans (obind (catP_eq (by omega))) rfl))) g1
theorem q_nf {xs : List Sp} (hx : ∀ x ∈ xs, okS x) (hl : xs.length < 10000) : p_normal_form xs = some (nf xs) := by
  have fl := grp_flat xs []
  have fl : (grp xs []).flatten = xs := fl
  have mem : ∀ l ∈ grp xs [], ∀ x ∈ l, x ∈ xs := fun l h x hx => by rw [← fl]; exact List.mem_flatten.mpr ⟨l, h, hx⟩
  obtain ⟨h1, h2, h3⟩ := q_parts (grp xs []) [] (by rw [fl]; show 0 + _ ≤ _; omega) (fun l h => ⟨grp_ok (acc := []) (fun _ h => nomatch h) l h, fun x hxl => hx x (mem l h x hxl)⟩) (fun _ h => nomatch h)
  rw [List.nil_append] at h1 h2 h3
  unfold p_normal_form
  refine Eq.trans (obind (a := xs) rfl) (Eq.trans (obind (a := grp xs []) ?_) (Eq.trans (obind h1) (Eq.trans (obind (q_seq h3 (by omega))) rfl)))
  show partsP xs = _
  unfold partsP
  rw [if_pos hl]
theorem q_conn {xs ys : List Sp} (hx : ∀ x ∈ xs, okS x) (lx : xs.length < 10000) (hy : ∀ x ∈ ys, okS x) (ly : ys.length < 10000) : p_is_connected xs ys = some (decide (nf xs = nf ys)) := by
  unfold p_is_connected
  refine Eq.trans (obind (q_nf hx lx)) (Eq.trans (obind (q_nf hy ly)) (Eq.trans (obind (a := decide (nf xs = nf ys)) ?_) rfl))
  unfold p_Sequence___eq__
  rw [Bool.true_and]
/-! ### small tables -/
theorem stT_out (r t c : Int) : af (stT (false, r) t) c = c - if r ≤ c then 1 else 0 := by
  unfold stT
  rw [if_neg Bool.false_ne_true]
  show 0 + c - cnt [r] c = _
  rw [cnt_cons, Tab.cnt_nil]; omega
theorem af_cons {x : Sp} {xs : List Sp} (hx : ∀ y ∈ x :: xs, okS y) {t c : Int} (hc : 0 ≤ c) : af (tAt (x :: xs) t) c = af (tAt xs t) (af (stT x t) c) := by
  have ho := hx x List.mem_cons_self
  have hs := stT_V ho t
  have e := tAt_app (xs := [x]) (ys := xs) (fun y hy => by rw [List.mem_singleton.mp hy]; exact ho) (fun y hy => hx y (List.mem_cons_of_mem _ hy)) t
  have e1 : tAt [x] t = stT x t := plus_0l hs
  rw [e1] at e
  show af (tAt ([x] ++ xs) t) c = _
  rw [e, plus_af hs hc]
end Dl.lib
set_option maxHeartbeats 400000
/-! Old elements that are left; normal forms once more. -/
namespace Dl.lib
open PySem Tab L2
theorem rngP_up (a b : Int) : (rngP a b).Pairwise (· < ·) := by
  rw [List.pairwise_iff_getElem]
  intro i j hi hj h
  rw [rngP_get hi, rngP_get hj]
  omega
def LL (M : Int) (A : Tb) : List Int := (rngP 1 M).filter fun x => !decide (x ∈ A.2)
theorem LL_mem {M : Int} {A : Tb} {x : Int} : x ∈ LL M A ↔ 1 ≤ x ∧ x < M ∧ x ∉ A.2 := by
  unfold LL
  rw [List.mem_filter, rngP_mem]
  constructor
  · rintro ⟨⟨a, b⟩, c⟩
    exact ⟨a, b, by simpa using c⟩
  · rintro ⟨a, b, c⟩
    exact ⟨⟨a, b⟩, by simpa using c⟩
theorem LL_up (M : Int) (A : Tb) : (LL M A).Pairwise (· < ·) := (rngP_up _ _).sublist List.filter_sublist
theorem LL_cnt {M : Int} {A : Tb} (v : V A) : ∀ n : Nat, (n : Int) < M → cnt (LL M A) n = n - cnt A.2 n
  | 0, _ => by
    have z1 : cnt (LL M A) ((0 : Nat) : Int) = 0 := cnt_zero fun x hx => by
      have := (LL_mem.mp hx).1
      show (0 : Int) < x
      omega
    have z2 : cnt A.2 ((0 : Nat) : Int) = 0 := cnt_zero fun x hx => v.pos x hx
    rw [z1, z2]
    rfl
  | n + 1, h => by
    have ih := LL_cnt (M := M) v n (by omega)
    have s1 := cnt_step (LL_up M A) n
    have s2 := cnt_step v.up n
    have e : ((n + 1 : Nat) : Int) = n + 1 := by omega
    rw [e, s1, s2, ih]
    by_cases q : (n : Int) + 1 ∈ A.2
    · rw [if_pos q, if_neg fun z => (LL_mem.mp z).2.2 q]
      omega
    · rw [if_neg q, if_pos (LL_mem.mpr ⟨by omega, by omega, q⟩)]
      omega
theorem mem_erase {l : List Int} (h : l.Pairwise (· < ·)) {i : Nat} (hi : i < l.length) (x : Int) : x ∈ l.eraseIdx i ↔ x ∈ l ∧ x ≠ l[i] := by
  have hp := List.pairwise_iff_getElem.mp h
  rw [List.eraseIdx_eq_take_drop_succ, List.mem_append]
  constructor
  · rintro (m | m)
    · obtain ⟨j, hj, rfl⟩ := List.mem_take_iff_getElem.mp m
      have := hp j i (by omega) hi (by omega)
      exact ⟨List.getElem_mem _, by omega⟩
    · obtain ⟨j, hj, rfl⟩ := List.mem_drop_iff_getElem.mp m
      have := hp i (i + 1 + j) hi (by omega) (by omega)
      exact ⟨List.getElem_mem _, by omega⟩
  · rintro ⟨m, ne⟩
    obtain ⟨j, hj, rfl⟩ := List.mem_iff_getElem.mp m
    rcases Nat.lt_trichotomy j i with k | k | k
    · exact .inl (List.mem_take_iff_getElem.mpr ⟨j, by omega, rfl⟩)
    · subst k; exact absurd rfl ne
    · refine .inr (List.mem_drop_iff_getElem.mpr ⟨j - (i + 1), by omega, ?_⟩)
      congr 1
      omega
theorem pop_LL {A : Tb} (v : V A) (z : A.1 = 0) {r M : Int} (hr : 0 < r) (hM : lr A.1 A.2 r < M) (hB : M ≤ 1000000) : popP (LL M A) (r - 1) = some (lr A.1 A.2 r, LL M (0, isort (A.2 ++ [lr A.1 A.2 r]))) := by
  obtain ⟨b1, b2, b3⟩ := lr_afb v z hr
  generalize lr A.1 A.2 r = w at *
  have up := LL_up M A
  have mem : w ∈ LL M A := LL_mem.mpr ⟨by omega, hM, b2⟩
  obtain ⟨i, hi, e⟩ := List.mem_iff_getElem.mp mem
  have c1 := (cnt_self up hi).1
  have c2 := LL_cnt (M := M) v w.toNat (by omega)
  rw [Int.toNat_of_nonneg (by omega)] at c2
  unfold af aft at b1
  rw [e] at c1
  have ir : (i : Int) = r - 1 := by omega
  have ln : (LL M A).length ≤ 1000000 := by
    have := List.length_filter_le (fun x => !decide (x ∈ A.2)) (rngP 1 M)
    rw [rngP_len] at this
    unfold LL
    omega
  have p := popP_eq (xs := LL M A) (i := r - 1) (by omega) (by omega) (by omega)
  have it : (r - 1).toNat = i := by omega
  rw [p]
  simp only [it, e]
  congr 2
  refine sorted_ext (up.sublist (List.eraseIdx_sublist _ _)) (LL_up _ _) fun x => ?_
  rw [mem_erase up hi, LL_mem, LL_mem, e]
  have m : x ∈ isort (A.2 ++ [w]) ↔ x ∈ A.2 ∨ x = w := by
    rw [(isort_perm _).mem_iff, List.mem_append, List.mem_singleton]
  show _ ↔ 1 ≤ x ∧ x < M ∧ x ∉ isort (A.2 ++ [w])
  rw [m]
  constructor
  · rintro ⟨⟨a, b, c⟩, d⟩
    exact ⟨a, b, fun h => h.elim c d⟩
  · rintro ⟨a, b, c⟩
    exact ⟨⟨a, b, fun h => c (.inl h)⟩, fun h => c (.inr h)⟩
/-- all removals of a part, one after the other -/
theorem pops {M : Int} (hB : M ≤ 1000000) : ∀ {l : List Stp} {A : Tb}, V A → A.1 = 0 → (∀ x ∈ l, okS x ∧ x.1 = false) → (∀ x ∈ l, x.2 + (A.2.length : Int) + l.length < M) → lcS (fun (y22 : Stp) (s25 : (List Int)) => (popP s25 (y22.2 - 1)).bind fun x26 => some (x26.1, x26.2)) l (LL M A) = some (od A l, LL M (fT 0 A l))
  | [], A, _, _, _, _ => rfl
  | x :: l, A, v, z, ho, hM => by
    have hx := ho x List.mem_cons_self
    have hr : 0 < x.2 := hx.1 hx.2
    have f := fld_le A.2 x.2
    have lrv : lr A.1 A.2 x.2 ≤ x.2 + A.2.length := by
      unfold lr
      rw [if_pos (by omega), z, Int.sub_zero]
      exact f
    have hm := hM x List.mem_cons_self
    rw [List.length_cons] at hm
    have p := pop_LL v z hr (M := M) (by omega) hB
    have e := plus_rm z hx
    have ih := pops hB (l := l) (A := plus A (stT x 0)) (plus_V v (stT_V hx.1 0)) (by rw [e]) (fun y hy => ho y (List.mem_cons_of_mem _ hy)) (fun y hy => by
      have := hM y (List.mem_cons_of_mem _ hy)
      rw [List.length_cons] at this
      rw [e]
      show y.2 + ((isort (A.2 ++ [lr A.1 A.2 x.2])).length : Int) + l.length < M
      rw [isort_len, List.length_append, List.length_singleton]
      omega)
    show (((popP (LL M A) (x.2 - 1)).bind fun x26 => some (x26.1, x26.2)).bind fun r => (lcS (fun (y22 : Stp) (s25 : (List Int)) => (popP s25 (y22.2 - 1)).bind fun x26 => some (x26.1, x26.2)) l r.2).bind fun q => some (r.1 :: q.1, q.2)) = _
    rw [e] at ih
    refine Eq.trans (obind (Eq.trans (obind p) rfl)) (Eq.trans (obind ih) ?_)
    show some (lr A.1 A.2 x.2 :: od (0, isort (A.2 ++ [lr A.1 A.2 x.2])) l, LL M (fT 0 (0, isort (A.2 ++ [lr A.1 A.2 x.2])) l)) = some (lr A.1 A.2 x.2 :: od (plus A (stT x 0)) l, LL M (fT 0 (plus A (stT x 0)) l))
    rw [e]
theorem LL_0 (M : Int) : LL M (0, []) = rngP 1 M := List.filter_eq_self.mpr fun x _ => by simp
/-! ### words -/
def wdOf (l : List Stp) : Option Bool := l.head?.map (·.1)
theorem wd_part {l : List Stp} (h : PartOk l) : ∃ b, wdOf l = some b ∧ ∀ x ∈ l, x.1 = b := by
  obtain ⟨x, r, rfl, h⟩ := h
  exact ⟨x.1, rfl, fun y hy => by
    rcases List.mem_cons.mp hy with rfl | hy
    · rfl
    · exact h y hy⟩
theorem sameW_of {as : List (List Stp)} {l : List Stp} {d : Stp} : sameW (as ++ [l]) d = true ↔ wdOf l = some d.1 := by
  unfold sameW
  rw [List.getLast?_concat]
  cases l with
  | nil => exact ⟨(fun h => nomatch h), (fun h => nomatch h)⟩
  | cons x r => exact ⟨fun h => congrArg some (of_decide_eq_true h), fun h => decide_eq_true (Option.some.inj h)⟩
def Alt : List (List Stp) → Prop
  | [] => True
  | [_] => True
  | l :: m :: r => wdOf l ≠ wdOf m ∧ Alt (m :: r)
theorem alt_like : ∀ {ps qs : List (List Stp)}, ps.map wdOf = qs.map wdOf → Alt ps → Alt qs
  | [], [], _, _ => trivial
  | [], _ :: _, h, _ => nomatch h
  | [_], [], h, _ => nomatch h
  | [_], [_], _, _ => trivial
  | [_], _ :: _ :: _, h, _ => by simp at h
  | _ :: _ :: _, [], h, _ => nomatch h
  | _ :: _ :: _, [_], h, _ => by simp at h
  | l :: m :: r, l' :: m' :: r', h, a => by
    have h1 : wdOf l = wdOf l' ∧ (m :: r).map wdOf = (m' :: r').map wdOf := by simpa using h
    have h2 : wdOf m = wdOf m' := by simpa using congrArg List.head? h1.2
    exact ⟨by rw [← h1.1, ← h2]; exact a.1, alt_like (ps := m :: r) (qs := m' :: r') h1.2 a.2⟩
theorem alt_snoc : ∀ {as : List (List Stp)} {l m : List Stp}, Alt (as ++ [l]) → wdOf l ≠ wdOf m → Alt (as ++ [l] ++ [m])
  | [], _, _, _, h => ⟨h, trivial⟩
  | [a], l, m, h, n => ⟨h.1, n, trivial⟩
  | a :: b :: as, l, m, h, n => ⟨h.1, alt_snoc (as := b :: as) h.2 n⟩
theorem alt_mid : ∀ {as : List (List Stp)} {l m : List Stp} {r : List (List Stp)}, Alt (as ++ [l] ++ m :: r) → wdOf l ≠ wdOf m
  | [], _, _, _, h => h.1
  | [a], _, _, _, h => h.2.1
  | a :: b :: as, l, m, r, h => alt_mid (as := b :: as) (r := r) h.2
theorem grp_alt : ∀ {xs : List Stp} {acc : List (List Stp)}, (∀ l ∈ acc, PartOk l) → Alt acc → Alt (grp xs acc)
  | [], _, _, h => h
  | d :: r, acc, ho, h => by
    unfold grp
    split
    · rename_i q
      obtain ⟨as, x, r2, rfl, e⟩ := sameW_iff q
      rw [List.getLast?_concat, List.dropLast_concat]
      refine grp_alt (fun l hl => ?_) (alt_like (ps := as ++ [x :: r2]) (by simp [wdOf]) h)
      rcases List.mem_append.mp hl with hl | hl
      · exact ho l (List.mem_append_left _ hl)
      · rw [List.mem_singleton.mp hl]
        obtain ⟨x', r', e', h'⟩ := ho (x :: r2) (List.mem_append_right _ (List.mem_singleton_self _))
        cases e'
        refine ⟨x, r2 ++ [d], rfl, fun y hy => ?_⟩
        rcases List.mem_append.mp hy with hy | hy
        · exact h' y hy
        · rw [List.mem_singleton.mp hy]; exact e.symm
    · rename_i q
      refine grp_alt (fun l hl => ?_) ?_
      · rcases List.mem_append.mp hl with hl | hl
        · exact ho l hl
        · rw [List.mem_singleton.mp hl]
          exact ⟨d, [], rfl, fun y hy => nomatch hy⟩
      · rcases List.eq_nil_or_concat acc with rfl | ⟨as, l, e⟩
        · exact trivial
        · rw [List.concat_eq_append] at e
          subst e
          refine alt_snoc h fun z => q (sameW_of.mpr ?_)
          rw [z]
          rfl
theorem grp_in {b : Bool} : ∀ {l rest m : List Stp} {acc : List (List Stp)}, wdOf m = some b → (∀ x ∈ l, x.1 = b) → grp (l ++ rest) (acc ++ [m]) = grp rest (acc ++ [m ++ l])
  | [], rest, m, acc, _, _ => by rw [List.append_nil]; rfl
  | d :: l, rest, m, acc, hm, hl => by
    show (if sameW (acc ++ [m]) d = true then grp (l ++ rest) ((acc ++ [m]).dropLast ++ [(acc ++ [m]).getLast?.getD [] ++ [d]]) else _) = _
    rw [if_pos (sameW_of.mpr (by rw [hm, hl d List.mem_cons_self])), List.dropLast_concat, List.getLast?_concat]
    show grp (l ++ rest) (acc ++ [m ++ [d]]) = _
    have e : wdOf (m ++ [d]) = some b := by
      cases m with
      | nil => cases hm
      | cons x r => exact hm
    rw [grp_in e fun x hx => hl x (List.mem_cons_of_mem _ hx), List.append_assoc]
    rfl
theorem grp_parts : ∀ {ps acc : List (List Stp)}, (∀ l ∈ ps, PartOk l) → Alt (acc ++ ps) → grp ps.flatten acc = acc ++ ps
  | [], acc, _, _ => (List.append_nil acc).symm
  | l :: ps, acc, ho, h => by
    obtain ⟨b, w, hb⟩ := wd_part (ho l List.mem_cons_self)
    obtain ⟨d, r, rfl, hr⟩ := ho l List.mem_cons_self
    rw [List.flatten_cons]
    have ns : ¬ sameW acc d = true := fun q => by
      rcases List.eq_nil_or_concat acc with rfl | ⟨as, m, e⟩
      · cases q
      · rw [List.concat_eq_append] at e
        subst e
        exact alt_mid h (sameW_of.mp q)
    show (if sameW acc d = true then _ else grp (r ++ ps.flatten) (acc ++ [[d]])) = _
    rw [if_neg ns, grp_in (b := d.1) rfl hr]
    show grp ps.flatten (acc ++ [d :: r]) = _
    rw [grp_parts (fun l hl => ho l (List.mem_cons_of_mem _ hl)) (by rw [List.append_assoc]; exact h), List.append_assoc]
    rfl
/-! ### the normal form of a normal form -/
theorem desc_af : ∀ {M : List Int}, M.Pairwise (· > ·) → (∀ r ∈ M, 0 < r) → ∀ {c : Int}, 0 ≤ c → af (tAt (M.map fun n => ((false, n) : Stp)) 0) c = c - cnt M c
  | [], _, _, c, _ => by
    show af (0, []) c = c - cnt [] c
    rw [af0, Tab.cnt_nil, Int.sub_zero]
  | r :: M, h, hp, c, hc => by
    have h2 := List.pairwise_cons.mp h
    have ho : ∀ y ∈ (r :: M).map (fun n => ((false, n) : Stp)), okS y := fun y hy => by
      obtain ⟨m, hm, rfl⟩ := List.mem_map.mp hy
      exact fun _ => hp m hm
    have hr := hp r List.mem_cons_self
    have nn : 0 ≤ af (stT (false, r) 0) c := by rw [stT_out]; split <;> omega
    show af (tAt ((false, r) :: M.map fun n => ((false, n) : Stp)) 0) c = _
    rw [af_cons ho hc, desc_af h2.2 (fun x hx => hp x (List.mem_cons_of_mem _ hx)) nn, stT_out, cnt_cons]
    by_cases q : r ≤ c
    · rw [if_pos q, cnt_all (t := c - 1) fun x hx => by have := h2.1 x hx; omega, cnt_all (t := c) fun x hx => by have := h2.1 x hx; omega]
      omega
    · rw [if_neg q, Int.sub_zero]
      omega
theorem desc_tab {L : List Int} (v : V (0, L)) : tAt (L.reverse.map fun n => ((false, n) : Stp)) 0 = (0, L) := by
  have hp : ∀ r ∈ L.reverse, 0 < r := fun r hr => v.pos r (List.mem_reverse.mp hr)
  refine Tb.ext (tAt_V (fun y hy => ?_) 0) v fun c hc => ?_
  · obtain ⟨m, hm, rfl⟩ := List.mem_map.mp hy
    exact fun _ => hp m hm
  · have e : cnt L.reverse c = cnt L c := cnt_perm (List.reverse_perm L) c
    rw [desc_af (List.pairwise_reverse.mpr v.up) hp hc, e]
    show _ = 0 + c - cnt L c
    omega
theorem nfP_rm {l : List Stp} (hp : PartOk l) (h : ∀ x ∈ l, x.1 = false) : nfP l = (tAt l 0).2.reverse.map fun n => (false, n) := by
  obtain ⟨⟨b, n⟩, r, rfl, _⟩ := hp
  obtain rfl : b = false := h (b, n) List.mem_cons_self
  rfl
theorem tAt_z {l : List Stp} (h : ∀ x ∈ l, okS x ∧ x.1 = false) : (tAt l 0).1 = 0 := fT_z rfl h
theorem nfP_ok {l : List Stp} (hp : PartOk l) (ho : ∀ x ∈ l, okS x) : PartOk (nfP l) ∧ wdOf (nfP l) = wdOf l ∧ nfP (nfP l) = nfP l := by
  have hp0 := hp
  obtain ⟨⟨b, n⟩, r, rfl, h⟩ := hp
  cases b with
  | true =>
    have e : nfP ((true, n) :: r) = (isort (n :: r.map (·.2))).map fun n => ((true, n) : Stp) := rfl
    have ne : isort (n :: r.map (·.2)) ≠ [] := fun z => by
      have := isort_len (n :: r.map (·.2))
      rw [z] at this
      simp at this
    have so := isort_sorted (n :: r.map (·.2))
    rw [e]
    generalize isort (n :: r.map (·.2)) = k at *
    cases k with
    | nil => exact absurd rfl ne
    | cons a k =>
      refine ⟨⟨(true, a), k.map fun n => (true, n), rfl, fun y hy => ?_⟩, rfl, ?_⟩
      · obtain ⟨m, _, rfl⟩ := List.mem_map.mp hy
        rfl
      · show (isort (a :: (k.map fun n => ((true, n) : Stp)).map (·.2))).map (fun n => ((true, n) : Stp)) = _
        rw [List.map_map]
        have : k.map ((·.2) ∘ fun n => ((true, n) : Stp)) = k := by
          show k.map (fun n => n) = k
          exact List.map_id _
        rw [this, sorted_isort so]
  | false =>
    have al := part_rm (l := (false, n) :: r) rfl rfl h
    have al2 : ∀ x ∈ (false, n) :: r, okS x ∧ x.1 = false := fun x hx => ⟨ho x hx, al x hx⟩
    have z := tAt_z al2
    have v := tAt_V ho 0
    have e := nfP_rm hp0 al
    have pm := od_perm (xs := (false, n) :: r) (a := (0, [])) rfl al2
    have ne : (tAt ((false, n) :: r) 0).2 ≠ [] := fun q => by
      have := pm.length_eq
      rw [show (fT 0 (0, []) ((false, n) :: r)).2 = [] from q] at this
      simp [od] at this
    have v2 : V (0, (tAt ((false, n) :: r) 0).2) := by
      have := v
      rw [show tAt ((false, n) :: r) 0 = ((tAt ((false, n) :: r) 0).1, (tAt ((false, n) :: r) 0).2) from rfl, z] at this
      exact this
    rw [e]
    generalize (tAt ((false, n) :: r) 0).2 = L at *
    have d := desc_tab v2
    have ner : L.reverse ≠ [] := by simpa using ne
    have dl : (tAt (L.reverse.map fun n => ((false, n) : Stp)) 0).2 = L := by rw [d]
    have po : PartOk (L.reverse.map fun n => ((false, n) : Stp)) := by
      cases q : L.reverse with
      | nil => exact absurd q ner
      | cons a k =>
        refine ⟨(false, a), k.map fun n => (false, n), rfl, fun y hy => ?_⟩
        obtain ⟨m, _, rfl⟩ := List.mem_map.mp hy
        rfl
    refine ⟨po, ?_, ?_⟩
    · cases q : L.reverse with
      | nil => exact absurd q ner
      | cons a k => rfl
    · rw [nfP_rm po fun x hx => by
        obtain ⟨m, _, rfl⟩ := List.mem_map.mp hx
        rfl, dl]
theorem nf_mem {xs : List Stp} (hx : ∀ x ∈ xs, okS x) (hl : xs.length ≤ 100000) : (∀ x ∈ nf xs, okS x) ∧ (nf xs).length ≤ xs.length := by
  have fl : (grp xs []).flatten = xs := grp_flat xs []
  have ok := grp_ok (xs := xs) (acc := []) fun _ h => nomatch h
  have key : ∀ ps : List (List Stp), (∀ l ∈ ps, PartOk l ∧ l.length ≤ 100000 ∧ ∀ x ∈ l, okS x) → (∀ x ∈ ps.flatMap nfP, okS x) ∧ (ps.flatMap nfP).length ≤ ps.flatten.length := by
    intro ps
    induction ps with
    | nil => intro _; exact ⟨fun _ h => (nomatch h), Nat.le_refl _⟩
    | cons l ps ih =>
      intro h
      obtain ⟨h1, h2⟩ := ih fun m hm => h m (List.mem_cons_of_mem _ hm)
      obtain ⟨p1, p2, p3⟩ := h l List.mem_cons_self
      obtain ⟨_, g2, g3⟩ := q_part p2 p1 p3
      rw [List.flatMap_cons, List.flatten_cons, List.length_append, List.length_append]
      refine ⟨fun x hx => ?_, by omega⟩
      rcases List.mem_append.mp hx with hx | hx
      · exact g3 x hx
      · exact h1 x hx
  have r := key (grp xs []) fun l h => ⟨ok l h, by
    have : l.length ≤ (grp xs []).flatten.length := by
      clear key
      generalize grp xs [] = ps at *
      clear fl ok
      induction ps with
      | nil => cases h
      | cons m ps ih =>
        rw [List.flatten_cons, List.length_append]
        rcases List.mem_cons.mp h with rfl | h
        · omega
        · have := ih h; omega
    rw [fl] at this
    omega, fun x hxl => hx x (by rw [← fl]; exact List.mem_flatten.mpr ⟨l, h, hxl⟩)⟩
  rw [fl] at r
  exact r
end Dl.lib
set_option maxHeartbeats 400000
/-! Two steps exchanged, plain; their normal forms. -/
namespace Dl.lib
open PySem Tab
/-! ### two steps exchanged -/
def xc (a b : Sp) : Sp × Sp := if a.1 = true then (b, a) else if (decide (a.2 ≤ b.2)) = true then ((false, b.2 + 1), a) else (b, (false, a.2 - 1))
section
variable {a b : Sp}
theorem xc_ok (ha : okS a) (hb : okS b) (e : a.1 = b.1) : okS (xc a b).1 ∧ okS (xc a b).2 := by
  obtain ⟨x, m⟩ := a
  obtain ⟨y, n⟩ := b
  obtain rfl : x = y := e
  unfold xc
  cases x with
  | true => exact ⟨hb, ha⟩
  | false =>
    have p := ha rfl
    have q := hb rfl
    have p : 0 < m := p
    have q : 0 < n := q
    by_cases h : m ≤ n
    · simp only [Bool.false_eq_true, if_false, decide_eq_true h, if_true]
      exact ⟨fun _ => by show 0 < n + 1; omega, ha⟩
    · simp only [Bool.false_eq_true, if_false, decide_eq_false h]
      exact ⟨hb, fun _ => by show 0 < m - 1; omega⟩
theorem xc_kind (e : a.1 = b.1) : (xc a b).1.1 = a.1 ∧ (xc a b).2.1 = a.1 := by
  obtain ⟨x, m⟩ := a
  obtain ⟨y, n⟩ := b
  obtain rfl : x = y := e
  unfold xc
  cases x with
  | true => exact ⟨rfl, rfl⟩
  | false =>
    by_cases h : m ≤ n
    · simp [h]
    · simp [h]
theorem stT_af {x : Sp} {t c : Int} : af (stT x t) c = if x.1 = true then c + (if x.2 ≤ t then 1 else 0) else if x.2 ≤ c then c - 1 else c := by
  obtain ⟨y, n⟩ := x
  unfold stT af aft
  cases y with
  | true =>
    by_cases h : n ≤ t
    · simp [h, cnt_nil]; omega
    · simp [h, cnt_nil]
  | false =>
    simp [cnt1]
    by_cases h : n ≤ c
    · simp [h]
    · simp [h]
theorem xc_tab (ha : okS a) (hb : okS b) (e : a.1 = b.1) (t : Int) : plus (stT (xc a b).1 t) (stT (xc a b).2 t) = plus (stT a t) (stT b t) := by
  obtain ⟨o1, o2⟩ := xc_ok ha hb e
  refine Tb.ext (plus_V (stT_V o1 t) (stT_V o2 t)) (plus_V (stT_V ha t) (stT_V hb t)) fun c hc => ?_
  rw [plus_af (stT_V o1 t) hc, plus_af (stT_V ha t) hc, stT_af, stT_af, stT_af, stT_af]
  obtain ⟨x, m⟩ := a
  obtain ⟨y, n⟩ := b
  obtain rfl : x = y := e
  unfold xc
  cases x with
  | true =>
    simp only [if_true]
    omega
  | false =>
    by_cases h : m ≤ n
    · simp only [Bool.false_eq_true, if_false, decide_eq_true h, if_true]
      repeat' split
      all_goals omega
    · simp only [Bool.false_eq_true, if_false, decide_eq_false h]
      repeat' split
      all_goals omega
end
section
variable {pre post : List Sp} {a b : Sp}
theorem at_a : L2.atI (pre ++ a :: b :: post) (pre.length : Int) = some a := by
  rw [atI_at (by simp)]
  simp
theorem at_b : L2.atI (pre ++ a :: b :: post) ((pre.length : Int) + 1) = some b := by
  have := atI_at (xs := pre ++ a :: b :: post) (i := pre.length + 1) (by simp)
  rw [show (((pre.length + 1 : Nat)) : Int) = (pre.length : Int) + 1 by omega] at this
  rw [this]
  simp
theorem cut_pre : cutP (pre ++ a :: b :: post) none (some (pre.length : Int)) = pre := by
  rw [cutP_hi]
  simp
theorem cut_post : cutP (pre ++ a :: b :: post) (some ((pre.length : Int) + 2)) none = post := by
  have := cutP_lo (pre ++ a :: b :: post) (pre.length + 2)
  rw [show (((pre.length + 2 : Nat)) : Int) = (pre.length : Int) + 2 by omega] at this
  rw [this, show pre ++ a :: b :: post = (pre ++ [a, b]) ++ post by simp]
  exact List.drop_left' (by simp)
theorem due_ok (hx : ∀ x ∈ pre ++ a :: b :: post, okS x) (h : a.1 = b.1) : ∀ x ∈ pre ++ (xc a b).1 :: (xc a b).2 :: post, okS x := fun x hm => by
  obtain ⟨o1, o2⟩ := xc_ok (hx a (by simp)) (hx b (by simp)) h
  rcases List.mem_append.mp hm with hm | hm
  · exact hx x (List.mem_append_left _ hm)
  · rcases List.mem_cons.mp hm with rfl | hm
    · exact o1
    · rcases List.mem_cons.mp hm with rfl | hm
      · exact o2
      · exact hx x (List.mem_append_right _ (List.mem_cons_of_mem _ (List.mem_cons_of_mem _ hm)))
theorem tAt_two {x y : Sp} (hx : okS x) (hy : okS y) (t : Int) : tAt [x, y] t = plus (stT x t) (stT y t) := by
  show plus (plus (0, []) (stT x t)) (stT y t) = _
  rw [plus_0l (stT_V hx t)]
theorem due_tab (hx : ∀ x ∈ pre ++ a :: b :: post, okS x) (h : a.1 = b.1) (t : Int) : tAt (pre ++ (xc a b).1 :: (xc a b).2 :: post) t = tAt (pre ++ a :: b :: post) t := by
  obtain ⟨o1, o2⟩ := xc_ok (hx a (by simp)) (hx b (by simp)) h
  have oa := hx a (by simp)
  have ob := hx b (by simp)
  have hp : ∀ x ∈ pre, okS x := fun x m => hx x (List.mem_append_left _ m)
  have hq : ∀ x ∈ post, okS x := fun x m => hx x (List.mem_append_right _ (List.mem_cons_of_mem _ (List.mem_cons_of_mem _ m)))
  have two : ∀ {x y : Sp}, okS x → okS y → tAt (pre ++ x :: y :: post) t = plus (tAt pre t) (plus (plus (stT x t) (stT y t)) (tAt post t)) := fun {x y} ox oy => by
    have h1 : ∀ z ∈ [x, y], okS z := fun z m => by
      rcases List.mem_cons.mp m with rfl | m
      · exact ox
      · rw [List.mem_singleton.mp m]; exact oy
    have e : pre ++ x :: y :: post = pre ++ ([x, y] ++ post) := rfl
    rw [e, tAt_app hp (fun z m => (List.mem_append.mp m).elim (h1 z) (hq z)), tAt_app h1 hq, tAt_two ox oy]
  rw [two o1 o2, two oa ob, xc_tab oa ob h]
end
theorem split2 {α : Type} {xs : List α} {k : Nat} (h : k + 1 < xs.length) : ∃ pre a b post, xs = pre ++ a :: b :: post ∧ pre.length = k := by
  refine ⟨xs.take k, xs[k]'(by omega), xs[k + 1], xs.drop (k + 2), ?_, by rw [List.length_take]; omega⟩
  rw [← List.drop_eq_getElem_cons (i := k + 1) h, ← List.drop_eq_getElem_cons (i := k) (by omega), List.take_append_drop]
theorem grp_app : ∀ (xs ys : List Sp) (acc : List (List Sp)), grp (xs ++ ys) acc = grp ys (grp xs acc)
  | [], _, _ => rfl
  | d :: xs, ys, acc => by
    show (if sameW acc d = true then grp (xs ++ ys) (acc.dropLast ++ [acc.getLast?.getD [] ++ [d]]) else grp (xs ++ ys) (acc ++ [[d]])) = grp ys (if sameW acc d = true then grp xs (acc.dropLast ++ [acc.getLast?.getD [] ++ [d]]) else grp xs (acc ++ [[d]]))
    split
    · exact grp_app xs ys _
    · exact grp_app xs ys _
theorem wd_snoc {l : List Sp} {w : Bool} {r : List Sp} (h : wdOf l = some w) : wdOf (l ++ r) = some w := by
  cases l with
  | nil => cases h
  | cons x l => exact h
/-- what comes behind a part -/
theorem grp_tail : ∀ (post : List Sp) (w : Bool), ∃ b1 rest, (∀ x ∈ b1, x.1 = w) ∧ ∀ (as : List (List Sp)) (l : List Sp), wdOf l = some w → grp post (as ++ [l]) = as ++ [l ++ b1] ++ rest
  | [], w => ⟨[], [], (fun _ h => nomatch h), fun as l _ => by rw [List.append_nil, List.append_nil]; rfl⟩
  | d :: post, w => by
    by_cases h : d.1 = w
    · obtain ⟨b1, rest, h1, h2⟩ := grp_tail post w
      refine ⟨d :: b1, rest, fun x hx => ?_, fun as l hl => ?_⟩
      · rcases List.mem_cons.mp hx with rfl | hx
        · exact h
        · exact h1 x hx
      · show (if sameW (as ++ [l]) d = true then grp post ((as ++ [l]).dropLast ++ [(as ++ [l]).getLast?.getD [] ++ [d]]) else _) = _
        rw [if_pos (sameW_of.mpr (by rw [hl, h])), List.dropLast_concat, List.getLast?_concat]
        show grp post (as ++ [l ++ [d]]) = _
        rw [h2 as (l ++ [d]) (wd_snoc hl)]
        show as ++ [l ++ [d] ++ b1] ++ rest = as ++ [l ++ ([d] ++ b1)] ++ rest
        rw [← List.append_assoc l]
    · obtain ⟨b1, rest, h1, h2⟩ := grp_tail post d.1
      refine ⟨[], [[d] ++ b1] ++ rest, (fun _ h => nomatch h), fun as l hl => ?_⟩
      show (if sameW (as ++ [l]) d = true then _ else grp post (as ++ [l] ++ [[d]])) = _
      rw [if_neg fun z => h (by have := sameW_of.mp z; rw [hl] at this; exact (Option.some.inj this).symm), h2 (as ++ [l]) [d] rfl, List.append_nil, List.append_assoc, List.append_assoc]
/-- where two steps of one word come to stand -/
theorem grp_two (acc : List (List Sp)) (hacc : ∀ l ∈ acc, PartOk l) (w : Bool) : ∃ as m, (∀ x ∈ m, x.1 = w ∧ ∃ l ∈ acc, x ∈ l) ∧ (∀ l ∈ as, l ∈ acc) ∧ ∀ x y : Sp, x.1 = w → y.1 = w → grp [x, y] acc = as ++ [m ++ [x, y]] := by
  have second : ∀ (as : List (List Sp)) (m : List Sp) (x y : Sp), x.1 = w → y.1 = w → (∀ z ∈ m, z.1 = w) → grp [y] (as ++ [m ++ [x]]) = as ++ [m ++ [x, y]] := fun as m x y hx hy hm => by
    have e : wdOf (m ++ [x]) = some w := by
      cases m with
      | nil => exact congrArg some hx
      | cons z m => exact congrArg some (hm z List.mem_cons_self)
    have := grp_in (b := w) (l := [y]) (rest := []) (m := m ++ [x]) (acc := as) e fun z hz => by rw [List.mem_singleton.mp hz]; exact hy
    rw [List.append_nil] at this
    rw [this, List.append_assoc]
    rfl
  by_cases h : ∃ as l, acc = as ++ [l] ∧ wdOf l = some w
  · obtain ⟨as, l, rfl, hl⟩ := h
    obtain ⟨b, hb, all⟩ := wd_part (hacc l (List.mem_append_right _ (List.mem_singleton_self l)))
    rw [hl] at hb
    cases hb
    refine ⟨as, l, fun x hx => ⟨all x hx, l, List.mem_append_right _ (List.mem_singleton_self l), hx⟩, fun m hm => List.mem_append_left _ hm, fun x y hx hy => ?_⟩
    show (if sameW (as ++ [l]) x = true then grp [y] ((as ++ [l]).dropLast ++ [(as ++ [l]).getLast?.getD [] ++ [x]]) else _) = _
    rw [if_pos (sameW_of.mpr (by rw [hl, hx])), List.dropLast_concat, List.getLast?_concat]
    exact second as l x y hx hy all
  · refine ⟨acc, [], (fun _ h => nomatch h), fun l hl => hl, fun x y hx hy => ?_⟩
    show (if sameW acc x = true then _ else grp [y] (acc ++ [[x]])) = _
    rw [if_neg fun z => h ?_]
    · exact second acc [] x y hx hy fun _ h => nomatch h
    · obtain ⟨as, x', r, e, hw⟩ := sameW_iff z
      exact ⟨as, x' :: r, e, congrArg some (hw.trans hx)⟩
theorem nfP_ins {l : List Sp} (hp : PartOk l) (h : ∀ x ∈ l, x.1 = true) : nfP l = (isort (l.map (·.2))).map fun n => (true, n) := by
  obtain ⟨⟨b, n⟩, r, rfl, _⟩ := hp
  obtain rfl : b = true := h (b, n) List.mem_cons_self
  rfl
theorem part_of {l : List Sp} {w : Bool} (h : ∀ x ∈ l, x.1 = w) (ne : l ≠ []) : PartOk l := by
  cases l with
  | nil => exact absurd rfl ne
  | cons x r => exact ⟨x, r, rfl, fun y hy => by rw [h y (List.mem_cons_of_mem _ hy), h x List.mem_cons_self]⟩
theorem nf_exch {pre post : List Sp} {a b : Sp} (hx : ∀ x ∈ pre ++ a :: b :: post, okS x) (h : a.1 = b.1) : nf (pre ++ (xc a b).1 :: (xc a b).2 :: post) = nf (pre ++ a :: b :: post) := by
  obtain ⟨k1, k2⟩ := xc_kind h
  obtain ⟨o1, o2⟩ := xc_ok (hx a (by simp)) (hx b (by simp)) h
  have fl : (grp pre []).flatten = pre := grp_flat pre []
  have pk := grp_ok (xs := pre) (acc := []) fun _ h => nomatch h
  obtain ⟨as, m, m1, m2, m3⟩ := grp_two (grp pre []) pk a.1
  obtain ⟨b1, rest, t1, t2⟩ := grp_tail post a.1
  have key : ∀ x y : Sp, x.1 = a.1 → y.1 = a.1 → grp (pre ++ x :: y :: post) [] = as ++ [m ++ [x, y] ++ b1] ++ rest := fun x y hx hy => by
    rw [grp_app, show x :: y :: post = [x, y] ++ post from rfl, grp_app, m3 x y hx hy]
    refine t2 as _ ?_
    cases m with
    | nil => exact congrArg some hx
    | cons z m => exact congrArg some (m1 z List.mem_cons_self).1
  have g1 := key a b rfl h.symm
  have g2 := key (xc a b).1 (xc a b).2 k1 k2
  have f1 := grp_flat (pre ++ a :: b :: post) []
  rw [g1] at f1
  have f1 : (as ++ [m ++ [a, b] ++ b1] ++ rest).flatten = pre ++ a :: b :: post := f1
  have om : ∀ x ∈ m ++ [a, b] ++ b1, okS x := fun x hm => hx x (by
    rw [← f1]
    exact List.mem_flatten.mpr ⟨_, List.mem_append_left _ (List.mem_append_right _ (List.mem_singleton_self _)), hm⟩)
  have wA : ∀ x y : Sp, x.1 = a.1 → y.1 = a.1 → ∀ z ∈ m ++ [x, y] ++ b1, z.1 = a.1 := fun x y hx hy z hz => by
    rcases List.mem_append.mp hz with hz | hz
    · rcases List.mem_append.mp hz with hz | hz
      · exact (m1 z hz).1
      · rcases List.mem_cons.mp hz with rfl | hz
        · exact hx
        · rw [List.mem_singleton.mp hz]; exact hy
    · exact t1 z hz
  have w1 := wA a b rfl h.symm
  have w2 := wA (xc a b).1 (xc a b).2 k1 k2
  have p1 := part_of w1 (by simp)
  have p2 := part_of w2 (by simp)
  have e : nfP (m ++ [(xc a b).1, (xc a b).2] ++ b1) = nfP (m ++ [a, b] ++ b1) := by
    cases q : a.1 with
    | true =>
      rw [q] at w1 w2
      rw [nfP_ins p1 w1, nfP_ins p2 w2]
      have ex : xc a b = (b, a) := by unfold xc; rw [if_pos q]
      rw [ex]
      congr 1
      refine same_cnt (isort_sorted _) (isort_sorted _) fun t => ?_
      rw [cnt_isort, cnt_isort]
      refine cnt_perm (List.Perm.map _ ?_) t
      exact List.Perm.append_right _ (List.Perm.append_left _ (List.Perm.swap a b []))
    | false =>
      rw [q] at w1 w2
      rw [nfP_rm p1 w1, nfP_rm p2 w2]
      have e1 : m ++ [a, b] ++ b1 = m ++ a :: b :: b1 := by simp
      have e2 : m ++ [(xc a b).1, (xc a b).2] ++ b1 = m ++ (xc a b).1 :: (xc a b).2 :: b1 := by simp
      rw [e1] at om ⊢
      rw [e2, due_tab om h 0]
  unfold nf
  rw [g1, g2, List.flatMap_append, List.flatMap_append, List.flatMap_append, List.flatMap_append, List.flatMap_singleton, List.flatMap_singleton, e]
/-! ### words of a normal form, and its table -/
theorem nfP_words {l : List Sp} (hp : PartOk l) (ho : ∀ x ∈ l, okS x) : (nfP l).map (·.1) = l.map (·.1) := by
  obtain ⟨b, wd0, all⟩ := wd_part hp
  have cst : ∀ (ns : List Int), (ns.map fun n => ((b, n) : Sp)).map (·.1) = List.replicate ns.length b := fun ns => by
    induction ns with
    | nil => rfl
    | cons n ns ih => rw [List.map_cons, List.map_cons, ih]; rfl
  have src : l.map (·.1) = List.replicate l.length b := by
    clear hp ho cst wd0
    induction l with
    | nil => rfl
    | cons x l ih => rw [List.map_cons, ih fun y hy => all y (List.mem_cons_of_mem _ hy), all x List.mem_cons_self]; rfl
  rw [src]
  cases b with
  | true =>
    rw [nfP_ins hp all, cst, isort_len, List.length_map]
  | false =>
    have al2 : ∀ x ∈ l, okS x ∧ x.1 = false := fun x hx => ⟨ho x hx, all x hx⟩
    have pm := (od_perm (xs := l) (a := (0, [])) rfl al2).length_eq
    have ol : ∀ (xs : List Sp) (a : Tb), (od a xs).length = xs.length := fun xs => by
      induction xs with
      | nil => intro a; rfl
      | cons x xs ih => intro a; show (od (plus a (stT x 0)) xs).length + 1 = _; rw [ih]; rfl
    rw [List.nil_append, ol] at pm
    rw [nfP_rm hp all, cst, List.length_reverse]
    exact congrArg (fun n => List.replicate n false) pm
theorem nf_words {xs : List Sp} (hx : ∀ x ∈ xs, okS x) : (nf xs).map (·.1) = xs.map (·.1) := by
  have fl : (grp xs []).flatten = xs := grp_flat xs []
  have ok := grp_ok (xs := xs) (acc := []) fun _ h => nomatch h
  have key : ∀ ps : List (List Sp), (∀ l ∈ ps, PartOk l ∧ ∀ x ∈ l, okS x) → (ps.flatMap nfP).map (·.1) = ps.flatten.map (·.1) := by
    intro ps
    induction ps with
    | nil => intro _; rfl
    | cons l ps ih =>
      intro h
      rw [List.flatMap_cons, List.flatten_cons, List.map_append, List.map_append, ih fun m hm => h m (List.mem_cons_of_mem _ hm), nfP_words (h l List.mem_cons_self).1 (h l List.mem_cons_self).2]
  have := key (grp xs []) fun l h => ⟨ok l h, fun x hxl => hx x (by rw [← fl]; exact List.mem_flatten.mpr ⟨l, h, hxl⟩)⟩
  rw [fl] at this
  exact this
/-- connected by exchanges -/
structure Cn (xs ys : List Sp) : Prop where
  ok : ∀ x ∈ ys, okS x
  ln : ys.length = xs.length
  tb : ∀ t, tAt ys t = tAt xs t
  cx : ∀ p s : List Sp, (∀ x ∈ p, okS x) → (∀ x ∈ s, okS x) → nf (p ++ ys ++ s) = nf (p ++ xs ++ s)
theorem Cn.refl {xs : List Sp} (h : ∀ x ∈ xs, okS x) : Cn xs xs := ⟨h, rfl, fun _ => rfl, fun _ _ _ _ => rfl⟩
theorem Cn.step {xs pre post : List Sp} {a b : Sp} (c : Cn xs (pre ++ a :: b :: post)) (h : a.1 = b.1) : Cn xs (pre ++ (xc a b).1 :: (xc a b).2 :: post) := by
  refine ⟨due_ok c.ok h, ?_, fun t => (due_tab c.ok h t).trans (c.tb t), fun p s hp hs => ?_⟩
  · rw [← c.ln]
    simp
  · refine Eq.trans ?_ (c.cx p s hp hs)
    have e1 : p ++ (pre ++ (xc a b).1 :: (xc a b).2 :: post) ++ s = (p ++ pre) ++ (xc a b).1 :: (xc a b).2 :: (post ++ s) := by simp
    have e2 : p ++ (pre ++ a :: b :: post) ++ s = (p ++ pre) ++ a :: b :: (post ++ s) := by simp
    rw [e1, e2]
    refine nf_exch (fun x hx => ?_) h
    rw [← e2] at hx
    rcases List.mem_append.mp hx with hx | hx
    · rcases List.mem_append.mp hx with hx | hx
      · exact hp x hx
      · exact c.ok x hx
    · exact hs x hx
theorem Cn.nf {xs ys : List Sp} (c : Cn xs ys) : nf ys = nf xs := by
  have := c.cx [] [] (fun _ h => nomatch h) (fun _ h => nomatch h)
  rw [List.nil_append, List.nil_append, List.append_nil, List.append_nil] at this
  exact this
end Dl.lib
set_option maxHeartbeats 400000
/-! Arrangements: all orders of a list within its runs of one word, each once; how many they are. -/
namespace Dl.lib
open PySem Tab
section
variable {α : Type} [DecidableEq α]
/-! ### once each -/
def dd : List α → List α
  | [] => []
  | x :: l => if x ∈ l then dd l else x :: dd l
theorem mem_dd : ∀ {l : List α} {x : α}, x ∈ dd l ↔ x ∈ l
  | [], _ => Iff.rfl
  | y :: l, x => by
    unfold dd
    split
    · rename_i h
      rw [mem_dd, List.mem_cons]
      exact ⟨.inr, fun z => z.elim (fun e => by rw [e]; exact h) id⟩
    · rw [List.mem_cons, List.mem_cons, mem_dd]
theorem nodup_dd : ∀ l : List α, (dd l).Nodup
  | [] => List.Pairwise.nil
  | y :: l => by
    unfold dd
    split
    · exact nodup_dd l
    · rename_i h
      exact List.nodup_cons.mpr ⟨fun z => h (mem_dd.mp z), nodup_dd l⟩
/-! ### how often; one of them out -/
def nc (l : List α) (x : α) : Nat := (l.filter fun y => decide (y = x)).length
theorem nc_cons (y : α) (l : List α) (x : α) : nc (y :: l) x = (if y = x then 1 else 0) + nc l x := by
  unfold nc
  rw [List.filter_cons]
  by_cases h : y = x
  · simp [h]; omega
  · simp [h]
theorem nc_pos {l : List α} {x : α} (h : x ∈ l) : 0 < nc l x := List.length_pos_iff_exists_mem.mpr ⟨x, List.mem_filter.mpr ⟨h, by simp⟩⟩
theorem nc_perm {l m : List α} (h : l.Perm m) (x : α) : nc l x = nc m x := (h.filter _).length_eq
def er (x : α) : List α → List α
  | [] => []
  | y :: l => if y = x then l else y :: er x l
theorem er_split {x : α} : ∀ {l : List α}, x ∈ l → ∃ u v, l = u ++ x :: v ∧ er x l = u ++ v
  | [], h => nomatch h
  | y :: l, h => by
    unfold er
    by_cases e : y = x
    · rw [if_pos e]
      exact ⟨[], l, by rw [e]; rfl, rfl⟩
    · rw [if_neg e]
      obtain ⟨u, v, h1, h2⟩ := er_split (l := l) ((List.mem_cons.mp h).resolve_left fun z => e z.symm)
      exact ⟨y :: u, v, by rw [h1]; rfl, by rw [h2]; rfl⟩
theorem er_perm {x : α} {l : List α} (h : x ∈ l) : l.Perm (x :: er x l) := by
  obtain ⟨u, v, h1, h2⟩ := er_split h
  rw [h2, h1]
  exact List.perm_middle
theorem er_len {x : α} {l : List α} (h : x ∈ l) : (er x l).length + 1 = l.length := by
  have := (er_perm h).length_eq
  rw [List.length_cons] at this
  exact this.symm
theorem er_comm (x y : α) : ∀ l : List α, er x (er y l) = er y (er x l)
  | [] => rfl
  | z :: l => by
    by_cases h1 : z = x
    · by_cases h2 : z = y
      · rw [← h1, ← h2]
      · have e1 : er y (z :: l) = z :: er y l := by show (if z = y then l else _) = _; rw [if_neg h2]
        have e2 : er x (z :: l) = l := by show (if z = x then l else _) = _; rw [if_pos h1]
        rw [e1, e2]
        show (if z = x then er y l else _) = _
        rw [if_pos h1]
    · by_cases h2 : z = y
      · have e1 : er y (z :: l) = l := by show (if z = y then l else _) = _; rw [if_pos h2]
        have e2 : er x (z :: l) = z :: er x l := by show (if z = x then l else _) = _; rw [if_neg h1]
        rw [e1, e2]
        show _ = (if z = y then er x l else _)
        rw [if_pos h2]
      · have e1 : er y (z :: l) = z :: er y l := by show (if z = y then l else _) = _; rw [if_neg h2]
        have e2 : er x (z :: l) = z :: er x l := by show (if z = x then l else _) = _; rw [if_neg h1]
        rw [e1, e2]
        show (if z = x then er y l else z :: er x (er y l)) = (if z = y then er x l else z :: er y (er x l))
        rw [if_neg h1, if_neg h2, er_comm x y l]
theorem er_app {x : α} {r : List α} (t : List α) (h : x ∈ r) : er x (r ++ t) = er x r ++ t := by
  induction r with
  | nil => exact nomatch h
  | cons y r ih =>
    show (if y = x then r ++ t else y :: er x (r ++ t)) = (if y = x then r else y :: er x r) ++ t
    by_cases e : y = x
    · rw [if_pos e, if_pos e]
    · rw [if_neg e, if_neg e, ih ((List.mem_cons.mp h).resolve_left fun z => e z.symm)]
      rfl
theorem er_mem {x y : α} {l : List α} (h : y ∈ er x l) : y ∈ l := by
  by_cases hx : x ∈ l
  · exact (er_perm hx).mem_iff.mpr (List.mem_cons_of_mem _ h)
  · have : ∀ {l : List α}, x ∉ l → er x l = l := fun {l} => by
      induction l with
      | nil => exact fun _ => rfl
      | cons z l ih =>
        intro hx
        show (if z = x then l else z :: er x l) = _
        rw [if_neg fun e => hx (by rw [e]; exact List.mem_cons_self), ih fun m => hx (List.mem_cons_of_mem _ m)]
    rw [this hx] at h
    exact h
theorem er_back {a b : α} {l : List α} (ha : a ∈ l) (h : b ∈ er a l) : a ∈ er b l := by
  by_cases e : a = b
  · rw [e] at h ⊢; exact h
  · have := (er_perm (er_mem h)).mem_iff.mp ha
    exact (List.mem_cons.mp this).resolve_left e
/-- the product of the numbers of orders of equal ones -/
def Fm : List α → Nat
  | [] => 1
  | x :: l => (nc l x + 1) * Fm l
theorem Fm_pos : ∀ l : List α, 0 < Fm l
  | [] => Nat.one_pos
  | x :: l => Nat.mul_pos (Nat.succ_pos _) (Fm_pos l)
theorem Fm_perm {l m : List α} (h : l.Perm m) : Fm l = Fm m := by
  induction h with
  | nil => rfl
  | cons x h ih =>
    show (nc _ x + 1) * Fm _ = (nc _ x + 1) * Fm _
    rw [ih, nc_perm h]
  | swap x y l =>
    show (nc (x :: l) y + 1) * ((nc l x + 1) * Fm l) = (nc (y :: l) x + 1) * ((nc l y + 1) * Fm l)
    rw [nc_cons, nc_cons]
    by_cases e : x = y
    · rw [e]
    · rw [if_neg e, if_neg fun z => e z.symm, Nat.zero_add, Nat.zero_add, Nat.mul_left_comm]
  | trans _ _ h1 h2 => exact h1.trans h2
theorem Fm_er {x : α} {l : List α} (h : x ∈ l) : Fm l = nc l x * Fm (er x l) := by
  rw [Fm_perm (er_perm h), nc_perm (er_perm h) x, nc_cons, if_pos rfl, Nat.add_comm 1]
  rfl
theorem sum_ind {y : α} : ∀ {l : List α} {f : α → Nat}, l.Nodup → y ∈ l → (l.map fun x => (if y = x then 1 else 0) + f x).sum = 1 + (l.map f).sum
  | [], _, _, h => nomatch h
  | x :: l, f, hn, h => by
    obtain ⟨h1, h2⟩ := List.nodup_cons.mp hn
    rw [List.map_cons, List.map_cons, List.sum_cons, List.sum_cons]
    by_cases e : y = x
    · have : (l.map fun x => (if y = x then 1 else 0) + f x) = l.map f := List.map_congr_left fun z hz => by
        rw [if_neg fun q => h1 (by rw [← e, q]; exact hz), Nat.zero_add]
      rw [this, if_pos e]
      omega
    · rw [if_neg e, sum_ind h2 ((List.mem_cons.mp h).resolve_left e)]
      omega
theorem sum_nc : ∀ l : List α, ((dd l).map (nc l)).sum = l.length
  | [] => rfl
  | y :: l => by
    have e : nc (y :: l) = fun x => (if y = x then 1 else 0) + nc l x := funext fun x => nc_cons y l x
    rw [e]
    by_cases h : y ∈ l
    · have d : dd (y :: l) = dd l := by show (if y ∈ l then dd l else _) = _; rw [if_pos h]
      rw [d, sum_ind (nodup_dd l) (mem_dd.mpr h), sum_nc l, List.length_cons, Nat.add_comm]
    · have d : dd (y :: l) = y :: dd l := by show (if y ∈ l then dd l else _) = _; rw [if_neg h]
      have z : (dd l).map (fun x => (if y = x then 1 else 0) + nc l x) = (dd l).map (nc l) := List.map_congr_left fun x hx => by
        rw [if_neg fun q => h (by rw [q]; exact mem_dd.mp hx), Nat.zero_add]
      have z0 : nc l y = 0 := by
        unfold nc
        rw [List.filter_eq_nil_iff.mpr fun x hx => by simp; exact fun q => h (by rw [← q]; exact hx)]
        rfl
      rw [d, List.map_cons, List.sum_cons, z, sum_nc l, if_pos rfl, z0, List.length_cons]
      omega
end
/-! ### runs -/
def run1 : List Sp → List Sp
  | [] => []
  | x :: l => x :: l.takeWhile fun y => decide (y.1 = x.1)
/-- does not go on with this word -/
def Off (k : Bool) (t : List Sp) : Prop := ∀ x r, t = x :: r → x.1 ≠ k
theorem run_app {r t : List Sp} {k : Bool} (hr : ∀ x ∈ r, x.1 = k) (ne : r ≠ []) (ht : Off k t) : run1 (r ++ t) = r := by
  cases r with
  | nil => exact absurd rfl ne
  | cons x r =>
    have hx := hr x List.mem_cons_self
    show x :: (r ++ t).takeWhile (fun y => decide (y.1 = x.1)) = x :: r
    congr 1
    have hr2 : ∀ y ∈ r, y.1 = k := fun y hy => hr y (List.mem_cons_of_mem _ hy)
    rw [hx]
    clear hr ne hx
    induction r with
    | nil =>
      cases t with
      | nil => rfl
      | cons y t =>
        rw [List.nil_append, List.takeWhile_cons, if_neg]
        rw [decide_eq_true_eq]
        exact ht y t rfl
    | cons y r ih =>
      rw [List.cons_append, List.takeWhile_cons, if_pos (by rw [decide_eq_true_eq]; exact hr2 y List.mem_cons_self), ih fun z hz => hr2 z (List.mem_cons_of_mem _ hz)]
theorem run_split : ∀ (x : Sp) (l : List Sp), ∃ r t, x :: l = r ++ t ∧ r ≠ [] ∧ (∀ y ∈ r, y.1 = x.1) ∧ Off x.1 t
  | x, [] => ⟨[x], [], rfl, by simp, fun y hy => by rw [List.mem_singleton.mp hy], fun _ _ h => nomatch h⟩
  | x, y :: l => by
    by_cases e : y.1 = x.1
    · obtain ⟨r, t, h1, h2, h3, h4⟩ := run_split y l
      refine ⟨x :: r, t, by rw [h1]; rfl, by simp, fun z hz => ?_, e ▸ h4⟩
      rcases List.mem_cons.mp hz with e1 | hz
      · rw [e1]
      · rw [h3 z hz, e]
    · exact ⟨[x], y :: l, rfl, by simp, fun z hz => by rw [List.mem_singleton.mp hz], fun z r h => by cases h; exact e⟩
/-! ### all arrangements -/
def arrN : Nat → List Sp → List (List Sp)
  | 0, _ => [[]]
  | n + 1, q => (dd (run1 q)).flatMap fun x => (arrN n (er x q)).map (x :: ·)
def arr (q : List Sp) : List (List Sp) := arrN q.length q
theorem mem_arr {n : Nat} {q q' : List Sp} : q' ∈ arrN (n + 1) q ↔ ∃ x ∈ run1 q, ∃ p ∈ arrN n (er x q), q' = x :: p := by
  show q' ∈ (dd (run1 q)).flatMap _ ↔ _
  rw [List.mem_flatMap]
  constructor
  · rintro ⟨x, h1, h2⟩
    obtain ⟨p, hp, rfl⟩ := List.mem_map.mp h2
    exact ⟨x, mem_dd.mp h1, p, hp, rfl⟩
  · rintro ⟨x, h1, p, hp, rfl⟩
    exact ⟨x, mem_dd.mpr h1, List.mem_map_of_mem hp⟩
theorem run_mem {q : List Sp} {x : Sp} (h : x ∈ run1 q) : x ∈ q := by
  cases q with
  | nil => exact nomatch h
  | cons y l =>
    rcases List.mem_cons.mp h with e | h
    · rw [e]; exact List.mem_cons_self
    · exact List.mem_cons_of_mem _ ((List.takeWhile_sublist _).mem h)
theorem arr_nodup : ∀ (n : Nat) (q : List Sp), (arrN n q).Nodup
  | 0, _ => List.nodup_cons.mpr ⟨(fun h => nomatch h), List.Pairwise.nil⟩
  | n + 1, q => by
    show ((dd (run1 q)).flatMap _).Pairwise (· ≠ ·)
    rw [List.pairwise_flatMap]
    refine ⟨fun x _ => ?_, (nodup_dd (run1 q)).imp fun {x y} hxy a ha b hb e => ?_⟩
    · rw [List.pairwise_map]
      have : (arrN n (er x q)).Pairwise (· ≠ ·) := arr_nodup n _
      exact this.imp fun h e => h (List.cons.inj e).2
    · obtain ⟨p, _, rfl⟩ := List.mem_map.mp ha
      obtain ⟨p2, _, rfl⟩ := List.mem_map.mp hb
      exact hxy (List.cons.inj e).1
theorem arr_self : ∀ (q : List Sp), q ∈ arrN q.length q
  | [] => List.mem_singleton.mpr rfl
  | x :: l => by
    refine mem_arr.mpr ⟨x, List.mem_cons_self, l, ?_, rfl⟩
    have e : er x (x :: l) = l := by show (if x = x then l else _) = _; rw [if_pos rfl]
    rw [e]
    exact arr_self l
/-- two neighbours of one word, swapped -/
def Swp (q q' : List Sp) : Prop := ∃ u a b v, q = u ++ a :: b :: v ∧ a.1 = b.1 ∧ q' = u ++ b :: a :: v
theorem Swp.cons {q q' : List Sp} (x : Sp) (h : Swp q q') : Swp (x :: q) (x :: q') := by
  obtain ⟨u, a, b, v, rfl, e, rfl⟩ := h
  exact ⟨x :: u, a, b, v, rfl, e, rfl⟩
theorem run_two {q : List Sp} {a b : Sp} (ha : a ∈ run1 q) (hb : b ∈ run1 (er a q)) (e : a.1 = b.1) : b ∈ run1 q ∧ a ∈ run1 (er b q) := by
  cases q with
  | nil => exact nomatch ha
  | cons x l =>
    obtain ⟨r, t, h1, h2, h3, h4⟩ := run_split x l
    rw [h1] at ha hb ⊢
    rw [run_app h3 h2 h4] at ha ⊢
    rw [er_app t ha] at hb
    have ka := h3 a ha
    have h3' : ∀ y ∈ er a r, y.1 = x.1 := fun y hy => h3 y (er_mem hy)
    have hbr : b ∈ er a r := by
      by_cases z : er a r = []
      · rw [z, List.nil_append] at hb
        cases t with
        | nil => exact nomatch hb
        | cons y t =>
          have k1 := h4 y t rfl
          obtain ⟨r2, t2, g1, g2, g3, g4⟩ := run_split y t
          rw [g1, run_app g3 g2 g4] at hb
          have := g3 b hb
          exact absurd (by rw [← this, ← e, ka]) k1
      · rw [run_app h3' z h4] at hb
        exact hb
    have hb2 := er_mem hbr
    refine ⟨hb2, ?_⟩
    have ab := er_back ha hbr
    rw [er_app t hb2, run_app (fun y hy => h3 y (er_mem hy)) (fun z => by rw [z] at ab; exact nomatch ab) h4]
    exact ab
theorem arr_sw : ∀ (n : Nat) {q q' q'' : List Sp}, q' ∈ arrN n q → Swp q' q'' → q'' ∈ arrN n q
  | 0, q, q', q'', h, s => by
    obtain ⟨u, a, b, v, rfl, _, _⟩ := s
    have := List.mem_singleton.mp h
    exact absurd this (by simp)
  | n + 1, q, q', q'', h, s => by
    obtain ⟨x, hx, p, hp, rfl⟩ := mem_arr.mp h
    obtain ⟨u, a, b, v, e1, e, rfl⟩ := s
    cases u with
    | cons y u =>
      have e1 : x :: p = y :: (u ++ a :: b :: v) := e1
      obtain ⟨rfl, rfl⟩ := List.cons.inj e1
      exact mem_arr.mpr ⟨x, hx, _, arr_sw n hp ⟨u, a, b, v, rfl, e, rfl⟩, rfl⟩
    | nil =>
      have e1 : x :: p = a :: (b :: v) := e1
      obtain ⟨rfl, rfl⟩ := List.cons.inj e1
      cases n with
      | zero => exact absurd (List.mem_singleton.mp hp) (by simp)
      | succ n =>
        obtain ⟨y, hy, p2, hp2, e2⟩ := mem_arr.mp hp
        obtain ⟨rfl, rfl⟩ := List.cons.inj e2
        obtain ⟨k1, k2⟩ := run_two hx hy e
        refine mem_arr.mpr ⟨b, k1, x :: v, mem_arr.mpr ⟨x, k2, v, ?_, rfl⟩, rfl⟩
        rw [er_comm]
        exact hp2
theorem front {S : List Sp → Prop} (hS : ∀ q q', S q → Swp q q' → S q') {x : Sp} : ∀ {u v : List Sp}, (∀ y ∈ u, y.1 = x.1) → S (u ++ x :: v) → S (x :: (u ++ v))
  | [], _, _, h => h
  | y :: u, v, hu, h => by
    have h2 : S (y :: (x :: (u ++ v))) := front (S := fun l => S (y :: l)) (fun q q' a b => hS _ _ a (b.cons y)) (fun z hz => hu z (List.mem_cons_of_mem _ hz)) h
    exact hS _ _ h2 ⟨[], y, x, u ++ v, rfl, hu y List.mem_cons_self, rfl⟩
theorem arr_in : ∀ (n : Nat) {q q' : List Sp} {S : List Sp → Prop}, (∀ q q', S q → Swp q q' → S q') → q.length = n → q' ∈ arrN n q → S q → S q'
  | 0, q, q', S, hS, hl, h, s => by
    rw [List.mem_singleton.mp h, ← List.length_eq_zero_iff.mp hl]
    exact s
  | n + 1, q, q', S, hS, hl, h, s => by
    obtain ⟨x, hx, p, hp, rfl⟩ := mem_arr.mp h
    have hxq := run_mem hx
    have el := er_len hxq
    refine arr_in n (q := er x q) (S := fun l => S (x :: l)) (fun q q' a b => hS _ _ a (b.cons x)) (by omega) hp ?_
    cases q with
    | nil => exact nomatch hx
    | cons y l =>
      obtain ⟨r, t, h1, h2, h3, h4⟩ := run_split y l
      rw [h1] at hx s ⊢
      rw [run_app h3 h2 h4] at hx
      rw [er_app t hx]
      obtain ⟨u, v, g1, g2⟩ := er_split hx
      rw [g2, List.append_assoc]
      refine front hS (fun z hz => ?_) ?_
      · rw [h3 x hx]
        exact h3 z (by rw [g1]; exact List.mem_append_left _ hz)
      · rw [g1, List.append_assoc] at s
        exact s
/-! ### how many -/
def fac : Nat → Nat
  | 0 => 1
  | n + 1 => (n + 1) * fac n
theorem len_flat {α β : Type} (f : α → List β) : ∀ l : List α, (l.flatMap f).length = (l.map fun x => (f x).length).sum
  | [] => rfl
  | x :: l => by rw [List.flatMap_cons, List.length_append, List.map_cons, List.sum_cons, len_flat f l]
theorem sum_mul {α : Type} (f g : α → Nat) (c d : Nat) : ∀ l : List α, (∀ x ∈ l, f x * c = d * g x) → (l.map f).sum * c = d * (l.map g).sum
  | [], _ => by simp
  | x :: l, h => by
    rw [List.map_cons, List.map_cons, List.sum_cons, List.sum_cons, Nat.add_mul, Nat.mul_add, h x List.mem_cons_self, sum_mul f g c d l fun y hy => h y (List.mem_cons_of_mem _ hy)]
theorem arr_cnt {k : Bool} {t : List Sp} (ht : Off k t) : ∀ (n : Nat) {r : List Sp}, r.length = n → (∀ x ∈ r, x.1 = k) → (arrN (n + t.length) (r ++ t)).length * Fm r = fac n * (arrN t.length t).length
  | 0, r, hl, _ => by
    rw [List.length_eq_zero_iff.mp hl]
    show (arrN (0 + t.length) t).length * 1 = 1 * _
    rw [Nat.zero_add, Nat.mul_comm]
  | n + 1, r, hl, hr => by
    have ne : r ≠ [] := fun z => by rw [z] at hl; exact nomatch hl
    have e : n + 1 + t.length = (n + t.length) + 1 := by omega
    rw [e]
    show ((dd (run1 (r ++ t))).flatMap _).length * Fm r = _
    rw [len_flat, run_app hr ne ht]
    rw [sum_mul (fun x => ((arrN (n + t.length) (er x (r ++ t))).map (x :: ·)).length) (nc r) (Fm r) (fac n * (arrN t.length t).length) (dd r) fun x hx => ?_]
    · rw [sum_nc, hl]
      show fac n * _ * (n + 1) = (n + 1) * fac n * _
      rw [Nat.mul_comm _ (n + 1), Nat.mul_assoc]
    · have hx := mem_dd.mp hx
      have el := er_len hx
      have ih := arr_cnt ht n (r := er x r) (by omega) fun y hy => hr y (er_mem hy)
      show ((arrN (n + t.length) (er x (r ++ t))).map (x :: ·)).length * Fm r = _
      rw [List.length_map, er_app t hx, Fm_er hx, Nat.mul_left_comm, ih, Nat.mul_comm]
theorem arr1 {k : Bool} {r : List Sp} (hr : ∀ x ∈ r, x.1 = k) : (arr r).length * Fm r = fac r.length := by
  have := arr_cnt (k := k) (t := []) (fun _ _ h => nomatch h) r.length (r := r) rfl hr
  rw [List.append_nil] at this
  have e : (arrN ([] : List Sp).length []).length = 1 := rfl
  rw [e, Nat.mul_one] at this
  exact this
theorem arr_app {k : Bool} {r t : List Sp} (hr : ∀ x ∈ r, x.1 = k) (ht : Off k t) : (arr (r ++ t)).length = (arr r).length * (arr t).length := by
  have h1 := arr_cnt ht r.length rfl hr
  have h2 := arr1 hr
  have e : (arr (r ++ t)).length = (arrN (r.length + t.length) (r ++ t)).length := by unfold arr; rw [List.length_append]
  have p := Fm_pos r
  refine Nat.eq_of_mul_eq_mul_right p ?_
  rw [e, h1, ← h2, Nat.mul_right_comm]
  rfl
theorem arr_perm {k : Bool} {r s : List Sp} (hr : ∀ x ∈ r, x.1 = k) (p : r.Perm s) : (arr s).length = (arr r).length := by
  have h1 := arr1 hr
  have h2 := arr1 (k := k) (r := s) fun x hx => hr x (p.mem_iff.mpr hx)
  refine Nat.eq_of_mul_eq_mul_right (Fm_pos s) ?_
  rw [h2, ← Fm_perm p, h1, p.length_eq]
/-- one more -/
theorem arr_snoc {k : Bool} {r : List Sp} {x : Sp} (hr : ∀ y ∈ r ++ [x], y.1 = k) : (arr (r ++ [x])).length * nc (r ++ [x]) x = (arr r).length * (r.length + 1) := by
  have h1 := arr1 (k := k) (r := r) fun y hy => hr y (List.mem_append_left _ hy)
  have h2 := arr1 hr
  have p : (r ++ [x]).Perm (x :: r) := List.perm_append_comm
  have e : Fm (r ++ [x]) = nc (r ++ [x]) x * Fm r := by
    rw [Fm_perm p, nc_perm p, nc_cons, if_pos rfl, Nat.add_comm 1]
    rfl
  refine Nat.eq_of_mul_eq_mul_right (Fm_pos r) ?_
  rw [Nat.mul_assoc, ← e, h2, List.length_append, Nat.mul_right_comm, h1]
  show (r.length + 1) * fac r.length = _
  rw [Nat.mul_comm]
end Dl.lib
set_option maxHeartbeats 400000
/-! Steps by what they insert or take away: exchanges are swaps there; arrangements of a sequence. -/
namespace Dl.lib
open PySem Tab
def lab : Tb → List Sp → List Sp
  | _, [] => []
  | A, x :: xs => if x.1 = true then x :: lab (0, []) xs else (false, lr A.1 A.2 x.2) :: lab (plus A (stT x 0)) xs
structure Z0 (A : Tb) : Prop where
  v : V A
  z : A.1 = 0
theorem z00 : Z0 (0, []) := ⟨V0, rfl⟩
theorem Z0.out {A : Tb} {x : Sp} (h : Z0 A) (hx : okS x) (hf : x.1 = false) : Z0 (plus A (stT x 0)) := ⟨plus_V h.v (stT_V hx 0), by rw [plus_rm h.z ⟨hx, hf⟩]⟩
theorem lab_t {A : Tb} {x : Sp} {xs : List Sp} (h : x.1 = true) : lab A (x :: xs) = x :: lab (0, []) xs := by show (if x.1 = true then _ else _) = _; rw [if_pos h]
theorem lab_f {A : Tb} {x : Sp} {xs : List Sp} (h : x.1 = false) : lab A (x :: xs) = (false, lr A.1 A.2 x.2) :: lab (plus A (stT x 0)) xs := by show (if x.1 = true then _ else _) = _; rw [if_neg (by rw [h]; exact Bool.false_ne_true)]
theorem lab_len : ∀ {xs : List Sp} {A : Tb}, (lab A xs).length = xs.length
  | [], _ => rfl
  | x :: xs, A => by
    cases h : x.1 with
    | true => rw [lab_t h, List.length_cons, List.length_cons, lab_len]
    | false => rw [lab_f h, List.length_cons, List.length_cons, lab_len]
theorem lab_kind : ∀ {xs : List Sp} {A : Tb}, (lab A xs).map (·.1) = xs.map (·.1)
  | [], _ => rfl
  | x :: xs, A => by
    cases h : x.1 with
    | true => rw [lab_t h, List.map_cons, List.map_cons, lab_kind]
    | false => rw [lab_f h, List.map_cons, List.map_cons, lab_kind, h]
theorem lab_inj : ∀ {xs ys : List Sp} {A : Tb}, Z0 A → (∀ x ∈ xs, okS x) → (∀ x ∈ ys, okS x) → lab A xs = lab A ys → xs = ys
  | [], [], _, _, _, _, _ => rfl
  | [], y :: ys, A, _, _, _, h => by have := congrArg List.length h; rw [lab_len, lab_len] at this; exact nomatch this
  | x :: xs, [], A, _, _, _, h => by have := congrArg List.length h; rw [lab_len, lab_len] at this; exact nomatch this
  | x :: xs, y :: ys, A, z, hx, hy, h => by
    have ox := hx x List.mem_cons_self
    have oy := hy y List.mem_cons_self
    have hx' := fun u hu => hx u (List.mem_cons_of_mem _ hu)
    have hy' := fun u hu => hy u (List.mem_cons_of_mem _ hu)
    have k : x.1 = y.1 := by
      have := congrArg (List.map (·.1)) h
      rw [lab_kind, lab_kind] at this
      exact (List.cons.inj this).1
    cases q : x.1 with
    | true =>
      rw [lab_t q, lab_t (k ▸ q)] at h
      obtain ⟨h1, h2⟩ := List.cons.inj h
      rw [h1, lab_inj z00 hx' hy' h2]
    | false =>
      have q2 : y.1 = false := k ▸ q
      rw [lab_f q, lab_f q2] at h
      obtain ⟨h1, h2⟩ := List.cons.inj h
      have h1 : lr A.1 A.2 x.2 = lr A.1 A.2 y.2 := (Prod.mk.inj h1).2
      have e1 := (lr_afb z.v z.z (ox q)).1
      have e2 := (lr_afb z.v z.z (oy q2)).1
      have e : x = y := Prod.ext k (by rw [← e1, ← e2, h1])
      subst e
      rw [lab_inj (z.out ox q) hx' hy' h2]
/-! ### an exchange is a swap -/
theorem out_af {A : Tb} (z : Z0 A) {x : Sp} (hx : okS x) (hf : x.1 = false) {c : Int} (hc : 0 ≤ c) : af (plus A (stT x 0)) c = af A c - if x.2 ≤ af A c then 1 else 0 := by
  rw [plus_af z.v hc]
  obtain ⟨b, n⟩ := x
  obtain rfl : b = false := hf
  exact stT_out n 0 _
theorem out_mem {A : Tb} (z : Z0 A) {x : Sp} (hx : okS x) (hf : x.1 = false) {c : Int} : c ∈ (plus A (stT x 0)).2 ↔ c ∈ A.2 ∨ c = lr A.1 A.2 x.2 := by
  rw [plus_rm z.z ⟨hx, hf⟩]
  show c ∈ isort (A.2 ++ [lr A.1 A.2 x.2]) ↔ _
  rw [(isort_perm _).mem_iff, List.mem_append, List.mem_singleton]
theorem two_swap {A : Tb} (z : Z0 A) {a b : Sp} (ha : okS a) (hb : okS b) (fa : a.1 = false) (fb : b.1 = false) :
    lr A.1 A.2 (xc a b).1.2 = lr (plus A (stT a 0)).1 (plus A (stT a 0)).2 b.2 ∧ lr (plus A (stT (xc a b).1 0)).1 (plus A (stT (xc a b).1 0)).2 (xc a b).2.2 = lr A.1 A.2 a.2 := by
  have e : a.1 = b.1 := by rw [fa, fb]
  obtain ⟨o1, o2⟩ := xc_ok ha hb e
  obtain ⟨k1, k2⟩ := xc_kind e
  rw [fa] at k1 k2
  have pa : 0 < a.2 := ha fa
  have pb : 0 < b.2 := hb fb
  have z1 := z.out ha fa
  obtain ⟨x1, x2, x3⟩ := lr_afb z.v z.z pa
  obtain ⟨y1, y2, y3⟩ := lr_afb z1.v z1.z pb
  generalize lr A.1 A.2 a.2 = g1 at *
  generalize hg2 : lr (plus A (stT a 0)).1 (plus A (stT a 0)).2 b.2 = g2 at *
  have m1 : g2 ∉ A.2 ∧ g2 ≠ g1 := by
    refine ⟨fun q => y2 ((out_mem z ha fa).mpr (.inl q)), fun q => ?_⟩
    have l1 : lr A.1 A.2 a.2 = g1 := by rw [← x1]; exact lr_af z.v x3 x2
    exact y2 ((out_mem z ha fa).mpr (.inr (by rw [q, l1])))
  rw [out_af z ha fa (by omega)] at y1
  have r2 : lr A.1 A.2 (af A g2) = g2 := lr_af z.v y3 m1.1
  have r1 : lr A.1 A.2 (af A g1) = g1 := lr_af z.v x3 x2
  have ne : af A g2 ≠ a.2 := fun q => m1.2 (by rw [← r2, ← r1, q, x1])
  have hx1 : (xc a b).1.2 = af A g2 := by
    unfold xc
    rw [if_neg (by rw [fa]; exact Bool.false_ne_true)]
    by_cases q : a.2 ≤ b.2
    · rw [if_pos (by simpa using q)]
      show b.2 + 1 = _
      split at y1 <;> omega
    · rw [if_neg (by simpa using q)]
      show b.2 = _
      split at y1 <;> omega
  refine ⟨by rw [hx1, r2], ?_⟩
  have z2 := z.out o1 k1
  have nm : g1 ∉ (plus A (stT (xc a b).1 0)).2 := fun q => by
    rcases (out_mem z o1 k1).mp q with q | q
    · exact x2 q
    · rw [hx1, r2] at q
      exact m1.2 q.symm
  have hx2 : (xc a b).2.2 = af (plus A (stT (xc a b).1 0)) g1 := by
    rw [out_af z o1 k1 (by omega), hx1, x1]
    unfold xc
    rw [if_neg (by rw [fa]; exact Bool.false_ne_true)]
    by_cases q : a.2 ≤ b.2
    · rw [if_pos (by simpa using q)]
      show a.2 = _
      split at y1 <;> split <;> omega
    · rw [if_neg (by simpa using q)]
      show a.2 - 1 = _
      split at y1 <;> split <;> omega
  rw [hx2]
  exact lr_af z2.v x3 nm
/-- where a sequence is exchanged, its labels are swapped -/
theorem lab_exch : ∀ {pre : List Sp} {A : Tb} {a b : Sp} {post : List Sp}, Z0 A → (∀ x ∈ pre ++ a :: b :: post, okS x) → a.1 = b.1 →
    ∃ u c d v, u.length = pre.length ∧ c.1 = d.1 ∧ lab A (pre ++ a :: b :: post) = u ++ c :: d :: v ∧ lab A (pre ++ (xc a b).1 :: (xc a b).2 :: post) = u ++ d :: c :: v
  | [], A, a, b, post, z, h, e => by
    have oa := h a (by simp)
    have ob := h b (by simp)
    obtain ⟨k1, k2⟩ := xc_kind e
    cases q : a.1 with
    | true =>
      have q2 : b.1 = true := e ▸ q
      have ex : xc a b = (b, a) := by unfold xc; rw [if_pos q]
      refine ⟨[], a, b, lab (0, []) post, rfl, e, ?_, ?_⟩
      · show lab A (a :: b :: post) = _
        rw [lab_t q, lab_t q2]; rfl
      · rw [ex]
        show lab A (b :: a :: post) = _
        rw [lab_t q2, lab_t q]; rfl
    | false =>
      have q2 : b.1 = false := e ▸ q
      obtain ⟨s1, s2⟩ := two_swap z oa ob q q2
      obtain ⟨o1, o2⟩ := xc_ok oa ob e
      rw [q] at k1 k2
      have as : plus (plus A (stT (xc a b).1 0)) (stT (xc a b).2 0) = plus (plus A (stT a 0)) (stT b 0) := by
        rw [plus_assoc z.v (stT_V o1 0) (stT_V o2 0), plus_assoc z.v (stT_V oa 0) (stT_V ob 0), xc_tab oa ob e]
      refine ⟨[], (false, lr A.1 A.2 a.2), (false, lr (plus A (stT a 0)).1 (plus A (stT a 0)).2 b.2), lab (plus (plus A (stT a 0)) (stT b 0)) post, rfl, rfl, ?_, ?_⟩
      · show lab A (a :: b :: post) = _
        rw [lab_f q, lab_f q2]; rfl
      · show lab A ((xc a b).1 :: (xc a b).2 :: post) = _
        rw [lab_f k1, lab_f k2, s1, s2, as]; rfl
  | x :: pre, A, a, b, post, z, h, e => by
    have ox := h x List.mem_cons_self
    have h' : ∀ y ∈ pre ++ a :: b :: post, okS y := fun y hy => h y (List.mem_cons_of_mem _ hy)
    cases q : x.1 with
    | true =>
      obtain ⟨u, c, d, v, h1, h2, h3, h4⟩ := lab_exch (A := (0, [])) z00 h' e
      refine ⟨x :: u, c, d, v, by rw [List.length_cons, List.length_cons, h1], h2, ?_, ?_⟩
      · rw [List.cons_append, lab_t q, h3]; rfl
      · rw [List.cons_append, lab_t q, h4]; rfl
    | false =>
      obtain ⟨u, c, d, v, h1, h2, h3, h4⟩ := lab_exch (A := plus A (stT x 0)) (z.out ox q) h' e
      refine ⟨(false, lr A.1 A.2 x.2) :: u, c, d, v, by rw [List.length_cons, List.length_cons, h1], h2, ?_, ?_⟩
      · rw [List.cons_append, lab_f q, h3]; rfl
      · rw [List.cons_append, lab_f q, h4]; rfl
/-- one exchange -/
def Ex (xs ys : List Sp) : Prop := ∃ pre a b post, xs = pre ++ a :: b :: post ∧ a.1 = b.1 ∧ ys = pre ++ (xc a b).1 :: (xc a b).2 :: post
theorem Ex.swp {xs ys : List Sp} (hx : ∀ x ∈ xs, okS x) (h : Ex xs ys) : Swp (lab (0, []) xs) (lab (0, []) ys) := by
  obtain ⟨pre, a, b, post, rfl, e, rfl⟩ := h
  obtain ⟨u, c, d, v, _, h2, h3, h4⟩ := lab_exch z00 hx e
  exact ⟨u, c, d, v, h3, h2, h4⟩
theorem Ex.ok {xs ys : List Sp} (hx : ∀ x ∈ xs, okS x) (h : Ex xs ys) : (∀ x ∈ ys, okS x) ∧ nf ys = nf xs ∧ ys.length = xs.length := by
  obtain ⟨pre, a, b, post, rfl, e, rfl⟩ := h
  exact ⟨due_ok hx e, nf_exch hx e, by simp⟩
theorem app_same {α : Type} {u u' : List α} {v v' : List α} (hl : u.length = u'.length) (h : u ++ v = u' ++ v') : u = u' ∧ v = v' := List.append_inj h hl
theorem swp_ex {xs : List Sp} {q : List Sp} (hx : ∀ x ∈ xs, okS x) (h : Swp (lab (0, []) xs) q) : ∃ ys, Ex xs ys ∧ lab (0, []) ys = q := by
  obtain ⟨u, c, d, v, h1, h2, rfl⟩ := h
  have hl := congrArg List.length h1
  rw [lab_len] at hl
  simp only [List.length_append, List.length_cons] at hl
  obtain ⟨pre, a, b, post, rfl, hp⟩ := split2 (xs := xs) (k := u.length) (by omega)
  have kk := congrArg (List.map (·.1)) h1
  rw [lab_kind, List.map_append, List.map_append] at kk
  obtain ⟨_, k2⟩ := app_same (by rw [List.length_map, List.length_map, hp]) kk
  rw [List.map_cons, List.map_cons, List.map_cons, List.map_cons] at k2
  obtain ⟨k3, k4⟩ := List.cons.inj k2
  have e : a.1 = b.1 := by rw [k3, (List.cons.inj k4).1]; exact h2
  obtain ⟨u', c', d', v', g1, g2, g3, g4⟩ := lab_exch z00 hx e
  rw [g3] at h1
  obtain ⟨rfl, e2⟩ := app_same (by rw [g1, hp]) h1
  obtain ⟨rfl, e3⟩ := List.cons.inj e2
  obtain ⟨rfl, rfl⟩ := List.cons.inj e3
  exact ⟨_, ⟨pre, a, b, post, rfl, e, rfl⟩, g4⟩
/-! ### labels part by part -/
theorem off_t {A : Tb} {t : List Sp} (h : Off false t) : lab A t = lab (0, []) t := by
  cases t with
  | nil => rfl
  | cons x t =>
    have hx := h x t rfl
    have : x.1 = true := by cases q : x.1 <;> simp_all
    rw [lab_t this, lab_t this]
theorem lab_ins : ∀ {p : List Sp} {A : Tb} {t : List Sp}, p ≠ [] → (∀ x ∈ p, x.1 = true) → lab A (p ++ t) = p ++ lab (0, []) t
  | [], _, _, h, _ => absurd rfl h
  | [x], A, t, _, h => by
    have := h x List.mem_cons_self
    show lab A (x :: t) = _
    rw [lab_t this]; rfl
  | x :: y :: p, A, t, _, h => by
    have := h x List.mem_cons_self
    show lab A (x :: ((y :: p) ++ t)) = _
    rw [lab_t this, lab_ins (by simp) fun z hz => h z (List.mem_cons_of_mem _ hz)]
    rfl
theorem lab_rms : ∀ {p : List Sp} {A : Tb} {t : List Sp}, (∀ x ∈ p, x.1 = false) → Off false t → lab A (p ++ t) = (od A p).map (fun n => (false, n)) ++ lab (0, []) t
  | [], A, t, _, h => off_t h
  | x :: p, A, t, h, ht => by
    have := h x List.mem_cons_self
    show lab A (x :: (p ++ t)) = _
    rw [lab_f this, lab_rms (fun z hz => h z (List.mem_cons_of_mem _ hz)) ht]
    rfl
/-- a part, and its normal form -/
theorem lab_part {p t : List Sp} (hp : PartOk p) (ho : ∀ x ∈ p, okS x) (k : Bool) (hk : ∀ x ∈ p, x.1 = k) (ht : Off k t) : ∃ r, lab (0, []) (p ++ t) = r ++ lab (0, []) t ∧ (∀ x ∈ r, x.1 = k) ∧ r.Perm (nfP p) ∧ r.length = p.length := by
  have ne : p ≠ [] := by obtain ⟨x, r, rfl, _⟩ := hp; simp
  cases k with
  | true =>
    refine ⟨p, lab_ins ne hk, hk, ?_, rfl⟩
    rw [nfP_ins hp hk]
    have e : p = (p.map (·.2)).map fun n => ((true, n) : Sp) := by
      rw [List.map_map]
      have : p.map ((fun n => ((true, n) : Sp)) ∘ (·.2)) = p.map id := List.map_congr_left fun x hx => by
        show ((true, x.2) : Sp) = x
        rw [← hk x hx]
      rw [this, List.map_id]
    refine List.Perm.trans (by rw [← e]) ((isort_perm (p.map (·.2))).symm.map fun n => ((true, n) : Sp))
  | false =>
    have ho2 : ∀ x ∈ p, okS x ∧ x.1 = false := fun x hx => ⟨ho x hx, hk x hx⟩
    refine ⟨(od (0, []) p).map fun n => (false, n), lab_rms hk ht, fun x hx => ?_, ?_, ?_⟩
    · obtain ⟨n, _, rfl⟩ := List.mem_map.mp hx
      rfl
    · rw [nfP_rm hp hk, ← od_sort ho2]
      exact ((isort_perm _).symm.trans (List.reverse_perm _).symm).map fun n => ((false, n) : Sp)
    · have := (od_perm (xs := p) (a := (0, [])) rfl ho2).length_eq
      rw [List.length_map]
      have : ∀ {p : List Sp} {A : Tb}, (od A p).length = p.length := fun {p} => by
        induction p with
        | nil => exact fun {_} => rfl
        | cons x p ih => exact fun {A} => by show (od _ p).length + 1 = _; rw [ih]; rfl
      exact this
def prd : List Nat → Nat
  | [] => 1
  | n :: l => n * prd l
theorem alt_off {l m : List Sp} {ps : List (List Sp)} {k : Bool} (hl : wdOf l = some k) (h : Alt (l :: m :: ps)) (hm : m ≠ []) : Off k (m :: ps).flatten := by
  intro x r e
  have h1 := h.1
  cases m with
  | nil => exact absurd rfl hm
  | cons y m =>
    rw [List.flatten_cons, List.cons_append] at e
    obtain ⟨rfl, _⟩ := List.cons.inj e
    intro q
    exact h1 (by rw [hl]; show some k = some y.1; rw [q])
/-- how many sequences exchanges reach -/
theorem arr_parts : ∀ {ps : List (List Sp)}, (∀ l ∈ ps, PartOk l ∧ ∀ x ∈ l, okS x) → Alt ps → (arr (lab (0, []) ps.flatten)).length = prd (ps.map fun p => (arr (nfP p)).length)
  | [], _, _ => rfl
  | p :: ps, h, al => by
    obtain ⟨hp, ho⟩ := h p List.mem_cons_self
    obtain ⟨k, w, hk⟩ := wd_part hp
    have al2 : Alt ps := by
      cases ps with
      | nil => trivial
      | cons q ps => exact al.2
    have ht : Off k ps.flatten := by
      cases ps with
      | nil => exact fun _ _ z => nomatch z
      | cons m ps =>
        refine alt_off w al ?_
        obtain ⟨x, r, e, _⟩ := (h m (by simp)).1
        rw [e]; simp
    obtain ⟨r, h1, h2, h3, _⟩ := lab_part hp ho k hk ht
    rw [List.flatten_cons, h1]
    have hto : Off k (lab (0, []) ps.flatten) := by
      intro x q e
      have e2 := congrArg (List.map (·.1)) e
      rw [lab_kind] at e2
      cases z : ps.flatten with
      | nil => rw [z] at e2; exact nomatch e2
      | cons y t =>
        rw [z] at e2
        have e3 : y.1 = x.1 := (List.cons.inj e2).1
        rw [← e3]
        exact ht y t z
    rw [arr_app h2 hto, arr_parts (fun l hl => h l (List.mem_cons_of_mem _ hl)) al2, ← arr_perm h2 h3]
    rfl
theorem nf_parts {xs : List Sp} (hx : ∀ x ∈ xs, okS x) : grp (nf xs) [] = (grp xs []).map nfP ∧ (arr (lab (0, []) xs)).length = prd ((grp (nf xs) []).map fun p => (arr p).length) := by
  have fl : (grp xs []).flatten = xs := grp_flat xs []
  have ok := grp_ok (xs := xs) (acc := []) fun _ h => nomatch h
  have hp : ∀ l ∈ grp xs [], ∀ x ∈ l, okS x := fun l h x hxl => hx x (by rw [← fl]; exact List.mem_flatten.mpr ⟨l, h, hxl⟩)
  have al := grp_alt (xs := xs) (acc := []) (fun _ h => nomatch h) trivial
  have g : grp (nf xs) [] = (grp xs []).map nfP := by
    unfold nf
    rw [List.flatMap_def]
    refine grp_parts (acc := []) (fun l hl => ?_) ?_
    · obtain ⟨m, hm, rfl⟩ := List.mem_map.mp hl
      exact (nfP_ok (ok m hm) (hp m hm)).1
    · refine alt_like ?_ al
      rw [List.nil_append, List.map_map]
      exact (List.map_congr_left fun m hm => (nfP_ok (ok m hm) (hp m hm)).2.1).symm
  refine ⟨g, ?_⟩
  have := arr_parts (ps := grp xs []) (fun l hl => ⟨ok l hl, hp l hl⟩) al
  rw [fl] at this
  rw [this, g, List.map_map]
  rfl
end Dl.lib
set_option maxHeartbeats 400000
/-! k36: the law's own normal form and numbers; one exchange. -/
namespace Dl.k36
open PySem Tab Dl.lib L2 PySem.Spec PyProof.Rows
theorem od_len : ∀ (xs : List Stp) (a : Tb), (od a xs).length = xs.length
  | [], _ => rfl
  | x :: xs, a => by
    show (od _ xs).length + 1 = xs.length + 1
    rw [od_len xs]
def st (x : Stp) : Prop := okS x ∧ -3 ≤ x.2 ∧ x.2 ≤ 7
theorem b_take {p : List Int} {m : Int} (h : tw2 p) (hm : 0 < m) (hs : m ≤ 100000) : An (p__law_take p m) fun r => (0 ≤ r.1 ∧ r.1 < m) ∧ tw2 r.2 := a_take h hm hs
theorem b_step {p : List Int} (h : tw2 p) : An (p__law_step p 3) fun r => st r.1 ∧ tw2 r.2 := by
  unfold p__law_step
  refine An.bq (b_take h (by decide) (by decide)) fun r1 ⟨_, t1⟩ => ?_
  by_cases c : r1.1 < 2
  · rw [if_pos (decide_eq_true c)]
    refine An.bq (b_take t1 (by decide) (by decide)) fun r2 ⟨⟨b0, b1⟩, t2⟩ => An.ok ⟨⟨(fun z => nomatch z), ?_, ?_⟩, t2⟩
    · show -3 ≤ r2.1 - 3; omega
    · show r2.1 - 3 ≤ 7; omega
  · rw [if_neg (by simpa using c)]
    refine An.bq (b_take t1 (by decide) (by decide)) fun r2 ⟨⟨b0, b1⟩, t2⟩ => An.ok ⟨⟨fun _ => ?_, ?_, ?_⟩, t2⟩
    · show 0 < 1 + r2.1; omega
    · show -3 ≤ 1 + r2.1; omega
    · show 1 + r2.1 ≤ 7; omega
theorem b_steps {p : List Int} (h : tw2 p) : An (p__law_steps p 5 3) fun r => (∀ x ∈ r.1, st x) ∧ r.1.length ≤ 5 ∧ tw2 r.2 := by
  unfold p__law_steps
  refine An.bq (b_take h (by decide) (by decide)) fun r1 ⟨⟨b0, b1⟩, t1⟩ => ?_
  refine An.bq (An.lcH (I := tw2) (J := st) (by rw [rngP_len]; omega) t1 fun y _ s hs => An.bq (b_step hs) fun r hr => An.ok hr) fun q ⟨ln, all, t⟩ => An.ok ⟨all, ?_, t⟩
  rw [rngP_len] at ln
  show q.1.length ≤ 5
  omega
theorem b_seq {xs : List Stp} (hx : ∀ x ∈ xs, okS x) (hl : xs.length ≤ 16777216) : p__law_sequence xs = some xs := q_made hx hl
/-- the law's own normal form of a part -/
theorem b_part {l : List Stp} {s : List Stp} (hp : PartOk l) (ho : ∀ x ∈ l, st x) (hl : l.length ≤ 1000) (hs : s.length ≤ 100000) : ((L2.atI l 0).bind fun x8 => (if x8.1 = true then (sortW l).bind fun x11 => (catP s x11).bind fun x13 => some x13 else (lcT l (fun y15 => true) (fun y15 => y15.2)).bind fun x16 => (lMax x16).bind fun x18 => (rgP 1 (((l.length : Int) + x18) + 2)).bind fun x20 => (lcH (fun y22 (s25 : (List Int)) => (popP s25 (y22.2 - 1)).bind fun x26 => some (x26.1, x26.2)) l x20).bind fun x28 => (lcT ((isort x28.1).reverse) (fun y31 => true) (fun y31 => (false, y31))).bind fun x32 => (catP s x32).bind fun x34 => some x34)) = some (s ++ nfP l) := by
  have hp0 := hp
  obtain ⟨⟨b, n⟩, r, rfl, h⟩ := hp
  rw [obind (show L2.atI ((b, n) :: r) 0 = some (b, n) from atI_head _ _)]
  obtain ⟨_, q2, _⟩ := q_part (by omega) hp0 fun x hx => (ho x hx).1
  cases b with
  | true =>
    have al : (r.all fun x => x.1 == true) = true := List.all_eq_true.mpr fun x hx => by simp [h x hx]
    rw [if_pos rfl]
    refine Eq.trans (obind (a := nfP ((true, n) :: r)) ?_) (Eq.trans (obind (catP_eq (by omega))) rfl)
    show (if (r.all fun x => x.1 == true) = true then some ((isort (n :: r.map (·.2))).map fun n => (true, n)) else none) = _
    rw [if_pos al]
    rfl
  | false =>
    rw [if_neg Bool.false_ne_true]
    have al := part_rm (l := (false, n) :: r) rfl rfl h
    have al2 : ∀ x ∈ (false, n) :: r, okS x ∧ x.1 = false := fun x hx => ⟨(ho x hx).1, al x hx⟩
    have e := nfP_rm hp0 al
    have so := od_sort al2
    generalize hL : ((false, n) :: r : List Stp) = l at *
    have ne : l ≠ [] := by rw [← hL]; simp
    obtain ⟨m, hm⟩ := lMax_some (l.map (·.2)) (by simpa using ne)
    obtain ⟨m1, m2⟩ := lMax_spec hm
    have m7 : m ≤ 7 := by
      obtain ⟨x, hx, rfl⟩ := List.mem_map.mp m1
      exact (ho x hx).2.2
    have m3 : -3 ≤ m := by
      obtain ⟨x, hx, rfl⟩ := List.mem_map.mp m1
      exact (ho x hx).2.1
    refine Eq.trans (obind (lcT_eq (by omega))) ?_
    rw [List.filter_eq_self.mpr fun _ _ => rfl]
    refine Eq.trans (obind hm) (Eq.trans (obind (a := rngP 1 ((l.length : Int) + m + 2)) ?_) ?_)
    · unfold rgP
      rw [if_pos (by unfold rgOk; omega)]
    · have ps := pops (M := (l.length : Int) + m + 2) (by omega) V0 rfl al2 fun x hx => by
        have := m2 x.2 (List.mem_map.mpr ⟨x, hx, rfl⟩)
        show x.2 + ((0 : Nat) : Int) + l.length < _
        omega
      rw [LL_0] at ps
      refine Eq.trans (obind (a := (od (0, []) l, LL ((l.length : Int) + m + 2) (fT 0 (0, []) l))) ?_) ?_
      · unfold lcH
        rw [if_pos (by omega)]
        exact ps
      · have ol : (isort (od (0, []) l)).reverse.length ≤ 1000 := by
          rw [List.length_reverse, isort_len, od_len]
          exact hl
        refine Eq.trans (obind (lcT_eq (by show (isort (od (0, []) l)).reverse.length ≤ _; omega))) ?_
        rw [List.filter_eq_self.mpr fun _ _ => rfl]
        show (catP s ((isort (od (0, []) l)).reverse.map fun y31 => (false, y31))).bind _ = _
        rw [so, ← e]
        exact Eq.trans (obind (catP_eq (by omega))) rfl
theorem b_nf {xs : List Stp} (hx : ∀ x ∈ xs, st x) (hl : xs.length ≤ 1000) : p__law_normal xs = some (nf xs) := by
  have fl : (grp xs []).flatten = xs := grp_flat xs []
  have ok := grp_ok (xs := xs) (acc := []) fun _ h => nomatch h
  have key : ∀ (ps : List (List Stp)) (s : List Stp), s.length + ps.flatten.length ≤ 1000 → (∀ l ∈ ps, PartOk l ∧ ∀ x ∈ l, st x) → forS (fun y4 (s5 : (List Stp)) => (L2.atI y4 0).bind fun x8 => (if x8.1 = true then (sortW y4).bind fun x11 => (catP s5 x11).bind fun x13 => some x13 else (lcT y4 (fun y15 => true) (fun y15 => y15.2)).bind fun x16 => (lMax x16).bind fun x18 => (rgP 1 (((y4.length : Int) + x18) + 2)).bind fun x20 => (lcH (fun y22 (s25 : (List Int)) => (popP s25 (y22.2 - 1)).bind fun x26 => some (x26.1, x26.2)) y4 x20).bind fun x28 => (lcT ((isort x28.1).reverse) (fun y31 => true) (fun y31 => (false, y31))).bind fun x32 => (catP s5 x32).bind fun x34 => some x34)) ps s = some (s ++ ps.flatMap nfP) := by
    intro ps
    induction ps with
    | nil => intro s _ _; rw [List.flatMap_nil, List.append_nil]; rfl
    | cons l ps ih =>
      intro s h1 h2
      rw [List.flatten_cons, List.length_append] at h1
      obtain ⟨p1, p2⟩ := h2 l List.mem_cons_self
      obtain ⟨_, g2, _⟩ := q_part (by omega) p1 fun x hx => (p2 x hx).1
      rw [List.flatMap_cons, ← List.append_assoc]
      exact Eq.trans (obind (b_part p1 p2 (by omega) (by omega))) (ih (s ++ nfP l) (by rw [List.length_append]; omega) fun m hm => h2 m (List.mem_cons_of_mem _ hm))
  unfold p__law_normal
  refine Eq.trans (obind (a := grp xs []) ?_) (Eq.trans (obind (key (grp xs []) [] (by rw [fl]; show 0 + _ ≤ _; omega) fun l h => ⟨ok l h, fun x hxl => hx x (by rw [← fl]; exact List.mem_flatten.mpr ⟨l, h, hxl⟩)⟩)) rfl)
  show partsP xs = _
  unfold partsP
  rw [if_pos (by omega)]
section
variable {a b : Stp}
theorem q_epair : p_exchanged_pair a b = some (if a.1 = b.1 then some (xc a b) else none) := by
  unfold p_exchanged_pair
  by_cases h : a.1 = b.1
  · rw [if_neg (by simp [h]), if_pos h]
    unfold xc
    split
    · rfl
    · split <;> rfl
  · rw [if_pos (by simp [h]), if_neg h]
end
section
variable {pre post : List Stp} {a b : Stp}
theorem q_exch (hx : ∀ x ∈ pre ++ a :: b :: post, okS x) (hl : (pre ++ a :: b :: post).length ≤ 16777216) :
    p_exchanged (pre ++ a :: b :: post) (pre.length : Int) = some (if a.1 = b.1 then some (pre ++ (xc a b).1 :: (xc a b).2 :: post) else none) := by
  have ln : (pre ++ a :: b :: post).length = pre.length + (post.length + 2) := by simp
  unfold p_exchanged
  refine Eq.trans (obind (a := pre ++ a :: b :: post) rfl) (Eq.trans (obind (q_iscount _)) ?_)
  rw [if_neg (by simp; omega)]
  refine Eq.trans (obind at_a) (Eq.trans (obind at_b) (Eq.trans (obind q_epair) ?_))
  by_cases h : a.1 = b.1
  · rw [if_pos h, if_pos h]
    obtain ⟨o1, o2⟩ := xc_ok (hx a (by simp)) (hx b (by simp)) h
    rw [if_neg (by simp)]
    refine Eq.trans (obind (a := xc a b) rfl) ?_
    rw [cut_pre, cut_post]
    have ln2 : (pre ++ (xc a b).1 :: (xc a b).2 :: post).length ≤ 16777216 := by
      rw [ln] at hl
      simp only [List.length_append, List.length_cons]
      omega
    have l2 : lstP (pre ++ ([(xc a b).1, (xc a b).2] ++ post)) = some (pre ++ (xc a b).1 :: (xc a b).2 :: post) := if_pos ln2
    refine Eq.trans (obind l2) (Eq.trans (obind (q_seq (fun x h => ?_) ln2)) rfl)
    rcases List.mem_append.mp h with h | h
    · exact hx x (List.mem_append_left _ h)
    · rcases List.mem_cons.mp h with rfl | h
      · exact o1
      · rcases List.mem_cons.mp h with rfl | h
        · exact o2
        · exact hx x (List.mem_append_right _ (List.mem_cons_of_mem _ (List.mem_cons_of_mem _ h)))
  · rw [if_neg h, if_neg h]
    rfl
end
/-! ### the law's numbers -/
theorem cnt_nc {α : Type} [DecidableEq α] (xs : List α) (x : α) : cntD xs x = (nc xs x : Nat) := by
  unfold cntD
  congr 1
  induction xs with
  | nil => rfl
  | cons y xs ih =>
    rw [List.count_cons, ih, nc_cons]
    by_cases h : y = x
    · simp [h]; omega
    · simp [h]
theorem arr_le {k : Bool} {r : List Stp} (hr : ∀ x ∈ r, x.1 = k) : (arr r).length ≤ fac r.length := by
  rw [← arr1 hr]
  exact Nat.le_mul_of_pos_right _ (Fm_pos r)
theorem fac_le : ∀ {n m : Nat}, n ≤ m → fac n ≤ fac m
  | n, m, h => by
    induction h with
    | refl => exact Nat.le_refl _
    | step _ ih => exact Nat.le_trans ih (Nat.le_mul_of_pos_left _ (Nat.succ_pos _))
theorem mul_small {a b : Int} (h0 : 0 ≤ b) (h1 : b < 1000000) : mulP a b = some (a * b) := by
  refine if_pos ?_
  unfold cMul
  rw [decide_eq_true (.inr ⟨by omega, by omega⟩), Bool.true_or]
theorem orders_go {k : Bool} : ∀ (items pre : List Stp), (∀ y ∈ pre ++ items, y.1 = k) → pre.length + items.length ≤ 100 →
    forS (fun (y1 : Int × Stp) (s2 : Int × (List Stp)) => (appP s2.2 y1.2).bind fun x5 => (mulP s2.1 (y1.1 + 1)).bind fun x7 => (divP x7 (cntD x5 y1.2)).bind fun x9 => some (x9, x5)) (enumP pre.length items) ((((arr pre).length : Nat) : Int), pre) = some ((((arr (pre ++ items)).length : Nat) : Int), pre ++ items)
  | [], pre, _, _ => by rw [List.append_nil]; rfl
  | x :: items, pre, h, hl => by
    rw [List.length_cons] at hl
    have h2 : ∀ y ∈ pre ++ [x], y.1 = k := fun y hy => h y (by
      rcases List.mem_append.mp hy with hy | hy
      · exact List.mem_append_left _ hy
      · rw [List.mem_singleton.mp hy]; simp)
    have sn := arr_snoc h2
    have np : 0 < nc (pre ++ [x]) x := nc_pos (by simp)
    have nl : nc (pre ++ [x]) x ≤ (pre ++ [x]).length := List.length_filter_le _ _
    rw [List.length_append, List.length_singleton] at nl
    have en : enumP pre.length (x :: items) = ((pre.length : Int), x) :: enumP (pre.length + 1) items := rfl
    rw [en]
    unfold forS
    refine Eq.trans (obind (a := ((((arr (pre ++ [x])).length : Nat) : Int), pre ++ [x])) ?_) ?_
    · refine Eq.trans (obind (appP_eq (xs := pre) (y := x) (by omega))) (Eq.trans (obind (mul_small (a := (((arr pre).length : Nat) : Int)) (b := (pre.length : Int) + 1) (by omega) (by omega))) ?_)
      have qn : cntD (pre ++ [x]) x = ((nc (pre ++ [x]) x : Nat) : Int) := cnt_nc _ _
      generalize hn : nc (pre ++ [x]) x = n at *
      have qn : cntD (pre ++ [x]) x = ((n : Nat) : Int) := qn
      rw [qn]
      refine Eq.trans (obind (a := (((arr (pre ++ [x])).length : Nat) : Int)) ?_) rfl
      unfold divP
      have lg : (((n : Nat) : Int)).natAbs.log2 < 9000 := by
        have : (((n : Nat) : Int)).natAbs.log2 < 200 := (Nat.log2_lt (by omega)).mpr (Nat.lt_of_le_of_lt (m := 101) (by omega) (by decide +kernel))
        omega
      rw [if_pos ⟨by omega, lg⟩]
      congr 1
      have e : ((arr pre).length : Int) * ((pre.length : Int) + 1) = ((arr (pre ++ [x])).length : Int) * (n : Nat) := by
        show ((arr pre).length : Int) * ((pre.length + 1 : Nat) : Int) = _
        rw [← Int.natCast_mul, ← Int.natCast_mul]
        exact congrArg (fun n : Nat => (n : Int)) sn.symm
      rw [e]
      exact Int.mul_ediv_cancel _ (by omega)
    · have ih := orders_go items (pre ++ [x]) (by rw [List.append_assoc]; exact h) (by rw [List.length_append, List.length_singleton]; omega)
      rw [List.append_assoc, List.length_append, List.length_singleton] at ih
      exact ih
theorem q_orders {k : Bool} {items : List Stp} (h : ∀ y ∈ items, y.1 = k) (hl : items.length ≤ 100) : p__law_orders items = some (((arr items).length : Nat) : Int) := by
  have := orders_go (k := k) items [] h (by show 0 + _ ≤ _; omega)
  unfold p__law_orders
  refine Eq.trans (obind (a := ((((arr items).length : Nat) : Int), items)) this) rfl
theorem q_number {xs : List Stp} (hx : ∀ x ∈ xs, st x) (hl : xs.length ≤ 5) : p__law_number xs = some (((arr (lab (0, []) xs)).length : Nat) : Int) := by
  have ho : ∀ x ∈ xs, okS x := fun x h => (hx x h).1
  obtain ⟨m1, m2⟩ := nf_mem ho (by omega)
  have fl : (grp (nf xs) []).flatten = nf xs := grp_flat (nf xs) []
  have ok := grp_ok (xs := nf xs) (acc := []) fun _ h => nomatch h
  have key : ∀ (ps : List (List Stp)) (s : Nat), (∀ l ∈ ps, PartOk l ∧ l.length ≤ 5) → forS (fun (y7 : List Stp) (s8 : Int) => (p__law_orders y7).bind fun x12 => (mulP s8 x12).bind fun x14 => some x14) ps ((s : Nat) : Int) = some ((s * prd (ps.map fun p => (arr p).length) : Nat) : Int) := by
    intro ps
    induction ps with
    | nil => intro s _; show some ((s : Nat) : Int) = some ((s * 1 : Nat) : Int); rw [Nat.mul_one]
    | cons p ps ih =>
      intro s h
      obtain ⟨p1, p2⟩ := h p List.mem_cons_self
      obtain ⟨k, _, hk⟩ := wd_part p1
      have al := arr_le hk
      have f5 := fac_le p2
      have e5 : fac 5 = 120 := rfl
      unfold forS
      refine Eq.trans (obind (a := (((s * (arr p).length : Nat)) : Int)) ?_) ?_
      · refine Eq.trans (obind (q_orders hk (by omega))) (Eq.trans (obind (mul_small (by omega) (by omega))) ?_)
        rw [Int.natCast_mul]
      · rw [ih _ fun l hl => h l (List.mem_cons_of_mem _ hl)]
        congr 2
        show s * _ * _ = s * (_ * _)
        rw [Nat.mul_assoc]
  unfold p__law_number
  refine Eq.trans (obind (b_nf hx (by omega))) (Eq.trans (obind (a := grp (nf xs) []) ?_) ?_)
  · show partsP (nf xs) = _
    unfold partsP
    rw [if_pos (by omega)]
  · have := key (grp (nf xs) []) 1 fun l hl => ⟨ok l hl, by
      have : l.length ≤ (grp (nf xs) []).flatten.length := (List.sublist_flatten_of_mem hl).length_le
      rw [fl] at this
      omega⟩
    refine Eq.trans (obind this) ?_
    rw [(nf_parts ho).2, Nat.one_mul]
theorem distL_sts : ∀ l m : List Stp, l ≠ m → distL (l.map stD) (m.map stD) = true
  | [], [], h => absurd rfl h
  | [], _ :: _, _ => by simp [distL]
  | _ :: _, [], _ => by simp [distL]
  | x :: l, y :: m, h => by
    rw [List.map_cons, List.map_cons]
    unfold distL
    by_cases hx : x = y
    · subst hx
      rw [distL_sts l m fun q => h (by rw [q])]
      simp
    · have e : dist (stD x) (stD y) = true := by
        obtain ⟨b, n⟩ := x
        obtain ⟨c, m⟩ := y
        have e : dist (stD (b, n)) (stD (c, m)) = ((wd b != wd c) || ((n != m) || false)) := by simp [stD, dist, distL]
        rw [e]
        by_cases hb : b = c
        · subst hb
          have : n ≠ m := fun q => hx (by rw [q])
          simp [this]
        · have : (wd b != wd c) = true := by cases b <;> cases c <;> first | exact absurd rfl hb | decide +kernel
          rw [this]; rfl
      rw [e]; rfl
theorem dist_sq (l m : List Stp) (h : l ≠ m) : dist (sqD l) (sqD m) = true := by
  have e : dist (sqD l) (sqD m) = (distL (l.map stD) (m.map stD) || false) := by simp [sqD, dist, distL]
  rw [e, distL_sts l m h]
  rfl
theorem q_mem (y : List Stp) : ∀ l : List (List Stp), memOP p_Sequence___eq__ sqD l y = some (decide (y ∈ l))
  | [] => by simp [memOP]
  | x :: l => by
    unfold memOP
    have e : p_Sequence___eq__ x y = some (decide (x = y)) := rfl
    refine Eq.trans (obind e) ?_
    by_cases h : x = y
    · subst h
      rw [if_pos (by simp)]
      simp
    · rw [if_neg (by simp [h]), if_pos (dist_sq x y h), q_mem y l]
      have : (y ∈ x :: l) ↔ y ∈ l := by rw [List.mem_cons]; exact ⟨fun z => z.resolve_left fun q => h q.symm, .inr⟩
      simp only [this]
end Dl.k36
set_option maxHeartbeats 400000
/-! k36: what the law's search finds. -/
namespace Dl.k36
open PySem Tab Dl.lib L2 PySem.Spec PyProof.Rows
theorem nodup_le {α : Type} [DecidableEq α] : ∀ {S l : List α}, S.Nodup → (∀ x ∈ S, x ∈ l) → S.length ≤ l.length
  | [], _, _, _ => Nat.zero_le _
  | x :: S, l, hn, h => by
    obtain ⟨h1, h2⟩ := List.nodup_cons.mp hn
    have hx := h x List.mem_cons_self
    have el := er_len hx
    have := nodup_le (S := S) (l := er x l) h2 fun y hy => by
      have := (er_perm hx).mem_iff.mp (h y (List.mem_cons_of_mem _ hy))
      exact (List.mem_cons.mp this).resolve_left fun e => h1 (by rw [← e]; exact hy)
    rw [List.length_cons]
    omega
theorem nodup_map {α β : Type} {f : α → β} : ∀ {l : List α}, (∀ x ∈ l, ∀ y ∈ l, f x = f y → x = y) → l.Nodup → (l.map f).Nodup
  | [], _, _ => List.Pairwise.nil
  | x :: l, h, hn => by
    obtain ⟨h1, h2⟩ := List.nodup_cons.mp hn
    rw [List.map_cons]
    refine List.nodup_cons.mpr ⟨fun q => ?_, nodup_map (fun a ha b hb => h a (List.mem_cons_of_mem _ ha) b (List.mem_cons_of_mem _ hb)) h2⟩
    obtain ⟨y, hy, e⟩ := List.mem_map.mp q
    have := h y (List.mem_cons_of_mem _ hy) x List.mem_cons_self e
    exact h1 (by rw [← this]; exact hy)
abbrev lb (z : List Stp) : List Stp := lab (0, []) z
structure Ok1 (xs z : List Stp) : Prop where
  ok : ∀ x ∈ z, okS x
  ln : z.length = xs.length
  nf : nf z = nf xs
  la : lb z ∈ arr (lb xs)
theorem Ok1.step {xs z y : List Stp} (h : Ok1 xs z) (e : Ex z y) : Ok1 xs y := by
  obtain ⟨e1, e2, e3⟩ := e.ok h.ok
  refine ⟨e1, by rw [e3, h.ln], by rw [e2, h.nf], ?_⟩
  exact arr_sw _ h.la (e.swp h.ok)
/-- all found before z is taken, its exchanges at places below i found too -/
structure J (xs : List Stp) (z : Option (List Stp)) (i : Nat) (f l : List (List Stp)) : Prop where
  nd : f.Nodup
  ndl : l.Nodup
  sub : ∀ y ∈ l, y ∈ f
  me : xs ∈ f
  ok : ∀ y ∈ f, Ok1 xs y
  cl : ∀ w ∈ f, w ∉ l → some w ≠ z → ∀ y, Ex w y → y ∈ f
  zf : ∀ w, z = some w → w ∈ f ∧ w ∉ l ∧ ∀ pre a b post, w = pre ++ a :: b :: post → a.1 = b.1 → pre.length < i → pre ++ (xc a b).1 :: (xc a b).2 :: post ∈ f
theorem J.small {xs : List Stp} {z : Option (List Stp)} {i : Nat} {f l : List (List Stp)} (h : J xs z i f l) : f.length ≤ (arr (lb xs)).length := by
  have n := nodup_map (f := lb) (l := f) (fun x hx y hy e => lab_inj z00 (h.ok x hx).ok (h.ok y hy).ok e) h.nd
  have := nodup_le n (l := arr (lb xs)) fun q hq => by
    obtain ⟨y, hy, rfl⟩ := List.mem_map.mp hq
    exact (h.ok y hy).la
  rwa [List.length_map] at this
noncomputable abbrev tn (z : List Stp) (y14 : Int) (s15 : (List (List Stp)) × (List (List Stp))) : Option (Fw (Option (List (List Stp))) ((List (List Stp)) × (List (List Stp)))) := (p_exchanged z y14).bind fun x19 => (p_Sequence_steps z).bind fun x22 => (L2.atI x22 y14).bind fun x24 => (p_Sequence_steps z).bind fun x27 => (L2.atI x27 (y14 + 1)).bind fun x29 => (if (!decide (x19.isNone = (!decide (x24.1 = x29.1)))) = true then (some none).bind fun q32 => some (Fw.rt q32) else (if x19.isSome = true then (x19).bind fun x34 => (memOP p_Sequence___eq__ sqD s15.1 x34).bind fun x36 => some (!x36) else some false).bind fun x39 => (if x39 = true then (x19).bind fun x42 => (appP s15.1 x42).bind fun x44 => (x19).bind fun x46 => (appP s15.2 x46).bind fun x48 => some (Fw.nx (x44, x48)) else some (Fw.nx (s15.1, s15.2))))
theorem turn {xs z : List Stp} (hl : xs.length ≤ 5) {i : Nat} {f l : List (List Stp)} (h : J xs (some z) i f l) (hi : i + 1 < z.length) (hb : (arr (lb xs)).length ≤ 1000) (hll : l.length ≤ f.length) :
    ∃ f' l', tn z (i : Int) (f, l) = some (Fw.nx (f', l')) ∧ J xs (some z) (i + 1) f' l' ∧ f'.length + l.length = f.length + l'.length ∧ f.length ≤ f'.length := by
  obtain ⟨zf, zl, zi⟩ := h.zf z rfl
  have oz := h.ok z zf
  have sm := h.small
  obtain ⟨pre, a, b, post, e0, hp⟩ := split2 hi
  have ln := oz.ln
  have ex := q_exch (pre := pre) (post := post) (a := a) (b := b) (by rw [← e0]; exact oz.ok) (by rw [← e0]; omega)
  rw [← e0, hp] at ex
  have a1 := at_a (pre := pre) (post := post) (a := a) (b := b)
  have a2 := at_b (pre := pre) (post := post) (a := a) (b := b)
  rw [← e0, hp] at a1 a2
  have next : ∀ {f' l' : List (List Stp)}, (∀ y ∈ f, y ∈ f') → (a.1 = b.1 → pre ++ (xc a b).1 :: (xc a b).2 :: post ∈ f') → ∀ pre' a' b' post', z = pre' ++ a' :: b' :: post' → a'.1 = b'.1 → pre'.length < i + 1 → pre' ++ (xc a' b').1 :: (xc a' b').2 :: post' ∈ f' := by
    intro f' l' s1 s2 pre' a' b' post' e1 k hlt
    by_cases q : pre'.length < i
    · exact s1 _ (zi pre' a' b' post' e1 k q)
    · have : pre'.length = pre.length := by omega
      rw [e0] at e1
      obtain ⟨rfl, e2⟩ := app_same this.symm e1
      obtain ⟨rfl, e3⟩ := List.cons.inj e2
      obtain ⟨rfl, rfl⟩ := List.cons.inj e3
      exact s2 k
  by_cases k : a.1 = b.1
  · rw [if_pos k] at ex
    generalize hy : pre ++ (xc a b).1 :: (xc a b).2 :: post = y at *
    have exy : Ex z y := ⟨pre, a, b, post, e0, k, hy.symm⟩
    have core : ∀ {w}, ((memOP p_Sequence___eq__ sqD f y).bind fun x36 => some (!x36)).bind (fun x39 => (if x39 = true then (some y).bind fun x42 => (appP f x42).bind fun x44 => (some y).bind fun x46 => (appP l x46).bind fun x48 => some (Fw.nx (x44, x48)) else some (Fw.nx (f, l)))) = w → tn z (i : Int) (f, l) = w := by
      intro w hw
      refine Eq.trans (obind ex) (Eq.trans (obind (a := z) rfl) (Eq.trans (obind a1) (Eq.trans (obind (a := z) rfl) (Eq.trans (obind a2) ?_))))
      rw [if_neg (by simp [k])]
      exact hw
    by_cases q : y ∈ f
    · refine ⟨f, l, core (Eq.trans (obind (a := false) (Eq.trans (obind (q_mem y f)) (by simp [q]))) (if_neg Bool.false_ne_true)), ?_, rfl, Nat.le_refl _⟩
      exact ⟨h.nd, h.ndl, h.sub, h.me, h.ok, h.cl, fun w e => by cases e; exact ⟨zf, zl, next (l' := l) (fun _ h => h) fun _ => q⟩⟩
    · have ql : y ∉ l := fun m => q (h.sub y m)
      refine ⟨f ++ [y], l ++ [y], core (Eq.trans (obind (a := true) (Eq.trans (obind (q_mem y f)) (by simp [q]))) ?_), ?_, by simp; omega, by simp⟩
      · rw [if_pos rfl]
        exact Eq.trans (obind (a := y) rfl) (Eq.trans (obind (appP_eq (by omega))) (Eq.trans (obind (a := y) rfl) (Eq.trans (obind (appP_eq (by omega))) rfl)))
      · have nds : ∀ {m : List (List Stp)}, m.Nodup → y ∉ m → (m ++ [y]).Nodup := fun {m} hm hy => by
          refine List.nodup_append.mpr ⟨hm, List.nodup_cons.mpr ⟨(fun h => nomatch h), List.Pairwise.nil⟩, fun a ha b hb e => ?_⟩
          rw [List.mem_singleton.mp hb] at e
          exact hy (by rw [← e]; exact ha)
        refine ⟨nds h.nd q, nds h.ndl ql, fun w hw => ?_, List.mem_append_left _ h.me, fun w hw => ?_, fun w hw hwl hne v e => ?_, fun w e => ?_⟩
        · rcases List.mem_append.mp hw with hw | hw
          · exact List.mem_append_left _ (h.sub w hw)
          · exact List.mem_append_right _ hw
        · rcases List.mem_append.mp hw with hw | hw
          · exact h.ok w hw
          · rw [List.mem_singleton.mp hw]; exact oz.step exy
        · rcases List.mem_append.mp hw with hw | hw
          · exact List.mem_append_left _ (h.cl w hw (fun m => hwl (List.mem_append_left _ m)) hne v e)
          · exact absurd (List.mem_append_right _ hw) hwl
        · cases e
          refine ⟨List.mem_append_left _ zf, fun m => ?_, next (l' := l) (fun _ h => List.mem_append_left _ h) fun _ => by simp⟩
          rcases List.mem_append.mp m with m | m
          · exact zl m
          · exact q (by rw [← List.mem_singleton.mp m]; exact zf)
  · rw [if_neg k] at ex
    refine ⟨f, l, ?_, ⟨h.nd, h.ndl, h.sub, h.me, h.ok, h.cl, fun w e => by cases e; exact ⟨zf, zl, next (l' := l) (fun _ h => h) fun z => absurd z k⟩⟩, rfl, Nat.le_refl _⟩
    refine Eq.trans (obind ex) (Eq.trans (obind (a := z) rfl) (Eq.trans (obind a1) (Eq.trans (obind (a := z) rfl) (Eq.trans (obind a2) ?_))))
    rw [if_neg (by simp [k])]
    exact Eq.trans (obind (a := false) (if_neg (by simp))) (if_neg Bool.false_ne_true)
theorem rng_cons {i n : Nat} (h : i < n) : rngP (i : Int) (n : Int) = (i : Int) :: rngP ((i + 1 : Nat) : Int) (n : Int) := by
  unfold rngP
  have e : ((n : Int) - (i : Int)).toNat = ((n : Int) - ((i + 1 : Nat) : Int)).toNat + 1 := by omega
  rw [e, List.range_succ_eq_map, List.map_cons, List.map_map]
  refine congr (congrArg List.cons ?_) ?_
  · show (i : Int) + ((0 : Nat) : Int) = (i : Int)
    omega
  · refine List.map_congr_left fun j _ => ?_
    show (i : Int) + ((j + 1 : Nat) : Int) = ((i + 1 : Nat) : Int) + (j : Int)
    omega
theorem turns {xs z : List Stp} (hl : xs.length ≤ 5) (hb : (arr (lb xs)).length ≤ 1000) : ∀ (k i : Nat) (f l : List (List Stp)), i + k + 1 = z.length → J xs (some z) i f l → l.length ≤ f.length →
    ∃ f' l', forF (R := (Option (List (List Stp)))) (tn z) (rngP (i : Int) ((i + k : Nat) : Int)) (f, l) = some (Fw.nx (f', l')) ∧ J xs (some z) (i + k) f' l' ∧ f'.length + l.length = f.length + l'.length ∧ f.length ≤ f'.length
  | 0, i, f, l, hk, h, hll => by
    have e : rngP (i : Int) ((i + 0 : Nat) : Int) = [] := by unfold rngP; rw [show (((i + 0 : Nat) : Int) - (i : Int)).toNat = 0 by omega]; rfl
    rw [e]
    exact ⟨f, l, rfl, h, rfl, Nat.le_refl _⟩
  | k + 1, i, f, l, hk, h, hll => by
    obtain ⟨f1, l1, e1, j1, n1, m1⟩ := turn hl h (by omega) hb hll
    obtain ⟨f2, l2, e2, j2, n2, m2⟩ := turns hl hb k (i + 1) f1 l1 (by omega) j1 (by omega)
    refine ⟨f2, l2, ?_, by rw [show i + (k + 1) = i + 1 + k by omega]; exact j2, by omega, by omega⟩
    rw [rng_cons (by omega)]
    unfold forF
    refine Eq.trans (obind e1) ?_
    rw [show i + (k + 1) = i + 1 + k by omega]
    exact e2
noncomputable abbrev wC (s1 : (List (List Stp)) × (List (List Stp))) : Option Bool := (eqOP p_Sequence___eq__ sqD s1.2 []).bind fun x2 => some (!x2)
noncomputable abbrev wB (s1 : (List (List Stp)) × (List (List Stp))) : Option (Fw (Option (List (List Stp))) ((List (List Stp)) × (List (List Stp)))) := (popP0 s1.2).bind fun x7 => (p_Sequence___len__ x7.1).bind fun x10 => (lenP x10).bind fun x12 => ((forF (R := (Option (List (List Stp)))) (tn x7.1) (rngP 0 (x12 - 1)) (s1.1, x7.2)).bind fun w50 => match w50 with | .nx s16 => some (Fw.nx (s16.1, s16.2)) | .rt r53 => some (Fw.rt r53) | .bk _ => none)
theorem J.done {xs z : List Stp} {n : Nat} {f l : List (List Stp)} (h : J xs (some z) n f l) (hn : z.length ≤ n + 1) : J xs none 0 f l := by
  obtain ⟨zf, zl, zi⟩ := h.zf z rfl
  refine ⟨h.nd, h.ndl, h.sub, h.me, h.ok, fun w hw hwl _ y e => ?_, fun _ e => nomatch e⟩
  by_cases q : w = z
  · subst q
    obtain ⟨pre, a, b, post, e1, k, rfl⟩ := e
    refine zi pre a b post e1 k ?_
    have := congrArg List.length e1
    simp at this
    omega
  · exact h.cl w hw hwl (fun z => q (Option.some.inj z)) y e
theorem search {xs : List Stp} (hl : xs.length ≤ 5) (hb : (arr (lb xs)).length ≤ 1000) : ∀ (n : Nat) (f l : List (List Stp)), J xs none 0 f l → l.length ≤ f.length → 2 * ((arr (lb xs)).length - f.length) + l.length < n →
    ∃ f', whF (R := (Option (List (List Stp)))) wC wB n (f, l) = some (Fw.nx (f', [])) ∧ J xs none 0 f' []
  | 0, _, _, _, _, h => absurd h (Nat.not_lt_zero _)
  | n + 1, f, l, j, hll, h => by
    have sm := j.small
    rcases List.eq_nil_or_concat l with rfl | ⟨m, z, e⟩
    · exact ⟨f, rfl, j⟩
    · rw [List.concat_eq_append] at e
      subst e
      rw [List.length_append, List.length_singleton] at h hll
      have pp : popP0 (m ++ [z]) = some (z, m) := by
        unfold popP0
        have e1 : (m ++ [z])[(m ++ [z]).length - 1]? = some z := by simp
        rw [e1, List.dropLast_concat]
      have nd := List.nodup_append.mp j.ndl
      have zm : z ∉ m := fun q => nd.2.2 z q z (List.mem_singleton.mpr rfl) rfl
      have jz : J xs (some z) 0 f m := by
        refine ⟨j.nd, nd.1, fun y hy => j.sub y (List.mem_append_left _ hy), j.me, j.ok, fun w hw hwl hne y e => j.cl w hw (fun q => ?_) (fun z => nomatch z) y e, fun w e => ?_⟩
        · rcases List.mem_append.mp q with q | q
          · exact hwl q
          · exact hne (by rw [List.mem_singleton.mp q])
        · cases e
          exact ⟨j.sub z (by simp), zm, fun _ _ _ _ _ _ h => absurd h (Nat.not_lt_zero _)⟩
      have oz := j.ok z (j.sub z (by simp))
      have fin : ∃ f' l', forF (R := (Option (List (List Stp)))) (tn z) (rngP 0 ((z.length : Int) - 1)) (f, m) = some (Fw.nx (f', l')) ∧ J xs none 0 f' l' ∧ f'.length + m.length = f.length + l'.length ∧ f.length ≤ f'.length := by
        by_cases q : z.length = 0
        · refine ⟨f, m, ?_, jz.done (by omega), rfl, Nat.le_refl _⟩
          have : rngP 0 ((z.length : Int) - 1) = [] := by unfold rngP; rw [show ((z.length : Int) - 1 - 0).toNat = 0 by omega]; rfl
          rw [this]
          rfl
        · obtain ⟨f', l', e1, e2, e3⟩ := turns hl hb (z.length - 1) 0 f m (by omega) jz (by omega)
          refine ⟨f', l', ?_, e2.done (by omega), e3⟩
          rw [show ((z.length : Int) - 1) = ((0 + (z.length - 1) : Nat) : Int) by omega]
          exact e1
      obtain ⟨f', l', e1, e2, e3, e4⟩ := fin
      have sm2 := e2.small
      obtain ⟨f2, g1, g2⟩ := search hl hb n f' l' e2 (by omega) (by omega)
      refine ⟨f2, ?_, g2⟩
      have hc : wC (f, m ++ [z]) = some true := by
        show (eqOP p_Sequence___eq__ sqD (m ++ [z]) []).bind _ = _
        have : eqOP p_Sequence___eq__ sqD (m ++ [z]) [] = some false := by cases m <;> rfl
        rw [this]; rfl
      have hB : wB (f, m ++ [z]) = some (Fw.nx (f', l')) := by
        refine Eq.trans (obind pp) (Eq.trans (obind (a := (z.length : Int)) rfl) (Eq.trans (obind (a := (z.length : Int)) ?_) ?_))
        · unfold lenP
          rw [if_pos (by have := oz.ln; omega)]
        · exact Eq.trans (obind e1) rfl
      unfold whF
      refine Eq.trans (obind hc) ?_
      rw [if_pos rfl]
      exact Eq.trans (obind hB) g1
/-- all that exchanges reach, each once -/
theorem q_reached {xs : List Stp} (hx : ∀ x ∈ xs, okS x) (hl : xs.length ≤ 5) (hb : (arr (lb xs)).length ≤ 1000) : ∃ f, p__law_reached xs = some (some f) ∧ f.length = (arr (lb xs)).length ∧ ∀ y ∈ f, (∀ x ∈ y, okS x) ∧ y.length = xs.length ∧ nf y = nf xs := by
  have o1 : Ok1 xs xs := ⟨hx, rfl, rfl, arr_self _⟩
  have j0 : J xs none 0 [xs] [xs] := by
    have nd : [xs].Nodup := List.nodup_cons.mpr ⟨(fun h => nomatch h), List.Pairwise.nil⟩
    exact ⟨nd, nd, fun _ h => h, List.mem_singleton.mpr rfl, fun y hy => by rw [List.mem_singleton.mp hy]; exact o1, fun w hw hwl => absurd hw hwl, fun _ e => nomatch e⟩
  obtain ⟨f, e, j⟩ := search hl hb 100000 [xs] [xs] j0 (Nat.le_refl _) (by simp; omega)
  refine ⟨f, ?_, ?_, fun y hy => ⟨(j.ok y hy).ok, (j.ok y hy).ln, (j.ok y hy).nf⟩⟩
  · unfold p__law_reached
    exact Eq.trans (obind e) rfl
  · have sm := j.small
    have all : ∀ q ∈ arr (lb xs), ∃ y ∈ f, lb y = q := fun q hq => by
      refine arr_in _ (S := fun q => ∃ y ∈ f, lb y = q) ?_ rfl hq ⟨xs, j.me, rfl⟩
      rintro p p' ⟨y, hy, rfl⟩ s
      obtain ⟨w, e1, e2⟩ := swp_ex (j.ok y hy).ok s
      exact ⟨w, j.cl y hy (fun h => nomatch h) (fun h => nomatch h) w e1, e2⟩
    have := nodup_le (arr_nodup _ _) (S := arr (lb xs)) (l := f.map lb) fun q hq => by
      obtain ⟨y, hy, e⟩ := all q hq
      exact List.mem_map.mpr ⟨y, hy, e⟩
    rw [List.length_map] at this
    omega
end Dl.k36
set_option maxHeartbeats 400000
/-! k36: the facts. -/
namespace Dl.k36
open PySem PySem.Spec PyProof.Rows L2 RZ
section
variable {P : Program} {w : World} {K : PySem.W.Frag} {h : Heap} {mg : Str → Option Value} {fa C_Sequence C_Table f__law_poolA f__law_takeA f__law_stepA f__law_stepsA f_is_integerA f_is_rankA f_Sequence_is_stepA p_Sequence_is_stepA f_check_stepsA f_Sequence___init__A f_Sequence___add__A f__law_sequenceA f_Sequence___eq__A f_Sequence___len__A f_Sequence_stepsA p_Sequence_stepsA f_is_countA f_exchanged_pairA f_exchangedA f__law_reachedA f__law_partsA f__law_normalA f__law_ordersA f__law_numberA f_parts_ofA f_least_reachingA f_are_lost_ranksA f_Table___init__A f_table_atA f_Table_lostA p_Table_lostA f_sorted_partA f_normal_formA f_is_connectedA f_lawA : Addr}
  {oc__law_pool kV__law_pool dc__law_pool pm__law_pool cd__law_pool ct__law_pool oc__law_take kV__law_take dc__law_take pm__law_take cd__law_take ct__law_take oc__law_step kV__law_step dc__law_step pm__law_step cd__law_step ct__law_step oc__law_steps kV__law_steps dc__law_steps pm__law_steps cd__law_steps ct__law_steps oc_is_integer kV_is_integer dc_is_integer pm_is_integer cd_is_integer ct_is_integer oc_is_rank kV_is_rank dc_is_rank pm_is_rank cd_is_rank ct_is_rank oc_Sequence_is_step kV_Sequence_is_step dc_Sequence_is_step pm_Sequence_is_step cd_Sequence_is_step ct_Sequence_is_step oc_check_steps kV_check_steps dc_check_steps pm_check_steps cd_check_steps ct_check_steps oc_Sequence___init__ kV_Sequence___init__ dc_Sequence___init__ pm_Sequence___init__ cd_Sequence___init__ ct_Sequence___init__ oc_Sequence___add__ kV_Sequence___add__ dc_Sequence___add__ pm_Sequence___add__ cd_Sequence___add__ ct_Sequence___add__ oc__law_sequence kV__law_sequence dc__law_sequence pm__law_sequence cd__law_sequence ct__law_sequence oc_Sequence___eq__ kV_Sequence___eq__ dc_Sequence___eq__ pm_Sequence___eq__ cd_Sequence___eq__ ct_Sequence___eq__ oc_Sequence___len__ kV_Sequence___len__ dc_Sequence___len__ pm_Sequence___len__ cd_Sequence___len__ ct_Sequence___len__ oc_Sequence_steps kV_Sequence_steps dc_Sequence_steps pm_Sequence_steps cd_Sequence_steps ct_Sequence_steps oc_is_count kV_is_count dc_is_count pm_is_count cd_is_count ct_is_count oc_exchanged_pair kV_exchanged_pair dc_exchanged_pair pm_exchanged_pair cd_exchanged_pair ct_exchanged_pair oc_exchanged kV_exchanged dc_exchanged pm_exchanged cd_exchanged ct_exchanged oc__law_reached kV__law_reached dc__law_reached pm__law_reached cd__law_reached ct__law_reached oc__law_parts kV__law_parts dc__law_parts pm__law_parts cd__law_parts ct__law_parts oc__law_normal kV__law_normal dc__law_normal pm__law_normal cd__law_normal ct__law_normal oc__law_orders kV__law_orders dc__law_orders pm__law_orders cd__law_orders ct__law_orders oc__law_number kV__law_number dc__law_number pm__law_number cd__law_number ct__law_number oc_parts_of kV_parts_of dc_parts_of pm_parts_of cd_parts_of ct_parts_of oc_least_reaching kV_least_reaching dc_least_reaching pm_least_reaching cd_least_reaching ct_least_reaching oc_are_lost_ranks kV_are_lost_ranks dc_are_lost_ranks pm_are_lost_ranks cd_are_lost_ranks ct_are_lost_ranks oc_Table___init__ kV_Table___init__ dc_Table___init__ pm_Table___init__ cd_Table___init__ ct_Table___init__ oc_table_at kV_table_at dc_table_at pm_table_at cd_table_at ct_table_at oc_Table_lost kV_Table_lost dc_Table_lost pm_Table_lost cd_Table_lost ct_Table_lost oc_sorted_part kV_sorted_part dc_sorted_part pm_sorted_part cd_sorted_part ct_sorted_part oc_normal_form kV_normal_form dc_normal_form pm_normal_form cd_normal_form ct_normal_form oc_is_connected kV_is_connected dc_is_connected pm_is_connected cd_is_connected ct_is_connected oc_law kV_law dc_law pm_law cd_law ct_law : Value} {od__law_pool an__law_pool od__law_take an__law_take od__law_step an__law_step od__law_steps an__law_steps od_is_integer an_is_integer od_is_rank an_is_rank od_Sequence_is_step an_Sequence_is_step od_check_steps an_check_steps od_Sequence___init__ an_Sequence___init__ od_Sequence___add__ an_Sequence___add__ od__law_sequence an__law_sequence od_Sequence___eq__ an_Sequence___eq__ od_Sequence___len__ an_Sequence___len__ od_Sequence_steps an_Sequence_steps od_is_count an_is_count od_exchanged_pair an_exchanged_pair od_exchanged an_exchanged od__law_reached an__law_reached od__law_parts an__law_parts od__law_normal an__law_normal od__law_orders an__law_orders od__law_number an__law_number od_parts_of an_parts_of od_least_reaching an_least_reaching od_are_lost_ranks an_are_lost_ranks od_Table___init__ an_Table___init__ od_table_at an_table_at od_Table_lost an_Table_lost od_sorted_part an_sorted_part od_normal_form an_normal_form od_is_connected an_is_connected od_law an_law : Option Addr} {sl__law_pool sl__law_take sl__law_step sl__law_steps sl_is_integer sl_is_rank sl_Sequence_is_step sl_check_steps sl_Sequence___init__ sl_Sequence___add__ sl__law_sequence sl_Sequence___eq__ sl_Sequence___len__ sl_Sequence_steps sl_is_count sl_exchanged_pair sl_exchanged sl__law_reached sl__law_parts sl__law_normal sl__law_orders sl__law_number sl_parts_of sl_least_reaching sl_are_lost_ranks sl_Table___init__ sl_table_at sl_Table_lost sl_sorted_part sl_normal_form sl_is_connected sl_law : Array (Option Value)} {rest_Sequence_is_step rest_Sequence_steps rest_Table_lost : List Value}
theorem all_mk (X : K.In h) (G : h.Ns mainGlobals mg) (hfa : mg "law" = some (.ref fa))
    (a_Sequence : PySem.W.nsIn K mainGlobals "Sequence" = some (some (.ref C_Sequence)))
    (pg_Sequence : PySem.W.plainGet K C_Sequence Str.empty = true)
    (hd_Sequence : PySem.W.hasDictIn K C_Sequence = true)
    (po_Sequence : PySem.W.plainOver K C_Sequence = true)
    (sa_Sequence : PySem.W.findIn K (.ref C_Sequence) "__setattr__" = some (some (.builtin "object.__setattr__")))
    (sf_Sequence : PySem.W.selfFirst K C_Sequence = true)
    (a_Table : PySem.W.nsIn K mainGlobals "Table" = some (some (.ref C_Table)))
    (pg_Table : PySem.W.plainGet K C_Table Str.empty = true)
    (hd_Table : PySem.W.hasDictIn K C_Table = true)
    (po_Table : PySem.W.plainOver K C_Table = true)
    (sa_Table : PySem.W.findIn K (.ref C_Table) "__setattr__" = some (some (.builtin "object.__setattr__")))
    (sf_Table : PySem.W.selfFirst K C_Table = true)
    (n_b_len : PySem.W.nsIn K mainGlobals "len" = some none)
    (n_b_abs : PySem.W.nsIn K mainGlobals "abs" = some none)
    (n_b_int : PySem.W.nsIn K mainGlobals "int" = some none)
    (n_b_range : PySem.W.nsIn K mainGlobals "range" = some none)
    (n_b_isinstance : PySem.W.nsIn K mainGlobals "isinstance" = some none)
    (n_b_bool : PySem.W.nsIn K mainGlobals "bool" = some none)
    (n_b_tuple : PySem.W.nsIn K mainGlobals "tuple" = some none)
    (n_b_str : PySem.W.nsIn K mainGlobals "str" = some none)
    (n_f_Sequence_parts : PySem.W.findIn K (.ref C_Sequence) "parts" = some none)
    (t1_ko_Sequence : PySem.W.isClsIn K C_Sequence = true)
    (t2_ko_Sequence : PySem.W.typeIn K (.ref C_Sequence) = some (.type "type"))
    (ic1_Sequence : PySem.W.findIn K (.ref C_Sequence) "__class__" = some (some (.builtin "object.__class__")))
    (ic2_Sequence : PySem.W.specialIn K (.builtin "object.__class__") "__get__" = some (some (.builtin "getset_descriptor.__get__")))
    (ic3_Sequence : PySem.W.takesIn K (.builtin "object.__class__") = some true)
    (ic4_Sequence : PySem.W.mroIn K C_Sequence (.type "object") = some true)
    (n_ko_Sequence_Table : PySem.W.mroIn K C_Table (.ref C_Sequence) = some false)
    (q_ko_Sequence_Table : C_Table ≠ C_Sequence)
    (ic1_Table : PySem.W.findIn K (.ref C_Table) "__class__" = some (some (.builtin "object.__class__")))
    (ic2_Table : PySem.W.specialIn K (.builtin "object.__class__") "__get__" = some (some (.builtin "getset_descriptor.__get__")))
    (ic3_Table : PySem.W.takesIn K (.builtin "object.__class__") = some true)
    (ic4_Table : PySem.W.mroIn K C_Table (.type "object") = some true)
    (n_b_sorted : PySem.W.nsIn K mainGlobals "sorted" = some none)
    (n_b_max : PySem.W.nsIn K mainGlobals "max" = some none)
    (n_b_list : PySem.W.nsIn K mainGlobals "list" = some none)
    (n_b_enumerate : PySem.W.nsIn K mainGlobals "enumerate" = some none)
    (n_b_all : PySem.W.nsIn K mainGlobals "all" = some none)
    (n_b_zip : PySem.W.nsIn K mainGlobals "zip" = some none)
    (n_f_Table_base : PySem.W.findIn K (.ref C_Table) "base" = some none)
    (n_f_Table_gone : PySem.W.findIn K (.ref C_Table) "gone" = some none)
    (n_b_min : PySem.W.nsIn K mainGlobals "min" = some none)
    (a__law_pool : PySem.W.nsIn K mainGlobals "_law_pool" = some (some (.ref f__law_poolA)))
    (l__law_pool : K.lookup f__law_poolA = some ⟨oc__law_pool, od__law_pool, .func (PySem.W.fnOf "_law_pool" "_law_pool" (defArgs s__law_pool) (defBody s__law_pool) (defScope s__law_pool) .none kV__law_pool dc__law_pool pm__law_pool an__law_pool cd__law_pool ct__law_pool), sl__law_pool⟩)
    (c__law_pool : PySem.W.codeIn K cd__law_pool "_law_pool" = true)
    (k__law_pool : PySem.W.keepIn K (.ref f__law_poolA) = true)
    (a__law_take : PySem.W.nsIn K mainGlobals "_law_take" = some (some (.ref f__law_takeA)))
    (l__law_take : K.lookup f__law_takeA = some ⟨oc__law_take, od__law_take, .func (PySem.W.fnOf "_law_take" "_law_take" (defArgs s__law_take) (defBody s__law_take) (defScope s__law_take) .none kV__law_take dc__law_take pm__law_take an__law_take cd__law_take ct__law_take), sl__law_take⟩)
    (c__law_take : PySem.W.codeIn K cd__law_take "_law_take" = true)
    (k__law_take : PySem.W.keepIn K (.ref f__law_takeA) = true)
    (a__law_step : PySem.W.nsIn K mainGlobals "_law_step" = some (some (.ref f__law_stepA)))
    (l__law_step : K.lookup f__law_stepA = some ⟨oc__law_step, od__law_step, .func (PySem.W.fnOf "_law_step" "_law_step" (defArgs s__law_step) (defBody s__law_step) (defScope s__law_step) .none kV__law_step dc__law_step pm__law_step an__law_step cd__law_step ct__law_step), sl__law_step⟩)
    (c__law_step : PySem.W.codeIn K cd__law_step "_law_step" = true)
    (k__law_step : PySem.W.keepIn K (.ref f__law_stepA) = true)
    (a__law_steps : PySem.W.nsIn K mainGlobals "_law_steps" = some (some (.ref f__law_stepsA)))
    (l__law_steps : K.lookup f__law_stepsA = some ⟨oc__law_steps, od__law_steps, .func (PySem.W.fnOf "_law_steps" "_law_steps" (defArgs s__law_steps) (defBody s__law_steps) (defScope s__law_steps) .none kV__law_steps dc__law_steps pm__law_steps an__law_steps cd__law_steps ct__law_steps), sl__law_steps⟩)
    (c__law_steps : PySem.W.codeIn K cd__law_steps "_law_steps" = true)
    (k__law_steps : PySem.W.keepIn K (.ref f__law_stepsA) = true)
    (a_is_integer : PySem.W.nsIn K mainGlobals "is_integer" = some (some (.ref f_is_integerA)))
    (l_is_integer : K.lookup f_is_integerA = some ⟨oc_is_integer, od_is_integer, .func (PySem.W.fnOf "is_integer" "is_integer" (defArgs s_is_integer) (defBody s_is_integer) (defScope s_is_integer) .none kV_is_integer dc_is_integer pm_is_integer an_is_integer cd_is_integer ct_is_integer), sl_is_integer⟩)
    (c_is_integer : PySem.W.codeIn K cd_is_integer "is_integer" = true)
    (k_is_integer : PySem.W.keepIn K (.ref f_is_integerA) = true)
    (a_is_rank : PySem.W.nsIn K mainGlobals "is_rank" = some (some (.ref f_is_rankA)))
    (l_is_rank : K.lookup f_is_rankA = some ⟨oc_is_rank, od_is_rank, .func (PySem.W.fnOf "is_rank" "is_rank" (defArgs s_is_rank) (defBody s_is_rank) (defScope s_is_rank) .none kV_is_rank dc_is_rank pm_is_rank an_is_rank cd_is_rank ct_is_rank), sl_is_rank⟩)
    (c_is_rank : PySem.W.codeIn K cd_is_rank "is_rank" = true)
    (k_is_rank : PySem.W.keepIn K (.ref f_is_rankA) = true)
    (a_Sequence_is_step : PySem.W.findCls K (.ref C_Sequence) (.type "type") "is_step" = some (.get (.builtin "staticmethod.__get__") (.ref p_Sequence_is_stepA) .none (.ref C_Sequence)))
    (pc_Sequence_is_step : PySem.W.recIn K p_Sequence_is_stepA "staticmethod" = some (.ref f_Sequence_is_stepA :: rest_Sequence_is_step))
    (r1_Sequence : PySem.W.readsIn K C_Sequence (.type "type") = true)
    (r2_Sequence : PySem.W.specialIn K (.ref C_Sequence) "__getattribute__" = some (some (.builtin "type.__getattribute__")))
    (l_Sequence_is_step : K.lookup f_Sequence_is_stepA = some ⟨oc_Sequence_is_step, od_Sequence_is_step, .func (PySem.W.fnOf "is_step" "Sequence.is_step" (defArgs s_Sequence_is_step) (defBody s_Sequence_is_step) (defScope s_Sequence_is_step) .none kV_Sequence_is_step dc_Sequence_is_step pm_Sequence_is_step an_Sequence_is_step cd_Sequence_is_step ct_Sequence_is_step), sl_Sequence_is_step⟩)
    (c_Sequence_is_step : PySem.W.codeIn K cd_Sequence_is_step "Sequence.is_step" = true)
    (k_Sequence_is_step : PySem.W.keepIn K (.ref f_Sequence_is_stepA) = true)
    (a_check_steps : PySem.W.nsIn K mainGlobals "check_steps" = some (some (.ref f_check_stepsA)))
    (l_check_steps : K.lookup f_check_stepsA = some ⟨oc_check_steps, od_check_steps, .func (PySem.W.fnOf "check_steps" "check_steps" (defArgs s_check_steps) (defBody s_check_steps) (defScope s_check_steps) .none kV_check_steps dc_check_steps pm_check_steps an_check_steps cd_check_steps ct_check_steps), sl_check_steps⟩)
    (c_check_steps : PySem.W.codeIn K cd_check_steps "check_steps" = true)
    (k_check_steps : PySem.W.keepIn K (.ref f_check_stepsA) = true)
    (a_Sequence___init__ : PySem.W.findIn K (.ref C_Sequence) "__init__" = some (some (.ref f_Sequence___init__A)))
    (i_Sequence___init__ : PySem.W.isFn K (.ref f_Sequence___init__A) = true)
    (l_Sequence___init__ : K.lookup f_Sequence___init__A = some ⟨oc_Sequence___init__, od_Sequence___init__, .func (PySem.W.fnOf "__init__" "Sequence.__init__" (defArgs s_Sequence___init__) (defBody s_Sequence___init__) (defScope s_Sequence___init__) .none kV_Sequence___init__ dc_Sequence___init__ pm_Sequence___init__ an_Sequence___init__ cd_Sequence___init__ ct_Sequence___init__), sl_Sequence___init__⟩)
    (c_Sequence___init__ : PySem.W.codeIn K cd_Sequence___init__ "Sequence.__init__" = true)
    (k_Sequence___init__ : PySem.W.keepIn K (.ref f_Sequence___init__A) = true)
    (mk_Sequence : PySem.W.makesIn K C_Sequence = true)
    (kc_Sequence : PySem.W.keepIn K (.ref C_Sequence) = true)
    (a_Sequence___add__ : PySem.W.findIn K (.ref C_Sequence) "__add__" = some (some (.ref f_Sequence___add__A)))
    (i_Sequence___add__ : PySem.W.isFn K (.ref f_Sequence___add__A) = true)
    (l_Sequence___add__ : K.lookup f_Sequence___add__A = some ⟨oc_Sequence___add__, od_Sequence___add__, .func (PySem.W.fnOf "__add__" "Sequence.__add__" (defArgs s_Sequence___add__) (defBody s_Sequence___add__) (defScope s_Sequence___add__) .none kV_Sequence___add__ dc_Sequence___add__ pm_Sequence___add__ an_Sequence___add__ cd_Sequence___add__ ct_Sequence___add__), sl_Sequence___add__⟩)
    (c_Sequence___add__ : PySem.W.codeIn K cd_Sequence___add__ "Sequence.__add__" = true)
    (k_Sequence___add__ : PySem.W.keepIn K (.ref f_Sequence___add__A) = true)
    (a__law_sequence : PySem.W.nsIn K mainGlobals "_law_sequence" = some (some (.ref f__law_sequenceA)))
    (l__law_sequence : K.lookup f__law_sequenceA = some ⟨oc__law_sequence, od__law_sequence, .func (PySem.W.fnOf "_law_sequence" "_law_sequence" (defArgs s__law_sequence) (defBody s__law_sequence) (defScope s__law_sequence) .none kV__law_sequence dc__law_sequence pm__law_sequence an__law_sequence cd__law_sequence ct__law_sequence), sl__law_sequence⟩)
    (c__law_sequence : PySem.W.codeIn K cd__law_sequence "_law_sequence" = true)
    (k__law_sequence : PySem.W.keepIn K (.ref f__law_sequenceA) = true)
    (a_Sequence___eq__ : PySem.W.findIn K (.ref C_Sequence) "__eq__" = some (some (.ref f_Sequence___eq__A)))
    (i_Sequence___eq__ : PySem.W.isFn K (.ref f_Sequence___eq__A) = true)
    (l_Sequence___eq__ : K.lookup f_Sequence___eq__A = some ⟨oc_Sequence___eq__, od_Sequence___eq__, .func (PySem.W.fnOf "__eq__" "Sequence.__eq__" (defArgs s_Sequence___eq__) (defBody s_Sequence___eq__) (defScope s_Sequence___eq__) .none kV_Sequence___eq__ dc_Sequence___eq__ pm_Sequence___eq__ an_Sequence___eq__ cd_Sequence___eq__ ct_Sequence___eq__), sl_Sequence___eq__⟩)
    (c_Sequence___eq__ : PySem.W.codeIn K cd_Sequence___eq__ "Sequence.__eq__" = true)
    (k_Sequence___eq__ : PySem.W.keepIn K (.ref f_Sequence___eq__A) = true)
    (a_Sequence___len__ : PySem.W.findIn K (.ref C_Sequence) "__len__" = some (some (.ref f_Sequence___len__A)))
    (i_Sequence___len__ : PySem.W.isFn K (.ref f_Sequence___len__A) = true)
    (l_Sequence___len__ : K.lookup f_Sequence___len__A = some ⟨oc_Sequence___len__, od_Sequence___len__, .func (PySem.W.fnOf "__len__" "Sequence.__len__" (defArgs s_Sequence___len__) (defBody s_Sequence___len__) (defScope s_Sequence___len__) .none kV_Sequence___len__ dc_Sequence___len__ pm_Sequence___len__ an_Sequence___len__ cd_Sequence___len__ ct_Sequence___len__), sl_Sequence___len__⟩)
    (c_Sequence___len__ : PySem.W.codeIn K cd_Sequence___len__ "Sequence.__len__" = true)
    (k_Sequence___len__ : PySem.W.keepIn K (.ref f_Sequence___len__A) = true)
    (a_Sequence_steps : PySem.W.findIn K (.ref C_Sequence) "steps" = some (some (.ref p_Sequence_stepsA)))
    (pa_Sequence_steps : PySem.W.specialIn K (.ref p_Sequence_stepsA) "__get__" = some (some (.builtin "property.__get__")))
    (pb_Sequence_steps : PySem.W.takesIn K (.ref p_Sequence_stepsA) = some true)
    (pc_Sequence_steps : PySem.W.recIn K p_Sequence_stepsA "property" = some (.ref f_Sequence_stepsA :: rest_Sequence_steps))
    (l_Sequence_steps : K.lookup f_Sequence_stepsA = some ⟨oc_Sequence_steps, od_Sequence_steps, .func (PySem.W.fnOf "steps" "Sequence.steps" (defArgs s_Sequence_steps) (defBody s_Sequence_steps) (defScope s_Sequence_steps) .none kV_Sequence_steps dc_Sequence_steps pm_Sequence_steps an_Sequence_steps cd_Sequence_steps ct_Sequence_steps), sl_Sequence_steps⟩)
    (c_Sequence_steps : PySem.W.codeIn K cd_Sequence_steps "Sequence.steps" = true)
    (k_Sequence_steps : PySem.W.keepIn K (.ref f_Sequence_stepsA) = true)
    (a_is_count : PySem.W.nsIn K mainGlobals "is_count" = some (some (.ref f_is_countA)))
    (l_is_count : K.lookup f_is_countA = some ⟨oc_is_count, od_is_count, .func (PySem.W.fnOf "is_count" "is_count" (defArgs s_is_count) (defBody s_is_count) (defScope s_is_count) .none kV_is_count dc_is_count pm_is_count an_is_count cd_is_count ct_is_count), sl_is_count⟩)
    (c_is_count : PySem.W.codeIn K cd_is_count "is_count" = true)
    (k_is_count : PySem.W.keepIn K (.ref f_is_countA) = true)
    (a_exchanged_pair : PySem.W.nsIn K mainGlobals "exchanged_pair" = some (some (.ref f_exchanged_pairA)))
    (l_exchanged_pair : K.lookup f_exchanged_pairA = some ⟨oc_exchanged_pair, od_exchanged_pair, .func (PySem.W.fnOf "exchanged_pair" "exchanged_pair" (defArgs s_exchanged_pair) (defBody s_exchanged_pair) (defScope s_exchanged_pair) .none kV_exchanged_pair dc_exchanged_pair pm_exchanged_pair an_exchanged_pair cd_exchanged_pair ct_exchanged_pair), sl_exchanged_pair⟩)
    (c_exchanged_pair : PySem.W.codeIn K cd_exchanged_pair "exchanged_pair" = true)
    (k_exchanged_pair : PySem.W.keepIn K (.ref f_exchanged_pairA) = true)
    (a_exchanged : PySem.W.nsIn K mainGlobals "exchanged" = some (some (.ref f_exchangedA)))
    (l_exchanged : K.lookup f_exchangedA = some ⟨oc_exchanged, od_exchanged, .func (PySem.W.fnOf "exchanged" "exchanged" (defArgs s_exchanged) (defBody s_exchanged) (defScope s_exchanged) .none kV_exchanged dc_exchanged pm_exchanged an_exchanged cd_exchanged ct_exchanged), sl_exchanged⟩)
    (c_exchanged : PySem.W.codeIn K cd_exchanged "exchanged" = true)
    (k_exchanged : PySem.W.keepIn K (.ref f_exchangedA) = true)
    (a__law_reached : PySem.W.nsIn K mainGlobals "_law_reached" = some (some (.ref f__law_reachedA)))
    (l__law_reached : K.lookup f__law_reachedA = some ⟨oc__law_reached, od__law_reached, .func (PySem.W.fnOf "_law_reached" "_law_reached" (defArgs s__law_reached) (defBody s__law_reached) (defScope s__law_reached) .none kV__law_reached dc__law_reached pm__law_reached an__law_reached cd__law_reached ct__law_reached), sl__law_reached⟩)
    (c__law_reached : PySem.W.codeIn K cd__law_reached "_law_reached" = true)
    (k__law_reached : PySem.W.keepIn K (.ref f__law_reachedA) = true)
    (a__law_parts : PySem.W.nsIn K mainGlobals "_law_parts" = some (some (.ref f__law_partsA)))
    (l__law_parts : K.lookup f__law_partsA = some ⟨oc__law_parts, od__law_parts, .func (PySem.W.fnOf "_law_parts" "_law_parts" (defArgs s__law_parts) (defBody s__law_parts) (defScope s__law_parts) .none kV__law_parts dc__law_parts pm__law_parts an__law_parts cd__law_parts ct__law_parts), sl__law_parts⟩)
    (c__law_parts : PySem.W.codeIn K cd__law_parts "_law_parts" = true)
    (k__law_parts : PySem.W.keepIn K (.ref f__law_partsA) = true)
    (a__law_normal : PySem.W.nsIn K mainGlobals "_law_normal" = some (some (.ref f__law_normalA)))
    (l__law_normal : K.lookup f__law_normalA = some ⟨oc__law_normal, od__law_normal, .func (PySem.W.fnOf "_law_normal" "_law_normal" (defArgs s__law_normal) (defBody s__law_normal) (defScope s__law_normal) .none kV__law_normal dc__law_normal pm__law_normal an__law_normal cd__law_normal ct__law_normal), sl__law_normal⟩)
    (c__law_normal : PySem.W.codeIn K cd__law_normal "_law_normal" = true)
    (k__law_normal : PySem.W.keepIn K (.ref f__law_normalA) = true)
    (a__law_orders : PySem.W.nsIn K mainGlobals "_law_orders" = some (some (.ref f__law_ordersA)))
    (l__law_orders : K.lookup f__law_ordersA = some ⟨oc__law_orders, od__law_orders, .func (PySem.W.fnOf "_law_orders" "_law_orders" (defArgs s__law_orders) (defBody s__law_orders) (defScope s__law_orders) .none kV__law_orders dc__law_orders pm__law_orders an__law_orders cd__law_orders ct__law_orders), sl__law_orders⟩)
    (c__law_orders : PySem.W.codeIn K cd__law_orders "_law_orders" = true)
    (k__law_orders : PySem.W.keepIn K (.ref f__law_ordersA) = true)
    (a__law_number : PySem.W.nsIn K mainGlobals "_law_number" = some (some (.ref f__law_numberA)))
    (l__law_number : K.lookup f__law_numberA = some ⟨oc__law_number, od__law_number, .func (PySem.W.fnOf "_law_number" "_law_number" (defArgs s__law_number) (defBody s__law_number) (defScope s__law_number) .none kV__law_number dc__law_number pm__law_number an__law_number cd__law_number ct__law_number), sl__law_number⟩)
    (c__law_number : PySem.W.codeIn K cd__law_number "_law_number" = true)
    (k__law_number : PySem.W.keepIn K (.ref f__law_numberA) = true)
    (a_parts_of : PySem.W.nsIn K mainGlobals "parts_of" = some (some (.ref f_parts_ofA)))
    (l_parts_of : K.lookup f_parts_ofA = some ⟨oc_parts_of, od_parts_of, .func (PySem.W.fnOf "parts_of" "parts_of" (defArgs s_parts_of) (defBody s_parts_of) (defScope s_parts_of) .none kV_parts_of dc_parts_of pm_parts_of an_parts_of cd_parts_of ct_parts_of), sl_parts_of⟩)
    (c_parts_of : PySem.W.codeIn K cd_parts_of "parts_of" = true)
    (k_parts_of : PySem.W.keepIn K (.ref f_parts_ofA) = true)
    (a_least_reaching : PySem.W.nsIn K mainGlobals "least_reaching" = some (some (.ref f_least_reachingA)))
    (l_least_reaching : K.lookup f_least_reachingA = some ⟨oc_least_reaching, od_least_reaching, .func (PySem.W.fnOf "least_reaching" "least_reaching" (defArgs s_least_reaching) (defBody s_least_reaching) (defScope s_least_reaching) .none kV_least_reaching dc_least_reaching pm_least_reaching an_least_reaching cd_least_reaching ct_least_reaching), sl_least_reaching⟩)
    (c_least_reaching : PySem.W.codeIn K cd_least_reaching "least_reaching" = true)
    (k_least_reaching : PySem.W.keepIn K (.ref f_least_reachingA) = true)
    (a_are_lost_ranks : PySem.W.nsIn K mainGlobals "are_lost_ranks" = some (some (.ref f_are_lost_ranksA)))
    (l_are_lost_ranks : K.lookup f_are_lost_ranksA = some ⟨oc_are_lost_ranks, od_are_lost_ranks, .func (PySem.W.fnOf "are_lost_ranks" "are_lost_ranks" (defArgs s_are_lost_ranks) (defBody s_are_lost_ranks) (defScope s_are_lost_ranks) .none kV_are_lost_ranks dc_are_lost_ranks pm_are_lost_ranks an_are_lost_ranks cd_are_lost_ranks ct_are_lost_ranks), sl_are_lost_ranks⟩)
    (c_are_lost_ranks : PySem.W.codeIn K cd_are_lost_ranks "are_lost_ranks" = true)
    (k_are_lost_ranks : PySem.W.keepIn K (.ref f_are_lost_ranksA) = true)
    (a_Table___init__ : PySem.W.findIn K (.ref C_Table) "__init__" = some (some (.ref f_Table___init__A)))
    (i_Table___init__ : PySem.W.isFn K (.ref f_Table___init__A) = true)
    (l_Table___init__ : K.lookup f_Table___init__A = some ⟨oc_Table___init__, od_Table___init__, .func (PySem.W.fnOf "__init__" "Table.__init__" (defArgs s_Table___init__) (defBody s_Table___init__) (defScope s_Table___init__) .none kV_Table___init__ dc_Table___init__ pm_Table___init__ an_Table___init__ cd_Table___init__ ct_Table___init__), sl_Table___init__⟩)
    (c_Table___init__ : PySem.W.codeIn K cd_Table___init__ "Table.__init__" = true)
    (k_Table___init__ : PySem.W.keepIn K (.ref f_Table___init__A) = true)
    (mk_Table : PySem.W.makesIn K C_Table = true)
    (kc_Table : PySem.W.keepIn K (.ref C_Table) = true)
    (a_table_at : PySem.W.nsIn K mainGlobals "table_at" = some (some (.ref f_table_atA)))
    (l_table_at : K.lookup f_table_atA = some ⟨oc_table_at, od_table_at, .func (PySem.W.fnOf "table_at" "table_at" (defArgs s_table_at) (defBody s_table_at) (defScope s_table_at) .none kV_table_at dc_table_at pm_table_at an_table_at cd_table_at ct_table_at), sl_table_at⟩)
    (c_table_at : PySem.W.codeIn K cd_table_at "table_at" = true)
    (k_table_at : PySem.W.keepIn K (.ref f_table_atA) = true)
    (a_Table_lost : PySem.W.findIn K (.ref C_Table) "lost" = some (some (.ref p_Table_lostA)))
    (pa_Table_lost : PySem.W.specialIn K (.ref p_Table_lostA) "__get__" = some (some (.builtin "property.__get__")))
    (pb_Table_lost : PySem.W.takesIn K (.ref p_Table_lostA) = some true)
    (pc_Table_lost : PySem.W.recIn K p_Table_lostA "property" = some (.ref f_Table_lostA :: rest_Table_lost))
    (l_Table_lost : K.lookup f_Table_lostA = some ⟨oc_Table_lost, od_Table_lost, .func (PySem.W.fnOf "lost" "Table.lost" (defArgs s_Table_lost) (defBody s_Table_lost) (defScope s_Table_lost) .none kV_Table_lost dc_Table_lost pm_Table_lost an_Table_lost cd_Table_lost ct_Table_lost), sl_Table_lost⟩)
    (c_Table_lost : PySem.W.codeIn K cd_Table_lost "Table.lost" = true)
    (k_Table_lost : PySem.W.keepIn K (.ref f_Table_lostA) = true)
    (a_sorted_part : PySem.W.nsIn K mainGlobals "sorted_part" = some (some (.ref f_sorted_partA)))
    (l_sorted_part : K.lookup f_sorted_partA = some ⟨oc_sorted_part, od_sorted_part, .func (PySem.W.fnOf "sorted_part" "sorted_part" (defArgs s_sorted_part) (defBody s_sorted_part) (defScope s_sorted_part) .none kV_sorted_part dc_sorted_part pm_sorted_part an_sorted_part cd_sorted_part ct_sorted_part), sl_sorted_part⟩)
    (c_sorted_part : PySem.W.codeIn K cd_sorted_part "sorted_part" = true)
    (k_sorted_part : PySem.W.keepIn K (.ref f_sorted_partA) = true)
    (a_normal_form : PySem.W.nsIn K mainGlobals "normal_form" = some (some (.ref f_normal_formA)))
    (l_normal_form : K.lookup f_normal_formA = some ⟨oc_normal_form, od_normal_form, .func (PySem.W.fnOf "normal_form" "normal_form" (defArgs s_normal_form) (defBody s_normal_form) (defScope s_normal_form) .none kV_normal_form dc_normal_form pm_normal_form an_normal_form cd_normal_form ct_normal_form), sl_normal_form⟩)
    (c_normal_form : PySem.W.codeIn K cd_normal_form "normal_form" = true)
    (k_normal_form : PySem.W.keepIn K (.ref f_normal_formA) = true)
    (a_is_connected : PySem.W.nsIn K mainGlobals "is_connected" = some (some (.ref f_is_connectedA)))
    (l_is_connected : K.lookup f_is_connectedA = some ⟨oc_is_connected, od_is_connected, .func (PySem.W.fnOf "is_connected" "is_connected" (defArgs s_is_connected) (defBody s_is_connected) (defScope s_is_connected) .none kV_is_connected dc_is_connected pm_is_connected an_is_connected cd_is_connected ct_is_connected), sl_is_connected⟩)
    (c_is_connected : PySem.W.codeIn K cd_is_connected "is_connected" = true)
    (k_is_connected : PySem.W.keepIn K (.ref f_is_connectedA) = true)
    (a_law : PySem.W.nsIn K mainGlobals "law" = some (some (.ref f_lawA)))
    (l_law : K.lookup f_lawA = some ⟨oc_law, od_law, .func (PySem.W.fnOf "law" "law" (defArgs s_law) (defBody s_law) (defScope s_law) .none kV_law dc_law pm_law an_law cd_law ct_law), sl_law⟩)
    (c_law : PySem.W.codeIn K cd_law "law" = true)
    (k_law : PySem.W.keepIn K (.ref f_lawA) = true)
    (hlaw : ∀ ns : List Int, ns.length ≤ 63 → ∃ e, R_law [.val (.scr ns)] = .ok (.bl true) e) :
    ∃ fd : FuncData, (∀ (s : Shared) (v : Value), BindsTo s fd ⟨[v], []⟩ [("_law_script", v)]) ∧ ∀ base : Heap, K.In base → base.Ns mainGlobals mg → FnOk P w K mg base (L2.CX P w) 10 fa fd ["_law_script"] (spLaw K) := by
  have e := hfa.symm.trans (PySem.W.mg_of X G a_law)
  cases e
  refine ⟨PySem.W.fnOf "law" "law" (defArgs s_law) (defBody s_law) (defScope s_law) .none kV_law dc_law pm_law an_law cd_law ct_law, fun s v => .of_eq rfl, fun base _ _ => ?_⟩
  have m_Sequence := PySem.W.mg_of X G a_Sequence
  have cl_Sequence : Cls K C_Sequence := ⟨pg_Sequence, hd_Sequence, po_Sequence, sa_Sequence⟩
  have m_Table := PySem.W.mg_of X G a_Table
  have cl_Table : Cls K C_Table := ⟨pg_Table, hd_Table, po_Table, sa_Table⟩
  have b_len := PySem.W.mg_none_of X G n_b_len
  have b_abs := PySem.W.mg_none_of X G n_b_abs
  have b_int := PySem.W.mg_none_of X G n_b_int
  have b_range := PySem.W.mg_none_of X G n_b_range
  have b_isinstance := PySem.W.mg_none_of X G n_b_isinstance
  have b_bool := PySem.W.mg_none_of X G n_b_bool
  have b_tuple := PySem.W.mg_none_of X G n_b_tuple
  have b_str := PySem.W.mg_none_of X G n_b_str
  have f_Sequence_parts : FlI K mg "Sequence" "parts" := ⟨_, m_Sequence, cl_Sequence, n_f_Sequence_parts⟩
  have ic_Sequence : C8.InsC K C_Sequence := ⟨cl_Sequence, ic1_Sequence, ic2_Sequence, ic3_Sequence, ic4_Sequence, kit_self⟩
  have ic_Table : C8.InsC K C_Table := ⟨cl_Table, ic1_Table, ic2_Table, ic3_Table, ic4_Table, kit_self⟩
  have ko_Sequence : KoI K mg "Sequence" ["Sequence"] ["Table"] := ⟨_, m_Sequence, kit_base t1_ko_Sequence t2_ko_Sequence, (by intro n h; rcases List.mem_cons.mp h with rfl | h; (exact ⟨_, m_Sequence, ic_Sequence, kit_self⟩); cases h), (by intro n h; rcases List.mem_cons.mp h with rfl | h; (exact ⟨_, m_Table, ic_Table, kit_no t1_ko_Sequence t2_ko_Sequence n_ko_Sequence_Table q_ko_Sequence_Table⟩); cases h)⟩
  have b_sorted := PySem.W.mg_none_of X G n_b_sorted
  have b_max := PySem.W.mg_none_of X G n_b_max
  have b_list := PySem.W.mg_none_of X G n_b_list
  have b_enumerate := PySem.W.mg_none_of X G n_b_enumerate
  have b_all := PySem.W.mg_none_of X G n_b_all
  have b_zip := PySem.W.mg_none_of X G n_b_zip
  have f_Table_base : FlI K mg "Table" "base" := ⟨_, m_Table, cl_Table, n_f_Table_base⟩
  have f_Table_gone : FlI K mg "Table" "gone" := ⟨_, m_Table, cl_Table, n_f_Table_gone⟩
  have b_min := PySem.W.mg_none_of X G n_b_min
  have m__law_pool := PySem.W.mg_of X G a__law_pool
  have F__law_pool := fun_mk (st := s__law_pool) l__law_pool c__law_pool k__law_pool
  have B__law_pool := F__law_pool.binds (ps := ["_law_script", "_law_k"]) fun _ _ _ _ _ _ us hl => match us, hl with | [_, _], _ => rfl
  have O__law_pool := ok__law_pool (P := P) (w := w) (mg := mg) (base := base) F__law_pool b_len b_abs b_int
  have Q__law_pool := fn_rawN O__law_pool B__law_pool
  have d_FnN__law_pool : FnN P w K mg base 1 "_law_pool" R__law_pool := ⟨_, m__law_pool, k__law_pool, Q__law_pool⟩
  have m__law_take := PySem.W.mg_of X G a__law_take
  have F__law_take := fun_mk (st := s__law_take) l__law_take c__law_take k__law_take
  have B__law_take := F__law_take.binds (ps := ["_law_pool_here", "_law_count"]) fun _ _ _ _ _ _ us hl => match us, hl with | [_, _], _ => rfl
  have O__law_take := ok__law_take (P := P) (w := w) (mg := mg) (base := base) F__law_take 
  have Q__law_take := fn_raw O__law_take B__law_take
  have d_Fn__law_take : FnI P w K mg base 1 "_law_take" R__law_take := ⟨_, m__law_take, k__law_take, Q__law_take⟩
  have m__law_step := PySem.W.mg_of X G a__law_step
  have F__law_step := fun_mk (st := s__law_step) l__law_step c__law_step k__law_step
  have B__law_step := F__law_step.binds (ps := ["_law_pool_here", "_law_most"]) fun _ _ _ _ _ _ us hl => match us, hl with | [_, _], _ => rfl
  have O__law_step := ok__law_step (P := P) (w := w) (mg := mg) (base := base) F__law_step d_Fn__law_take
  have Q__law_step := fn_raw O__law_step B__law_step
  have d_Fn__law_step : FnI P w K mg base 2 "_law_step" R__law_step := ⟨_, m__law_step, k__law_step, Q__law_step⟩
  have m__law_steps := PySem.W.mg_of X G a__law_steps
  have F__law_steps := fun_mk (st := s__law_steps) l__law_steps c__law_steps k__law_steps
  have B__law_steps := F__law_steps.binds (ps := ["_law_pool_here", "_law_many", "_law_most"]) fun _ _ _ _ _ _ us hl => match us, hl with | [_, _, _], _ => rfl
  have O__law_steps := ok__law_steps (P := P) (w := w) (mg := mg) (base := base) F__law_steps d_Fn__law_take b_range d_Fn__law_step
  have Q__law_steps := fn_raw O__law_steps B__law_steps
  have d_Fn__law_steps : FnI P w K mg base 3 "_law_steps" R__law_steps := ⟨_, m__law_steps, k__law_steps, Q__law_steps⟩
  have m_is_integer := PySem.W.mg_of X G a_is_integer
  have F_is_integer := fun_mk (st := s_is_integer) l_is_integer c_is_integer k_is_integer
  have B_is_integer := F_is_integer.binds (ps := ["value"]) fun _ _ _ _ _ _ us hl => match us, hl with | [_], _ => rfl
  have O_is_integer := ok_is_integer (P := P) (w := w) (mg := mg) (base := base) F_is_integer b_isinstance b_int b_bool
  have Q_is_integer := fn_raw O_is_integer B_is_integer
  have d_Fn_is_integer : FnI P w K mg base 1 "is_integer" R_is_integer := ⟨_, m_is_integer, k_is_integer, Q_is_integer⟩
  have m_is_rank := PySem.W.mg_of X G a_is_rank
  have F_is_rank := fun_mk (st := s_is_rank) l_is_rank c_is_rank k_is_rank
  have B_is_rank := F_is_rank.binds (ps := ["value"]) fun _ _ _ _ _ _ us hl => match us, hl with | [_], _ => rfl
  have O_is_rank := ok_is_rank (P := P) (w := w) (mg := mg) (base := base) F_is_rank d_Fn_is_integer
  have Q_is_rank := fn_raw O_is_rank B_is_rank
  have d_Fn_is_rank : FnI P w K mg base 2 "is_rank" R_is_rank := ⟨_, m_is_rank, k_is_rank, Q_is_rank⟩
  have cr_Sequence : ClX.CRead K C_Sequence (.type "type") := ⟨r1_Sequence, r2_Sequence⟩
  have F_Sequence_is_step := fun_mk (st := s_Sequence_is_step) l_Sequence_is_step c_Sequence_is_step k_Sequence_is_step
  have B_Sequence_is_step := F_Sequence_is_step.binds (ps := ["value"]) fun _ _ _ _ _ _ us hl => match us, hl with | [_], _ => rfl
  have O_Sequence_is_step := ok_Sequence_is_step (P := P) (w := w) (mg := mg) (base := base) F_Sequence_is_step b_isinstance b_tuple b_len b_str d_Fn_is_integer d_Fn_is_rank
  have Q_Sequence_is_step := fn_raw O_Sequence_is_step B_Sequence_is_step
  have d_Sm_Sequence_is_step_Sequence : SmI P w K mg base 3 "Sequence" "is_step" R_Sequence_is_step := ⟨_, _, _, _, m_Sequence, cr_Sequence, ⟨a_Sequence_is_step, ⟨_, pc_Sequence_is_step⟩, k_Sequence_is_step⟩, Q_Sequence_is_step⟩
  have m_check_steps := PySem.W.mg_of X G a_check_steps
  have F_check_steps := fun_mk (st := s_check_steps) l_check_steps c_check_steps k_check_steps
  have B_check_steps := F_check_steps.binds (ps := ["steps"]) fun _ _ _ _ _ _ us hl => match us, hl with | [_], _ => rfl
  have O_check_steps := ok_check_steps (P := P) (w := w) (mg := mg) (base := base) F_check_steps d_Sm_Sequence_is_step_Sequence
  have Q_check_steps := fn_raw O_check_steps B_check_steps
  have d_Fn_check_steps : FnI P w K mg base 4 "check_steps" R_check_steps := ⟨_, m_check_steps, k_check_steps, Q_check_steps⟩
  have Q_Sequence___init__ := ok_Sequence___init__ (P := P) (w := w) (mg := mg) (base := base) l_Sequence___init__ c_Sequence___init__ d_Fn_check_steps f_Sequence_parts
  have d_Mk_Sequence___init__ : MkI P w K mg base 5 "Sequence" R_Sequence___init__ := ⟨_, _, m_Sequence, ⟨mk_Sequence, a_Sequence___init__, i_Sequence___init__, kc_Sequence⟩, Q_Sequence___init__⟩
  have F_Sequence___add__ := fun_mk (st := s_Sequence___add__) l_Sequence___add__ c_Sequence___add__ k_Sequence___add__
  have B_Sequence___add__ := F_Sequence___add__.binds (ps := ["self", "other"]) fun _ _ _ _ _ _ us hl => match us, hl with | [_, _], _ => rfl
  have O_Sequence___add__ := ok_Sequence___add__ (P := P) (w := w) (mg := mg) (base := base) F_Sequence___add__ d_Mk_Sequence___init__ f_Sequence_parts
  have Q_Sequence___add__ := fn_raw O_Sequence___add__ B_Sequence___add__
  have d_Op_Sequence___add___Sequence : OpI P w K mg base 7 "Sequence" "__add__" R_Sequence___add__ := ⟨_, _, m_Sequence, a_Sequence___add__, i_Sequence___add__, sf_Sequence, Q_Sequence___add__⟩
  have m__law_sequence := PySem.W.mg_of X G a__law_sequence
  have F__law_sequence := fun_mk (st := s__law_sequence) l__law_sequence c__law_sequence k__law_sequence
  have B__law_sequence := F__law_sequence.binds (ps := ["_law_steps_here"]) fun _ _ _ _ _ _ us hl => match us, hl with | [_], _ => rfl
  have O__law_sequence := ok__law_sequence (P := P) (w := w) (mg := mg) (base := base) F__law_sequence d_Mk_Sequence___init__ d_Op_Sequence___add___Sequence
  have Q__law_sequence := fn_raw O__law_sequence B__law_sequence
  have d_Fn__law_sequence : FnI P w K mg base 8 "_law_sequence" R__law_sequence := ⟨_, m__law_sequence, k__law_sequence, Q__law_sequence⟩
  have F_Sequence___eq__ := fun_mk (st := s_Sequence___eq__) l_Sequence___eq__ c_Sequence___eq__ k_Sequence___eq__
  have B_Sequence___eq__ := F_Sequence___eq__.binds (ps := ["self", "other"]) fun _ _ _ _ _ _ us hl => match us, hl with | [_, _], _ => rfl
  have O_Sequence___eq__ := ok_Sequence___eq__ (P := P) (w := w) (mg := mg) (base := base) F_Sequence___eq__ b_isinstance ko_Sequence f_Sequence_parts
  have Q_Sequence___eq__ := fn_raw O_Sequence___eq__ B_Sequence___eq__
  have d_Op_Sequence___eq___Sequence : OpI P w K mg base 1 "Sequence" "__eq__" R_Sequence___eq__ := ⟨_, _, m_Sequence, a_Sequence___eq__, i_Sequence___eq__, sf_Sequence, Q_Sequence___eq__⟩
  have F_Sequence___len__ := fun_mk (st := s_Sequence___len__) l_Sequence___len__ c_Sequence___len__ k_Sequence___len__
  have B_Sequence___len__ := F_Sequence___len__.binds (ps := ["self"]) fun _ _ _ _ _ _ us hl => match us, hl with | [_], _ => rfl
  have O_Sequence___len__ := ok_Sequence___len__ (P := P) (w := w) (mg := mg) (base := base) F_Sequence___len__ f_Sequence_parts b_len
  have Q_Sequence___len__ := fn_raw O_Sequence___len__ B_Sequence___len__
  have d_Op_Sequence___len___Sequence : OpI P w K mg base 1 "Sequence" "__len__" R_Sequence___len__ := ⟨_, _, m_Sequence, a_Sequence___len__, i_Sequence___len__, sf_Sequence, Q_Sequence___len__⟩
  have F_Sequence_steps := fun_mk (st := s_Sequence_steps) l_Sequence_steps c_Sequence_steps k_Sequence_steps
  have B_Sequence_steps := F_Sequence_steps.binds (ps := ["self"]) fun _ _ _ _ _ _ us hl => match us, hl with | [_], _ => rfl
  have O_Sequence_steps := ok_Sequence_steps (P := P) (w := w) (mg := mg) (base := base) F_Sequence_steps f_Sequence_parts
  have Q_Sequence_steps := fn_raw O_Sequence_steps B_Sequence_steps
  have d_Pr_Sequence_steps_Sequence : PrI P w K mg base 1 "Sequence" "steps" R_Sequence_steps := ⟨_, _, _, m_Sequence, cl_Sequence, ⟨a_Sequence_steps, pa_Sequence_steps, pb_Sequence_steps, _, pc_Sequence_steps⟩, Q_Sequence_steps⟩
  have m_is_count := PySem.W.mg_of X G a_is_count
  have F_is_count := fun_mk (st := s_is_count) l_is_count c_is_count k_is_count
  have B_is_count := F_is_count.binds (ps := ["value"]) fun _ _ _ _ _ _ us hl => match us, hl with | [_], _ => rfl
  have O_is_count := ok_is_count (P := P) (w := w) (mg := mg) (base := base) F_is_count d_Fn_is_integer
  have Q_is_count := fn_raw O_is_count B_is_count
  have d_Fn_is_count : FnI P w K mg base 2 "is_count" R_is_count := ⟨_, m_is_count, k_is_count, Q_is_count⟩
  have m_exchanged_pair := PySem.W.mg_of X G a_exchanged_pair
  have F_exchanged_pair := fun_mk (st := s_exchanged_pair) l_exchanged_pair c_exchanged_pair k_exchanged_pair
  have B_exchanged_pair := F_exchanged_pair.binds (ps := ["first", "second"]) fun _ _ _ _ _ _ us hl => match us, hl with | [_, _], _ => rfl
  have O_exchanged_pair := ok_exchanged_pair (P := P) (w := w) (mg := mg) (base := base) F_exchanged_pair 
  have Q_exchanged_pair := fn_raw O_exchanged_pair B_exchanged_pair
  have d_Fn_exchanged_pair : FnI P w K mg base 1 "exchanged_pair" R_exchanged_pair := ⟨_, m_exchanged_pair, k_exchanged_pair, Q_exchanged_pair⟩
  have m_exchanged := PySem.W.mg_of X G a_exchanged
  have F_exchanged := fun_mk (st := s_exchanged) l_exchanged c_exchanged k_exchanged
  have B_exchanged := F_exchanged.binds (ps := ["sequence", "index"]) fun _ _ _ _ _ _ us hl => match us, hl with | [_, _], _ => rfl
  have O_exchanged := ok_exchanged (P := P) (w := w) (mg := mg) (base := base) F_exchanged d_Pr_Sequence_steps_Sequence d_Fn_is_count b_len d_Fn_exchanged_pair d_Mk_Sequence___init__
  have Q_exchanged := fn_raw O_exchanged B_exchanged
  have d_Fn_exchanged : FnI P w K mg base 7 "exchanged" R_exchanged := ⟨_, m_exchanged, k_exchanged, Q_exchanged⟩
  have m__law_reached := PySem.W.mg_of X G a__law_reached
  have F__law_reached := fun_mk (st := s__law_reached) l__law_reached c__law_reached k__law_reached
  have B__law_reached := F__law_reached.binds (ps := ["_law_sequence_here"]) fun _ _ _ _ _ _ us hl => match us, hl with | [_], _ => rfl
  have O__law_reached := ok__law_reached (P := P) (w := w) (mg := mg) (base := base) F__law_reached d_Op_Sequence___eq___Sequence d_Op_Sequence___len___Sequence b_len b_range d_Fn_exchanged d_Pr_Sequence_steps_Sequence
  have Q__law_reached := fn_raw O__law_reached B__law_reached
  have d_Fn__law_reached : FnI P w K mg base 8 "_law_reached" R__law_reached := ⟨_, m__law_reached, k__law_reached, Q__law_reached⟩
  have m__law_parts := PySem.W.mg_of X G a__law_parts
  have F__law_parts := fun_mk (st := s__law_parts) l__law_parts c__law_parts k__law_parts
  have B__law_parts := F__law_parts.binds (ps := ["_law_steps_here"]) fun _ _ _ _ _ _ us hl => match us, hl with | [_], _ => rfl
  have O__law_parts := ok__law_parts (P := P) (w := w) (mg := mg) (base := base) F__law_parts 
  have Q__law_parts := fn_raw O__law_parts B__law_parts
  have d_Fn__law_parts : FnI P w K mg base 1 "_law_parts" R__law_parts := ⟨_, m__law_parts, k__law_parts, Q__law_parts⟩
  have m__law_normal := PySem.W.mg_of X G a__law_normal
  have F__law_normal := fun_mk (st := s__law_normal) l__law_normal c__law_normal k__law_normal
  have B__law_normal := F__law_normal.binds (ps := ["_law_steps_here"]) fun _ _ _ _ _ _ us hl => match us, hl with | [_], _ => rfl
  have O__law_normal := ok__law_normal (P := P) (w := w) (mg := mg) (base := base) F__law_normal d_Fn__law_parts b_sorted b_len b_max b_list b_range
  have Q__law_normal := fn_raw O__law_normal B__law_normal
  have d_Fn__law_normal : FnI P w K mg base 2 "_law_normal" R__law_normal := ⟨_, m__law_normal, k__law_normal, Q__law_normal⟩
  have m__law_orders := PySem.W.mg_of X G a__law_orders
  have F__law_orders := fun_mk (st := s__law_orders) l__law_orders c__law_orders k__law_orders
  have B__law_orders := F__law_orders.binds (ps := ["_law_items"]) fun _ _ _ _ _ _ us hl => match us, hl with | [_], _ => rfl
  have O__law_orders := ok__law_orders (P := P) (w := w) (mg := mg) (base := base) F__law_orders b_enumerate
  have Q__law_orders := fn_raw O__law_orders B__law_orders
  have d_Fn__law_orders : FnI P w K mg base 1 "_law_orders" R__law_orders := ⟨_, m__law_orders, k__law_orders, Q__law_orders⟩
  have m__law_number := PySem.W.mg_of X G a__law_number
  have F__law_number := fun_mk (st := s__law_number) l__law_number c__law_number k__law_number
  have B__law_number := F__law_number.binds (ps := ["_law_steps_here"]) fun _ _ _ _ _ _ us hl => match us, hl with | [_], _ => rfl
  have O__law_number := ok__law_number (P := P) (w := w) (mg := mg) (base := base) F__law_number d_Fn__law_normal d_Fn__law_parts d_Fn__law_orders
  have Q__law_number := fn_raw O__law_number B__law_number
  have d_Fn__law_number : FnI P w K mg base 3 "_law_number" R__law_number := ⟨_, m__law_number, k__law_number, Q__law_number⟩
  have m_parts_of := PySem.W.mg_of X G a_parts_of
  have F_parts_of := fun_mk (st := s_parts_of) l_parts_of c_parts_of k_parts_of
  have B_parts_of := F_parts_of.binds (ps := ["steps"]) fun _ _ _ _ _ _ us hl => match us, hl with | [_], _ => rfl
  have O_parts_of := ok_parts_of (P := P) (w := w) (mg := mg) (base := base) F_parts_of 
  have Q_parts_of := fn_raw O_parts_of B_parts_of
  have d_Fn_parts_of : FnI P w K mg base 1 "parts_of" R_parts_of := ⟨_, m_parts_of, k_parts_of, Q_parts_of⟩
  have m_least_reaching := PySem.W.mg_of X G a_least_reaching
  have F_least_reaching := fun_mk (st := s_least_reaching) l_least_reaching c_least_reaching k_least_reaching
  have B_least_reaching := F_least_reaching.binds (ps := ["start", "lost", "count"]) fun _ _ _ _ _ _ us hl => match us, hl with | [_, _, _], _ => rfl
  have O_least_reaching := ok_least_reaching (P := P) (w := w) (mg := mg) (base := base) F_least_reaching 
  have Q_least_reaching := fn_raw O_least_reaching B_least_reaching
  have d_Fn_least_reaching : FnI P w K mg base 1 "least_reaching" R_least_reaching := ⟨_, m_least_reaching, k_least_reaching, Q_least_reaching⟩
  have m_are_lost_ranks := PySem.W.mg_of X G a_are_lost_ranks
  have F_are_lost_ranks := fun_mk (st := s_are_lost_ranks) l_are_lost_ranks c_are_lost_ranks k_are_lost_ranks
  have B_are_lost_ranks := F_are_lost_ranks.binds (ps := ["value"]) fun _ _ _ _ _ _ us hl => match us, hl with | [_], _ => rfl
  have O_are_lost_ranks := ok_are_lost_ranks (P := P) (w := w) (mg := mg) (base := base) F_are_lost_ranks b_isinstance b_list b_tuple d_Fn_is_rank b_all b_zip
  have Q_are_lost_ranks := fn_raw O_are_lost_ranks B_are_lost_ranks
  have d_Fn_are_lost_ranks : FnI P w K mg base 3 "are_lost_ranks" R_are_lost_ranks := ⟨_, m_are_lost_ranks, k_are_lost_ranks, Q_are_lost_ranks⟩
  have F_Table___init__ := fun_mk (st := s_Table___init__) l_Table___init__ c_Table___init__ k_Table___init__
  have B_Table___init__ := F_Table___init__.binds (ps := ["self", "start", "lost"]) fun _ _ _ _ _ _ us hl => match us, hl with | [_, _, _], _ => rfl
  have O_Table___init__ := ok_Table___init__ (P := P) (w := w) (mg := mg) (base := base) F_Table___init__ d_Fn_is_count d_Fn_are_lost_ranks f_Table_base f_Table_gone b_tuple
  have Q_Table___init__ := fn_raw O_Table___init__ B_Table___init__
  have d_Mk_Table___init__ : MkI P w K mg base 4 "Table" R_Table___init__ := ⟨_, _, m_Table, ⟨mk_Table, a_Table___init__, i_Table___init__, kc_Table⟩, Q_Table___init__⟩
  have m_table_at := PySem.W.mg_of X G a_table_at
  have F_table_at := fun_mk (st := s_table_at) l_table_at c_table_at k_table_at
  have B_table_at := F_table_at.binds (ps := ["steps", "threshold"]) fun _ _ _ _ _ _ us hl => match us, hl with | [_, _], _ => rfl
  have O_table_at := ok_table_at (P := P) (w := w) (mg := mg) (base := base) F_table_at d_Fn_least_reaching b_sorted d_Mk_Table___init__
  have Q_table_at := fn_raw O_table_at B_table_at
  have d_Fn_table_at : FnI P w K mg base 6 "table_at" R_table_at := ⟨_, m_table_at, k_table_at, Q_table_at⟩
  have F_Table_lost := fun_mk (st := s_Table_lost) l_Table_lost c_Table_lost k_Table_lost
  have B_Table_lost := F_Table_lost.binds (ps := ["self"]) fun _ _ _ _ _ _ us hl => match us, hl with | [_], _ => rfl
  have O_Table_lost := ok_Table_lost (P := P) (w := w) (mg := mg) (base := base) F_Table_lost f_Table_gone
  have Q_Table_lost := fn_raw O_Table_lost B_Table_lost
  have d_Pr_Table_lost_Table : PrI P w K mg base 1 "Table" "lost" R_Table_lost := ⟨_, _, _, m_Table, cl_Table, ⟨a_Table_lost, pa_Table_lost, pb_Table_lost, _, pc_Table_lost⟩, Q_Table_lost⟩
  have m_sorted_part := PySem.W.mg_of X G a_sorted_part
  have F_sorted_part := fun_mk (st := s_sorted_part) l_sorted_part c_sorted_part k_sorted_part
  have B_sorted_part := F_sorted_part.binds (ps := ["part"]) fun _ _ _ _ _ _ us hl => match us, hl with | [_], _ => rfl
  have O_sorted_part := ok_sorted_part (P := P) (w := w) (mg := mg) (base := base) F_sorted_part b_sorted d_Fn_table_at d_Pr_Table_lost_Table
  have Q_sorted_part := fn_raw O_sorted_part B_sorted_part
  have d_Fn_sorted_part : FnI P w K mg base 7 "sorted_part" R_sorted_part := ⟨_, m_sorted_part, k_sorted_part, Q_sorted_part⟩
  have m_normal_form := PySem.W.mg_of X G a_normal_form
  have F_normal_form := fun_mk (st := s_normal_form) l_normal_form c_normal_form k_normal_form
  have B_normal_form := F_normal_form.binds (ps := ["sequence"]) fun _ _ _ _ _ _ us hl => match us, hl with | [_], _ => rfl
  have O_normal_form := ok_normal_form (P := P) (w := w) (mg := mg) (base := base) F_normal_form d_Pr_Sequence_steps_Sequence d_Fn_parts_of d_Fn_sorted_part d_Mk_Sequence___init__
  have Q_normal_form := fn_raw O_normal_form B_normal_form
  have d_Fn_normal_form : FnI P w K mg base 8 "normal_form" R_normal_form := ⟨_, m_normal_form, k_normal_form, Q_normal_form⟩
  have m_is_connected := PySem.W.mg_of X G a_is_connected
  have F_is_connected := fun_mk (st := s_is_connected) l_is_connected c_is_connected k_is_connected
  have B_is_connected := F_is_connected.binds (ps := ["first", "second"]) fun _ _ _ _ _ _ us hl => match us, hl with | [_, _], _ => rfl
  have O_is_connected := ok_is_connected (P := P) (w := w) (mg := mg) (base := base) F_is_connected d_Fn_normal_form d_Op_Sequence___eq___Sequence
  have Q_is_connected := fn_raw O_is_connected B_is_connected
  have d_Fn_is_connected : FnI P w K mg base 9 "is_connected" R_is_connected := ⟨_, m_is_connected, k_is_connected, Q_is_connected⟩
  have m_law := PySem.W.mg_of X G a_law
  have F_law := fun_mk (st := s_law) l_law c_law k_law
  have B_law := F_law.binds (ps := ["_law_script"]) fun _ _ _ _ _ _ us hl => match us, hl with | [_], _ => rfl
  have O_law := ok_law (P := P) (w := w) (mg := mg) (base := base) F_law b_len b_min b_max b_range d_FnN__law_pool d_Fn__law_steps d_Fn__law_sequence d_Fn__law_reached d_Fn__law_number d_Fn_normal_form d_Op_Sequence___eq___Sequence d_Fn_is_connected d_Mk_Sequence___init__ d_Fn__law_step d_Op_Sequence___add___Sequence
  exact law_ok O_law hlaw
end
end Dl.k36
set_option maxHeartbeats 400000
/-! k36: the law. -/
namespace Dl.k36
open PySem Tab Dl.lib L2 PySem.Spec PyProof.Rows
/-- few sequences are reached -/
theorem fac_mul : ∀ (a b : Nat), fac a * fac b ≤ fac (a + b)
  | 0, b => by rw [Nat.zero_add]; show 1 * _ ≤ _; omega
  | a + 1, b => by
    have ih := fac_mul a b
    rw [show a + 1 + b = (a + b) + 1 by omega]
    show (a + 1) * fac a * fac b ≤ (a + b + 1) * fac (a + b)
    rw [Nat.mul_assoc]
    exact Nat.mul_le_mul (by omega) ih
theorem prd_fac : ∀ {ps : List (List Stp)}, (∀ l ∈ ps, PartOk l) → prd (ps.map fun p => (arr p).length) ≤ fac ps.flatten.length
  | [], _ => Nat.le_refl _
  | p :: ps, h => by
    obtain ⟨k, _, hk⟩ := wd_part (h p List.mem_cons_self)
    have h1 := arr_le hk
    have h2 := prd_fac (ps := ps) fun l hl => h l (List.mem_cons_of_mem _ hl)
    rw [List.flatten_cons, List.length_append]
    exact Nat.le_trans (Nat.mul_le_mul h1 h2) (fac_mul _ _)
theorem arr_few {xs : List Stp} (hx : ∀ x ∈ xs, okS x) (hl : xs.length ≤ 5) : (arr (lb xs)).length ≤ 120 := by
  obtain ⟨m1, m2⟩ := nf_mem hx (by omega)
  have fl : (grp (nf xs) []).flatten = nf xs := grp_flat (nf xs) []
  have ok := grp_ok (xs := nf xs) (acc := []) fun _ h => nomatch h
  have h := prd_fac ok
  rw [← (nf_parts hx).2, fl] at h
  exact Nat.le_trans h (fac_le (m := 5) (by omega))
theorem law_p (ns : List Int) : p_law ns = some true := by
  refine An.is ?_
  unfold p_law
  refine An.bq (An.forF (I := fun _ => True) trivial fun y hy _ _ => ?_) fun w hw => ?_
  · obtain ⟨y0, y1⟩ := rngP_mem.mp hy
    refine An.bq (a_pool ns y0 (by split at y1 <;> split at y1 <;> omega)) fun p hp => ?_
    refine An.bq (b_steps hp) fun r1 ⟨g1, l1, t1⟩ => ?_
    generalize hxs : r1.1 = xs at *
    have ho : ∀ x ∈ xs, okS x := fun x hx => (g1 x hx).1
    have few := arr_few ho l1
    obtain ⟨f, e1, e2, e3⟩ := q_reached ho l1 (by omega)
    refine An.bd (b_seq ho (by omega)) (An.bd e1 ?_)
    refine An.bd (a := false) ?_ (An.ff rfl ?_)
    · rw [if_neg (by simp)]
      refine Eq.trans (obind (a := f) rfl) (Eq.trans (obind (q_number g1 l1)) ?_)
      rw [e2]
      simp
    refine An.bd (a := f) rfl ?_
    refine An.bq (An.forF (I := fun _ => True) trivial fun z hz _ _ => ?_) fun w hw => ?_
    · obtain ⟨o1, o2, o3⟩ := e3 z hz
      refine An.bd (q_nf o1 (by omega)) (An.bd (q_nf ho (by omega)) (An.bd (a := true) ?_ ?_))
      · show some (true && decide (nf z = nf xs)) = _
        rw [o3]; simp
      · refine An.bd (a := false) ?_ (An.ff rfl (An.go trivial))
        rw [if_neg (by simp)]
        refine Eq.trans (obind (q_conn o1 (by omega) ho (by omega))) ?_
        rw [o3]; simp
    · obtain ⟨_, rfl, _⟩ := hw
      refine An.bq (b_step t1) fun r2 ⟨s1, t2⟩ => ?_
      have o2 : ∀ x ∈ [r2.1], okS x := fun x hx => by rw [List.mem_singleton.mp hx]; exact s1.1
      have ho2 : ∀ x ∈ xs ++ [r2.1], okS x := fun x hx => (List.mem_append.mp hx).elim (ho x) (o2 x)
      have ln2 : (xs ++ [r2.1]).length = xs.length + 1 := by simp
      have ne : nf xs ≠ nf (xs ++ [r2.1]) := fun q => by
        have h1 := congrArg List.length (nf_words ho)
        have h2 := congrArg List.length (nf_words ho2)
        rw [List.length_map, List.length_map] at h1 h2
        rw [← q] at h2
        omega
      refine An.bd (q_seq o2 (by simp)) (An.bd (q_seqadd ho o2 (by simp; omega)) (An.bd (q_conn ho (by omega) ho2 (by omega)) ?_))
      refine An.bd (a := false) ?_ (An.ff rfl (An.go trivial))
      rw [if_neg (by simp [ne])]
      refine Eq.trans (obind (a := f) rfl) (Eq.trans (obind (q_mem _ f)) ?_)
      have nm : xs ++ [r2.1] ∉ f := fun m => by
        have := (e3 _ m).2.1
        omega
      rw [decide_eq_false nm]
  · obtain ⟨_, rfl, _⟩ := hw
    exact An.ok rfl
theorem law_true : ∀ ns : List Int, ns.length ≤ 63 → ∃ e, R_law [.val (.scr ns)] = .ok (.bl true) e := fun ns _ => ⟨_, t_law ns (law_p ns)⟩
end Dl.k36
open PySem PySem.W PyProof.Rows
set_option maxRecDepth 100000 in
set_option maxHeartbeats 0 in
theorem PySem.Challenge.cw_rankeffect_k36_exchanges_lead_everywhere_holds : PySem.Challenge.rw_rankeffect_k36_exchanges_lead_everywhere.Holds := by
  w_on; o_law; k_head; (case hw => w_witness2)
  k_fill
  refine Dl.walk (l := PySem.Challenge.rw_rankeffect_k36_exchanges_lead_everywhere) (k := 10) (x := "_law_script") rfl rfl ⟨rfl, by decide, by decide⟩ (fun w h Y => PySem.W.kIn_of Y) ?F
  case F =>
    intro w mg fa h KX G hmg
    refine' Dl.k36.all_mk KX G hmg ?a_Sequence ?pg_Sequence ?hd_Sequence ?po_Sequence ?sa_Sequence ?sf_Sequence ?a_Table ?pg_Table ?hd_Table ?po_Table ?sa_Table ?sf_Table ?n_b_len ?n_b_abs ?n_b_int ?n_b_range ?n_b_isinstance ?n_b_bool ?n_b_tuple ?n_b_str ?n_f_Sequence_parts ?t1_ko_Sequence ?t2_ko_Sequence ?ic1_Sequence ?ic2_Sequence ?ic3_Sequence ?ic4_Sequence ?n_ko_Sequence_Table ?q_ko_Sequence_Table ?ic1_Table ?ic2_Table ?ic3_Table ?ic4_Table ?n_b_sorted ?n_b_max ?n_b_list ?n_b_enumerate ?n_b_all ?n_b_zip ?n_f_Table_base ?n_f_Table_gone ?n_b_min ?a__law_pool ?l__law_pool ?c__law_pool ?k__law_pool ?a__law_take ?l__law_take ?c__law_take ?k__law_take ?a__law_step ?l__law_step ?c__law_step ?k__law_step ?a__law_steps ?l__law_steps ?c__law_steps ?k__law_steps ?a_is_integer ?l_is_integer ?c_is_integer ?k_is_integer ?a_is_rank ?l_is_rank ?c_is_rank ?k_is_rank ?a_Sequence_is_step ?pc_Sequence_is_step ?r1_Sequence ?r2_Sequence ?l_Sequence_is_step ?c_Sequence_is_step ?k_Sequence_is_step ?a_check_steps ?l_check_steps ?c_check_steps ?k_check_steps ?a_Sequence___init__ ?i_Sequence___init__ ?l_Sequence___init__ ?c_Sequence___init__ ?k_Sequence___init__ ?mk_Sequence ?kc_Sequence ?a_Sequence___add__ ?i_Sequence___add__ ?l_Sequence___add__ ?c_Sequence___add__ ?k_Sequence___add__ ?a__law_sequence ?l__law_sequence ?c__law_sequence ?k__law_sequence ?a_Sequence___eq__ ?i_Sequence___eq__ ?l_Sequence___eq__ ?c_Sequence___eq__ ?k_Sequence___eq__ ?a_Sequence___len__ ?i_Sequence___len__ ?l_Sequence___len__ ?c_Sequence___len__ ?k_Sequence___len__ ?a_Sequence_steps ?pa_Sequence_steps ?pb_Sequence_steps ?pc_Sequence_steps ?l_Sequence_steps ?c_Sequence_steps ?k_Sequence_steps ?a_is_count ?l_is_count ?c_is_count ?k_is_count ?a_exchanged_pair ?l_exchanged_pair ?c_exchanged_pair ?k_exchanged_pair ?a_exchanged ?l_exchanged ?c_exchanged ?k_exchanged ?a__law_reached ?l__law_reached ?c__law_reached ?k__law_reached ?a__law_parts ?l__law_parts ?c__law_parts ?k__law_parts ?a__law_normal ?l__law_normal ?c__law_normal ?k__law_normal ?a__law_orders ?l__law_orders ?c__law_orders ?k__law_orders ?a__law_number ?l__law_number ?c__law_number ?k__law_number ?a_parts_of ?l_parts_of ?c_parts_of ?k_parts_of ?a_least_reaching ?l_least_reaching ?c_least_reaching ?k_least_reaching ?a_are_lost_ranks ?l_are_lost_ranks ?c_are_lost_ranks ?k_are_lost_ranks ?a_Table___init__ ?i_Table___init__ ?l_Table___init__ ?c_Table___init__ ?k_Table___init__ ?mk_Table ?kc_Table ?a_table_at ?l_table_at ?c_table_at ?k_table_at ?a_Table_lost ?pa_Table_lost ?pb_Table_lost ?pc_Table_lost ?l_Table_lost ?c_Table_lost ?k_Table_lost ?a_sorted_part ?l_sorted_part ?c_sorted_part ?k_sorted_part ?a_normal_form ?l_normal_form ?c_normal_form ?k_normal_form ?a_is_connected ?l_is_connected ?c_is_connected ?k_is_connected ?a_law ?l_law ?c_law ?k_law Dl.k36.law_true
    (case a_Sequence => k_is)
    (case pg_Sequence => k_is)
    (case hd_Sequence => k_is)
    (case po_Sequence => k_is)
    (case sa_Sequence => k_is)
    (case sf_Sequence => k_is)
    (case a_Table => k_is)
    (case pg_Table => k_is)
    (case hd_Table => k_is)
    (case po_Table => k_is)
    (case sa_Table => k_is)
    (case sf_Table => k_is)
    (case n_b_len => k_is)
    (case n_b_abs => k_is)
    (case n_b_int => k_is)
    (case n_b_range => k_is)
    (case n_b_isinstance => k_is)
    (case n_b_bool => k_is)
    (case n_b_tuple => k_is)
    (case n_b_str => k_is)
    (case n_f_Sequence_parts => k_is)
    (case t1_ko_Sequence => k_is)
    (case t2_ko_Sequence => k_is)
    (case ic1_Sequence => k_is)
    (case ic2_Sequence => k_is)
    (case ic3_Sequence => k_is)
    (case ic4_Sequence => k_is)
    (case n_ko_Sequence_Table => k_is)
    (case q_ko_Sequence_Table => decide)
    (case ic1_Table => k_is)
    (case ic2_Table => k_is)
    (case ic3_Table => k_is)
    (case ic4_Table => k_is)
    (case n_b_sorted => k_is)
    (case n_b_max => k_is)
    (case n_b_list => k_is)
    (case n_b_enumerate => k_is)
    (case n_b_all => k_is)
    (case n_b_zip => k_is)
    (case n_f_Table_base => k_is)
    (case n_f_Table_gone => k_is)
    (case n_b_min => k_is)
    (case a__law_pool => k_is)
    (case l__law_pool => k_is)
    (case c__law_pool => k_is)
    (case k__law_pool => k_is)
    (case a__law_take => k_is)
    (case l__law_take => k_is)
    (case c__law_take => k_is)
    (case k__law_take => k_is)
    (case a__law_step => k_is)
    (case l__law_step => k_is)
    (case c__law_step => k_is)
    (case k__law_step => k_is)
    (case a__law_steps => k_is)
    (case l__law_steps => k_is)
    (case c__law_steps => k_is)
    (case k__law_steps => k_is)
    (case a_is_integer => k_is)
    (case l_is_integer => k_is)
    (case c_is_integer => k_is)
    (case k_is_integer => k_is)
    (case a_is_rank => k_is)
    (case l_is_rank => k_is)
    (case c_is_rank => k_is)
    (case k_is_rank => k_is)
    (case a_Sequence_is_step => k_is)
    (case pc_Sequence_is_step => k_is)
    (case r1_Sequence => k_is)
    (case r2_Sequence => k_is)
    (case l_Sequence_is_step => k_is)
    (case c_Sequence_is_step => k_is)
    (case k_Sequence_is_step => k_is)
    (case a_check_steps => k_is)
    (case l_check_steps => k_is)
    (case c_check_steps => k_is)
    (case k_check_steps => k_is)
    (case a_Sequence___init__ => k_is)
    (case i_Sequence___init__ => k_is)
    (case l_Sequence___init__ => k_is)
    (case c_Sequence___init__ => k_is)
    (case k_Sequence___init__ => k_is)
    (case mk_Sequence => k_is)
    (case kc_Sequence => k_is)
    (case a_Sequence___add__ => k_is)
    (case i_Sequence___add__ => k_is)
    (case l_Sequence___add__ => k_is)
    (case c_Sequence___add__ => k_is)
    (case k_Sequence___add__ => k_is)
    (case a__law_sequence => k_is)
    (case l__law_sequence => k_is)
    (case c__law_sequence => k_is)
    (case k__law_sequence => k_is)
    (case a_Sequence___eq__ => k_is)
    (case i_Sequence___eq__ => k_is)
    (case l_Sequence___eq__ => k_is)
    (case c_Sequence___eq__ => k_is)
    (case k_Sequence___eq__ => k_is)
    (case a_Sequence___len__ => k_is)
    (case i_Sequence___len__ => k_is)
    (case l_Sequence___len__ => k_is)
    (case c_Sequence___len__ => k_is)
    (case k_Sequence___len__ => k_is)
    (case a_Sequence_steps => k_is)
    (case pa_Sequence_steps => k_is)
    (case pb_Sequence_steps => k_is)
    (case pc_Sequence_steps => k_is)
    (case l_Sequence_steps => k_is)
    (case c_Sequence_steps => k_is)
    (case k_Sequence_steps => k_is)
    (case a_is_count => k_is)
    (case l_is_count => k_is)
    (case c_is_count => k_is)
    (case k_is_count => k_is)
    (case a_exchanged_pair => k_is)
    (case l_exchanged_pair => k_is)
    (case c_exchanged_pair => k_is)
    (case k_exchanged_pair => k_is)
    (case a_exchanged => k_is)
    (case l_exchanged => k_is)
    (case c_exchanged => k_is)
    (case k_exchanged => k_is)
    (case a__law_reached => k_is)
    (case l__law_reached => k_is)
    (case c__law_reached => k_is)
    (case k__law_reached => k_is)
    (case a__law_parts => k_is)
    (case l__law_parts => k_is)
    (case c__law_parts => k_is)
    (case k__law_parts => k_is)
    (case a__law_normal => k_is)
    (case l__law_normal => k_is)
    (case c__law_normal => k_is)
    (case k__law_normal => k_is)
    (case a__law_orders => k_is)
    (case l__law_orders => k_is)
    (case c__law_orders => k_is)
    (case k__law_orders => k_is)
    (case a__law_number => k_is)
    (case l__law_number => k_is)
    (case c__law_number => k_is)
    (case k__law_number => k_is)
    (case a_parts_of => k_is)
    (case l_parts_of => k_is)
    (case c_parts_of => k_is)
    (case k_parts_of => k_is)
    (case a_least_reaching => k_is)
    (case l_least_reaching => k_is)
    (case c_least_reaching => k_is)
    (case k_least_reaching => k_is)
    (case a_are_lost_ranks => k_is)
    (case l_are_lost_ranks => k_is)
    (case c_are_lost_ranks => k_is)
    (case k_are_lost_ranks => k_is)
    (case a_Table___init__ => k_is)
    (case i_Table___init__ => k_is)
    (case l_Table___init__ => k_is)
    (case c_Table___init__ => k_is)
    (case k_Table___init__ => k_is)
    (case mk_Table => k_is)
    (case kc_Table => k_is)
    (case a_table_at => k_is)
    (case l_table_at => k_is)
    (case c_table_at => k_is)
    (case k_table_at => k_is)
    (case a_Table_lost => k_is)
    (case pa_Table_lost => k_is)
    (case pb_Table_lost => k_is)
    (case pc_Table_lost => k_is)
    (case l_Table_lost => k_is)
    (case c_Table_lost => k_is)
    (case k_Table_lost => k_is)
    (case a_sorted_part => k_is)
    (case l_sorted_part => k_is)
    (case c_sorted_part => k_is)
    (case k_sorted_part => k_is)
    (case a_normal_form => k_is)
    (case l_normal_form => k_is)
    (case c_normal_form => k_is)
    (case k_normal_form => k_is)
    (case a_is_connected => k_is)
    (case l_is_connected => k_is)
    (case c_is_connected => k_is)
    (case k_is_connected => k_is)
    (case a_law => k_is)
    (case l_law => k_is)
    (case c_law => k_is)
    (case k_law => k_is)
