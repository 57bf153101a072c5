import PyProof.Rows.All
import Wide.All
import OpenK.AllK
import Wide.FinOn
import HandS.ForMost
import HandS.ForExc
import HandS.IsInst
import HandS.Property
import HandS.Star
import HandS.SortInts
import HandS.Wide
import HandS.ClsMeth
import HandS.Zip
import HandS.TupAny
import HandS.Flow
import PyProof.LongRange
import HandS.NoneIn
import HandS.Codes
import HandS.MethStar
import HandS.SetFor
import HandS.SetBool
import HandS.Strs
import KE.GoesMore
import PyProof.EnumMake
import HandS.Style
import HandS.OwnEq
import PyProof.NeKinds
import HandS.TupMul
import KE.KOpsOwn
import HandS.Conv
import HandS.ExcInit
import HandS.ExcField
import KE.KExcInit
import PyProof.ExcBaseAll.RuntimeError
import PyProof.ExcBaseAll.OverflowError
import PyProof.ExcBaseAll.LookupError
import HandS.ExcIs
import HandS.Exc
import KE.KExcIs
import HandS.TryMany
import KE.KMinBuiltin
import HandS.SortKw
import HandS.SortRule
import KE.KRevSl
import HandS.More
import PyProof.MinMaxWalk
import PyProof.WalkInts
import HandS.TupSets
import HandS.Deep
import PyProof.WalksMore
import KE.GoesZip
import HandS.Text
import HandS.FStr
import KE.KxField
import HandS.ReplaceLit
import HandS.ReplaceDef
import PySem.Challenge.RW_rankeffect_k53_effects_as_grids
import HandS.ReplaceList
set_option Elab.async false
set_option linter.all false
set_option maxRecDepth 100000
set_option maxHeartbeats 1000000
/-! Layer D, part 0: data, states, judgements. -/
namespace Dl
open PySem PySem.Spec PyProof.Rows L2
abbrev St := L2.St
/-- data without the heap -/
inductive D where
  | non | bl (b : Bool) | int (i : Int) | str (x : Str)
  | tup (ds : List D) | lst (ds : List D) | obj (c : Str) (ns : List Str) (ds : List D) | scr (ns : List Int) | dic | cls (c : Str)
mutual
/-- the value v stands for the datum d, by what B knows -/
inductive At (K : PySem.W.Frag) (mg : Str → Option Value) (B : Hp) : V → D → Prop
  | non : At K mg B .non .non
  | bl (b : Bool) : At K mg B (.bl b) (.bl b)
  | int (i : Int) : At K mg B (.int i) (.int i)
  | str (x : Str) : At K mg B (.str x) (.str x)
  | tup {a : Addr} {xs : List V} {ds : List D} : SqT K B a xs → AtL K mg B xs ds → At K mg B (.ref a) (.tup ds)
  | lst {a : Addr} {xs : List V} {ds : List D} : B a = some (.lst xs) → AtL K mg B xs ds → At K mg B (.ref a) (.lst ds)
  | scr {a : Addr} {ns : List Int} : SqL K B a (ns.map V.int) → At K mg B (.ref a) (.scr ns)
  | dic {a : Addr} : B a = some (.dK []) → At K mg B (.ref a) .dic
  | cls {C : Addr} {c : Str} : mg c = some (.ref C) → At K mg B (.ref C) (.cls c)
  | obj {a C dx : Addr} {fs : List (Str × V)} {c : Str} {ns : List Str} {ds : List D} : mg c = some (.ref C) → B a = some (.ins C dx fs) → fs.map (·.1) = ns → AtL K mg B (fs.map (·.2)) ds → At K mg B (.ref a) (.obj c ns ds)
inductive AtL (K : PySem.W.Frag) (mg : Str → Option Value) (B : Hp) : List V → List D → Prop
  | nil : AtL K mg B [] []
  | cons {x : V} {d : D} {xs : List V} {ds : List D} : At K mg B x d → AtL K mg B xs ds → AtL K mg B (x :: xs) (d :: ds)
end
theorem seqT {K : PySem.W.Frag} {H H' : Hp} {a : Addr} {xs : List V} (e : Same H H') (h : SqT K H a xs) : SqT K H' a xs := by
  rcases h with (h | ⟨o, h⟩) | h
  · exact .inl (.inl (e _ _ h))
  · exact .inl (.inr ⟨o, e _ _ h⟩)
  · exact .inr h
section
variable {K : PySem.W.Frag} {mg : Str → Option Value} {B B' : Hp}
mutual
theorem At.mono (e : Same B B') : ∀ {v : V} {d : D}, At K mg B v d → At K mg B' v d
  | _, _, .non => .non
  | _, _, .bl b => .bl b
  | _, _, .int i => .int i
  | _, _, .str x => .str x
  | _, _, .tup h r => .tup (seqT e h) (AtL.mono e r)
  | _, _, .lst h r => .lst (e _ _ h) (AtL.mono e r)
  | _, _, .scr h => .scr (e.seq h)
  | _, _, .dic h => .dic (e _ _ h)
  | _, _, .cls h => .cls h
  | _, _, .obj h1 h2 h3 r => .obj h1 (e _ _ h2) h3 (AtL.mono e r)
theorem AtL.mono (e : Same B B') : ∀ {xs : List V} {ds : List D}, AtL K mg B xs ds → AtL K mg B' xs ds
  | _, _, .nil => .nil
  | _, _, .cons r t => .cons (At.mono e r) (AtL.mono e t)
end
theorem AtL.length : ∀ {xs : List V} {ds : List D}, AtL K mg B xs ds → xs.length = ds.length
  | _, _, .nil => rfl
  | _, _, .cons _ t => congrArg (· + 1) (AtL.length t)
theorem AtL.app : ∀ {xs ys : List V} {ds es : List D}, AtL K mg B xs ds → AtL K mg B ys es → AtL K mg B (xs ++ ys) (ds ++ es)
  | _, _, _, _, .nil, s => s
  | _, _, _, _, .cons r t, s => .cons r (AtL.app t s)
theorem AtL.get : ∀ {xs : List V} {ds : List D} {i : Nat} {d : D}, AtL K mg B xs ds → ds[i]? = some d → ∃ x, xs[i]? = some x ∧ At K mg B x d
  | _, _, _, _, .nil, e => by simp at e
  | _, _, 0, d, .cons r _, e => by simp at e; subst e; exact ⟨_, rfl, r⟩
  | _, _, i + 1, d, .cons _ t, e => by
    obtain ⟨x, h1, h2⟩ := AtL.get (i := i) (d := d) t (by simpa using e)
    exact ⟨x, by simpa using h1, h2⟩
theorem AtL.drop : ∀ {xs : List V} {ds : List D} (n : Nat), AtL K mg B xs ds → AtL K mg B (xs.drop n) (ds.drop n)
  | _, _, 0, r => r
  | _, _, _ + 1, .nil => .nil
  | _, _, n + 1, .cons _ t => AtL.drop n t
theorem AtL.take : ∀ {xs : List V} {ds : List D} (n : Nat), AtL K mg B xs ds → AtL K mg B (xs.take n) (ds.take n)
  | _, _, 0, _ => .nil
  | _, _, _ + 1, .nil => .nil
  | _, _, n + 1, .cons r t => .cons r (AtL.take n t)
theorem AtL.set {x : V} {d : D} (r : At K mg B x d) : ∀ {xs : List V} {ds : List D} (i : Nat), AtL K mg B xs ds → AtL K mg B (xs.set i x) (ds.set i d)
  | _, _, _, .nil => .nil
  | _, _, 0, .cons _ t => .cons r t
  | _, _, i + 1, .cons q t => .cons q (AtL.set r i t)
theorem At.int_inv {v : V} {i : Int} (h : At K mg B v (.int i)) : v = .int i := by cases h; rfl
theorem At.bl_inv {v : V} {b : Bool} (h : At K mg B v (.bl b)) : v = .bl b := by cases h; rfl
theorem At.str_inv {v : V} {x : Str} (h : At K mg B v (.str x)) : v = .str x := by cases h; rfl
theorem At.non_inv {v : V} (h : At K mg B v .non) : v = .non := by cases h; rfl
theorem At.tup_inv {v : V} {ds : List D} (h : At K mg B v (.tup ds)) : ∃ a xs, v = .ref a ∧ SqT K B a xs ∧ AtL K mg B xs ds := by
  cases h with | tup h r => exact ⟨_, _, rfl, h, r⟩
theorem At.lst_inv {v : V} {ds : List D} (h : At K mg B v (.lst ds)) : ∃ a xs, v = .ref a ∧ B a = some (.lst xs) ∧ AtL K mg B xs ds := by
  cases h with | lst h r => exact ⟨_, _, rfl, h, r⟩
theorem At.cls_inv {v : V} {c : Str} (h : At K mg B v (.cls c)) : ∃ C, v = .ref C ∧ mg c = some (.ref C) := by
  cases h with | cls h => exact ⟨_, rfl, h⟩
theorem At.scr_inv {v : V} {ns : List Int} (h : At K mg B v (.scr ns)) : ∃ a, v = .ref a ∧ SqL K B a (ns.map V.int) := by
  cases h with | scr h => exact ⟨_, rfl, h⟩
theorem At.obj_inv {v : V} {c : Str} {ns : List Str} {ds : List D} (h : At K mg B v (.obj c ns ds)) : ∃ a C dx fs, v = .ref a ∧ mg c = some (.ref C) ∧ B a = some (.ins C dx fs) ∧ fs.map (·.1) = ns ∧ AtL K mg B (fs.map (·.2)) ds := by
  cases h with | obj h1 h2 h3 r => exact ⟨_, _, _, _, rfl, h1, h2, h3, r⟩
theorem AtL.ints : ∀ {xs : List V} {ns : List Int}, AtL K mg B xs (ns.map D.int) → xs = ns.map V.int
  | [], [], _ => rfl
  | _ :: _, _ :: _, .cons r t => by rw [r.int_inv, AtL.ints t]; rfl
theorem AtL.of_ints : ∀ ns : List Int, AtL K mg B (ns.map V.int) (ns.map D.int)
  | [] => .nil
  | n :: ns => .cons (.int n) (AtL.of_ints ns)
end
/-! ### slots, results -/
/-- what a slot holds: nothing known, a datum, a list of one's own (r: the caller's, handed by reference), an instance of one's own -/
inductive Sl where
  | no | val (d : D) | own (r : Bool) (ds : List D) | oin (r : Bool) (c : Str) (ns : List Str) (ds : List D)
abbrev En := List Sl
def Sl.isOwn : Sl → Bool
  | .own _ _ => true | .oin _ _ _ _ => true | _ => false
def Sl.isRef : Sl → Bool
  | .own r _ => r | .oin r _ _ _ => r | _ => false
inductive Res (α : Type) where
  | ok (a : α) (e : En) | exc (x : D) (e : En) | bad
abbrev M (α : Type) := En → Res α
def Res.wp {α : Type} (r : Res α) (Q : α → En → Prop) (E : D → En → Prop) : Prop := match r with
  | .ok a e => Q a e | .exc x e => E x e | .bad => False
def bd {α β : Type} (m : M α) (f : α → M β) : M β := fun e => match m e with
  | .ok a e' => f a e' | .exc x e' => .exc x e' | .bad => .bad
def pu {α : Type} (a : α) : M α := fun e => .ok a e
def li {α : Type} (o : Option α) : M α := fun e => match o with
  | some a => .ok a e | none => .bad
theorem wp_bd {α β : Type} {m : M α} {f : α → M β} {e : En} {Q : β → En → Prop} {E : D → En → Prop} : (bd m f e).wp Q E ↔ (m e).wp (fun a e' => (f a e').wp Q E) E := by
  unfold bd
  cases m e <;> exact Iff.rfl
theorem Res.wp.imp {α : Type} {r : Res α} {Q Q' : α → En → Prop} {E E' : D → En → Prop} (h : r.wp Q E) (hQ : ∀ a e, Q a e → Q' a e) (hE : ∀ x e, E x e → E' x e) : r.wp Q' E' := by
  cases r with
  | ok a e => exact hQ a e h
  | exc x e => exact hE x e h
  | bad => exact h
theorem wp_li {α : Type} {o : Option α} {e : En} {Q : α → En → Prop} {E : D → En → Prop} (h : (li o e).wp Q E) : ∃ a, o = some a ∧ Q a e := by
  cases o with
  | none => exact h.elim
  | some a => exact ⟨a, rfl, h⟩
/-! ### states -/
/-- the entry of a def: what was known, the heap, the addresses of what is handed by reference, the slots -/
structure Ent where
  B0 : Hp
  H0 : Hp
  R : List Addr
  s0 : St
def OwnA (Z : Ent) (B : Hp) (i : Nat) (r : Bool) (a : Addr) : Prop := B a = none ∧ (r = false → Z.H0 a = none) ∧ (r = true → a ∈ Z.R ∧ Z.s0[i]? = some (some (.ref a)))
def SlAt (K : PySem.W.Frag) (mg : Str → Option Value) (Z : Ent) (B H : Hp) (i : Nat) (o : Option (Option V)) : Sl → Prop
  | .no => True
  | .val d => ∃ v, o = some (some v) ∧ At K mg B v d
  | .own r ds => ∃ a xs, o = some (some (.ref a)) ∧ H a = some (.lst xs) ∧ AtL K mg B xs ds ∧ OwnA Z B i r a
  | .oin r c ns ds => ∃ a C dx fs, o = some (some (.ref a)) ∧ mg c = some (.ref C) ∧ H a = some (.ins C dx fs) ∧ fs.map (·.1) = ns ∧ AtL K mg B (fs.map (·.2)) ds ∧ OwnA Z B i r a
def ownAt (e : En) (i : Nat) : Prop := ∃ s, e[i]? = some s ∧ s.isOwn = true
structure SR (K : PySem.W.Frag) (mg : Str → Option Value) (Z : Ent) (B : Hp) (σ : St) (H : Hp) (e : En) : Prop where
  le : Same Z.B0 B
  bh : Same B H
  fh : ∀ a o, Z.H0 a = some o → a ∉ Z.R → H a = some o
  nb : ∀ a o, B a = some o → Z.B0 a = some o ∨ Z.H0 a = none
  dm : ∀ a o, Z.H0 a = some o → ∃ o', H a = some o'
  ln : σ.length = e.length
  sl : ∀ i s, e[i]? = some s → SlAt K mg Z B H i σ[i]? s
  ds : ∀ i j a, i ≠ j → ownAt e i → ownAt e j → σ[i]? = some (some (.ref a)) → σ[j]? ≠ some (some (.ref a))
/-- no slot of one's own is at p -/
def Free (σ : St) (e : En) (p : Addr) : Prop := ∀ i, ownAt e i → σ[i]? ≠ some (some (.ref p))
section
variable {K : PySem.W.Frag} {mg : Str → Option Value} {Z : Ent} {B B' : Hp} {σ : St} {H H' : Hp} {e e' : En} {p : Addr} {o : HO}
theorem SlAt.mono {i : Nat} {q : Option (Option V)} {s : Sl} (h : SlAt K mg Z B H i q s) (l : Same B B') (hb : ∀ a o, s.isOwn = true → q = some (some (.ref a)) → H a = some o → B a = none → B' a = none ∧ H' a = some o) : SlAt K mg Z B' H' i q s := by
  cases s with
  | no => trivial
  | val d =>
    obtain ⟨v, e, r⟩ := h
    exact ⟨v, e, r.mono l⟩
  | own r ds =>
    obtain ⟨a, xs, e, h1, h2, h3⟩ := h
    obtain ⟨z1, z2⟩ := hb a _ rfl e h1 h3.1
    exact ⟨a, xs, e, z2, h2.mono l, z1, h3.2⟩
  | oin r c ns ds =>
    obtain ⟨a, C, dx, fs, e, h0, h1, h2, h3, h4⟩ := h
    obtain ⟨z1, z2⟩ := hb a _ rfl e h1 h4.1
    exact ⟨a, C, dx, fs, e, h0, z2, h2, h3.mono l, z1, h4.2⟩
theorem SlAt.at_own {i : Nat} {q : Option (Option V)} {s : Sl} (h : SlAt K mg Z B H i q s) (hs : s.isOwn = true) : ∃ a o, q = some (some (.ref a)) ∧ H a = some o ∧ OwnA Z B i s.isRef a := by
  cases s with
  | no => cases hs
  | val d => cases hs
  | own r ds =>
    obtain ⟨a, xs, e, h1, h2, h3⟩ := h
    exact ⟨a, _, e, h1, h3⟩
  | oin r c ns ds =>
    obtain ⟨a, C, dx, fs, e, h0, h1, h2, h3, h4⟩ := h
    exact ⟨a, _, e, h1, h4⟩
/-- a new object is known from now on -/
theorem SR.new (S : SR K mg Z B σ H e) (hp : H p = none) : SR K mg Z (upd B p o) σ (upd H p o) e ∧ Same B (upd B p o) := by
  have hB : B p = none := S.bh.free hp
  have h0 : Z.H0 p = none := by
    cases q : Z.H0 p with
    | none => rfl
    | some u =>
      obtain ⟨o', z⟩ := S.dm p u q
      rw [hp] at z; cases z
  have l : Same B (upd B p o) := fun b u q => by rw [upd_ne (ne_of_none q hB)]; exact q
  refine ⟨⟨S.le.trans l, fun b u q => ?_, fun b u q n => ?_, fun b u q => ?_, fun b u q => ?_, S.ln, fun i s q => (S.sl i s q).mono l fun a u _ _ h1 h2 => ?_, S.ds⟩, l⟩
  · by_cases hb : b = p
    · subst hb; rw [upd_same] at q ⊢; exact q
    · rw [upd_ne hb] at q ⊢; exact S.bh b u q
  · rw [upd_ne (ne_of_none (S.fh b u q n) hp)]; exact S.fh b u q n
  · by_cases hb : b = p
    · subst hb; exact .inr h0
    · rw [upd_ne hb] at q; exact S.nb b u q
  · obtain ⟨o', z⟩ := S.dm b u q
    exact ⟨o', by rw [upd_ne (ne_of_none z hp)]; exact z⟩
  · have ne := ne_of_none h1 hp
    exact ⟨by rw [upd_ne ne]; exact h2, by rw [upd_ne ne]; exact h1⟩
/-- a new object that is not known yet -/
theorem SR.newO (S : SR K mg Z B σ H e) (hp : H p = none) : SR K mg Z B σ (upd H p o) e ∧ B p = none ∧ Z.H0 p = none ∧ Free σ e p := by
  have hB : B p = none := S.bh.free hp
  have h0 : Z.H0 p = none := by
    cases q : Z.H0 p with
    | none => rfl
    | some u =>
      obtain ⟨o', z⟩ := S.dm p u q
      rw [hp] at z; cases z
  refine ⟨⟨S.le, fun b u q => ?_, fun b u q n => ?_, S.nb, fun b u q => ?_, S.ln, fun i s q => (S.sl i s q).mono (Same.refl B) fun a u _ _ h1 h2 => ?_, S.ds⟩, hB, h0, fun i ⟨s, q, hs⟩ z => ?_⟩
  · rw [upd_ne (ne_of_none (S.bh b u q) hp)]; exact S.bh b u q
  · rw [upd_ne (ne_of_none (S.fh b u q n) hp)]; exact S.fh b u q n
  · obtain ⟨o', z⟩ := S.dm b u q
    exact ⟨o', by rw [upd_ne (ne_of_none z hp)]; exact z⟩
  · exact ⟨h2, by rw [upd_ne (ne_of_none h1 hp)]; exact h1⟩
  · obtain ⟨a, u, e1, h1, _⟩ := (S.sl i s q).at_own hs
    rw [z] at e1
    cases e1
    rw [hp] at h1; cases h1
/-- what stands is known from now on -/
theorem SR.freeze (S : SR K mg Z B σ H e) (hp : H p = some o) (hB : B p = none) (h0 : Z.H0 p = none) (hf : Free σ e p) : SR K mg Z (upd B p o) σ H e ∧ Same B (upd B p o) := by
  have l : Same B (upd B p o) := fun b u q => by rw [upd_ne (ne_of_none q hB)]; exact q
  refine ⟨⟨S.le.trans l, fun b u q => ?_, S.fh, fun b u q => ?_, S.dm, S.ln, fun i s q => (S.sl i s q).mono l fun a u hs e1 h1 h2 => ?_, S.ds⟩, l⟩
  · by_cases hb : b = p
    · subst hb; rw [upd_same] at q; cases q; exact hp
    · rw [upd_ne hb] at q; exact S.bh b u q
  · by_cases hb : b = p
    · subst hb; exact .inr h0
    · rw [upd_ne hb] at q; exact S.nb b u q
  · have ne : a ≠ p := fun z => hf i ⟨s, q, hs⟩ (by rw [e1, z])
    exact ⟨by rw [upd_ne ne]; exact h2, h1⟩
theorem ownAt_set {i j : Nat} {s : Sl} (h : ownAt (e.set i s) j) : (j = i ∧ s.isOwn = true) ∨ (j ≠ i ∧ ownAt e j) := by
  obtain ⟨s', q, hs⟩ := h
  by_cases hj : j = i
  · subst hj
    rw [List.getElem?_set] at q
    simp at q
    obtain ⟨_, rfl⟩ := q
    exact .inl ⟨rfl, hs⟩
  · rw [List.getElem?_set_ne (Ne.symm hj)] at q
    exact .inr ⟨hj, s', q, hs⟩
/-- a slot is stored: a datum -/
theorem SR.set {i : Nat} {v : V} {d : D} (S : SR K mg Z B σ H e) (r : At K mg B v d) : SR K mg Z B (σ.set i (some v)) H (e.set i (.val d)) := by
  refine ⟨S.le, S.bh, S.fh, S.nb, S.dm, by simp [S.ln], fun j s q => ?_, fun j k a hjk hj hk e1 => ?_⟩
  · by_cases hj : j = i
    · subst hj
      rw [List.getElem?_set] at q ⊢
      simp only [if_true] at q ⊢
      split at q
      · cases q
        rename_i hlt
        rw [if_pos (by rw [S.ln]; exact hlt)]
        exact ⟨v, rfl, r⟩
      · cases q
    · rw [List.getElem?_set_ne (Ne.symm hj)] at q ⊢
      exact S.sl j s q
  · rcases ownAt_set hj with ⟨_, z⟩ | ⟨n1, hj'⟩
    · cases z
    · rcases ownAt_set hk with ⟨_, z⟩ | ⟨n2, hk'⟩
      · cases z
      · rw [List.getElem?_set_ne (Ne.symm n1)] at e1
        rw [List.getElem?_set_ne (Ne.symm n2)]
        exact S.ds j k a hjk hj' hk' e1
/-- a slot is stored: something new of one's own at p -/
theorem SR.setO {i : Nat} {s : Sl} (S : SR K mg Z B σ H e) (hf : Free σ e p) (hs : i < e.length → SlAt K mg Z B H i (some (some (.ref p))) s) : SR K mg Z B (σ.set i (some (.ref p))) H (e.set i s) := by
  refine ⟨S.le, S.bh, S.fh, S.nb, S.dm, by simp [S.ln], fun j s' q => ?_, fun j k a hjk hj hk e1 => ?_⟩
  · by_cases hj : j = i
    · subst hj
      rw [List.getElem?_set] at q ⊢
      simp only [if_true] at q ⊢
      split at q
      · cases q
        rename_i hlt
        rw [if_pos (by rw [S.ln]; exact hlt)]
        exact hs hlt
      · cases q
    · rw [List.getElem?_set_ne (Ne.symm hj)] at q ⊢
      exact S.sl j s' q
  · rcases ownAt_set hj with ⟨z1, _⟩ | ⟨n1, hj'⟩
    · subst z1
      rcases ownAt_set hk with ⟨z2, _⟩ | ⟨n2, hk'⟩
      · exact absurd z2.symm hjk
      · rw [List.getElem?_set] at e1
        simp only [if_true] at e1
        split at e1
        · cases e1
          rw [List.getElem?_set_ne (Ne.symm n2)]
          exact hf k hk'
        · cases e1
    · rw [List.getElem?_set_ne (Ne.symm n1)] at e1
      rcases ownAt_set hk with ⟨z2, _⟩ | ⟨n2, hk'⟩
      · subst z2
        rw [List.getElem?_set]
        simp only [if_true]
        split
        · intro z
          cases z
          exact hf j hj' e1
        · intro z; cases z
      · rw [List.getElem?_set_ne (Ne.symm n2)]
        exact S.ds j k a hjk hj' hk' e1
/-- what a slot holds is told less -/
theorem SR.weak {i : Nat} {s : Sl} (S : SR K mg Z B σ H e) (hs : i < e.length → SlAt K mg Z B H i σ[i]? s) (ho : s.isOwn = true → ownAt e i) : SR K mg Z B σ H (e.set i s) := by
  refine ⟨S.le, S.bh, S.fh, S.nb, S.dm, by simp [S.ln], fun j s' q => ?_, fun j k a hjk hj hk e1 => ?_⟩
  · by_cases hj : j = i
    · subst hj
      rw [List.getElem?_set] at q
      simp only [if_true] at q
      split at q
      · cases q
        rename_i hlt
        exact hs hlt
      · cases q
    · rw [List.getElem?_set_ne (Ne.symm hj)] at q
      exact S.sl j s' q
  · have z1 : ownAt e j := (ownAt_set hj).elim (fun z => z.1 ▸ ho z.2) fun z => z.2
    have z2 : ownAt e k := (ownAt_set hk).elim (fun z => z.1 ▸ ho z.2) fun z => z.2
    exact S.ds j k a hjk z1 z2 e1
/-- an object of one's own is written -/
theorem SR.write {i : Nat} {s : Sl} {a : Addr} {o : HO} (S : SR K mg Z B σ H e) (hi : ownAt e i) (ha : σ[i]? = some (some (.ref a))) (hs : SlAt K mg Z B (upd H a o) i σ[i]? s) (ho : s.isOwn = true) : SR K mg Z B σ (upd H a o) (e.set i s) := by
  obtain ⟨s0, q0, hs0⟩ := hi
  obtain ⟨a', o', e1, h1, hB, hr, hr'⟩ := (S.sl i s0 q0).at_own hs0
  rw [ha] at e1
  cases e1
  refine ⟨S.le, fun b u q => ?_, fun b u q n => ?_, S.nb, fun b u q => ?_, by simp [S.ln], fun j s' q => ?_, fun j k b hjk hj hk e2 => ?_⟩
  · rw [upd_ne (ne_of_none q hB)]; exact S.bh b u q
  · have ne : b ≠ a := fun z => by
      subst z
      cases hrf : s0.isRef with
      | false => rw [hr hrf] at q; cases q
      | true => exact n (hr' hrf).1
    rw [upd_ne ne]; exact S.fh b u q n
  · by_cases hb : b = a
    · subst hb; exact ⟨o, upd_same⟩
    · obtain ⟨o', z⟩ := S.dm b u q
      exact ⟨o', by rw [upd_ne hb]; exact z⟩
  · by_cases hj : j = i
    · subst hj
      rw [List.getElem?_set] at q
      simp only [if_true] at q
      split at q
      · cases q; exact hs
      · cases q
    · rw [List.getElem?_set_ne (Ne.symm hj)] at q
      refine (S.sl j s' q).mono (Same.refl B) fun b u hs' e2 h2 h3 => ⟨h3, ?_⟩
      have ne : b ≠ a := fun z => by
        subst z
        exact S.ds i j b (Ne.symm hj) ⟨s0, q0, hs0⟩ ⟨s', q, hs'⟩ ha e2
      rw [upd_ne ne]; exact h2
  · have z1 : ownAt e j := (ownAt_set hj).elim (fun z => z.1 ▸ ⟨s0, q0, hs0⟩) fun z => z.2
    have z2 : ownAt e k := (ownAt_set hk).elim (fun z => z.1 ▸ ⟨s0, q0, hs0⟩) fun z => z.2
    exact S.ds j k b hjk z1 z2 e2
end
/-! ### judgements -/
/-- an exception that carries one field -/
def XAt (K : PySem.W.Frag) (mg : Str → Option Value) (B H : Hp) (x : D) (cls : Value) (dd : Option Addr) : Prop :=
  ∃ c n d C a v, x = .obj c [n] [d] ∧ mg c = some (.ref C) ∧ cls = .ref C ∧ dd = some a ∧ B a = some (.xd [(n, v)]) ∧ At K mg B v d
def PV (K : PySem.W.Frag) (mg : Str → Option Value) (Z : Ent) (B : Hp) (σ : St) (Q : VK) : D → En → Prop := fun d e' => ∀ v B' H', SR K mg Z B' σ H' e' → Same B B' → At K mg B' v d → Q v H'
def PX (K : PySem.W.Frag) (mg : Str → Option Value) (Z : Ent) (B : Hp) (σ : St) (W : WX) : D → En → Prop := fun x e' => ∀ cls dd B' H', SR K mg Z B' σ H' e' → Same B B' → XAt K mg B' H' x cls dd → W cls dd σ H'
def PB (K : PySem.W.Frag) (mg : Str → Option Value) (Z : Ent) (B : Hp) (σ : St) (Q : Bool → Hp → Prop) : Bool → En → Prop := fun b e' => ∀ B' H', SR K mg Z B' σ H' e' → Same B B' → Q b H'
def PL (K : PySem.W.Frag) (mg : Str → Option Value) (Z : Ent) (B : Hp) (σ : St) (Q : List V → Hp → Prop) : List D → En → Prop := fun ds e' => ∀ vs B' H', SR K mg Z B' σ H' e' → Same B B' → AtL K mg B' vs ds → Q vs H'
/-- a new list, not known yet -/
def PN (K : PySem.W.Frag) (mg : Str → Option Value) (Z : Ent) (B : Hp) (σ : St) (Q : VK) : List D → En → Prop := fun ds e' => ∀ p xs B' H', SR K mg Z B' σ H' e' → Same B B' → H' p = some (.lst xs) → AtL K mg B' xs ds → B' p = none → Z.H0 p = none → Free σ e' p → Q (.ref p) H'
inductive Fl where
  | nx | rt (d : D) | bk | ct | rn (ds : List D)
def PF (K : PySem.W.Frag) (mg : Str → Option Value) (Z : Ent) (B : Hp) (Y : Ends) : Fl → En → Prop := fun f e' => match f with
  | .nx => ∀ σ' B' H', SR K mg Z B' σ' H' e' → Same B B' → Y.nx σ' H'
  | .rt d => ∀ v σ' B' H', SR K mg Z B' σ' H' e' → Same B B' → At K mg B' v d → Y.rt v H'
  | .bk => ∀ σ' B' H', SR K mg Z B' σ' H' e' → Same B B' → Y.bk σ' H'
  | .ct => ∀ σ' B' H', SR K mg Z B' σ' H' e' → Same B B' → Y.ct σ' H'
  | .rn ds => ∀ p xs σ' B' H', SR K mg Z B' σ' H' e' → Same B B' → H' p = some (.lst xs) → AtL K mg B' xs ds → B' p = none → Z.H0 p = none → Free σ' e' p → Y.rt (.ref p) H'
def PXs (K : PySem.W.Frag) (mg : Str → Option Value) (Z : Ent) (B : Hp) (W : WX) : D → En → Prop := fun x e' => ∀ cls dd σ' B' H', SR K mg Z B' σ' H' e' → Same B B' → XAt K mg B' H' x cls dd → W cls dd σ' H'
def EvD (K : PySem.W.Frag) (mg : Str → Option Value) (W : WX) (te : TE) (f : M D) : Prop := ∀ Z B σ H e (Q : VK), SR K mg Z B σ H e → (f e).wp (PV K mg Z B σ Q) (PX K mg Z B σ W) → te σ H Q
def EvB (K : PySem.W.Frag) (mg : Str → Option Value) (W : WX) (tt : TT) (f : M Bool) : Prop := ∀ Z B σ H e (Q : Bool → Hp → Prop), SR K mg Z B σ H e → (f e).wp (PB K mg Z B σ Q) (PX K mg Z B σ W) → tt σ H Q
def EvL (K : PySem.W.Frag) (mg : Str → Option Value) (W : WX) (ta : TA) (f : M (List D)) : Prop := ∀ Z B σ H e (Q : List V → Hp → Prop), SR K mg Z B σ H e → (f e).wp (PL K mg Z B σ Q) (PX K mg Z B σ W) → ta σ H Q
def EvN (K : PySem.W.Frag) (mg : Str → Option Value) (W : WX) (te : TE) (f : M (List D)) : Prop := ∀ Z B σ H e (Q : VK), SR K mg Z B σ H e → (f e).wp (PN K mg Z B σ Q) (PX K mg Z B σ W) → te σ H Q
def EvS (K : PySem.W.Frag) (mg : Str → Option Value) (W : WX) (ts : TS) (f : M Fl) : Prop := ∀ Z B σ H e (Y : Ends), SR K mg Z B σ H e → (f e).wp (PF K mg Z B Y) (PXs K mg Z B W) → ts Y σ H
def PED (X : Cx) (W : WX) (a : Expr) (f : M D) : Prop := ∃ te, PE X a te ∧ EvD X.K X.mg W te f
def PBD (X : Cx) (W : WX) (a : Expr) (f : M Bool) : Prop := ∃ tt, PT X a tt ∧ EvB X.K X.mg W tt f
def PAD (X : Cx) (W : WX) (as : List Expr) (f : M (List D)) : Prop := ∃ ta, PA X as ta ∧ EvL X.K X.mg W ta f
def PND (X : Cx) (W : WX) (a : Expr) (f : M (List D)) : Prop := ∃ te, PE X a te ∧ EvN X.K X.mg W te f
def PSD (X : Cx) (W : WX) (st : Stmt) (f : M Fl) : Prop := ∃ ts, PS X st ts ∧ EvS X.K X.mg W ts f
def PSsD (X : Cx) (W : WX) (st : List Stmt) (f : M Fl) : Prop := ∃ ts, PSs X st ts ∧ EvS X.K X.mg W ts f
section
variable {K : PySem.W.Frag} {mg : Str → Option Value} {Z : Ent} {B B1 : Hp} {σ : St} {W : WX}
theorem PV.up {Q : VK} {d : D} {e : En} (l : Same B B1) (h : PV K mg Z B σ Q d e) : PV K mg Z B1 σ Q d e := fun v B' H' S l' a => h v B' H' S (l.trans l') a
theorem PX.up {d : D} {e : En} (l : Same B B1) (h : PX K mg Z B σ W d e) : PX K mg Z B1 σ W d e := fun c dd B' H' S l' a => h c dd B' H' S (l.trans l') a
theorem PB.up {Q : Bool → Hp → Prop} {d : Bool} {e : En} (l : Same B B1) (h : PB K mg Z B σ Q d e) : PB K mg Z B1 σ Q d e := fun B' H' S l' => h B' H' S (l.trans l')
theorem PL.up {Q : List V → Hp → Prop} {d : List D} {e : En} (l : Same B B1) (h : PL K mg Z B σ Q d e) : PL K mg Z B1 σ Q d e := fun v B' H' S l' a => h v B' H' S (l.trans l') a
theorem PN.up {Q : VK} {d : List D} {e : En} (l : Same B B1) (h : PN K mg Z B σ Q d e) : PN K mg Z B1 σ Q d e := fun p xs B' H' S l' a => h p xs B' H' S (l.trans l') a
theorem PF.up {Y : Ends} {f : Fl} {e : En} (l : Same B B1) (h : PF K mg Z B Y f e) : PF K mg Z B1 Y f e := by
  cases f with
  | nx => exact fun σ' B' H' S l' => h σ' B' H' S (l.trans l')
  | rt d => exact fun v σ' B' H' S l' a => h v σ' B' H' S (l.trans l') a
  | bk => exact fun σ' B' H' S l' => h σ' B' H' S (l.trans l')
  | ct => exact fun σ' B' H' S l' => h σ' B' H' S (l.trans l')
  | rn ds => exact fun p xs σ' B' H' S l' a1 a2 a3 a4 a5 => h p xs σ' B' H' S (l.trans l') a1 a2 a3 a4 a5
theorem PXs.up {x : D} {e : En} (l : Same B B1) (h : PXs K mg Z B W x e) : PXs K mg Z B1 W x e := fun c dd σ' B' H' S l' a => h c dd σ' B' H' S (l.trans l') a
theorem PXs.at {x : D} {e : En} (h : PXs K mg Z B W x e) : PX K mg Z B σ W x e := fun c dd B' H' S l' a => h c dd σ B' H' S l' a
theorem upV {r : Res D} {Q : VK} (l : Same B B1) (h : r.wp (PV K mg Z B σ Q) (PX K mg Z B σ W)) : r.wp (PV K mg Z B1 σ Q) (PX K mg Z B1 σ W) := h.imp (fun _ _ => PV.up l) fun _ _ => PX.up l
theorem upB {r : Res Bool} {Q : Bool → Hp → Prop} (l : Same B B1) (h : r.wp (PB K mg Z B σ Q) (PX K mg Z B σ W)) : r.wp (PB K mg Z B1 σ Q) (PX K mg Z B1 σ W) := h.imp (fun _ _ => PB.up l) fun _ _ => PX.up l
theorem upN {r : Res (List D)} {Q : VK} (l : Same B B1) (h : r.wp (PN K mg Z B σ Q) (PX K mg Z B σ W)) : r.wp (PN K mg Z B1 σ Q) (PX K mg Z B1 σ W) := h.imp (fun _ _ => PN.up l) fun _ _ => PX.up l
theorem upF {r : Res Fl} {Y : Ends} (l : Same B B1) (h : r.wp (PF K mg Z B Y) (PXs K mg Z B W)) : r.wp (PF K mg Z B1 Y) (PXs K mg Z B1 W) := h.imp (fun _ _ => PF.up l) fun _ _ => PXs.up l
/-! ### the simplest rules -/
variable {ta tb te : TE} {fa fb : M D}
theorem EvD.then {α : Type} {P : α → En → Prop} {E : D → En → Prop} {g : D → M α} (ha : EvD K mg W ta fa) {H : Hp} {e : En} {Q : VK} (S : SR K mg Z B σ H e) (h : (bd fa g e).wp P E) (hE : ∀ x e', E x e' → PX K mg Z B σ W x e')
    (k : ∀ d e' v B' H', SR K mg Z B' σ H' e' → Same B B' → At K mg B' v d → (g d e').wp P E → Q v H') : ta σ H Q := by
  refine ha Z B σ H e Q S ((wp_bd.mp h).imp (fun d e' q v B' H' S' l a => k d e' v B' H' S' l a q) fun x e' q => hE x e' q)
theorem EvB.then {α : Type} {P : α → En → Prop} {E : D → En → Prop} {tt : TT} {fa : M Bool} {g : Bool → M α} (ha : EvB K mg W tt fa) {H : Hp} {e : En} {Q : Bool → Hp → Prop} (S : SR K mg Z B σ H e) (h : (bd fa g e).wp P E) (hE : ∀ x e', E x e' → PX K mg Z B σ W x e')
    (k : ∀ d e' B' H', SR K mg Z B' σ H' e' → Same B B' → (g d e').wp P E → Q d H') : tt σ H Q := by
  refine ha Z B σ H e Q S ((wp_bd.mp h).imp (fun d e' q B' H' S' l => k d e' B' H' S' l q) fun x e' q => hE x e' q)
theorem EvL.then {α : Type} {P : α → En → Prop} {E : D → En → Prop} {tt : TA} {fa : M (List D)} {g : List D → M α} (ha : EvL K mg W tt fa) {H : Hp} {e : En} {Q : List V → Hp → Prop} (S : SR K mg Z B σ H e) (h : (bd fa g e).wp P E) (hE : ∀ x e', E x e' → PX K mg Z B σ W x e')
    (k : ∀ d e' v B' H', SR K mg Z B' σ H' e' → Same B B' → AtL K mg B' v d → (g d e').wp P E → Q v H') : tt σ H Q := by
  refine ha Z B σ H e Q S ((wp_bd.mp h).imp (fun d e' q v B' H' S' l a => k d e' v B' H' S' l a q) fun x e' q => hE x e' q)
theorem EvN.then {α : Type} {P : α → En → Prop} {E : D → En → Prop} {fa : M (List D)} {g : List D → M α} (ha : EvN K mg W ta fa) {H : Hp} {e : En} {Q : VK} (S : SR K mg Z B σ H e) (h : (bd fa g e).wp P E) (hE : ∀ x e', E x e' → PX K mg Z B σ W x e')
    (k : ∀ d e' p xs B' H', SR K mg Z B' σ H' e' → Same B B' → H' p = some (.lst xs) → AtL K mg B' xs d → B' p = none → Z.H0 p = none → Free σ e' p → (g d e').wp P E → Q (.ref p) H') : ta σ H Q := by
  refine ha Z B σ H e Q S ((wp_bd.mp h).imp (fun d e' q p xs B' H' S' l a1 a2 a3 a4 a5 => k d e' p xs B' H' S' l a1 a2 a3 a4 a5 q) fun x e' q => hE x e' q)
end
end Dl
set_option maxHeartbeats 1000000
/-! Layer D, part 1: expressions. -/
namespace Dl
open PySem PySem.Spec PyProof.Rows L2
def orM {α : Type} (a b : M α) : M α := fun e => match a e with
  | .bad => b e | r => r
theorem wp_or {α : Type} {a b : M α} {e : En} {Q : α → En → Prop} {E : D → En → Prop} (h : (orM a b e).wp Q E) : (a e).wp Q E ∨ (b e).wp Q E := by
  unfold orM at h
  cases q : a e with
  | ok x e' => rw [q] at h; exact .inl h
  | exc x e' => rw [q] at h; exact .inl h
  | bad => rw [q] at h; exact .inr h
def OpD (K : PySem.W.Frag) (mg : Str → Option Value) (W : WX) (r : R2) (o : D → D → M D) : Prop := ∀ Z B σ H e x y a b (Q : VK), SR K mg Z B σ H e → At K mg B x a → At K mg B y b → (o a b e).wp (PV K mg Z B σ Q) (PX K mg Z B σ W) → r x y H Q
def ClD (K : PySem.W.Frag) (mg : Str → Option Value) (W : WX) (r : List V → Hp → VK → Prop) (o : List D → M D) : Prop := ∀ Z B σ H e xs as (Q : VK), SR K mg Z B σ H e → AtL K mg B xs as → (o as e).wp (PV K mg Z B σ Q) (PX K mg Z B σ W) → r xs H Q
theorem OpD.or {K : PySem.W.Frag} {mg : Str → Option Value} {W : WX} {r r' : R2} {o o' : D → D → M D} (h : OpD K mg W r o) (h' : OpD K mg W r' o') : OpD K mg W (fun x y H Q => r x y H Q ∨ r' x y H Q) (fun a b => orM (o a b) (o' a b)) :=
  fun Z B σ H e x y a b Q S ha hb q => (wp_or q).elim (fun q => .inl (h Z B σ H e x y a b Q S ha hb q)) fun q => .inr (h' Z B σ H e x y a b Q S ha hb q)
theorem ClD.or {K : PySem.W.Frag} {mg : Str → Option Value} {W : WX} {r r' : List V → Hp → VK → Prop} {o o' : List D → M D} (h : ClD K mg W r o) (h' : ClD K mg W r' o') : ClD K mg W (fun x H Q => r x H Q ∨ r' x H Q) (fun a => orM (o a) (o' a)) :=
  fun Z B σ H e x a Q S ha q => (wp_or q).elim (fun q => .inl (h Z B σ H e x a Q S ha q)) fun q => .inr (h' Z B σ H e x a Q S ha q)
/-! ### ints -/
def opI (c : Int → Int → Bool) (g : Int → Int → D) : D → D → M D := fun a b => li (match a, b with
  | .int i, .int j => if c i j = true then some (g i j) else none
  | _, _ => none)
def dAdd : D → D → M D := opI (fun _ _ => true) fun i j => .int (i + j)
def dSub : D → D → M D := opI (fun _ _ => true) fun i j => .int (i - j)
def cMul (i j : Int) : Bool := decide ((-(2 ^ 64) < i ∧ i < 2 ^ 64) ∨ (-(2 ^ 64) < j ∧ j < 2 ^ 64)) || decide (i.natAbs.log2 + j.natAbs.log2 < 1000000)
def dMul : D → D → M D := opI cMul fun i j => .int (i * j)
def dMod : D → D → M D := opI (fun _ j => decide (0 < j)) fun i j => .int (i % j)
def dDiv : D → D → M D := opI (fun _ j => decide (0 < j ∧ j.natAbs.log2 < 9000)) fun i j => .int (i / j)
def dPow : D → D → M D := opI (fun i j => decide (0 ≤ j ∧ j ≤ 1000000 ∧ i.natAbs < 2 ^ 64)) fun i j => .int (i ^ j.toNat)
def dLt : D → D → M D := opI (fun _ _ => true) fun i j => .bl (decide (i < j))
def dLe : D → D → M D := opI (fun _ _ => true) fun i j => .bl (decide (i ≤ j))
def dGt : D → D → M D := opI (fun _ _ => true) fun i j => .bl (decide (j < i))
def dGe : D → D → M D := opI (fun _ _ => true) fun i j => .bl (decide (j ≤ i))
section
variable {K : PySem.W.Frag} {mg : Str → Option Value} {W : WX}
theorem opI_wp {c : Int → Int → Bool} {g : Int → Int → D} {a b : D} {e : En} {Q : D → En → Prop} {E : D → En → Prop} (h : (opI c g a b e).wp Q E) : ∃ i j, a = .int i ∧ b = .int j ∧ c i j = true ∧ Q (g i j) e := by
  obtain ⟨d, h1, h2⟩ := wp_li h
  cases a with
  | int i =>
    cases b with
    | int j =>
      have h1 : (if c i j = true then some (g i j) else none) = some d := h1
      split at h1
      · cases h1; exact ⟨i, j, rfl, rfl, by assumption, h2⟩
      · cases h1
    | _ => cases h1
  | _ => cases h1
theorem opD_I {C : Int → Int → Prop} {g : Int → Int → V} {gd : Int → Int → D} {c : Int → Int → Bool} (hc : ∀ i j, c i j = true → C i j) (hg : ∀ B i j, At K mg B (g i j) (gd i j)) : OpD K mg W (rI C g) (opI c gd) := by
  intro Z B σ H e x y a b Q S ha hb q
  obtain ⟨i, j, rfl, rfl, h1, h2⟩ := opI_wp q
  exact ⟨i, j, ha.int_inv, hb.int_inv, hc i j h1, h2 _ B H S (Same.refl B) (hg B i j)⟩
theorem opD_I0 {g : Int → Int → V} {gd : Int → Int → D} {c : Int → Int → Bool} (hg : ∀ B i j, At K mg B (g i j) (gd i j)) : OpD K mg W (rI0 g) (opI c gd) := by
  intro Z B σ H e x y a b Q S ha hb q
  obtain ⟨i, j, rfl, rfl, h1, h2⟩ := opI_wp q
  exact ⟨i, j, ha.int_inv, hb.int_inv, h2 _ B H S (Same.refl B) (hg B i j)⟩
theorem od_add : OpD K mg W (rI0 fun i j => .int (i + j)) dAdd := opD_I0 fun _ _ _ => .int _
theorem od_sub : OpD K mg W (rI0 fun i j => .int (i - j)) dSub := opD_I0 fun _ _ _ => .int _
theorem od_mod : OpD K mg W (rI (fun _ j => 0 < j) fun i j => .int (i % j)) dMod := opD_I (fun _ _ h => of_decide_eq_true h) fun _ _ _ => .int _
theorem od_div : OpD K mg W (rI CDivW fun i j => .int (i / j)) dDiv := opD_I (fun _ j h => (of_decide_eq_true h : 0 < j ∧ j.natAbs.log2 < 9000)) fun _ _ _ => .int _
theorem od_pow : OpD K mg W (rI CPow fun i j => .int (i ^ j.toNat)) dPow := opD_I (fun i j h => (of_decide_eq_true h : 0 ≤ j ∧ j ≤ 1000000 ∧ i.natAbs < 2 ^ 64)) fun _ _ _ => .int _
theorem od_lt : OpD K mg W (rI0 fun i j => .bl (decide (i < j))) dLt := opD_I0 fun _ _ _ => .bl _
theorem od_le : OpD K mg W (rI0 fun i j => .bl (decide (i ≤ j))) dLe := opD_I0 fun _ _ _ => .bl _
theorem od_gt : OpD K mg W (rI0 fun i j => .bl (decide (j < i))) dGt := opD_I0 fun _ _ _ => .bl _
theorem od_ge : OpD K mg W (rI0 fun i j => .bl (decide (j ≤ i))) dGe := opD_I0 fun _ _ _ => .bl _
def CMulU (i j : Int) : Prop := CMul i j ∨ CMulW i j
theorem od_mul : OpD K mg W (rI CMulU fun i j => .int (i * j)) dMul := opD_I (fun i j h => by
  unfold cMul at h
  rcases Bool.or_eq_true _ _ ▸ h with h | h
  · exact Or.inl (of_decide_eq_true h : (-(2 ^ 64) < i ∧ i < 2 ^ 64) ∨ (-(2 ^ 64) < j ∧ j < 2 ^ 64))
  · exact Or.inr (of_decide_eq_true h : i.natAbs.log2 + j.natAbs.log2 < 1000000)) fun _ _ _ => .int _
end
theorem op_mulU {X : Cx} : OpR X (binaryOp .Mult) (rI CMulU fun i j => .int (i * j)) := L2.opI fun i j _ _ _ _ _ hc q => mul_int q (Or.elim (show CMul i j ∨ CMulW i j from hc) (fun h => h.ok) fun h => h.ok)
/-! ### lists and tuples -/
def dCatL : D → D → M D := fun a b => li (match a, b with
  | .lst xs, .lst ys => if xs.length + ys.length ≤ 16777216 then some (.lst (xs ++ ys)) else none
  | _, _ => none)
section
variable {K : PySem.W.Frag} {mg : Str → Option Value} {W : WX}
theorem AtL.reps {B : Hp} {xs : List V} {ds : List D} (h : AtL K mg B xs ds) : ∀ n : Nat, AtL K mg B (List.replicate n xs).flatten (List.replicate n ds).flatten
  | 0 => .nil
  | n + 1 => by
    rw [List.replicate_succ, List.replicate_succ, List.flatten_cons, List.flatten_cons]
    exact h.app (AtL.reps h n)
theorem sz {n : Nat} (h : n ≤ 16777216) : n ≤ sizeLine := by rw [sizeLine_eq]; exact h
theorem od_catL : OpD K mg W rCat dCatL := by
  intro Z B σ H e x y a b Q S ha hb q
  obtain ⟨d, h1, h2⟩ := wp_li q
  cases a with
  | lst as =>
    cases b with
    | lst bs =>
      have h1 : (if as.length + bs.length ≤ 16777216 then some (D.lst (as ++ bs)) else none) = some d := h1
      split at h1
      · cases h1
        obtain ⟨p, xs, rfl, e1, r1⟩ := ha.lst_inv
        obtain ⟨p2, ys, rfl, e2, r2⟩ := hb.lst_inv
        refine ⟨p, p2, xs, ys, rfl, rfl, S.bh _ _ e1, S.bh _ _ e2, sz (by rw [r1.length, r2.length]; assumption), fun q hq => ?_⟩
        obtain ⟨S', l⟩ := S.new (o := .lst (xs ++ ys)) hq
        exact h2 _ _ _ S' l (.lst upd_same ((r1.mono l).app (r2.mono l)))
      · cases h1
    | _ => cases h1
  | _ => cases h1
end
/-! ### names, constants, operators -/
def fVar (i : Nat) : M D := fun e => match e[i]? with
  | some (.val d) => .ok d e | _ => .bad
def fC (d : D) : M D := fun e => .ok d e
def f2 (o : D → D → M D) (fa fb : M D) : M D := bd fa fun a => bd fb fun b => o a b
def fB (fa : M D) : M Bool := bd fa fun d => li (match d with
  | .bl b => some b | _ => none)
def fNot (fa : M Bool) : M Bool := bd fa fun b => pu (!b)
def fAnd (fa fb : M Bool) : M Bool := bd fa fun b => if b = true then fb else pu false
def fOr (fa fb : M Bool) : M Bool := bd fa fun b => if b = true then pu true else fb
def fBl (fa : M Bool) : M D := bd fa fun b => pu (.bl b)
def fIf {α : Type} (c : M Bool) (fa fb : M α) : M α := bd c fun b => if b = true then fa else fb
section
variable {X : Cx} {W : WX} {a b : Expr} {fa fb : M D} {ga gb : M Bool} {pos : Pos}
theorem ped_var (i : Nat) {x : Str} (hN : X.N[i]? = some x := by rfl) (hv : Vis X.env.scope x := by first | exact Or.inl rfl | exact Or.inr (Or.inl rfl) | exact Or.inr (Or.inr rfl)) (hd : (x == ("__debug__" : Str)) = false := by decide)
    (hcd : (x == ("__classdict__" : Str)) = false := by decide) : PED X W (.Name x pos) (fVar i) := by
  refine ⟨_, pe_var hN hv hd hcd, fun Z B σ H e Q S h => ?_⟩
  unfold fVar at h
  cases q : e[i]? with
  | none => rw [q] at h; exact False.elim h
  | some s =>
    rw [q] at h
    cases s with
    | val d =>
      obtain ⟨v, ev, r⟩ := S.sl i _ q
      exact ⟨v, ev, h v B H S (Same.refl B) r⟩
    | _ => exact False.elim h
theorem ped_c {v : V} {d : D} (h : PE X a (tC v)) (r : ∀ B, At X.K X.mg B v d) : PED X W a (fC d) := ⟨_, h, fun Z B σ H e Q S q => q v B H S (Same.refl B) (r B)⟩
theorem ped_int {i j pos} : PED X W (.Constant (.int i) j pos) (fC (.int i)) := ped_c pe_int fun _ => .int _
theorem ped_bl {b j pos} : PED X W (.Constant (.bool b) j pos) (fC (.bl b)) := ped_c pe_bl fun _ => .bl _
theorem ped_str {x j pos} : PED X W (.Constant (.str x) j pos) (fC (.str x)) := ped_c pe_str fun _ => .str _
theorem evD_op {K : PySem.W.Frag} {mg : Str → Option Value} {ta tb : TE} {r : R2} {o : D → D → M D} (ea : EvD K mg W ta fa) (eb : EvD K mg W tb fb) (hd : OpD K mg W r o) : EvD K mg W (tOp r ta tb) (f2 o fa fb) := by
  intro Z B σ H e Q S h
  refine ea.then S h (fun x e' q => q) fun d e1 v B1 H1 S1 l1 a1 h1 => ?_
  refine eb.then S1 h1 (fun x e' q => PX.up l1 q) fun d2 e2 v2 B2 H2 S2 l2 a2 h2 => ?_
  exact hd Z B2 σ H2 e2 v v2 d d2 Q S2 (a1.mono l2) a2 (upV (l1.trans l2) h2)
theorem ped_op {op : Operator} {r : R2} {o : D → D → M D} (ho : OpR X (binaryOp op) r) (hd : OpD X.K X.mg W r o) (ha : PED X W a fa) (hb : PED X W b fb) : PED X W (.BinOp a op b pos) (f2 o fa fb) := by
  obtain ⟨ta, pa, ea⟩ := ha
  obtain ⟨tb, pb, eb⟩ := hb
  exact ⟨_, pe_op ho pa pb, evD_op ea eb hd⟩
theorem ped_un {op : UnaryOp} {r : V → Hp → VK → Prop} {o : D → M D} (ho : UnR X (unaryOp op) r) (hd : ∀ Z B σ H e x d (Q : VK), SR X.K X.mg Z B σ H e → At X.K X.mg B x d → (o d e).wp (PV X.K X.mg Z B σ Q) (PX X.K X.mg Z B σ W) → r x H Q) (ha : PED X W a fa) : PED X W (.UnaryOp op a pos) (bd fa o) := by
  obtain ⟨ta, pa, ea⟩ := ha
  refine ⟨_, pe_un ho pa, fun Z B σ H e Q S h => ?_⟩
  refine ea.then S h (fun x e' q => q) fun d e1 v B1 H1 S1 l1 a1 h1 => ?_
  exact hd Z B1 σ H1 e1 v d Q S1 a1 (upV l1 h1)
def dNeg : D → M D := fun d => li (match d with
  | .int i => some (.int (-i)) | _ => none)
theorem ped_neg (ha : PED X W a fa) : PED X W (.UnaryOp .USub a pos) (bd fa dNeg) := by
  refine ped_un un_neg (fun Z B σ H e x d Q S r h => ?_) ha
  obtain ⟨z, h1, h2⟩ := wp_li h
  cases d with
  | int i =>
    cases h1
    exact ⟨i, r.int_inv, h2 _ B H S (Same.refl B) (.int _)⟩
  | _ => cases h1
/-- a comparison by its operator's rule, as a value -/
theorem ped_cmp {op : CmpOp} {r : R2} {o : D → D → M D} (ho : OpR X (compareOp op) r) (hd : OpD X.K X.mg W r o) (ha : PED X W a fa) (hb : PED X W b fb) (h1 : behindInMarks op b = false := by first | exact nobehind _ (by decide) (by decide) | rfl) : PED X W (.Compare a [op] [b] pos) (f2 o fa fb) := by
  obtain ⟨ta, pa, ea⟩ := ha
  obtain ⟨tb, pb, eb⟩ := hb
  exact ⟨_, pe_cmpR ho pa pb h1, evD_op ea eb hd⟩
/-- an expression that gives a bool, as a test -/
theorem evB_of {K : PySem.W.Frag} {mg : Str → Option Value} {ta : TE} (ea : EvD K mg W ta fa) : EvB K mg W (tB ta) (fB fa) := by
  intro Z B σ H e Q S h
  refine ea.then S h (fun x e' q => q) fun d e1 v B1 H1 S1 l1 a1 h1 => ?_
  obtain ⟨b, hb, h2⟩ := wp_li h1
  cases d with
  | bl c =>
    cases hb
    exact ⟨_, a1.bl_inv, h2 B1 H1 S1 l1⟩
  | _ => cases hb
theorem pbd_cmp {op : CmpOp} {r : R2} {o : D → D → M D} (ho : OpR X (compareOp op) r) (hd : OpD X.K X.mg W r o) (ha : PED X W a fa) (hb : PED X W b fb) (h1 : behindInMarks op b = false := by first | exact nobehind _ (by decide) (by decide) | rfl) : PBD X W (.Compare a [op] [b] pos) (fB (f2 o fa fb)) := by
  obtain ⟨ta, pa, ea⟩ := ha
  obtain ⟨tb, pb, eb⟩ := hb
  exact ⟨_, pt_cmpR ho pa pb h1, evB_of (evD_op ea eb hd)⟩
theorem pbd_val (ha : PED X W a fa) (he : ∀ whole, isTrue a X.env whole = (do let v ← whole; standAt a.pos; holding [v] (truthy v)) := by intro _; rfl) : PBD X W a (fB fa) := by
  obtain ⟨ta, pa, ea⟩ := ha
  exact ⟨_, pt_val pa he, evB_of ea⟩
theorem pbd_not (ha : PBD X W a ga) : PBD X W (.UnaryOp .Not a pos) (fNot ga) := by
  obtain ⟨ta, pa, ea⟩ := ha
  refine ⟨_, pt_not pa, fun Z B σ H e Q S h => ?_⟩
  exact ea.then S h (fun x e' q => q) fun d e1 B1 H1 S1 l1 h1 => h1 B1 H1 S1 l1
def PWD (X : Cx) (W : WX) (a : Expr) (f : M Bool) : Prop := ∃ tt, PW X a tt ∧ EvB X.K X.mg W tt f
theorem PWD.pt (h : PWD X W a ga) : PBD X W a ga := by
  obtain ⟨ta, pa, ea⟩ := h
  exact ⟨_, pa.pt, ea⟩
theorem pwd_and1 (h : PBD X W a ga) : PWD X W (.BoolOp .And [a] pos) ga := by
  obtain ⟨ta, pa, ea⟩ := h
  exact ⟨_, pw_and1 pa, ea⟩
theorem pwd_or1 (h : PBD X W a ga) : PWD X W (.BoolOp .Or [a] pos) ga := by
  obtain ⟨ta, pa, ea⟩ := h
  exact ⟨_, pw_or1 pa, ea⟩
variable {rest : List Expr}
theorem pwd_and (ha : PBD X W a ga) (hb : PWD X W (.BoolOp .And (b :: rest) pos) gb) : PWD X W (.BoolOp .And (a :: b :: rest) pos) (fAnd ga gb) := by
  obtain ⟨ta, pa, ea⟩ := ha
  obtain ⟨tb, pb, eb⟩ := hb
  refine ⟨_, pw_and pa pb, fun Z B σ H e Q S h => ?_⟩
  refine ea.then S h (fun x e' q => q) fun d e1 B1 H1 S1 l1 h1 => ?_
  cases d with
  | true => exact eb Z B1 σ H1 e1 Q S1 (upB l1 h1)
  | false => exact h1 B1 H1 S1 l1
theorem pwd_or (ha : PBD X W a ga) (hb : PWD X W (.BoolOp .Or (b :: rest) pos) gb) : PWD X W (.BoolOp .Or (a :: b :: rest) pos) (fOr ga gb) := by
  obtain ⟨ta, pa, ea⟩ := ha
  obtain ⟨tb, pb, eb⟩ := hb
  refine ⟨_, pw_or pa pb, fun Z B σ H e Q S h => ?_⟩
  refine ea.then S h (fun x e' q => q) fun d e1 B1 H1 S1 l1 h1 => ?_
  cases d with
  | true => exact h1 B1 H1 S1 l1
  | false => exact eb Z B1 σ H1 e1 Q S1 (upB l1 h1)
/-- as values: all but the last are bools -/
def fAndV (fa fb : M D) : M D := bd (fB fa) fun b => if b = true then fb else pu (.bl false)
theorem ped_one {op} (ha : PED X W a fa) : PED X W (.BoolOp op [a] pos) fa := by
  obtain ⟨ta, pa, ea⟩ := ha
  exact ⟨_, pe_one pa, ea⟩
theorem ped_and (ha : PED X W a fa) (hb : PED X W (.BoolOp .And (b :: rest) pos) fb) : PED X W (.BoolOp .And (a :: b :: rest) pos) (fAndV fa fb) := by
  obtain ⟨ta, pa, ea⟩ := ha
  obtain ⟨tb, pb, eb⟩ := hb
  refine ⟨_, pe_and pa pb, fun Z B σ H e Q S h => ?_⟩
  have h' := wp_bd.mp h
  refine ea.then S h' (fun x e' q => q) fun d e1 v B1 H1 S1 l1 a1 h1 => ?_
  obtain ⟨c, hc, h2⟩ := wp_li h1
  cases d with
  | bl c' =>
    cases hc
    refine ⟨c, a1.bl_inv, ?_⟩
    cases c with
    | true => exact eb Z B1 σ H1 e1 Q S1 (upV l1 h2)
    | false => exact h2 _ B1 H1 S1 l1 (.bl _)
  | _ => cases hc
theorem ped_not (ha : PED X W a fa) : PED X W (.UnaryOp .Not a pos) (fBl (fNot (fB fa))) := by
  obtain ⟨ta, pa, ea⟩ := ha
  refine ⟨_, pe_not pa, fun Z B σ H e Q S h => ?_⟩
  have h' := wp_bd.mp (wp_bd.mp (wp_bd.mp h))
  refine ea Z B σ H e _ S (h'.imp (fun d e1 q v B1 H1 S1 l1 a1 => ?_) fun x e' q => q)
  obtain ⟨c, hc, h2⟩ := wp_li q
  cases d with
  | bl c' =>
    cases hc
    exact ⟨c, a1.bl_inv, h2 _ B1 H1 S1 l1 (.bl _)⟩
  | _ => cases hc
theorem ped_ifExp {c : Expr} {gc : M Bool} (hc : PBD X W c gc) (ha : PED X W a fa) (hb : PED X W b fb) : PED X W (.IfExp c a b pos) (fIf gc fa fb) := by
  obtain ⟨tc, pc, ec⟩ := hc
  obtain ⟨ta, pa, ea⟩ := ha
  obtain ⟨tb, pb, eb⟩ := hb
  refine ⟨_, pe_ifExp pc pa pb, fun Z B σ H e Q S h => ?_⟩
  refine ec.then S h (fun x e' q => q) fun d e1 B1 H1 S1 l1 h1 => ?_
  cases d with
  | true => exact ea Z B1 σ H1 e1 Q S1 (upV l1 h1)
  | false => exact eb Z B1 σ H1 e1 Q S1 (upV l1 h1)
end
/-! ### argument lists, displays -/
def fNil : M (List D) := pu []
def fCons (fa : M D) (fr : M (List D)) : M (List D) := bd fa fun d => bd fr fun ds => pu (d :: ds)
def fStar (fa : M (List D)) (fr : M (List D)) : M (List D) := bd fa fun d => bd fr fun ds => pu (d ++ ds)
/-- the items of a list or a tuple -/
def dItems : D → M (List D) := fun d => li (match d with
  | .lst xs => some xs | .tup xs => some xs | _ => none)
def fLst (fa : M (List D)) : M (List D) := bd fa fun ds => li (if ds.length ≤ 16777216 then some ds else none)
def fL (fa : M (List D)) : M D := bd fa fun ds => pu (.lst ds)
def fTup (fa : M (List D)) : M D := bd fa fun ds => li (if ds.length ≤ 16777216 then some (.tup ds) else none)
section
variable {X : Cx} {W : WX} {a : Expr} {es : List Expr} {fa : M D} {fr : M (List D)} {pos : Pos}
theorem pad_nil : PAD X W [] fNil := ⟨_, pa_nil, fun Z B σ H e Q S h => h [] B H S (Same.refl B) .nil⟩
theorem pad_cons (ha : PED X W a fa) (hr : PAD X W es fr) (hs : starEach (a :: es) X.env = (false, eval a X.env) :: starEach es X.env := by rfl) : PAD X W (a :: es) (fCons fa fr) := by
  obtain ⟨ta, pa, ea⟩ := ha
  obtain ⟨tr, pr, er⟩ := hr
  refine ⟨_, pa_cons pa pr hs, fun Z B σ H e Q S h => ?_⟩
  refine ea.then S h (fun x e' q => q) fun d e1 v B1 H1 S1 l1 a1 h1 => ?_
  refine er.then S1 h1 (fun x e' q => PX.up l1 q) fun ds e2 vs B2 H2 S2 l2 a2 h2 => ?_
  exact h2 _ B2 H2 S2 (l1.trans l2) (.cons (a1.mono l2) a2)
theorem dItems_at {K : PySem.W.Frag} {mg : Str → Option Value} {B : Hp} {v : V} {d : D} {ds : List D} {e : En} {P : List D → En → Prop} {E : D → En → Prop} (r : At K mg B v d) (h : (dItems d e).wp P E) : ∃ ds p xs, P ds e ∧ v = .ref p ∧ (SqT K B p xs ∨ SqL K B p xs) ∧ AtL K mg B xs ds := by
  obtain ⟨ds, h1, h2⟩ := wp_li h
  cases d with
  | lst ys =>
    cases h1
    obtain ⟨p, xs, rfl, e1, r1⟩ := r.lst_inv
    exact ⟨_, p, xs, h2, rfl, .inr (SqL.of e1), r1⟩
  | tup ys =>
    cases h1
    obtain ⟨p, xs, rfl, e1, r1⟩ := r.tup_inv
    exact ⟨_, p, xs, h2, rfl, .inl e1, r1⟩
  | _ => cases h1
theorem pad_star {p : Pos} (ha : PED X W a fa) (hr : PAD X W es fr) (hs : starEach (.Starred a p :: es) X.env = (true, eval a X.env) :: starEach es X.env := by rfl) : PAD X W (.Starred a p :: es) (fStar (bd fa dItems) fr) := by
  obtain ⟨ta, pa, ea⟩ := ha
  obtain ⟨tr, pr, er⟩ := hr
  refine ⟨_, StX.pa_star pa pr hs, fun Z B σ H e Q S h => ?_⟩
  have h' := wp_bd.mp h
  refine ea.then S h' (fun x e' q => q) fun d e1 v B1 H1 S1 l1 a1 h1 => ?_
  obtain ⟨ds, p, xs, h2, rfl, sq, r1⟩ := dItems_at (ds := []) a1 h1
  refine ⟨p, xs, rfl, sq.imp (fun z => seqT S1.bh z) (fun z => S1.bh.seq z), ?_⟩
  refine er.then S1 h2 (fun x e' q => PX.up l1 q) fun es e2 vs B2 H2 S2 l2 a2 h3 => ?_
  exact h3 _ B2 H2 S2 (l1.trans l2) ((r1.mono l2).app a2)
theorem pnd_lst (h : PAD X W es fr) : PND X W (.List es pos) (fLst fr) := by
  obtain ⟨tr, pr, er⟩ := h
  refine ⟨_, pe_lst pr, fun Z B σ H e Q S h => ?_⟩
  refine er.then S h (fun x e' q => q) fun ds e1 vs B1 H1 S1 l1 a1 h1 => ?_
  obtain ⟨d, h2, h3⟩ := wp_li h1
  split at h2
  · cases h2
    refine ⟨sz (by rw [a1.length]; assumption), fun p hp => ?_⟩
    obtain ⟨S2, hB, h0, hf⟩ := S1.newO (o := .lst vs) hp
    exact h3 p vs B1 _ S2 l1 upd_same a1 hB h0 hf
  · cases h2
/-- a new list becomes known -/
theorem ped_new (h : PND X W a fr) : PED X W a (fL fr) := by
  obtain ⟨tr, pr, er⟩ := h
  refine ⟨_, pr, fun Z B σ H e Q S h => ?_⟩
  refine er.then S h (fun x e' q => q) fun ds e1 p xs B1 H1 S1 l1 h1 a1 hB h0 hf h3 => ?_
  obtain ⟨S2, l2⟩ := S1.freeze h1 hB h0 hf
  exact h3 _ _ _ S2 (l1.trans l2) (.lst upd_same (a1.mono l2))
theorem ped_tup {x1} (h : PAD X W es fr) : PED X W (.Tuple es x1 pos) (fTup fr) := by
  obtain ⟨tr, pr, er⟩ := h
  refine ⟨_, pe_tup pr, fun Z B σ H e Q S h => ?_⟩
  refine er.then S h (fun x e' q => q) fun ds e1 vs B1 H1 S1 l1 a1 h1 => ?_
  obtain ⟨d, h2, h3⟩ := wp_li h1
  split at h2
  · cases h2
    refine ⟨sz (by rw [a1.length]; assumption), fun p hp => ?_⟩
    obtain ⟨S2, l2⟩ := S1.new (o := .tup vs) hp
    exact h3 _ _ _ S2 (l1.trans l2) (.tup (SqT.of upd_same) (a1.mono l2))
  · cases h2
end
/-! ### items and slices -/
def dAt : D → D → M D := fun a b => li (match a, b with
  | .lst xs, .int i => atI xs i
  | .tup xs, .int i => atI xs i
  | .scr ns, .int i => (atI ns i).map D.int
  | _, _ => none)
def cutD (xs : List D) (lo hi : Option Int) : List D := (xs.drop (HT.sIx xs.length 0 lo)).take (HT.sIx xs.length xs.length hi - HT.sIx xs.length 0 lo)
def fPart (fa : Option (M D)) : M (Option Int) := match fa with
  | none => pu none
  | some fa => bd fa fun d => li (match d with
    | .int i => some (some i) | _ => none)
section
variable {K : PySem.W.Frag} {mg : Str → Option Value} {W : WX} {B : Hp}
theorem AtL.atI {xs : List V} {ds : List D} {i : Int} {d : D} (h : AtL K mg B xs ds) (e : L2.atI ds i = some d) : ∃ v, L2.atI xs i = some v ∧ At K mg B v d := by
  unfold L2.atI at e ⊢
  rw [h.length]
  cases q : ixN ds.length i with
  | none => rw [q] at e; cases e
  | some j =>
    rw [q] at e
    obtain ⟨x, h1, h2⟩ := h.get (show ds[j]? = some d from e)
    exact ⟨x, h1, h2⟩
theorem atI_map {α β : Type} (f : α → β) (xs : List α) (i : Int) : L2.atI (xs.map f) i = (L2.atI xs i).map f := by
  unfold L2.atI
  rw [List.length_map]
  cases ixN xs.length i with
  | none => rfl
  | some j => show (xs.map f)[j]? = (xs[j]?).map f; rw [List.getElem?_map]
theorem od_at : OpD K mg W (fun x y H Q => rIxL K x y H Q ∨ rIxT K x y H Q) dAt := by
  intro Z B σ H e x y a b Q S ha hb q
  obtain ⟨d, h1, h2⟩ := wp_li q
  cases b with
  | int i =>
    cases a with
    | lst as =>
      obtain ⟨p, xs, rfl, e1, r1⟩ := ha.lst_inv
      obtain ⟨v, e2, r2⟩ := r1.atI (show L2.atI as i = some d from h1)
      exact .inl ⟨p, xs, i, v, rfl, hb.int_inv, SqL.of (S.bh _ _ e1), e2, h2 v B H S (Same.refl B) r2⟩
    | tup as =>
      obtain ⟨p, xs, rfl, e1, r1⟩ := ha.tup_inv
      obtain ⟨v, e2, r2⟩ := r1.atI (show L2.atI as i = some d from h1)
      exact .inr ⟨p, xs, i, v, rfl, hb.int_inv, seqT S.bh e1, e2, h2 v B H S (Same.refl B) r2⟩
    | scr ns =>
      obtain ⟨p, rfl, e1⟩ := ha.scr_inv
      have h1 : (L2.atI ns i).map D.int = some d := h1
      cases q2 : L2.atI ns i with
      | none => rw [q2] at h1; cases h1
      | some n =>
        rw [q2] at h1
        cases h1
        exact .inl ⟨p, _, i, .int n, rfl, hb.int_inv, S.bh.seq e1, by rw [atI_map, q2]; rfl, h2 _ B H S (Same.refl B) (.int n)⟩
    | _ => cases h1
  | _ => cases a <;> cases h1
theorem AtL.cut {xs : List V} {ds : List D} (h : AtL K mg B xs ds) (lo hi : Option Int) : AtL K mg B (cutV xs lo hi) (cutD ds lo hi) := by
  unfold cutV cutD
  rw [h.length]
  exact (h.drop _).take _
end
section
variable {X : Cx} {W : WX} {a b : Expr} {fa fb : M D} {pos p2 : Pos}
theorem ped_ix (ha : PED X W a fa) (hb : PED X W b fb) (hs : PlainIx b := by exact fun _ _ => rfl) : PED X W (.Subscript a b pos) (f2 dAt fa fb) := by
  obtain ⟨ta, pa, ea⟩ := ha
  obtain ⟨tb, pb, eb⟩ := hb
  exact ⟨_, pe_ix (IxR.or ix_list ix_tup) pa pb hs, evD_op ea eb od_at⟩
def POD (X : Cx) (W : WX) (a : Option Expr) (f : M (Option Int)) : Prop := ∃ to, PO X a to ∧ ∀ Z B σ H e (Q : Option Int → Hp → Prop), SR X.K X.mg Z B σ H e → (f e).wp (fun o e' => ∀ B' H', SR X.K X.mg Z B' σ H' e' → Same B B' → Q o H') (PX X.K X.mg Z B σ W) → to σ H Q
theorem pod_none : POD X W none (fPart none) := ⟨_, po_none, fun Z B σ H e Q S h => h B H S (Same.refl B)⟩
theorem pod_some (ha : PED X W a fa) : POD X W (some a) (fPart (some fa)) := by
  obtain ⟨ta, pa, ea⟩ := ha
  refine ⟨_, po_some pa, fun Z B σ H e Q S h => ?_⟩
  refine ea.then S h (fun x e' q => q) fun d e1 v B1 H1 S1 l1 a1 h1 => ?_
  obtain ⟨o, h2, h3⟩ := wp_li h1
  cases d with
  | int i =>
    cases h2
    exact ⟨i, a1.int_inv, h3 B1 H1 S1 l1⟩
  | _ => cases h2
end
/-! ### calls of built-ins -/
section
variable {X : Cx} {W : WX} {es : List Expr} {e : Expr} {fr : M (List D)} {pos p : Pos} {x : Str} {id T : String} {r : List V → Hp → VK → Prop} {o : List D → M D}
theorem evC {K : PySem.W.Frag} {mg : Str → Option Value} {ta : TA} (ea : EvL K mg W ta fr) (hd : ClD K mg W r o) : EvD K mg W (tCB r ta) (bd fr o) := by
  intro Z B σ H e Q S h
  refine ea.then S h (fun x e' q => q) fun ds e1 vs B1 H1 S1 l1 a1 h1 => ?_
  exact hd Z B1 σ H1 e1 vs ds Q S1 a1 (upV l1 h1)
theorem ped_callB (hc : CallR X (.builtin id) r) (hd : ClD X.K X.mg W r o) (hm : X.mg x = none) (hv : bootBuiltins x = some (.builtin id)) (ha : PAD X W (e :: es) fr) (hg : Gl X x := by rfl) (hn : x ≠ "__name__" := by decide) (hdb : (x == ("__debug__" : Str)) = false := by decide)
    (he : starEach (e :: es) X.env = (false, eval e X.env) :: starEach es X.env := by rfl) (hpl : (backTo pos (starEach es X.env)).any (·.1) = false := by rfl) : PED X W (.Call (.Name x p) (e :: es) [] pos) (bd fr o) := by
  obtain ⟨ta, pa, ea⟩ := ha
  exact ⟨_, pe_callB hc hg hm hv pa hn hdb he hpl, evC ea hd⟩
theorem ped_callTy (hc : CallR X (.type T) r) (hd : ClD X.K X.mg W r o) (hm : X.mg x = none) (hv : bootBuiltins x = some (.type T)) (ha : PAD X W (e :: es) fr) (hg : Gl X x := by rfl) (hn : x ≠ "__name__" := by decide) (hdb : (x == ("__debug__" : Str)) = false := by decide)
    (he : starEach (e :: es) X.env = (false, eval e X.env) :: starEach es X.env := by rfl) (hpl : (backTo pos (starEach es X.env)).any (·.1) = false := by rfl) : PED X W (.Call (.Name x p) (e :: es) [] pos) (bd fr o) := by
  obtain ⟨ta, pa, ea⟩ := ha
  exact ⟨_, pe_callTy hc hg hm hv pa hn hdb he hpl, evC ea hd⟩
end
end Dl
set_option maxHeartbeats 1000000
/-! Layer D, part 2: calls, defs, statements. -/
namespace Dl
open PySem PySem.Spec PyProof.Rows L2
/-! ### arguments: data, or what is one's own, by reference -/
inductive Ar where
  | d (d : D) | o (i : Nat)
inductive AtR (K : PySem.W.Frag) (mg : Str → Option Value) (B : Hp) (σ : St) (e : En) : V → Ar → Prop
  | d {v : V} {d : D} : At K mg B v d → AtR K mg B σ e v (.d d)
  | o {v : V} {i : Nat} : ownAt e i → σ[i]? = some (some v) → AtR K mg B σ e v (.o i)
theorem pget {α β : Type} {F : α → β → Prop} : ∀ {xs : List α} {ys : List β} {i : Nat} {y : β}, Paired F xs ys → ys[i]? = some y → ∃ x, xs[i]? = some x ∧ F x y
  | _, _, _, _, .nil, e => by simp at e
  | _, _, 0, _, .cons r _, e => by simp at e; subst e; exact ⟨_, rfl, r⟩
  | _, _, i + 1, y, .cons _ t, e => by
    obtain ⟨x, h1, h2⟩ := pget (i := i) (y := y) t (by simpa using e)
    exact ⟨x, by simpa using h1, h2⟩
def PR (K : PySem.W.Frag) (mg : Str → Option Value) (Z : Ent) (B : Hp) (σ : St) (Q : List V → Hp → Prop) : List Ar → En → Prop := fun as e' => ∀ vs B' H', SR K mg Z B' σ H' e' → Same B B' → Paired (AtR K mg B' σ e') vs as → Q vs H'
def EvR (K : PySem.W.Frag) (mg : Str → Option Value) (W : WX) (ta : TA) (f : M (List Ar)) : Prop := ∀ Z B σ H e (Q : List V → Hp → Prop), SR K mg Z B σ H e → (f e).wp (PR K mg Z B σ Q) (PX K mg Z B σ W) → ta σ H Q
def PRD (X : Cx) (W : WX) (as : List Expr) (f : M (List Ar)) : Prop := ∃ ta, PA X as ta ∧ EvR X.K X.mg W ta f
def isO (i : Nat) : M Unit := fun e => match e[i]? with
  | some (.own _ _) => .ok () e | some (.oin _ _ _ _) => .ok () e | _ => .bad
theorem isO_wp {i : Nat} {e : En} {Q : Unit → En → Prop} {E : D → En → Prop} (h : (isO i e).wp Q E) : ownAt e i ∧ Q () e := by
  unfold isO at h
  cases q : e[i]? with
  | none => rw [q] at h; exact False.elim h
  | some s =>
    rw [q] at h
    cases s with
    | own r ds => exact ⟨⟨_, q, rfl⟩, h⟩
    | oin r c ns ds => exact ⟨⟨_, q, rfl⟩, h⟩
    | _ => exact False.elim h
def rNil : M (List Ar) := pu []
def rD (fa : M D) (fr : M (List Ar)) : M (List Ar) := bd fa fun d => bd fr fun ds => pu (.d d :: ds)
def rO (i : Nat) (fr : M (List Ar)) : M (List Ar) := bd (isO i) fun _ => bd fr fun ds => bd (isO i) fun _ => pu (.o i :: ds)
section
variable {X : Cx} {W : WX} {a : Expr} {es : List Expr} {fa : M D} {fr : M (List Ar)} {pos : Pos}
theorem prd_nil : PRD X W [] rNil := ⟨_, pa_nil, fun Z B σ H e Q S h => h [] B H S (Same.refl B) .nil⟩
theorem AtR.mono {K : PySem.W.Frag} {mg : Str → Option Value} {B B' : Hp} {σ : St} {e e' : En} {v : V} {r : Ar} (h : AtR K mg B σ e v r) (l : Same B B') (he : ∀ i, r = .o i → ownAt e' i) : AtR K mg B' σ e' v r := by
  cases h with
  | d h => exact .d (h.mono l)
  | o h1 h2 => exact .o (he _ rfl) h2
theorem prd_d (ha : PED X W a fa) (hr : PRD X W es fr) (hs : starEach (a :: es) X.env = (false, eval a X.env) :: starEach es X.env := by rfl) : PRD X W (a :: es) (rD fa fr) := by
  obtain ⟨ta, pa, ea⟩ := ha
  obtain ⟨tr, pr, er⟩ := hr
  refine ⟨_, pa_cons pa pr hs, fun Z B σ H e Q S h => ?_⟩
  refine ea.then S h (fun x e' q => q) fun d e1 v B1 H1 S1 l1 a1 h1 => ?_
  refine er Z B1 σ H1 e1 _ S1 ((wp_bd.mp h1).imp (fun ds e2 h2 vs B2 H2 S2 l2 a2 => ?_) fun x e' q => PX.up l1 q)
  exact h2 _ B2 H2 S2 (l1.trans l2) (.cons (.d (a1.mono l2)) a2)
theorem prd_o (i : Nat) {x : Str} (hr : PRD X W es fr) (hN : X.N[i]? = some x := by rfl) (hv : Vis X.env.scope x := by first | exact Or.inl rfl | exact Or.inr (Or.inl rfl) | exact Or.inr (Or.inr rfl)) (hd : (x == ("__debug__" : Str)) = false := by decide)
    (hcd : (x == ("__classdict__" : Str)) = false := by decide) (hs : starEach (.Name x pos :: es) X.env = (false, eval (.Name x pos) X.env) :: starEach es X.env := by rfl) : PRD X W (.Name x pos :: es) (rO i fr) := by
  obtain ⟨tr, pr, er⟩ := hr
  refine ⟨_, pa_cons (pe_var hN hv hd hcd) pr hs, fun Z B σ H e Q S h => ?_⟩
  obtain ⟨h0, h⟩ := isO_wp (wp_bd.mp h)
  obtain ⟨s, q, hs⟩ := h0
  obtain ⟨p, o, e1, _⟩ := (S.sl i s q).at_own hs
  refine ⟨.ref p, e1, ?_⟩
  refine er Z B σ H e _ S ((wp_bd.mp h).imp (fun ds e2 h2 vs B2 H2 S2 l2 a2 => ?_) fun x e' q => q)
  obtain ⟨h3, h4⟩ := isO_wp (wp_bd.mp h2)
  exact h4 _ B2 H2 S2 l2 (.cons (.o h3 e1) a2)
end
/-! ### the promise of a def -/
def spD (K : PySem.W.Frag) (mg : Str → Option Value) (F : En → Res D) : Sp := fun vs H Q E => ∃ B R e, SR K mg ⟨B, H, R, vs.map some⟩ B (vs.map some) H e ∧
  (F e).wp (fun d e' => ∀ v B' H', SR K mg ⟨B, H, R, vs.map some⟩ B' (vs.map some) H' e' → At K mg B' v d → Q v H') fun x e' => ∀ cls dd B' H', SR K mg ⟨B, H, R, vs.map some⟩ B' (vs.map some) H' e' → XAt K mg B' H' x cls dd → E cls dd H'
/-- .. of a def that gives a new list out -/
def spN (K : PySem.W.Frag) (mg : Str → Option Value) (F : En → Res (List D)) : Sp := fun vs H Q E => ∃ B R e, SR K mg ⟨B, H, R, vs.map some⟩ B (vs.map some) H e ∧
  (F e).wp (fun ds e' => ∀ p xs B' H', SR K mg ⟨B, H, R, vs.map some⟩ B' (vs.map some) H' e' → H' p = some (.lst xs) → AtL K mg B' xs ds → B' p = none → H p = none → Q (.ref p) H') fun x e' => ∀ cls dd B' H', SR K mg ⟨B, H, R, vs.map some⟩ B' (vs.map some) H' e' → XAt K mg B' H' x cls dd → E cls dd H'
def toRef : Sl → Sl
  | .own _ ds => .own true ds | .oin _ c ns ds => .oin true c ns ds | _ => .no
def reRef (r : Bool) : Sl → Sl
  | .own _ ds => .own r ds | .oin _ c ns ds => .oin r c ns ds | _ => .no
def toSl (e : En) : Ar → Sl
  | .d d => .val d | .o i => toRef (e.getD i .no)
def findO : List Ar → En → Nat → Option Sl
  | .o k :: as, s :: os, i => if k = i then some s else findO as os i
  | .d _ :: as, _ :: os, i => findO as os i
  | _, _, _ => none
def putG (g : Nat → Sl → Sl) : Nat → En → En
  | _, [] => [] | n, s :: e => g n s :: putG g (n + 1) e
def putO (as : List Ar) (os : En) (e : En) : En := putG (fun i s => match findO as os i with
  | some s' => reRef s.isRef s' | none => s) 0 e
def owns : List Ar → List Nat
  | [] => [] | .o i :: as => i :: owns as | .d _ :: as => owns as
def noDup : List Nat → Bool
  | [] => true | i :: r => !r.contains i && noDup r
def callR (F : En → Res D) (as : List Ar) : M D := fun e => if noDup (owns as) = true then (match F (as.map (toSl e)) with
  | .ok d os => .ok d (putO as os e) | .exc x os => .exc x (putO as os e) | .bad => .bad) else .bad
def callN (F : En → Res (List D)) (as : List Ar) : M (List D) := fun e => if noDup (owns as) = true then (match F (as.map (toSl e)) with
  | .ok d os => .ok d (putO as os e) | .exc x os => .exc x (putO as os e) | .bad => .bad) else .bad
theorem putG_get {g : Nat → Sl → Sl} : ∀ {e : En} {n i : Nat}, (putG g n e)[i]? = (e[i]?).map (g (n + i))
  | [], n, i => by simp [putG]
  | s :: e, n, 0 => by simp [putG]
  | s :: e, n, i + 1 => by
    have := putG_get (g := g) (e := e) (n := n + 1) (i := i)
    simp only [putG, List.getElem?_cons_succ, this]
    congr 2
    omega
theorem putG_len {g : Nat → Sl → Sl} : ∀ {e : En} {n : Nat}, (putG g n e).length = e.length
  | [], n => rfl
  | s :: e, n => by simp [putG, putG_len (e := e)]
theorem findO_some : ∀ {as : List Ar} {os : En} {i : Nat} {s : Sl}, findO as os i = some s → ∃ j : Nat, as[j]? = some (Ar.o i) ∧ os[j]? = some s
  | .o k :: as, s :: os, i, s', h => by
    unfold findO at h
    split at h
    · rename_i hk; cases h; exact ⟨0, by simp [hk], rfl⟩
    · obtain ⟨j, h1, h2⟩ := findO_some h; exact ⟨j + 1, by simpa using h1, by simpa using h2⟩
  | .d _ :: as, s :: os, i, s', h => by
    unfold findO at h
    obtain ⟨j, h1, h2⟩ := findO_some h; exact ⟨j + 1, by simpa using h1, by simpa using h2⟩
  | [], _, _, _, h => by cases h
  | .o _ :: _, [], _, _, h => by cases h
  | .d _ :: _, [], _, _, h => by cases h
theorem findO_none : ∀ {as : List Ar} {os : En} {i j : Nat}, findO as os i = none → os.length = as.length → as[j]? ≠ some (Ar.o i)
  | .o k :: as, s :: os, i, j, h, hl => by
    unfold findO at h
    split at h
    · cases h
    · rename_i hk
      cases j with
      | zero => simp [hk]
      | succ j => simpa using findO_none (j := j) h (by simpa using hl)
  | .d _ :: as, s :: os, i, j, h, hl => by
    unfold findO at h
    cases j with
    | zero => simp
    | succ j => simpa using findO_none (j := j) h (by simpa using hl)
  | [], _, _, _, _, _ => by simp
  | .o _ :: _, [], _, _, _, hl => by cases hl
  | .d _ :: _, [], _, _, _, hl => by cases hl
theorem mem_owns : ∀ {as : List Ar} {i j : Nat}, as[j]? = some (.o i) → i ∈ owns as
  | .o k :: as, i, 0, h => by simp at h; simp [owns, h]
  | .o k :: as, i, j + 1, h => by simp [owns, mem_owns (as := as) (j := j) (by simpa using h)]
  | .d _ :: as, i, 0, h => by simp at h
  | .d _ :: as, i, j + 1, h => by simpa [owns] using mem_owns (as := as) (j := j) (by simpa using h)
theorem noDup_inj : ∀ {as : List Ar} {i j k : Nat}, noDup (owns as) = true → as[j]? = some (.o i) → as[k]? = some (.o i) → j = k
  | .o m :: as, i, j, k, h, h1, h2 => by
    simp only [owns, noDup, Bool.and_eq_true, Bool.not_eq_true'] at h
    cases j with
    | zero =>
      cases k with
      | zero => rfl
      | succ k =>
        have e : m = i := by simpa using h1
        have := mem_owns (as := as) (j := k) (by simpa using h2)
        subst e
        simp [this] at h
    | succ j =>
      cases k with
      | zero =>
        have e : m = i := by simpa using h2
        have := mem_owns (as := as) (j := j) (by simpa using h1)
        subst e
        simp [this] at h
      | succ k => exact congrArg (· + 1) (noDup_inj h.2 (by simpa using h1) (by simpa using h2))
  | .d _ :: as, i, j, k, h, h1, h2 => by
    cases j with
    | zero => simp at h1
    | succ j =>
      cases k with
      | zero => simp at h2
      | succ k => exact congrArg (· + 1) (noDup_inj (as := as) h (by simpa using h1) (by simpa using h2))
  | [], _, _, _, _, h, _ => by simp at h
section
variable {K : PySem.W.Frag} {mg : Str → Option Value} {Z : Ent} {B B' : Hp} {σ : St} {H H' : Hp} {e e' : En}
/-- behind a call: what the callee leaves, in the caller's state -/
theorem SR.after {R : List Addr} {s0 σ' : St} {os : En} (S : SR K mg Z B σ H e) (S' : SR K mg ⟨B, H, R, s0⟩ B' σ' H' os) (hl : e'.length = e.length) (hR : ∀ a ∈ R, Z.H0 a = none ∨ a ∈ Z.R)
    (hs : ∀ i s', e'[i]? = some s' → (e[i]? = some s' ∧ ∀ a, s'.isOwn = true → σ[i]? = some (some (.ref a)) → a ∉ R) ∨ (SlAt K mg Z B' H' i σ[i]? s' ∧ (s'.isOwn = true → ownAt e i))) : SR K mg Z B' σ H' e' := by
  have back : ∀ a o, H a = some o → B a = none → B' a = none := fun a o h n => by
    cases q : B' a with
    | none => rfl
    | some u =>
      rcases S'.nb a u q with z | z
      · have z : B a = some u := z
        rw [n] at z; cases z
      · have z : H a = none := z
        rw [h] at z; cases z
  have own : ∀ i, ownAt e' i → ownAt e i := fun i ⟨s', q, ho⟩ => by
    rcases hs i s' q with z | z
    · exact ⟨s', z.1, ho⟩
    · exact z.2 ho
  refine ⟨S.le.trans S'.le, S'.bh, fun a o h n => S'.fh a o (S.fh a o h n) fun m => ?_, fun a o h => ?_, fun a o h => ?_, S.ln.trans hl.symm, fun i s' q => ?_, fun i j a hij hi hj => S.ds i j a hij (own i hi) (own j hj)⟩
  · rcases hR a m with z | z
    · rw [h] at z; cases z
    · exact n z
  · rcases S'.nb a o h with z | z
    · exact S.nb a o z
    · refine .inr ?_
      cases q : Z.H0 a with
      | none => rfl
      | some u =>
        obtain ⟨o', w⟩ := S.dm a u q
        rw [show H a = none from z] at w; cases w
  · obtain ⟨o', w⟩ := S.dm a o h
    exact S'.dm a o' w
  · rcases hs i s' q with z | z
    · refine (S.sl i s' z.1).mono S'.le fun a o ho h1 h2 h3 => ⟨back a o h2 h3, S'.fh a o h2 (z.2 a ho h1)⟩
    · exact z.1
def ownR (σ : St) : List Ar → List Addr
  | [] => [] | .d _ :: as => ownR σ as | .o i :: as => match σ[i]? with
    | some (some (.ref a)) => a :: ownR σ as | _ => ownR σ as
theorem mem_ownR {σ : St} : ∀ {as : List Ar} {a : Addr}, a ∈ ownR σ as ↔ ∃ j i : Nat, as[j]? = some (Ar.o i) ∧ σ[i]? = some (some (V.ref a))
  | [], a => by simp [ownR]
  | .d _ :: as, a => by
    have ih := mem_ownR (σ := σ) (as := as) (a := a)
    simp only [ownR, ih]
    constructor
    · rintro ⟨j, i, h1, h2⟩; exact ⟨j + 1, i, by simpa using h1, h2⟩
    · rintro ⟨j, i, h1, h2⟩
      cases j with
      | zero => simp at h1
      | succ j => exact ⟨j, i, by simpa using h1, h2⟩
  | .o k :: as, a => by
    have ih := mem_ownR (σ := σ) (as := as) (a := a)
    constructor
    · intro h
      unfold ownR at h
      split at h
      · rename_i b hb
        rcases List.mem_cons.mp h with z | z
        · subst z; exact ⟨0, k, rfl, hb⟩
        · obtain ⟨j, i, h1, h2⟩ := ih.mp z; exact ⟨j + 1, i, by simpa using h1, h2⟩
      · obtain ⟨j, i, h1, h2⟩ := ih.mp h; exact ⟨j + 1, i, by simpa using h1, h2⟩
    · rintro ⟨j, i, h1, h2⟩
      cases j with
      | zero =>
        have e : k = i := by simpa using h1
        subst e
        unfold ownR
        rw [h2]
        exact List.mem_cons_self
      | succ j =>
        have z := ih.mpr ⟨j, i, by simpa using h1, h2⟩
        unfold ownR
        split
        · exact List.mem_cons_of_mem _ z
        · exact z
theorem SR.enter {vs : List V} {as : List Ar} (S : SR K mg Z B σ H e) (r : Paired (AtR K mg B σ e) vs as) (nd : noDup (owns as) = true) : SR K mg ⟨B, H, ownR σ as, vs.map some⟩ B (vs.map some) H (as.map (toSl e)) := by
  refine ⟨Same.refl B, S.bh, fun a o h _ => h, fun a o h => .inl h, fun a o h => ⟨o, h⟩, by simp [Paired.length r], fun j s q => ?_, fun j k a hjk hj hk e1 e2 => ?_⟩
  · rw [List.getElem?_map] at q
    cases ha : as[j]? with
    | none => rw [ha] at q; cases q
    | some x =>
      rw [ha] at q
      obtain ⟨v, hv, rv⟩ := pget r ha
      have q : toSl e x = s := Option.some.inj q
      subst q
      have hv' : (vs.map some)[j]? = some (some v) := by rw [List.getElem?_map, hv]; rfl
      rw [hv']
      cases rv with
      | d h => exact ⟨v, rfl, h⟩
      | @o i h1 h2 =>
        obtain ⟨s, q, hs⟩ := h1
        have gd : e.getD i .no = s := by rw [List.getD_eq_getElem?_getD, q]; rfl
        have z := S.sl i s q
        cases s with
        | own r ds =>
          obtain ⟨a, xs, e1, p1, p2, p3⟩ := z
          rw [h2] at e1
          cases e1
          show SlAt K mg _ B H j _ (toRef (e.getD i .no))
          rw [gd]
          exact ⟨a, xs, rfl, p1, p2, p3.1, (fun z => nomatch z), fun _ => ⟨mem_ownR.mpr ⟨j, i, ha, h2⟩, hv'⟩⟩
        | oin r c ns ds =>
          obtain ⟨a, C, dx, fs, e1, p0, p1, p2, p3, p4⟩ := z
          rw [h2] at e1
          cases e1
          show SlAt K mg _ B H j _ (toRef (e.getD i .no))
          rw [gd]
          exact ⟨a, C, dx, fs, rfl, p0, p1, p2, p3, p4.1, (fun z => nomatch z), fun _ => ⟨mem_ownR.mpr ⟨j, i, ha, h2⟩, hv'⟩⟩
        | no => cases hs
        | val d => cases hs
  · have key : ∀ j, ownAt (as.map (toSl e)) j → (vs.map some)[j]? = some (some (.ref a)) → ∃ i, as[j]? = some (.o i) ∧ ownAt e i ∧ σ[i]? = some (some (.ref a)) := fun j ⟨s, q, hs⟩ e1 => by
      rw [List.getElem?_map] at q
      cases ha : as[j]? with
      | none => rw [ha] at q; cases q
      | some x =>
        rw [ha] at q
        obtain ⟨v, hv, rv⟩ := pget r ha
        have q : toSl e x = s := Option.some.inj q
        subst q
        rw [List.getElem?_map, hv] at e1
        cases e1
        cases rv with
        | d h => cases hs
        | @o i h1 h2 => exact ⟨i, rfl, h1, h2⟩
    obtain ⟨i, a1, o1, s1⟩ := key j hj e1
    obtain ⟨i2, a2, o2, s2⟩ := key k hk e2
    by_cases hi : i = i2
    · subst hi
      exact hjk (noDup_inj nd a1 a2)
    · exact S.ds i i2 a hi o1 o2 s1 s2
theorem SR.leave {vs : List V} {as : List Ar} {os : En} (S : SR K mg Z B σ H e) (r : Paired (AtR K mg B σ e) vs as) (S' : SR K mg ⟨B, H, ownR σ as, vs.map some⟩ B' (vs.map some) H' os) : SR K mg Z B' σ H' (putO as os e) := by
  have hl : os.length = as.length := by rw [← S'.ln, List.length_map, Paired.length r]
  refine S.after S' (by unfold putO; exact putG_len) (fun a m => ?_) fun i s' q => ?_
  · obtain ⟨j, i, h1, h2⟩ := mem_ownR.mp m
    obtain ⟨v, hv, rv⟩ := pget r h1
    cases rv with
    | o h3 h4 =>
      obtain ⟨s, q, hs⟩ := h3
      obtain ⟨a', o, e1, _, _, p2, p3⟩ := (S.sl i s q).at_own hs
      rw [h2] at e1
      cases e1
      cases hr : s.isRef with
      | false => exact .inl (p2 hr)
      | true => exact .inr (p3 hr).1
  · unfold putO at q
    rw [putG_get] at q
    cases hi : e[i]? with
    | none => rw [hi] at q; cases q
    | some s =>
      rw [hi] at q
      have q := Option.some.inj q
      simp only [Nat.zero_add] at q
      cases hf : findO as os i with
      | none =>
        rw [hf] at q
        subst q
        refine .inl ⟨rfl, fun a ho e1 m => ?_⟩
        obtain ⟨j, i2, h1, h2⟩ := mem_ownR.mp m
        by_cases h : i2 = i
        · subst h; exact findO_none hf hl h1
        · obtain ⟨v, hv, rv⟩ := pget r h1
          cases rv with
          | o h3 h4 => exact S.ds i2 i a h h3 ⟨s, hi, ho⟩ h2 e1
      | some s2 =>
        rw [hf] at q
        subst q
        obtain ⟨j, h1, h2⟩ := findO_some hf
        obtain ⟨v, hv, rv⟩ := pget r h1
        cases rv with
        | o h3 h4 =>
          refine .inr ⟨?_, fun _ => h3⟩
          obtain ⟨s0, q0, hs0⟩ := h3
          rw [hi] at q0
          cases q0
          obtain ⟨a, o, e1, _, _, p2, p3⟩ := (S.sl i s hi).at_own hs0
          have z := S'.sl j s2 h2
          have hv' : (vs.map some)[j]? = some (some v) := by rw [List.getElem?_map, hv]; rfl
          rw [hv'] at z
          rw [h4] at e1
          cases e1
          cases s2 with
          | own r ds =>
            obtain ⟨a', xs, e2, w1, w2, w3⟩ := z
            cases e2
            exact ⟨a, xs, h4, w1, w2, w3.1, p2, p3⟩
          | oin r c ns ds =>
            obtain ⟨a', C, dx, fs, e2, w0, w1, w2, w3, w4⟩ := z
            cases e2
            exact ⟨a, C, dx, fs, h4, w0, w1, w2, w3, w4.1, p2, p3⟩
          | no => trivial
          | val d => trivial
/-- a def's promise, kept at a call -/
theorem callR_ok {W : WX} {F : En → Res D} {vs : List V} {as : List Ar} {Q : VK} (S : SR K mg Z B σ H e) (r : Paired (AtR K mg B σ e) vs as) (h : (callR F as e).wp (PV K mg Z B σ Q) (PX K mg Z B σ W)) : spD K mg F vs H Q (fun c d H' => W c d σ H') := by
  unfold callR at h
  split at h
  · rename_i nd
    refine ⟨B, ownR σ as, as.map (toSl e), S.enter r nd, ?_⟩
    cases q : F (as.map (toSl e)) with
    | ok d os =>
      rw [q] at h
      exact fun v B' H' S' a => h v B' H' (S.leave r S') S'.le a
    | exc x os =>
      rw [q] at h
      exact fun cls dd B' H' S' a => h cls dd B' H' (S.leave r S') S'.le a
    | bad => rw [q] at h; exact False.elim h
  · exact False.elim h
theorem ownAt_putO {as : List Ar} {os : En} {i : Nat} (h : ownAt (putO as os e) i) (hl : os.length = as.length) (r : ∃ vs, Paired (AtR K mg B σ e) vs as) : ownAt e i := by
  obtain ⟨s, q, hs⟩ := h
  obtain ⟨vs, r⟩ := r
  unfold putO at q
  rw [putG_get] at q
  cases hi : e[i]? with
  | none => rw [hi] at q; cases q
  | some s0 =>
    rw [hi] at q
    have q := Option.some.inj q
    simp only [Nat.zero_add] at q
    cases hf : findO as os i with
    | none => rw [hf] at q; subst q; exact ⟨_, hi, hs⟩
    | some s2 =>
      obtain ⟨j, h1, h2⟩ := findO_some hf
      obtain ⟨v, hv, rv⟩ := pget r h1
      cases rv with
      | o h3 h4 => exact h3
theorem callN_ok {W : WX} {F : En → Res (List D)} {vs : List V} {as : List Ar} {Q : VK} (S : SR K mg Z B σ H e) (r : Paired (AtR K mg B σ e) vs as) (h : (callN F as e).wp (PN K mg Z B σ Q) (PX K mg Z B σ W)) : spN K mg F vs H Q (fun c d H' => W c d σ H') := by
  unfold callN at h
  split at h
  · rename_i nd
    refine ⟨B, ownR σ as, as.map (toSl e), S.enter r nd, ?_⟩
    cases q : F (as.map (toSl e)) with
    | ok d os =>
      rw [q] at h
      intro p xs B' H' S' a1 a2 a3 a4
      have hl : os.length = as.length := by rw [← S'.ln, List.length_map, Paired.length r]
      refine h p xs B' H' (S.leave r S') S'.le a1 a2 a3 ?_ fun i hi ei => ?_
      · cases q2 : Z.H0 p with
        | none => rfl
        | some u =>
          obtain ⟨o', z⟩ := S.dm p u q2
          rw [a4] at z; cases z
      · obtain ⟨s, q3, hs⟩ := ownAt_putO hi hl ⟨vs, r⟩
        obtain ⟨a, o, e1, e2, _⟩ := (S.sl i s q3).at_own hs
        rw [ei] at e1
        cases e1
        rw [a4] at e2; cases e2
    | exc x os =>
      rw [q] at h
      exact fun cls dd B' H' S' a => h cls dd B' H' (S.leave r S') S'.le a
    | bad => rw [q] at h; exact False.elim h
  · exact False.elim h
end
/-! ### running a callee, whatever it lets out is wished for at the caller's slots -/
section
variable {X : Cx} {W : WX} {k : Nat} {f C : Addr} {sp : Sp} {x m : Str} {p pos apos : Pos} {e o : Expr} {es : List Expr} {te ta : TE} {t : TA}
theorem run_R {pins : List (Addr × Obj)} {σ : St} {H : Hp} {s : Shared} {Q : VK} {us : List Value} {vs : List V} (F : FnR X.prog X.w X.K X.mg X.base (L2.CX X.prog X.w) k f sp) (hr : Room k X.A) (tk : Takes X W) (I : Inv X pins σ H s) (r : Vals vs us) (h : sp vs H Q (fun c d H' => W c d σ H')) :
    codeAny (model X.prog X.w) X.A (.call (.ref f) ⟨us, []⟩) (fun r s' => match r with | .ok (.ret v) => EP X pins σ Q v s' | .ok _ => False | .error e => X.xe e s') s := by
  refine codeAny_mono (F X.A X.stack s H us vs Q _ hr I.env0 r h) fun res s' hq => ?_
  cases res with
  | error er => exact tk er s' (XE.of_call I (fun _ _ _ z => z) hq)
  | ok fl => cases fl with
    | ret u => exact I.after hq
    | next => exact False.elim hq
    | brk => exact False.elim hq
    | cont => exact False.elim hq
/-- what a call asks: the arguments, then the promise -/
def tCW (W : WX) (sp : Sp) (t : TA) : TE := fun σ H Q => t σ H fun vs H1 => sp vs H1 Q fun c d H' => W c d σ H'
theorem pe_callW (F : FnR X.prog X.w X.K X.mg X.base (L2.CX X.prog X.w) k f sp) (hr : Room k X.A) (tk : Takes X W) (hg : Gl X x) (hm : X.mg x = some (.ref f)) (hk : PySem.W.keepIn X.K (.ref f) = true) (ha : PA X (e :: es) t)
    (hdb : (x == ("__debug__" : Str)) = false := by decide) (he : starEach (e :: es) X.env = (false, eval e X.env) :: starEach es X.env := by rfl) (hpl : (backTo pos (starEach es X.env)).any (·.1) = false := by rfl) : PE X (.Call (.Name x p) (e :: es) [] pos) (tCW W sp t) := by
  refine ⟨fun pins s σ H Q I h => wpAny_Call_Name_kw (ld_glob I hg hm ?_ hdb)⟩
  exact PySem.W.callWith_K (h₀ := X.base) I.ok.mod.kin hk (thn (ha.run pos pins s σ H _ I h) fun us s1 ⟨vs, H1, I1, r, q⟩ => ⟨I1.kIn, wpAny_call (run_R F hr tk I1 r q)⟩) he hpl
def tMW (C : Addr) (m : Str) (W : WX) (sp : Sp) (ta : TE) (t : TA) : TE := fun σ H Q => ta σ H fun x H1 => ∃ a dx fs, x = .ref a ∧ H1 a = some (.ins C dx fs) ∧ fs.lookup m = none ∧ t σ H1 fun vs H2 => sp (x :: vs) H2 Q fun c d H' => W c d σ H'
theorem pe_methW {pl : Sem Bool} (he : PE X o ta) (c : Cls X.K C) (hm : Meth X.K C m f) (F : FnR X.prog X.w X.K X.mg X.base (L2.CX X.prog X.w) k f sp) (hr : Room k X.A) (tk : Takes X W) (ha : PA X (e :: es) t)
    (hst : starEach (e :: es) X.env = (false, eval e X.env) :: starEach es X.env := by rfl) (hpl : (backTo pos (starEach es X.env)).any (·.1) = false := by rfl)
    (ht : eval (.Call (.Attribute o m apos) (e :: es) [] pos) X.env = (do
      let ov ← eval o X.env
      standAt apos.atName
      let (f, first) ← holding [ov] (getMethod ov m pl)
      callWith pos f first (backTo pos (starEach (e :: es) X.env)) (backToKw pos (keywordEach [] X.env))) := by rfl) : PE X (.Call (.Attribute o m apos) (e :: es) [] pos) (tMW C m W sp ta t) := by
  refine ⟨fun pins s σ H Q I h => PySem.W.methodCall_KW (pl := pl) (thn (he.run pins s σ H _ I h) fun u s1 ⟨x, H1, I1, rx, a, dx, fs, ex, ea, l, q⟩ => ?_) ht⟩
  subst ex
  obtain rfl : u = Value.ref a := rx
  refine getmeth_ok I1 ea c hm l (PySem.W.callWith_K (first := [.ref a]) (h₀ := X.base) I.ok.mod.kin hm.kp (thn (ha.run pos pins s1 σ H1 _ I1 q) fun us s2 ⟨vs, H2, I2, r, q2⟩ => ⟨I2.kIn, ?_⟩) hst hpl)
  exact wpAny_call (run_R (us := .ref a :: us) (vs := .ref a :: vs) F hr tk I2 (.cons rfl r) q2)
/-- a new instance -/
def tKW (C : Addr) (W : WX) (sp : Sp) (t : TA) : TE := fun σ H Q => t σ H fun vs H1 => ∀ x dx, H1 x = none → H1 dx = none → dx ≠ x → sp (.ref x :: vs) (upd (upd H1 dx (.own x)) x (.ins C dx [])) (fun v H2 => v = .non ∧ Q (.ref x) H2) fun c d H' => W c d σ H'
theorem run_K {pins : List (Addr × Obj)} {σ : St} {H : Hp} {s : Shared} {Q : VK} {us : List Value} {vs : List V} (N : Mk X.K C f) (F : FnR X.prog X.w X.K X.mg X.base (L2.CX X.prog X.w) k f sp) (hr : Room (k + 1) X.A) (tk : Takes X W) (I : Inv X pins σ H s) (r : Vals vs us)
    (h : ∀ x dx, H x = none → H dx = none → dx ≠ x → sp (.ref x :: vs) (upd (upd H dx (.own x)) x (.ins C dx [])) (fun v H2 => v = .non ∧ Q (.ref x) H2) fun c d H' => W c d σ H') : wpAny (model X.prog X.w) X.A (call (.ref C) us) (EP X pins σ Q) X.xe s := by
  have hq := h (s.heap.objs.size + 1) s.heap.objs.size (I.hok.fresh (Nat.le_succ _)) (I.hok.fresh (Nat.le_refl _)) (Nat.ne_of_lt (Nat.lt_succ_self _))
  have J := Inv.made (C := C) I
  refine wpAny_call (make_map (f := f) I.kIn N.makes N.init (beq_iff_eq.mp N.fn) (codeAny_mono (F _ X.stack _ _ (Value.ref (s.heap.objs.size + 1) :: us) _ _ _ (hr.make C us []) (J.env0.make C us []) (Paired.cons (show RelV (V.ref (s.heap.objs.size + 1)) (Value.ref (s.heap.objs.size + 1)) from rfl) r) hq) fun res s' hq' => ?_))
  cases res with
  | error er => exact tk er s' (XE.of_call J (fun _ _ _ z => z) hq')
  | ok fl => cases fl with
    | ret u =>
      obtain ⟨v, H', I3, rv, ev, q3⟩ := J.after hq'
      subst ev
      exact ⟨rv, .ref (s.heap.objs.size + 1), H', I3, rfl, q3⟩
    | next => exact False.elim hq'
    | brk => exact False.elim hq'
    | cont => exact False.elim hq'
theorem pe_makeW (N : Mk X.K C f) (F : FnR X.prog X.w X.K X.mg X.base (L2.CX X.prog X.w) k f sp) (hr : Room (k + 1) X.A) (tk : Takes X W) (hg : Gl X x) (hm : X.mg x = some (.ref C)) (ha : PA X (e :: es) t) (hdb : (x == ("__debug__" : Str)) = false := by decide)
    (he : starEach (e :: es) X.env = (false, eval e X.env) :: starEach es X.env := by rfl) (hpl : (backTo pos (starEach es X.env)).any (·.1) = false := by rfl) : PE X (.Call (.Name x p) (e :: es) [] pos) (tKW C W sp t) := by
  refine ⟨fun pins s σ H Q I h => wpAny_Call_Name_kw (ld_glob I hg hm ?_ hdb)⟩
  exact PySem.W.callWith_K (h₀ := X.base) I.ok.mod.kin N.kp (thn (ha.run pos pins s σ H _ I h) fun us s1 ⟨vs, H1, I1, r, q⟩ => ⟨I1.kIn, run_K N F hr tk I1 r q⟩) he hpl
theorem pe_makeW0 (N : Mk X.K C f) (F : FnR X.prog X.w X.K X.mg X.base (L2.CX X.prog X.w) k f sp) (hr : Room (k + 1) X.A) (tk : Takes X W) (hg : Gl X x) (hm : X.mg x = some (.ref C)) (hdb : (x == ("__debug__" : Str)) = false := by decide) : PE X (.Call (.Name x p) [] [] pos) (tKW C W sp tNil) := by
  refine ⟨fun pins s σ H Q I h => wpAny_Call_Name_kw (ld_glob I hg hm ?_ hdb)⟩
  exact PySem.W.callWith_K0 I.kIn N.kp (run_K (us := []) N F hr tk I .nil h)
end
end Dl
set_option maxHeartbeats 1000000
/-! Layer D, part 3: calls over data, statements, loops, comprehensions, defs. -/
namespace Dl
open PySem PySem.Spec PyProof.Rows L2
/-! ### what the module holds: defs, methods, properties, makers -/
section
variable (P : Program) (w : World) (K : PySem.W.Frag) (mg : Str → Option Value) (base : Heap)
def FnI (k : Nat) (x : Str) (F : En → Res D) : Prop := ∃ f, mg x = some (.ref f) ∧ PySem.W.keepIn K (.ref f) = true ∧ FnR P w K mg base (L2.CX P w) k f (spD K mg F)
def FnN (k : Nat) (x : Str) (F : En → Res (List D)) : Prop := ∃ f, mg x = some (.ref f) ∧ PySem.W.keepIn K (.ref f) = true ∧ FnR P w K mg base (L2.CX P w) k f (spN K mg F)
def MtI (k : Nat) (c m : Str) (F : En → Res D) : Prop := ∃ C f, mg c = some (.ref C) ∧ Cls K C ∧ Meth K C m f ∧ FnR P w K mg base (L2.CX P w) k f (spD K mg F)
def PrI (k : Nat) (c m : Str) (F : En → Res D) : Prop := ∃ C p g, mg c = some (.ref C) ∧ Cls K C ∧ PropOf K C m p g ∧ FnR P w K mg base (L2.CX P w) k g (spD K mg F)
def MkI (k : Nat) (c : Str) (F : En → Res D) : Prop := ∃ C f, mg c = some (.ref C) ∧ Mk K C f ∧ FnR P w K mg base (L2.CX P w) k f (spD K mg F)
end
def FlI (K : PySem.W.Frag) (mg : Str → Option Value) (c m : Str) : Prop := ∃ C, mg c = some (.ref C) ∧ Cls K C ∧ NoAttr K C m
def look (f : Str) : List Str → List D → Option D
  | n :: ns, d :: ds => if f = n then some d else look f ns ds
  | _, _ => none
theorem look_some {K : PySem.W.Frag} {mg : Str → Option Value} {B : Hp} {f : Str} {d : D} : ∀ {fs : List (Str × V)} {ns : List Str} {ds : List D}, fs.map (·.1) = ns → AtL K mg B (fs.map (·.2)) ds → look f ns ds = some d → ∃ v, fs.lookup f = some v ∧ At K mg B v d
  | [], _, _, rfl, _, h => by cases h
  | (n, v) :: fs, _, _, rfl, .cons r t, h => by
    have h : (if f = n then some _ else look f (fs.map (·.1)) _) = some d := h
    split at h
    · rename_i hf
      cases h
      subst hf
      exact ⟨v, by simp [List.lookup], r⟩
    · rename_i hf
      obtain ⟨v', h1, h2⟩ := look_some rfl t h
      refine ⟨v', ?_, h2⟩
      have q : (f == n) = false := by simpa using hf
      simp only [List.lookup, q]
      exact h1
theorem look_none {K : PySem.W.Frag} {mg : Str → Option Value} {B : Hp} {f : Str} : ∀ {fs : List (Str × V)} {ns : List Str} {ds : List D}, fs.map (·.1) = ns → AtL K mg B (fs.map (·.2)) ds → look f ns ds = none → fs.lookup f = none
  | [], _, _, rfl, _, h => rfl
  | (n, v) :: fs, _, _, rfl, .cons r t, h => by
    have h : (if f = n then some _ else look f (fs.map (·.1)) _) = none := h
    split at h
    · cases h
    · rename_i hf
      have q : (f == n) = false := by simpa using hf
      simp only [List.lookup, q]
      exact look_none rfl t h
def dFld (c f : Str) : D → M D := fun d => li (match d with
  | .obj c' ns ds => if c' = c then look f ns ds else none
  | _ => none)
/-- o has no attribute of the method's name -/
def dNoF (c m : Str) : D → M D := fun d => li (match d with
  | .obj c' ns ds => if c' = c ∧ (look m ns ds).isNone = true then some d else none
  | _ => none)
def noExc {α : Type} (m : M α) : M α := fun e => match m e with
  | .ok d e' => .ok d e' | _ => .bad
def fProp (c : Str) (F : En → Res D) (fa : M D) : M D := bd fa fun d => bd (li (match d with
  | .obj c' _ _ => if c' = c then some () else none
  | _ => none)) fun _ => noExc (callR F [.d d])
def fMake (c : Str) (F : En → Res D) (fa : M (List D)) : M D := bd fa fun ds => fun e => match F (.oin true c [] [] :: ds.map .val) with
  | .ok .non (.oin _ c' ns fs :: _) => .ok (.obj c' ns fs) e
  | .exc x _ => .exc x e
  | _ => .bad
def fMeth (c m : Str) (F : En → Res D) (fo : M D) (fa : M (List Ar)) : M D := bd fo fun d => bd (dNoF c m d) fun d => bd fa fun as => callR F (.d d :: as)
section
variable {X : Cx} {W : WX} {j k : Nat} {x c m : Str} {F : En → Res D} {e o : Expr} {es : List Expr} {fr : M (List Ar)} {fl : M (List D)} {fo : M D} {p pos apos : Pos}
theorem evCW {K : PySem.W.Frag} {mg : Str → Option Value} {ta : TA} (ea : EvR K mg W ta fr) : EvD K mg W (tCW W (spD K mg F) ta) (bd fr (callR F)) := by
  intro Z B σ H e Q S h
  refine ea Z B σ H e _ S ((wp_bd.mp h).imp (fun as e1 h1 vs B1 H1 S1 l1 a1 => ?_) fun x e' q => q)
  exact callR_ok S1 a1 (upV l1 h1)
theorem ped_call (cf : FnI X.prog X.w X.K X.mg X.base k x F) (hr : Room j X.A) (hk : k ≤ j) (tk : Takes X W) (ha : PRD X W (e :: es) fr) (hg : Gl X x := by rfl) (hdb : (x == ("__debug__" : Str)) = false := by decide)
    (he : starEach (e :: es) X.env = (false, eval e X.env) :: starEach es X.env := by rfl) (hpl : (backTo pos (starEach es X.env)).any (·.1) = false := by rfl) : PED X W (.Call (.Name x p) (e :: es) [] pos) (bd fr (callR F)) := by
  obtain ⟨f, hm, kp, G⟩ := cf
  obtain ⟨ta, pa, ea⟩ := ha
  exact ⟨_, pe_callW G (hr.mono hk) tk hg hm kp pa hdb he hpl, evCW ea⟩
/-- a call that gives a new list -/
theorem pnd_call {G : En → Res (List D)} (cf : FnN X.prog X.w X.K X.mg X.base k x G) (hr : Room j X.A) (hk : k ≤ j) (tk : Takes X W) (ha : PRD X W (e :: es) fr) (hg : Gl X x := by rfl) (hdb : (x == ("__debug__" : Str)) = false := by decide)
    (he : starEach (e :: es) X.env = (false, eval e X.env) :: starEach es X.env := by rfl) (hpl : (backTo pos (starEach es X.env)).any (·.1) = false := by rfl) : PND X W (.Call (.Name x p) (e :: es) [] pos) (bd fr (callN G)) := by
  obtain ⟨f, hm, kp, G⟩ := cf
  obtain ⟨ta, pa, ea⟩ := ha
  refine ⟨_, pe_callW G (hr.mono hk) tk hg hm kp pa hdb he hpl, fun Z B σ H e Q S h => ?_⟩
  refine ea Z B σ H e _ S ((wp_bd.mp h).imp (fun as e1 h1 vs B1 H1 S1 l1 a1 => ?_) fun x e' q => q)
  exact callN_ok S1 a1 (upN l1 h1)
theorem ref_inj {a b : Addr} {o : Option Value} (h : o = some (Value.ref a)) (h' : o = some (Value.ref b)) : a = b := by
  rw [h] at h'
  injection h' with e
  injection e
theorem ped_fld {f : Str} (cf : FlI X.K X.mg c f) (ha : PED X W e fo) (hb : attributeBase e f X.env (eval e X.env) = eval e X.env := by rfl) : PED X W (.Attribute e f pos) (bd fo (dFld c f)) := by
  obtain ⟨C, hm, cl, na⟩ := cf
  obtain ⟨ta, pa, ea⟩ := ha
  refine ⟨_, pe_fld pa hb, fun Z B σ H e Q S h => ?_⟩
  refine ea.then S h (fun x e' q => q) fun d e1 v B1 H1 S1 l1 a1 h1 => ?_
  obtain ⟨z, h2, h3⟩ := wp_li h1
  cases d with
  | obj c' ns ds =>
    have w0 : (if c' = c then look f ns ds else none) = some z := h2
    by_cases hc : c' = c
    · rw [if_pos hc] at w0
      subst hc
      obtain ⟨a, C', dx, fs, rfl, g1, g2, g3, g4⟩ := a1.obj_inv
      obtain rfl := ref_inj g1 hm
      obtain ⟨v, w1, w2⟩ := look_some g3 g4 w0
      exact ⟨a, _, dx, fs, v, rfl, S1.bh _ _ g2, cl, na, w1, h3 v B1 H1 S1 l1 w2⟩
    · rw [if_neg hc] at w0; cases w0
  | _ => cases h2
theorem noExc_wp {α : Type} {m : M α} {e : En} {Q : α → En → Prop} {E : D → En → Prop} (h : (noExc m e).wp Q E) : (m e).wp Q fun _ _ => False := by
  unfold noExc at h
  cases q : m e with
  | ok d e' => rw [q] at h; exact h
  | exc x e' => rw [q] at h; exact False.elim h
  | bad => rw [q] at h; exact False.elim h
theorem ped_prop (cf : PrI X.prog X.w X.K X.mg X.base k c m F) (hr : Room j X.A) (hk : k + 1 ≤ j) (ha : PED X W e fo) (hb : attributeBase e m X.env (eval e X.env) = eval e X.env := by rfl) : PED X W (.Attribute e m pos) (fProp c F fo) := by
  obtain ⟨C, p, g, hm, cl, hp, G⟩ := cf
  obtain ⟨ta, pa, ea⟩ := ha
  have hr1 := hr.mono hk
  refine ⟨fun σ H Q => ta σ H fun x H1 => ∃ a dx fs, x = V.ref a ∧ H1 a = some (.ins C dx fs) ∧ spD X.K X.mg F [V.ref a] H1 Q E0, ⟨fun pins s σ H Q I h => ?_⟩, fun Z B σ H e Q S h => ?_⟩
  · refine attr_of hb (thn (pa.run pins s σ H _ I h) fun u s1 ⟨x, H1, I1, rx, a, dx, fs, ex, hi, q⟩ => ?_)
    subst ex
    obtain rfl : u = Value.ref a := rx
    obtain ⟨mA, O, _, _, _, _⟩ := ins_get I1.hok hi
    obtain ⟨od, J, _⟩ := O.look
    obtain ⟨rest, hrec⟩ := hp.rec_
    have I2 := I1.tok (s1.toks + 1)
    refine PySem.W.get_bind I1.kIn J (PySem.W.plainGet_of (cl.get m)).1 (PySem.W.findObj_data (by obtain ⟨cd, z, _⟩ := PySem.W.any_some cl.hd; rw [z]; rfl) hp.at_ hp.get hp.tak) (PySem.W.plainGet_of (cl.get m)).2 (wpAny_call (PySem.W.prop_get (s := { s1 with toks := s1.toks + 1 }) I1.kIn hrec ?_))
    refine codeAny_mono (G X.A.in1 X.stack _ H1 [.ref a] [V.ref a] Q E0 hr1.in1 I2.env0.in1 (.cons rfl .nil) q) fun r s' hq => ?_
    cases r with
    | error er => exact False.elim (passL (X := X.nox) pins σ H1 _ er s' (I2.wish _) hq)
    | ok fl => cases fl with
      | ret u =>
        obtain ⟨v, H', I3, rv, q3⟩ := I2.after hq
        show wpAny _ _ (handedOut u) _ _ _
        rw [PySem.W.handedOut_of (handed_of rv)]
        exact wpAny_pure ⟨v, H', I3, rv, q3⟩
      | next => exact False.elim hq
      | brk => exact False.elim hq
      | cont => exact False.elim hq
  · refine ea.then S h (fun x e' q => q) fun d e1 v B1 H1 S1 l1 a1 h1 => ?_
    obtain ⟨z, h2, h3⟩ := wp_li (wp_bd.mp h1)
    cases d with
    | obj c' ns ds =>
      have h2 : (if c' = c then some () else none) = some z := h2
      split at h2
      · rename_i hc
        subst hc
        have a2 := a1
        obtain ⟨a, C', dx, fs, rfl, g1, g2, g3, g4⟩ := a1.obj_inv
        obtain rfl := ref_inj g1 hm
        refine ⟨a, dx, fs, rfl, S1.bh _ _ g2, ?_⟩
        exact callR_ok (W := fun _ _ _ _ => False) S1 (.cons (.d a2) .nil) ((noExc_wp h3).imp (fun _ _ q => PV.up l1 q) fun _ _ q => False.elim q)
      · cases h2
    | _ => cases h2
theorem ped_meth (cf : MtI X.prog X.w X.K X.mg X.base k c m F) (hr : Room j X.A) (hk : k ≤ j) (tk : Takes X W) (ho : PED X W o fo) (ha : PRD X W (e :: es) fr) {pl : Sem Bool}
    (hst : starEach (e :: es) X.env = (false, eval e X.env) :: starEach es X.env := by rfl) (hpl : (backTo pos (starEach es X.env)).any (·.1) = false := by rfl)
    (ht : eval (.Call (.Attribute o m apos) (e :: es) [] pos) X.env = (do
      let ov ← eval o X.env
      standAt apos.atName
      let (f, first) ← holding [ov] (getMethod ov m pl)
      callWith pos f first (backTo pos (starEach (e :: es) X.env)) (backToKw pos (keywordEach [] X.env))) := by rfl) : PED X W (.Call (.Attribute o m apos) (e :: es) [] pos) (fMeth c m F fo fr) := by
  obtain ⟨C, f, hm, cl, me, G⟩ := cf
  obtain ⟨to, po, eo⟩ := ho
  obtain ⟨ta, pa, ea⟩ := ha
  refine ⟨_, pe_methW po cl me G (hr.mono hk) tk pa hst hpl ht, fun Z B σ H e Q S h => ?_⟩
  refine eo.then S h (fun x e' q => q) fun d e1 v B1 H1 S1 l1 a1 h1 => ?_
  obtain ⟨z, h2, h3⟩ := wp_li (wp_bd.mp h1)
  cases d with
  | obj c' ns ds =>
    have h2 : (if c' = c ∧ (look m ns ds).isNone = true then some (D.obj c' ns ds) else none) = some z := h2
    split at h2
    · rename_i hc
      cases h2
      obtain ⟨rfl, hn⟩ := hc
      have a2 := a1
      obtain ⟨a, C', dx, fs, rfl, g1, g2, g3, g4⟩ := a1.obj_inv
      obtain rfl := ref_inj g1 hm
      refine ⟨a, dx, fs, rfl, S1.bh _ _ g2, look_none g3 g4 (Option.isNone_iff_eq_none.mp hn), ?_⟩
      refine ea Z B1 σ H1 e1 _ S1 ((wp_bd.mp h3).imp (fun as e2 h4 vs B2 H2 S2 l2 a3 => ?_) fun x e' q => PX.up l1 q)
      exact callR_ok S2 (.cons (.d (a2.mono l2)) a3) (upV (l1.trans l2) h4)
    · cases h2
  | _ => cases h2
/-- a new instance -/
theorem make_ok {K : PySem.W.Frag} {mg : Str → Option Value} {Z : Ent} {B : Hp} {σ : St} {H : Hp} {e : En} {C : Addr} {vs : List V} {ds : List D} {Q : VK} (hm : mg c = some (.ref C)) (S : SR K mg Z B σ H e) (r : AtL K mg B vs ds)
    (h : (fMake c F (pu ds) e).wp (PV K mg Z B σ Q) (PX K mg Z B σ W)) (x dx : Addr) (hx : H x = none) (hd : H dx = none) (ne : dx ≠ x) :
    spD K mg F (.ref x :: vs) (upd (upd H dx (.own x)) x (.ins C dx [])) (fun v H2 => v = .non ∧ Q (.ref x) H2) fun c d H' => W c d σ H' := by
  obtain ⟨S1, _, _, _⟩ := S.newO (o := .own x) hd
  obtain ⟨S2, hB, h0, hf⟩ := S1.newO (p := x) (o := .ins C dx []) (by rw [upd_ne ne.symm]; exact hx)
  have hlen := r.length
  refine ⟨B, [x], .oin true c [] [] :: ds.map .val, ⟨Same.refl B, S2.bh, fun a o h _ => h, fun a o h => .inl h, fun a o h => ⟨o, h⟩, by simp [hlen], fun i s q => ?_, fun i k a hik hi hk e1 e2 => ?_⟩, ?_⟩
  · cases i with
    | zero =>
      have q : Sl.oin true c [] [] = s := Option.some.inj q
      subst q
      exact ⟨x, C, dx, [], rfl, hm, upd_same, rfl, .nil, hB, (fun z => nomatch z), fun _ => ⟨List.mem_cons_self, rfl⟩⟩
    | succ i =>
      have q : (ds.map Sl.val)[i]? = some s := q
      rw [List.getElem?_map] at q
      cases hd : ds[i]? with
      | none => rw [hd] at q; cases q
      | some d =>
        rw [hd] at q
        obtain ⟨v, hv, rv⟩ := r.get hd
        have q : Sl.val d = s := Option.some.inj q
        subst q
        exact ⟨v, by show (vs.map some)[i]? = _; rw [List.getElem?_map, hv]; rfl, rv⟩
  · have key : ∀ i, ownAt (.oin true c [] [] :: ds.map .val) i → i = 0 := fun i ⟨s, q, hs⟩ => by
      cases i with
      | zero => rfl
      | succ i =>
        have q : (ds.map Sl.val)[i]? = some s := q
        rw [List.getElem?_map] at q
        cases hd : ds[i]? with
        | none => rw [hd] at q; cases q
        | some d =>
          rw [hd] at q
          have q : Sl.val d = s := Option.some.inj q
          subst q
          cases hs
    exact hik ((key i hi).trans (key k hk).symm)
  · have h : (match F (.oin true c [] [] :: ds.map .val) with
      | .ok .non (.oin _ c' ns fs :: _) => Res.ok (D.obj c' ns fs) e
      | .exc x _ => .exc x e
      | _ => .bad).wp (PV K mg Z B σ Q) (PX K mg Z B σ W) := h
    have leave : ∀ {B' H' os}, SR K mg ⟨B, upd (upd H dx (.own x)) x (.ins C dx []), [x], (V.ref x :: vs).map some⟩ B' ((V.ref x :: vs).map some) H' os → SR K mg Z B' σ H' e := fun {B' H' os} S' =>
      S2.after S' rfl (fun a m => by
        have : a = x := by simpa using m
        subst this; exact .inl h0) fun i s' q => .inl ⟨q, fun a ho e1 m => by
          have : a = x := by simpa using m
          subst this; exact hf i ⟨s', q, ho⟩ e1⟩
    cases q : F (.oin true c [] [] :: ds.map .val) with
    | bad => rw [q] at h; exact False.elim h
    | exc z os =>
      rw [q] at h
      exact fun cls dd B' H' S' a => h cls dd B' H' (leave S') S'.le a
    | ok d os =>
      rw [q] at h
      cases d with
      | non =>
        cases os with
        | nil => exact False.elim h
        | cons s os =>
          cases s with
          | oin r c' ns fs =>
            intro v B' H' S' a
            refine ⟨a.non_inv, ?_⟩
            have SL := leave S'
            obtain ⟨a', C', dx', fs', e1, w0, w1, w2, w3, w4⟩ := S'.sl 0 _ rfl
            have e1 : some (some (V.ref x)) = some (some (V.ref a')) := e1
            cases e1
            obtain ⟨S3, l3⟩ := SL.freeze w1 w4.1 h0 hf
            exact h (.ref x) _ _ S3 (S'.le.trans l3) (.obj w0 upd_same w2 (w3.mono l3))
          | _ => exact False.elim h
      | _ => exact False.elim h
theorem ped_make (cf : MkI X.prog X.w X.K X.mg X.base k x F) (hr : Room j X.A) (hk : k + 1 ≤ j) (tk : Takes X W) (ha : PAD X W (e :: es) fl) (hg : Gl X x := by rfl) (hdb : (x == ("__debug__" : Str)) = false := by decide)
    (he : starEach (e :: es) X.env = (false, eval e X.env) :: starEach es X.env := by rfl) (hpl : (backTo pos (starEach es X.env)).any (·.1) = false := by rfl) : PED X W (.Call (.Name x p) (e :: es) [] pos) (fMake x F fl) := by
  obtain ⟨C, f, hm, mk, G⟩ := cf
  obtain ⟨ta, pa, ea⟩ := ha
  refine ⟨_, pe_makeW mk G (hr.mono hk) tk hg hm pa hdb he hpl, fun Z B σ H e Q S h => ?_⟩
  refine ea.then S h (fun x e' q => q) fun ds e1 vs B1 H1 S1 l1 a1 h1 => ?_
  intro x' dx hx hd ne
  exact make_ok hm S1 a1 (upV l1 h1) x' dx hx hd ne
theorem ped_make0 (cf : MkI X.prog X.w X.K X.mg X.base k x F) (hr : Room j X.A) (hk : k + 1 ≤ j) (tk : Takes X W) (hg : Gl X x := by rfl) (hdb : (x == ("__debug__" : Str)) = false := by decide) : PED X W (.Call (.Name x p) [] [] pos) (fMake x F fNil) := by
  obtain ⟨C, f, hm, mk, G⟩ := cf
  refine ⟨_, pe_makeW0 mk G (hr.mono hk) tk hg hm hdb, fun Z B σ H e Q S h => ?_⟩
  intro x' dx hx hd ne
  exact make_ok hm S .nil h x' dx hx hd ne
end
/-! ### statements -/
def setV (i : Nat) (d : D) : M Unit := fun e => match e[i]? with
  | some s => if s.isRef = true then .bad else .ok () (e.set i (.val d))
  | none => .bad
def setO (i : Nat) (ds : List D) : M Unit := fun e => match e[i]? with
  | some s => if s.isRef = true then .bad else .ok () (e.set i (.own false ds))
  | none => .bad
def fRet (fa : M D) : M Fl := bd fa fun d => pu (.rt d)
def fSetT (fa : M D) (t : D → M Unit) : M Fl := bd fa fun d => bd (noExc (t d)) fun _ => pu .nx
def fSetN (i : Nat) (fa : M (List D)) : M Fl := bd fa fun ds => bd (setO i ds) fun _ => pu .nx
def fSeq (a b : M Fl) : M Fl := bd a fun f => match f with
  | .nx => b | f => pu f
def fDrop (fa : M D) : M Fl := bd fa fun _ => pu .nx
def EvG (K : PySem.W.Frag) (mg : Str → Option Value) (g : TG) (t : D → M Unit) : Prop := ∀ Z B σ H e v d (Q : St → Hp → Prop), SR K mg Z B σ H e → At K mg B v d → (t d e).wp (fun _ e' => ∀ σ' B' H', SR K mg Z B' σ' H' e' → Same B B' → Q σ' H') (fun _ _ => False) → g v σ H Q
def PGD (X : Cx) (tg : Expr) (t : D → M Unit) : Prop := ∃ g, PG X tg g ∧ EvG X.K X.mg g t
def EvGs (K : PySem.W.Frag) (mg : Str → Option Value) (g : TGs) (t : List D → M Unit) : Prop := ∀ Z B σ H e vs ds (Q : St → Hp → Prop), SR K mg Z B σ H e → AtL K mg B vs ds → (t ds e).wp (fun _ e' => ∀ σ' B' H', SR K mg Z B' σ' H' e' → Same B B' → Q σ' H') (fun _ _ => False) → g vs σ H Q
def PGsD (X : Cx) (tg : List Expr) (t : List D → M Unit) : Prop := ∃ g, PGs X tg g ∧ EvGs X.K X.mg g t
theorem setV_wp {i : Nat} {d : D} {e : En} {Q : Unit → En → Prop} {E : D → En → Prop} (h : (setV i d e).wp Q E) : Q () (e.set i (.val d)) := by
  unfold setV at h
  cases q : e[i]? with
  | none => rw [q] at h; exact False.elim h
  | some s =>
    rw [q] at h
    have h : (if s.isRef = true then Res.bad else Res.ok () (e.set i (.val d))).wp Q E := h
    split at h
    · exact False.elim h
    · exact h
theorem setO_wp {i : Nat} {d : List D} {e : En} {Q : Unit → En → Prop} {E : D → En → Prop} (h : (setO i d e).wp Q E) : Q () (e.set i (.own false d)) := by
  unfold setO at h
  cases q : e[i]? with
  | none => rw [q] at h; exact False.elim h
  | some s =>
    rw [q] at h
    have h : (if s.isRef = true then Res.bad else Res.ok () (e.set i (.own false d))).wp Q E := h
    split at h
    · exact False.elim h
    · exact h
section
variable {X : Cx} {W : WX} {a : Expr} {fa : M D} {pos : Pos}
theorem pgd_name (i : Nat) {x : Str} (hN : X.N.Nodup) (hi : X.N[i]? = some x := by rfl) (hx : Loc X.env.scope x := by first | exact Or.inl rfl | exact Or.inr rfl) (hf : X.fn x = true ∨ X.env.scope.names.lookup x = some .local := by first | exact .inl rfl | exact .inr rfl) : PGD X (.Name x pos) (setV i) :=
  ⟨_, pg_name hN hi hx hf, fun Z B σ H e v d Q S r h => setV_wp h _ B H (S.set r) (Same.refl B)⟩
def gNilD : List D → M Unit := fun ds => li (match ds with
  | [] => some () | _ => none)
def gConsD (t : D → M Unit) (u : List D → M Unit) : List D → M Unit
  | d :: ds => bd (t d) fun _ => u ds
  | [] => li none
theorem pgsd_nil : PGsD X [] gNilD := ⟨_, pgs_nil, fun Z B σ H e vs ds Q S r h => by
  obtain ⟨_, h1, h2⟩ := wp_li h
  cases ds with
  | nil => cases r; exact ⟨rfl, h2 σ B H S (Same.refl B)⟩
  | cons d ds => cases h1⟩
theorem pgsd_cons {es : List Expr} {t : D → M Unit} {u : List D → M Unit} (h1 : PGD X a t) (h2 : PGsD X es u) (hs : (assignEach (a :: es) X.env).map (·.2) = assign a X.env :: (assignEach es X.env).map (·.2) := by rfl) : PGsD X (a :: es) (gConsD t u) := by
  obtain ⟨g, pg, eg⟩ := h1
  obtain ⟨gs, pgs, egs⟩ := h2
  refine ⟨_, pgs_cons pg pgs hs, fun Z B σ H e vs ds Q S r h => ?_⟩
  cases r with
  | nil => exact False.elim h
  | @cons v d vs ds r rr =>
    refine ⟨v, vs, rfl, eg Z B σ H e v d _ S r ((wp_bd.mp h).imp (fun _ e1 h1 σ1 B1 H1 S1 l1 => ?_) fun _ _ q => q)⟩
    exact egs Z B1 σ1 H1 e1 vs ds Q S1 (rr.mono l1) (h1.imp (fun _ e2 h2 σ2 B2 H2 S2 l2 => h2 σ2 B2 H2 S2 (l1.trans l2)) fun _ _ q => q)
/-- (a, b, ..) = a tuple of n -/
def gTupD (n : Nat) (t : List D → M Unit) : D → M Unit := fun d => bd (li (match d with
  | .tup ds => if ds.length = n then some ds else none
  | _ => none)) t
theorem pgd_tup {es : List Expr} {k n : Nat} {t : List D → M Unit} (hc : X.calm = true) (h : PGsD X es t) (hn : (assignEach es X.env).length = n := by rfl) (hst : (assignEach es X.env).findIdx? (·.1) = none := by rfl) : PGD X (.Tuple es k pos) (gTupD n t) := by
  obtain ⟨g, pg, eg⟩ := h
  refine ⟨_, pg_tup hc pg hn hst, fun Z B σ H e v d Q S r h => ?_⟩
  obtain ⟨ds, h1, h2⟩ := wp_li (wp_bd.mp h)
  cases d with
  | tup xs =>
    have h1 : (if xs.length = n then some xs else none) = some ds := h1
    split at h1
    · cases h1
      obtain ⟨p, vs, rfl, e1, r1⟩ := r.tup_inv
      exact ⟨p, vs, rfl, seqT S.bh e1, by rw [r1.length]; assumption, eg Z B σ H e vs _ Q S r1 h2⟩
    · cases h1
  | _ => cases h1
theorem psd_set {tg : Expr} {t : D → M Unit} (ha : PED X W a fa) (hg : PGD X tg t) (hs : swapsWithSole [tg] a pos.line X.env = pure false := by rfl) (hw : swappedStores [tg] a X.env = pure none := by rfl) (h1 : (assignEach [tg] X.env).map (·.2) = [assign tg X.env] := by rfl) : PSD X W (.Assign [tg] a pos) (fSetT fa t) := by
  obtain ⟨ta, pa, ea⟩ := ha
  obtain ⟨g, pg, eg⟩ := hg
  refine ⟨_, ps_asg pa pg hs hw h1, fun Z B σ H e Y S h => ?_⟩
  refine ea.then S h (fun x e' q => PXs.at q) fun d e1 v B1 H1 S1 l1 a1 h1 => ?_
  exact eg Z B1 σ H1 e1 v d _ S1 a1 ((noExc_wp (wp_bd.mp h1)).imp (fun _ e2 h2 σ2 B2 H2 S2 l2 => h2 σ2 B2 H2 S2 (l1.trans l2)) fun x e' q => q)
theorem psd_setN (i : Nat) {x : Str} {fn : M (List D)} {px : Pos} (ha : PND X W a fn) (hN : X.N.Nodup) (hi : X.N[i]? = some x := by rfl) (hx : Loc X.env.scope x := by first | exact Or.inl rfl | exact Or.inr rfl) (hf : X.fn x = true ∨ X.env.scope.names.lookup x = some .local := by first | exact .inl rfl | exact .inr rfl)
    (hs : swapsWithSole [.Name x px] a pos.line X.env = pure false := by rfl) (hw : swappedStores [.Name x px] a X.env = pure none := by rfl) (h1 : (assignEach [.Name x px] X.env).map (·.2) = [assign (.Name x px) X.env] := by rfl) : PSD X W (.Assign [.Name x px] a pos) (fSetN i fn) := by
  obtain ⟨ta, pa, ea⟩ := ha
  refine ⟨_, ps_asg pa (pg_name hN hi hx hf) hs hw h1, fun Z B σ H e Y S h => ?_⟩
  refine ea.then S h (fun x e' q => PXs.at q) fun ds e1 p xs B1 H1 S1 l1 h2 a1 hB h0 hfr h3 => ?_
  exact setO_wp (wp_bd.mp h3) _ B1 H1 (S1.setO hfr fun _ => ⟨p, xs, rfl, h2, a1, hB, fun _ => h0, fun z => nomatch z⟩) l1
theorem psd_ret (ha : PED X W a fa) : PSD X W (.Return (some a) pos) (fRet fa) := by
  obtain ⟨ta, pa, ea⟩ := ha
  refine ⟨_, ps_ret pa, fun Z B σ H e Y S h => ?_⟩
  refine ea Z B σ H e _ S ((wp_bd.mp h).imp (fun d e1 h1 v B1 H1 S1 l1 a1 => h1 v σ B1 H1 S1 l1 a1) fun x e' q => PXs.at q)
/-- return of a new list: the caller's own -/
def fRetL (fa : M (List D)) : M Fl := bd fa fun ds => pu (.rn ds)
theorem psd_retL {fn : M (List D)} (ha : PND X W a fn) : PSD X W (.Return (some a) pos) (fRetL fn) := by
  obtain ⟨ta, pa, ea⟩ := ha
  refine ⟨_, ps_ret pa, fun Z B σ H e Y S h => ?_⟩
  exact ea Z B σ H e _ S ((wp_bd.mp h).imp (fun ds e1 h1 p xs B1 H1 S1 l1 a1 a2 a3 a4 a5 => h1 p xs σ B1 H1 S1 l1 a1 a2 a3 a4 a5) fun x e' q => PXs.at q)
theorem psd_never {st : Stmt} : PSD X W st (fun _ => .bad) := ⟨_, ps_never, fun Z B σ H e Y S h => h⟩
theorem psd_expr (ha : PED X W a fa) (hs : swapsWith a none pos.line X.env = pure false := by rfl) : PSD X W (.Expr a pos) (fDrop fa) := by
  obtain ⟨ta, pa, ea⟩ := ha
  refine ⟨_, ps_expr pa hs, fun Z B σ H e Y S h => ?_⟩
  refine ea Z B σ H e _ S ((wp_bd.mp h).imp (fun d e1 h1 v B1 H1 S1 l1 a1 => h1 σ B1 H1 S1 l1) fun x e' q => PXs.at q)
theorem psd_if {c : Expr} {sa sb : List Stmt} {gc : M Bool} {ga gb : M Fl} (hc : PBD X W c gc) (ha : PSsD X W sa ga) (hb : PSsD X W sb gb) : PSD X W (.If c sa sb pos) (fIf gc ga gb) := by
  obtain ⟨tc, pc, ec⟩ := hc
  obtain ⟨ta, pa, ea⟩ := ha
  obtain ⟨tb, pb, eb⟩ := hb
  refine ⟨_, ps_if pc pa pb, fun Z B σ H e Y S h => ?_⟩
  refine ec.then S h (fun x e' q => PXs.at q) fun d e1 B1 H1 S1 l1 h1 => ?_
  cases d with
  | true => exact ea Z B1 σ H1 e1 Y S1 (upF l1 h1)
  | false => exact eb Z B1 σ H1 e1 Y S1 (upF l1 h1)
theorem pssd_nil : PSsD X W [] (pu .nx) := ⟨_, pss_nil, fun Z B σ H e Y S h => h σ B H S (Same.refl B)⟩
theorem pssd_one {st : Stmt} {g : M Fl} (h : PSD X W st g) : PSsD X W [st] g := by
  obtain ⟨t, p, e⟩ := h
  exact ⟨_, pss_one p, e⟩
theorem pssd_cons {st : Stmt} {rest : List Stmt} {g u : M Fl} (h1 : PSD X W st g) (h2 : PSsD X W rest u) : PSsD X W (st :: rest) (fSeq g u) := by
  obtain ⟨t, p, et⟩ := h1
  obtain ⟨t2, p2, e2⟩ := h2
  refine ⟨_, pss_cons p p2, fun Z B σ H e Y S h => ?_⟩
  refine et Z B σ H e _ S ((wp_bd.mp h).imp (fun f e1 h1 => ?_) fun x e' q => q)
  cases f with
  | nx => exact fun σ' B' H' S' l' => e2 Z B' σ' H' e1 Y S' (upF l' h1)
  | rt d => exact h1
  | bk => exact h1
  | ct => exact h1
  | rn ds => exact h1
/-- name op= e, ints -/
def fAug (i : Nat) (o : D → D → M D) (fa : M D) : M Fl := bd (fVar i) fun d => bd fa fun d2 => bd (o d d2) fun d => bd (setV i d) fun _ => pu .nx
theorem psd_aug (i : Nat) {x : Str} {op : Operator} {f : Int → Int → Int} {px : Pos} (ho : PIp X op (ipI f)) (ha : PED X W a fa) (hN : X.N.Nodup) (hi : X.N[i]? = some x := by rfl) (hx : Loc X.env.scope x := by first | exact Or.inl rfl | exact Or.inr rfl) (hf : X.fn x = true ∨ X.env.scope.names.lookup x = some .local := by first | exact .inl rfl | exact .inr rfl) :
    PSD X W (.AugAssign (.Name x px) op a pos) (fAug i (opI (fun _ _ => true) fun i j => .int (f i j)) fa) := by
  obtain ⟨ta, pa, ea⟩ := ha
  refine ⟨_, ps_aug hN hi hx pa ho hf, fun Z B σ H e Y S h => ?_⟩
  have h := wp_bd.mp h
  unfold fVar at h
  cases q : e[i]? with
  | none => rw [q] at h; exact False.elim h
  | some s =>
    rw [q] at h
    cases s with
    | val d =>
      obtain ⟨v, ev, r⟩ := S.sl i _ q
      refine ⟨v, ev, ?_⟩
      refine ea.then S h (fun x e' q => PXs.at q) fun d2 e1 v2 B1 H1 S1 l1 a1 h1 => ?_
      obtain ⟨i1, j1, rfl, rfl, _, h2⟩ := opI_wp (wp_bd.mp h1)
      exact ⟨i1, j1, r.int_inv, a1.int_inv, setV_wp (wp_bd.mp h2) _ B1 H1 (S1.set (.int _)) l1⟩
    | _ => exact False.elim h
end
end Dl
set_option maxHeartbeats 1000000
/-! Layer D, part 4: lists of one's own, loops, comprehensions, defs. -/
namespace Dl
open PySem PySem.Spec PyProof.Rows L2
section
variable {K : PySem.W.Frag} {mg : Str → Option Value} {Z : Ent} {B B' : Hp} {σ : St} {H H' : Hp} {e e' : En} {p : Addr}
/-- something that is neither known nor a slot's is written -/
theorem SR.poke {o : HO} (S : SR K mg Z B σ H e) (hB : B p = none) (h0 : Z.H0 p = none) (hf : Free σ e p) : SR K mg Z B σ (upd H p o) e := by
  refine ⟨S.le, fun b u q => ?_, fun b u q n => ?_, S.nb, fun b u q => ?_, S.ln, fun i s q => (S.sl i s q).mono (Same.refl B) fun a u hs e1 h1 h2 => ?_, S.ds⟩
  · rw [upd_ne (ne_of_none q hB)]; exact S.bh b u q
  · rw [upd_ne (ne_of_none q h0)]; exact S.fh b u q n
  · by_cases hb : b = p
    · subst hb; exact ⟨o, upd_same⟩
    · obtain ⟨o', z⟩ := S.dm b u q
      exact ⟨o', by rw [upd_ne hb]; exact z⟩
  · have ne : a ≠ p := fun z => hf i ⟨s, q, hs⟩ (by rw [e1, z])
    exact ⟨h2, by rw [upd_ne ne]; exact h1⟩
theorem SR.own {i : Nat} {r : Bool} {ds : List D} (S : SR K mg Z B σ H e) (q : e[i]? = some (.own r ds)) : ∃ a xs, σ[i]? = some (some (.ref a)) ∧ H a = some (.lst xs) ∧ AtL K mg B xs ds ∧ OwnA Z B i r a := S.sl i _ q
theorem SR.putL {i : Nat} {r : Bool} {ds ds' : List D} {a : Addr} {xs : List V} (S : SR K mg Z B σ H e) (q : e[i]? = some (.own r ds)) (ha : σ[i]? = some (some (.ref a))) (hx : AtL K mg B xs ds') : SR K mg Z B σ (upd H a (.lst xs)) (e.set i (.own r ds')) := by
  obtain ⟨a', xs', e1, h1, h2, h3⟩ := S.own q
  rw [ha] at e1
  cases e1
  exact S.write ⟨_, q, rfl⟩ ha ⟨a, xs, ha, upd_same, hx, h3⟩ rfl
end
/-! ### lists of one's own: read, appended to, stored into -/
def appO (i : Nat) (d : D) : M Unit := fun e => match e[i]? with
  | some (.own r ds) => if ds.length < 16777216 then .ok () (e.set i (.own r (ds ++ [d]))) else .bad
  | _ => .bad
def putOI (i : Nat) (k d : D) : M Unit := fun e => match e[i]?, k with
  | some (.own r ds), .int z => (match ixN ds.length z with
    | some j => .ok () (e.set i (.own r (ds.set j d))) | none => .bad)
  | _, _ => .bad
def getOI (i : Nat) (k : D) : M D := fun e => match e[i]?, k with
  | some (.own r ds), .int z => (match L2.atI ds z with
    | some d => .ok d e | none => .bad)
  | _, _ => .bad
/-- the slot holds a list of one's own -/
def isL (i : Nat) : M Unit := fun e => match e[i]? with
  | some (.own _ _) => .ok () e | _ => .bad
theorem isL_wp {i : Nat} {e : En} {Q : Unit → En → Prop} {E : D → En → Prop} (h : (isL i e).wp Q E) : (∃ r ds, e[i]? = some (.own r ds)) ∧ Q () e := by
  unfold isL at h
  cases q : e[i]? with
  | none => rw [q] at h; exact False.elim h
  | some s =>
    rw [q] at h
    cases s with
    | own r ds => exact ⟨⟨r, ds, rfl⟩, h⟩
    | _ => exact False.elim h
def fApp (i : Nat) (fa : M D) : M Fl := bd (isL i) fun _ => bd fa fun d => bd (noExc (appO i d)) fun _ => pu .nx
def fPut (i : Nat) (fv fk : M D) : M Fl := bd fv fun d => bd (isL i) fun _ => bd fk fun k => bd (noExc (putOI i k d)) fun _ => pu .nx
def fGet (i : Nat) (fk : M D) : M D := bd (isL i) fun _ => bd fk fun k => getOI i k
/-- one's own list becomes known -/
def fFrz (i : Nat) : M D := fun e => match e[i]? with
  | some (.own false ds) => .ok (.lst ds) (e.set i (.val (.lst ds)))
  | _ => .bad
section
variable {X : Cx} {W : WX} {a b : Expr} {fa fk : M D} {pos px apos : Pos} {x : Str}
theorem appO_wp {i : Nat} {d : D} {e : En} {Q : Unit → En → Prop} {E : D → En → Prop} (h : (appO i d e).wp Q E) : ∃ r ds, e[i]? = some (.own r ds) ∧ ds.length < 16777216 ∧ Q () (e.set i (.own r (ds ++ [d]))) := by
  unfold appO at h
  cases q : e[i]? with
  | none => rw [q] at h; exact False.elim h
  | some s =>
    rw [q] at h
    cases s with
    | own r ds =>
      have h : (if ds.length < 16777216 then Res.ok () (e.set i (.own r (ds ++ [d]))) else .bad).wp Q E := h
      split at h
      · exact ⟨r, ds, rfl, by assumption, h⟩
      · exact False.elim h
    | _ => exact False.elim h
theorem putOI_wp {i : Nat} {k d : D} {e : En} {Q : Unit → En → Prop} {E : D → En → Prop} (h : (putOI i k d e).wp Q E) : ∃ r ds z j, e[i]? = some (.own r ds) ∧ k = .int z ∧ ixN ds.length z = some j ∧ Q () (e.set i (.own r (ds.set j d))) := by
  unfold putOI at h
  cases q : e[i]? with
  | none => rw [q] at h; cases k <;> exact False.elim h
  | some s =>
    rw [q] at h
    cases s with
    | own r ds =>
      cases k with
      | int z =>
        have h : (match ixN ds.length z with
          | some j => Res.ok () (e.set i (.own r (ds.set j d))) | none => .bad).wp Q E := h
        cases hj : ixN ds.length z with
        | none => rw [hj] at h; exact False.elim h
        | some j => rw [hj] at h; exact ⟨r, ds, z, j, rfl, rfl, hj, h⟩
      | _ => exact False.elim h
    | _ => cases k <;> exact False.elim h
theorem getOI_wp {i : Nat} {k : D} {e : En} {Q : D → En → Prop} {E : D → En → Prop} (h : (getOI i k e).wp Q E) : ∃ r ds z d, e[i]? = some (.own r ds) ∧ k = .int z ∧ L2.atI ds z = some d ∧ Q d e := by
  unfold getOI at h
  cases q : e[i]? with
  | none => rw [q] at h; cases k <;> exact False.elim h
  | some s =>
    rw [q] at h
    cases s with
    | own r ds =>
      cases k with
      | int z =>
        have h : (match L2.atI ds z with
          | some d => Res.ok d e | none => .bad).wp Q E := h
        cases hj : L2.atI ds z with
        | none => rw [hj] at h; exact False.elim h
        | some j => rw [hj] at h; exact ⟨r, ds, z, j, rfl, rfl, hj, h⟩
      | _ => exact False.elim h
    | _ => cases k <;> exact False.elim h
theorem psd_app (i : Nat) {cpos : Pos} (ha : PED X W a fa) (hN : X.N[i]? = some x := by rfl) (hv : Vis X.env.scope x := by first | exact Or.inl rfl | exact Or.inr (Or.inl rfl) | exact Or.inr (Or.inr rfl)) (hd : (x == ("__debug__" : Str)) = false := by decide) (hcd : (x == ("__classdict__" : Str)) = false := by decide)
    (hbase : attributeBase (.Name x px) "append" X.env (eval (.Name x px) X.env) = eval (.Name x px) X.env := by rfl)
    (hfew : ((backTo cpos (starEach [a] X.env)).all (fun x => !x.1) && (backToKw cpos (keywordEach [] X.env)).all (fun x => x.1.isSome) && decide ([a].length + ([] : List Keyword).length + (if ([] : List Keyword).isEmpty then 0 else 1) < 30)) = true := by rfl)
    (hline : (apos.endLine == cpos.line) = true := by rfl) (hs : starEach [a] X.env = (false, eval a X.env) :: starEach [] X.env := by rfl) (hplain : (backTo cpos (starEach [] X.env)).any (·.1) = false := by rfl)
    (hw : swapsWith (.Call (.Attribute (.Name x px) "append" apos) [a] [] cpos) none pos.line X.env = pure false := by rfl) : PSD X W (.Expr (.Call (.Attribute (.Name x px) "append" apos) [a] [] cpos) pos) (fApp i fa) := by
  obtain ⟨ta, pa, ea⟩ := ha
  refine ⟨_, ps_expr (pe_bm PySem.F.plainAttrs_list PySem.F.slot_list_append PySem.F.type_list_append mt_append (pe_var hN hv hd hcd) (pa_cons pa pa_nil hs) hbase hfew hline hs hplain) hw, fun Z B σ H e Y S h => ?_⟩
  obtain ⟨⟨r, ds, q⟩, h⟩ := isL_wp (wp_bd.mp h)
  obtain ⟨p, xs, e1, h1, _⟩ := S.own q
  refine ⟨_, e1, .inl ⟨rfl, _, SqL.of h1⟩, ?_⟩
  refine ea.then S h (fun x e' q => PXs.at q) fun d e2 v B1 H1 S1 l1 a1 h2 => ?_
  obtain ⟨r2, ds2, q2, hz, h3⟩ := appO_wp (noExc_wp (wp_bd.mp h2))
  obtain ⟨p2, xs2, e3, w1, w2, _⟩ := S1.own q2
  rw [e1] at e3
  cases e3
  exact ⟨p, xs2, v, rfl, rfl, w1, by rw [sizeLine_eq, w2.length]; exact hz, h3 σ B1 _ (S1.putL q2 e1 (w2.app (.cons a1 .nil))) l1⟩
theorem psd_put (i : Nat) {ps : Pos} (hv' : PED X W a fa) (hk : PED X W b fk) (hN : X.N[i]? = some x := by rfl) (hv : Vis X.env.scope x := by first | exact Or.inl rfl | exact Or.inr (Or.inl rfl) | exact Or.inr (Or.inr rfl)) (hd : (x == ("__debug__" : Str)) = false := by decide) (hcd : (x == ("__classdict__" : Str)) = false := by decide)
    (has : ∀ v, assign (.Subscript (.Name x px) b ps) X.env v = (do
      let ov ← holding [v] (eval (.Name x px) X.env)
      let iv ← holding [v, ov] (eval b X.env)
      standAt ps
      holding [v, ov, iv] (setItem ov iv v)
      release [v, ov, iv] []) := by intro _; rfl)
    (hs : swapsWithSole [.Subscript (.Name x px) b ps] a pos.line X.env = pure false := by rfl) (hw : swappedStores [.Subscript (.Name x px) b ps] a X.env = pure none := by rfl) (h1 : (assignEach [.Subscript (.Name x px) b ps] X.env).map (·.2) = [assign (.Subscript (.Name x px) b ps) X.env] := by rfl) :
    PSD X W (.Assign [.Subscript (.Name x px) b ps] a pos) (fPut i fa fk) := by
  obtain ⟨ta, pa, ea⟩ := hv'
  obtain ⟨tb, pb, eb⟩ := hk
  refine ⟨_, ps_asg pa (pg_sub (pe_var hN hv hd hcd) pb set_list has) hs hw h1, fun Z B σ H e Y S h => ?_⟩
  refine ea.then S h (fun x e' q => PXs.at q) fun d e2 v B1 H1 S1 l1 a1 h2 => ?_
  obtain ⟨⟨r, ds, q⟩, h⟩ := isL_wp (wp_bd.mp h2)
  obtain ⟨p, xs, e1, h1, _⟩ := S1.own q
  refine ⟨_, e1, ?_⟩
  refine eb.then S1 h (fun x e' q => PX.up l1 (PXs.at q)) fun k e3 vk B2 H2 S2 l2 a2 h3 => ?_
  obtain ⟨r2, ds2, z, j, q2, rfl, hj, h4⟩ := putOI_wp (noExc_wp (wp_bd.mp h3))
  obtain ⟨p2, xs2, e3, w1, w2, _⟩ := S2.own q2
  rw [e1] at e3
  cases e3
  exact ⟨p, xs2, z, j, rfl, a2.int_inv, w1, by rw [w2.length]; exact hj, h4 σ B2 _ (S2.putL q2 e1 (AtL.set (a1.mono l2) j w2)) (l1.trans l2)⟩
theorem ped_get (i : Nat) {ps : Pos} (hk : PED X W b fk) (hN : X.N[i]? = some x := by rfl) (hv : Vis X.env.scope x := by first | exact Or.inl rfl | exact Or.inr (Or.inl rfl) | exact Or.inr (Or.inr rfl)) (hd : (x == ("__debug__" : Str)) = false := by decide) (hcd : (x == ("__classdict__" : Str)) = false := by decide)
    (hs : PlainIx b := by exact fun _ _ => rfl) : PED X W (.Subscript (.Name x px) b ps) (fGet i fk) := by
  obtain ⟨tb, pb, eb⟩ := hk
  refine ⟨_, pe_ix ix_list (pe_var hN hv hd hcd) pb hs, fun Z B σ H e Q S h => ?_⟩
  obtain ⟨⟨r, ds, q⟩, h⟩ := isL_wp (wp_bd.mp h)
  obtain ⟨p, xs, e1, h1, _⟩ := S.own q
  refine ⟨_, e1, ?_⟩
  refine eb.then S h (fun x e' q => q) fun k e3 vk B2 H2 S2 l2 a2 h3 => ?_
  obtain ⟨r2, ds2, z, d, q2, rfl, hj, h4⟩ := getOI_wp h3
  obtain ⟨p2, xs2, e3, w1, w2, _⟩ := S2.own q2
  rw [e1] at e3
  cases e3
  obtain ⟨v, g1, g2⟩ := w2.atI hj
  exact ⟨p, xs2, z, v, rfl, a2.int_inv, SqL.of w1, g1, h4 v B2 H2 S2 l2 g2⟩
theorem ped_frz (i : Nat) (hN : X.N[i]? = some x := by rfl) (hv : Vis X.env.scope x := by first | exact Or.inl rfl | exact Or.inr (Or.inl rfl) | exact Or.inr (Or.inr rfl)) (hd : (x == ("__debug__" : Str)) = false := by decide) (hcd : (x == ("__classdict__" : Str)) = false := by decide) : PED X W (.Name x px) (fFrz i) := by
  refine ⟨_, pe_var hN hv hd hcd, fun Z B σ H e Q S h => ?_⟩
  unfold fFrz at h
  cases q : e[i]? with
  | none => rw [q] at h; exact False.elim h
  | some s =>
    rw [q] at h
    cases s with
    | own r ds =>
      cases r with
      | true => exact False.elim h
      | false =>
        obtain ⟨p, xs, e1, h1, h2, h3⟩ := S.own q
        refine ⟨_, e1, ?_⟩
        -- the slot is forgotten, the list known, the slot told again
        have S1 : SR X.K X.mg Z B σ H (e.set i .no) := S.weak (fun _ => trivial) fun z => nomatch z
        have hf : Free σ (e.set i .no) p := fun j hj ej => by
          rcases ownAt_set hj with ⟨_, z⟩ | ⟨nj, z⟩
          · cases z
          · exact S.ds j i p nj z ⟨_, q, rfl⟩ ej e1
        obtain ⟨S2, l⟩ := S1.freeze h1 h3.1 (h3.2.1 rfl) hf
        have at' : At X.K X.mg (upd B p (.lst xs)) (.ref p) (.lst ds) := .lst upd_same (h2.mono l)
        have S3 : SR X.K X.mg Z (upd B p (.lst xs)) σ H ((e.set i .no).set i (.val (.lst ds))) := S2.weak (fun _ => ⟨_, e1, at'⟩) fun z => nomatch z
        rw [List.set_set] at S3
        exact h _ _ _ S3 l at'
    | _ => exact False.elim h
end
/-! ### what is walked -/
structure Walks (K : PySem.W.Frag) (mg : Str → Option Value) (J : It) (B' : Hp) (ds : List D) : Prop where
  go : ∀ (i : Nat) d Z σ1 H1 e1 B1, Same B' B1 → SR K mg Z B1 σ1 H1 e1 → ds[i]? = some d → J.go i H1 ∧ ∀ x H2, J.yld i H1 x H2 → (∃ B2, SR K mg Z B2 σ1 H2 e1 ∧ Same B1 B2 ∧ At K mg B2 x d) ∧ ∀ a o, H1 a = some o → H2 a = some o
  stop : ∀ i Z σ1 H1 e1 B1, Same B' B1 → SR K mg Z B1 σ1 H1 e1 → ds.length ≤ i → J.stop i H1
def EvI (K : PySem.W.Frag) (mg : Str → Option Value) (W : WX) (wi : TI) (f : M (List D)) : Prop := ∀ Z B σ H e (R : It → Hp → Prop), SR K mg Z B σ H e → (f e).wp (fun ds e' => ∀ J B' H', SR K mg Z B' σ H' e' → Same B B' → Walks K mg J B' ds → R J H') (PX K mg Z B σ W) → wi σ H R
def PID (X : Cx) (W : WX) (tg iter : Expr) (f : M (List D)) : Prop := ∃ wi, PI X tg iter wi ∧ EvI X.K X.mg W wi f
theorem pi_or {X : Cx} {tg iter : Expr} {w1 w2 : TI} (h1 : PI X tg iter w1) (h2 : PI X tg iter w2) : PI X tg iter (fun σ H R => w1 σ H R ∨ w2 σ H R) := ⟨fun pins s σ H R I h => h.elim (h1.run pins s σ H R I) (h2.run pins s σ H R I)⟩
section
variable {X : Cx} {W : WX} {tg a b : Expr} {fa : M D} {K : PySem.W.Frag} {mg : Str → Option Value} {B' : Hp} {p : Addr}
theorem walks_list {xs : List V} {ds : List D} (h : SqL K B' p xs) (r : AtL K mg B' xs ds) : Walks K mg (Itl K p) B' ds where
  go := fun i d Z σ1 H1 e1 B1 l S hd => by
    obtain ⟨v, hv, rv⟩ := r.get hd
    refine ⟨⟨xs, v, S.bh.seq (l.seq h), hv⟩, fun x H2 y => ?_⟩
    obtain ⟨e, y⟩ := y
    subst e
    have := y xs (S.bh.seq (l.seq h))
    rw [hv] at this
    cases this
    exact ⟨⟨B1, S, Same.refl B1, rv.mono l⟩, fun _ _ z => z⟩
  stop := fun i Z σ1 H1 e1 B1 l S hi => ⟨xs, S.bh.seq (l.seq h), by rw [r.length]; exact hi⟩
theorem walks_tup {xs : List V} {ds : List D} (h : SqT K B' p xs) (r : AtL K mg B' xs ds) : Walks K mg (Itt K p) B' ds where
  go := fun i d Z σ1 H1 e1 B1 l S hd => by
    obtain ⟨v, hv, rv⟩ := r.get hd
    refine ⟨⟨xs, v, seqT S.bh (seqT l h), hv⟩, fun x H2 y => ?_⟩
    obtain ⟨e, y⟩ := y
    subst e
    have := y xs (seqT S.bh (seqT l h))
    rw [hv] at this
    cases this
    exact ⟨⟨B1, S, Same.refl B1, rv.mono l⟩, fun _ _ z => z⟩
  stop := fun i Z σ1 H1 e1 B1 l S hi => ⟨xs, seqT S.bh (seqT l h), by rw [r.length]; exact hi⟩
/-- the items of what is walked -/
def dWalk : D → M (List D) := fun d => li (match d with
  | .lst xs => some xs | .tup xs => some xs | .scr ns => some (ns.map D.int) | _ => none)
theorem pid_seq (ha : PED X W a fa) : PID X W tg a (bd fa dWalk) := by
  obtain ⟨ta, pa, ea⟩ := ha
  refine ⟨_, pi_or (pi_list pa) (pi_tup pa), fun Z B σ H e R S h => ?_⟩
  -- which of the two is known once the value is
  have key : (fa e).wp (fun d e' => (∃ ds, d = .tup ds) ∨ ∀ ds, d ≠ .tup ds) (fun _ _ => True) := by
    cases q : fa e with
    | ok d e' => exact Classical.byCases (fun z => Or.inl z) fun z => Or.inr fun ds hd => z ⟨ds, hd⟩
    | exc x e' => trivial
    | bad => have := wp_bd.mp h; rw [q] at this; exact this
  cases q : fa e with
  | bad => have := wp_bd.mp h; rw [q] at this; exact False.elim this
  | exc x e' =>
    refine .inl (ea Z B σ H e _ S ?_)
    have := wp_bd.mp h
    rw [q] at this ⊢
    exact this
  | ok d e' =>
    have h' := wp_bd.mp h
    rw [q] at h'
    obtain ⟨ds, h2, h3⟩ := wp_li h'
    cases d with
    | tup xs =>
      cases h2
      refine .inr (ea Z B σ H e _ S ?_)
      rw [q]
      intro v B1 H1 S1 l1 a1
      obtain ⟨p, vs, rfl, g1, g2⟩ := a1.tup_inv
      exact ⟨p, rfl, ⟨vs, seqT S1.bh g1⟩, h3 _ B1 H1 S1 l1 (walks_tup g1 g2)⟩
    | lst xs =>
      cases h2
      refine .inl (ea Z B σ H e _ S ?_)
      rw [q]
      intro v B1 H1 S1 l1 a1
      obtain ⟨p, vs, rfl, g1, g2⟩ := a1.lst_inv
      exact ⟨p, rfl, ⟨vs, SqL.of (S1.bh _ _ g1)⟩, h3 _ B1 H1 S1 l1 (walks_list (SqL.of g1) g2)⟩
    | scr ns =>
      cases h2
      refine .inl (ea Z B σ H e _ S ?_)
      rw [q]
      intro v B1 H1 S1 l1 a1
      obtain ⟨p, rfl, g1⟩ := a1.scr_inv
      exact ⟨p, rfl, ⟨_, S1.bh.seq g1⟩, h3 _ B1 H1 S1 l1 (walks_list g1 (.of_ints ns))⟩
    | _ => cases h2
end
end Dl
set_option maxHeartbeats 1000000
/-! Layer D, part 5: loops, comprehensions, defs. -/
namespace Dl
open PySem PySem.Spec PyProof.Rows L2 RZ
/-! ### ranges, zip, enumerate -/
def rangeD (lo : Int) (n : Nat) : List D := (List.range n).map fun (i : Nat) => D.int (lo + (i : Int))
def zipD : List D → List D → List D
  | x :: xs, y :: ys => .tup [x, y] :: zipD xs ys
  | _, _ => []
def dZip : List D → M (List D) := fun ds => li (match ds with
  | [.lst xs, .lst ys] => some (zipD xs ys)
  | [.tup xs, .tup ys] => some (zipD xs ys)
  | _ => none)
section
variable {K : PySem.W.Frag} {mg : Str → Option Value} {B' : Hp} {p p2 : Addr}
theorem rangeD_get {lo : Int} {n i : Nat} {d : D} (h : (rangeD lo n)[i]? = some d) : i < n ∧ d = .int (lo + (i : Int)) := by
  unfold rangeD at h
  rw [List.getElem?_map] at h
  by_cases hi : i < n
  · rw [List.getElem?_range hi] at h
    cases h
    exact ⟨hi, rfl⟩
  · rw [List.getElem?_eq_none (by simpa using hi)] at h
    cases h
theorem rangeD_len (lo : Int) (n : Nat) : (rangeD lo n).length = n := by simp [rangeD]
theorem walks_range {lo : Int} {n : Nat} : Walks K mg (Itr lo n) B' (rangeD lo n) where
  go := fun i d Z σ1 H1 e1 B1 l S hd => by
    obtain ⟨hi, rfl⟩ := rangeD_get hd
    refine ⟨hi, fun x H2 y => ?_⟩
    obtain ⟨e, y⟩ := y
    subst e y
    exact ⟨⟨B1, S, Same.refl B1, .int _⟩, fun _ _ z => z⟩
  stop := fun i Z σ1 H1 e1 B1 l S hi => by rw [rangeD_len] at hi; exact hi
theorem zipD_get : ∀ {xs ys : List D} {i : Nat} {d : D}, (zipD xs ys)[i]? = some d → ∃ x y, xs[i]? = some x ∧ ys[i]? = some y ∧ d = .tup [x, y]
  | x :: xs, y :: ys, 0, d, h => by simp [zipD] at h; exact ⟨x, y, rfl, rfl, h.symm⟩
  | x :: xs, y :: ys, i + 1, d, h => by
    obtain ⟨a, b, h1, h2, h3⟩ := zipD_get (xs := xs) (ys := ys) (i := i) (d := d) (by simpa [zipD] using h)
    exact ⟨a, b, by simpa using h1, by simpa using h2, h3⟩
  | [], _, _, _, h => by simp [zipD] at h
  | _ :: _, [], _, _, h => by simp [zipD] at h
theorem zipD_len : ∀ {xs ys : List D} {i : Nat}, (zipD xs ys).length ≤ i → xs.length ≤ i ∨ ys.length ≤ i
  | x :: xs, y :: ys, 0, h => by simp [zipD] at h
  | x :: xs, y :: ys, i + 1, h => by
    have := zipD_len (xs := xs) (ys := ys) (i := i) (by simpa [zipD] using h)
    simpa using this
  | [], _, _, _ => .inl (by simp)
  | _ :: _, [], _, _ => .inr (by simp)
theorem walks_zip {xs ys : List V} {ds es : List D} (h : SqL K B' p xs) (r : AtL K mg B' xs ds) (h2 : SqL K B' p2 ys) (r2 : AtL K mg B' ys es) : Walks K mg (Itz K p p2) B' (zipD ds es) where
  go := fun i d Z σ1 H1 e1 B1 l S hd => by
    obtain ⟨x, y, hx, hy, rfl⟩ := zipD_get hd
    obtain ⟨v, hv, rv⟩ := r.get hx
    obtain ⟨v2, hv2, rv2⟩ := r2.get hy
    refine ⟨⟨xs, ys, v, v2, S.bh.seq (l.seq h), S.bh.seq (l.seq h2), hv, hv2⟩, fun x H2 w => ?_⟩
    obtain ⟨T, x', y', rfl, hT, rfl, q1, q2⟩ := w
    have e1 := q1 xs (S.bh.seq (l.seq h))
    rw [hv] at e1
    cases e1
    have e2 := q2 ys (S.bh.seq (l.seq h2))
    rw [hv2] at e2
    cases e2
    obtain ⟨S2, l2⟩ := S.new (o := .tup [v, v2]) hT
    exact ⟨⟨_, S2, l2, .tup (SqT.of upd_same) (.cons (rv.mono (l.trans l2)) (.cons (rv2.mono (l.trans l2)) .nil))⟩, fun a o z => by rw [upd_ne (ne_of_none z hT)]; exact z⟩
  stop := fun i Z σ1 H1 e1 B1 l S hi => ⟨xs, ys, S.bh.seq (l.seq h), S.bh.seq (l.seq h2), by rw [r.length, r2.length]; exact zipD_len hi⟩
theorem walks_zipT {xs ys : List V} {ds es : List D} (h : SqT K B' p xs) (r : AtL K mg B' xs ds) (h2 : SqT K B' p2 ys) (r2 : AtL K mg B' ys es) : Walks K mg (ItzT K p p2) B' (zipD ds es) where
  go := fun i d Z σ1 H1 e1 B1 l S hd => by
    obtain ⟨x, y, hx, hy, rfl⟩ := zipD_get hd
    obtain ⟨v, hv, rv⟩ := r.get hx
    obtain ⟨v2, hv2, rv2⟩ := r2.get hy
    refine ⟨⟨xs, ys, v, v2, seqT S.bh (seqT l h), seqT S.bh (seqT l h2), hv, hv2⟩, fun x H2 w => ?_⟩
    obtain ⟨T, x', y', rfl, hT, rfl, q1, q2⟩ := w
    have e1 := q1 xs (seqT S.bh (seqT l h))
    rw [hv] at e1
    cases e1
    have e2 := q2 ys (seqT S.bh (seqT l h2))
    rw [hv2] at e2
    cases e2
    obtain ⟨S2, l2⟩ := S.new (o := .tup [v, v2]) hT
    exact ⟨⟨_, S2, l2, .tup (SqT.of upd_same) (.cons (rv.mono (l.trans l2)) (.cons (rv2.mono (l.trans l2)) .nil))⟩, fun a o z => by rw [upd_ne (ne_of_none z hT)]; exact z⟩
  stop := fun i Z σ1 H1 e1 B1 l S hi => ⟨xs, ys, seqT S.bh (seqT l h), seqT S.bh (seqT l h2), by rw [r.length, r2.length]; exact zipD_len hi⟩
end
section
variable {X : Cx} {W : WX} {tg a b : Expr} {fr : M (List D)} {p pos : Pos}
variable {elts : List Expr} {kk : Nat} {tpos : Pos}
theorem pid_zip (ha : PAD X W [a, b] fr) (hm : X.mg "zip" = none) (hg : Gl X "zip" := by rfl) (hs : starEach [a, b] X.env = (false, eval a X.env) :: starEach [b] X.env := by rfl) (hpl : (backTo pos (starEach [b] X.env)).any (·.1) = false := by rfl) : PID X W (.Tuple elts kk tpos) (.Call (.Name "zip" p) [a, b] [] pos) (bd fr dZip) := by
  obtain ⟨ta, pa, ea⟩ := ha
  refine ⟨_, pi_zipA hg hm pa hs hpl, fun Z B σ H e R S h => ?_⟩
  refine ea Z B σ H e _ S ((wp_bd.mp h).imp (fun ds e1 h1 vs B1 H1 S1 l1 a1 => ?_) fun x e' q => q)
  obtain ⟨r, h2, h3⟩ := wp_li h1
  match ds, h2 with
  | [.lst xs, .lst ys], h2 =>
    cases h2
    cases a1 with
    | cons r rr =>
      cases rr with
      | cons r2 rr =>
        cases rr
        obtain ⟨p1, v1, rfl, g1, g2⟩ := r.lst_inv
        obtain ⟨p2, v2, rfl, k1, k2⟩ := r2.lst_inv
        exact ⟨p1, p2, v1, v2, rfl, .inl ⟨SqL.of (S1.bh _ _ g1), SqL.of (S1.bh _ _ k1), h3 _ B1 H1 S1 l1 (walks_zip (SqL.of g1) g2 (SqL.of k1) k2)⟩⟩
  | [.tup xs, .tup ys], h2 =>
    cases h2
    cases a1 with
    | cons r rr =>
      cases rr with
      | cons r2 rr =>
        cases rr
        obtain ⟨p1, v1, rfl, g1, g2⟩ := r.tup_inv
        obtain ⟨p2, v2, rfl, k1, k2⟩ := r2.tup_inv
        exact ⟨p1, p2, v1, v2, rfl, .inr ⟨seqT S1.bh g1, seqT S1.bh k1, h3 _ B1 H1 S1 l1 (walks_zipT g1 g2 k1 k2)⟩⟩
end
/-! ### for, while -/
def forL (t : D → M Unit) (body : M Fl) : List D → M Fl
  | [] => pu .nx
  | d :: ds => bd (noExc (t d)) fun _ => bd body fun f => match f with
    | .nx => forL t body ds | .ct => forL t body ds | .bk => pu .nx | .rt d => pu (.rt d) | .rn ds => pu (.rn ds)
def fFor (src : M (List D)) (t : D → M Unit) (body : M Fl) : M Fl := bd src (forL t body)
section
variable {X : Cx} {W : WX} {tg iter c : Expr} {body : List Stmt} {src : M (List D)} {t : D → M Unit} {g : M Fl} {gc : M Bool} {pos : Pos}
theorem psd_for (hp : PassesOwn (model X.prog X.w) X.A X.env X.xe) (hc : X.calm = true) (hi : PID X W tg iter src) (ht : PGD X tg t) (hb : PSsD X W body g) (hs : ∀ x, foldedSetIterable iter X.env x = pure x := by intro _; rfl) : PSD X W (.For tg iter body [] pos) (fFor src t g) := by
  obtain ⟨wi, pi, ei⟩ := hi
  obtain ⟨gt, pg, eg⟩ := ht
  obtain ⟨tb, pb, eb⟩ := hb
  refine ⟨_, ps_for hp hc pi pg pb hs, fun Z B σ H e Y S h => ?_⟩
  refine ei Z B σ H e _ S ((wp_bd.mp h).imp (fun ds e1 h1 J B1 H1 S1 l1 wk => ?_) fun x e' q => PXs.at q)
  refine ⟨fun i m σ2 H2 => ∃ B2 e2, Same B1 B2 ∧ SR X.K X.mg Z B2 σ2 H2 e2 ∧ m = ds.length - i ∧ i ≤ ds.length ∧ (forL t g (ds.drop i) e2).wp (PF X.K X.mg Z B2 Y) (PXs X.K X.mg Z B2 W), ⟨ds.length, B1, e1, Same.refl B1, S1, by simp, Nat.zero_le _, by simpa using upF l1 h1⟩, ?_⟩
  rintro i m σ2 H2 ⟨B2, e2, l2, S2, rfl, hi, h2⟩
  by_cases hlt : i < ds.length
  · refine .inr ?_
    obtain ⟨wg, wy⟩ := wk.go i ds[i] Z σ2 H2 e2 B2 l2 S2 (by simp [hlt])
    refine ⟨wg, fun σ' H' => ∃ B3 e3, Same B1 B3 ∧ SR X.K X.mg Z B3 σ' H' e3 ∧ (forL t g (ds.drop (i + 1)) e3).wp (PF X.K X.mg Z B3 Y) (PXs X.K X.mg Z B3 W), fun σ' H' ⟨B3, e3, l3, S3, h3⟩ => ⟨ds.length - (i + 1), by omega, B3, e3, l3, S3, rfl, hlt, h3⟩, fun x H3 y => ?_⟩
    obtain ⟨⟨B3, S3, l3, a3⟩, _⟩ := wy x H3 y
    rw [List.drop_eq_getElem_cons hlt] at h2
    refine eg Z B3 σ2 H3 e2 x _ _ S3 a3 ((noExc_wp (wp_bd.mp h2)).imp (fun _ e4 h4 σ4 B4 H4 S4 l4 => ?_) fun x e' q => q)
    refine eb Z B4 σ4 H4 e4 _ S4 ((wp_bd.mp h4).imp (fun f e5 h5 => ?_) fun x e' q => PXs.up (l3.trans l4) q)
    have up : Same B2 B4 := l3.trans l4
    cases f with
    | nx => exact fun σ5 B5 H5 S5 l5 => ⟨B5, e5, ((l2.trans up).trans l5), S5, upF (up.trans l5) h5⟩
    | ct => exact fun σ5 B5 H5 S5 l5 => ⟨B5, e5, ((l2.trans up).trans l5), S5, upF (up.trans l5) h5⟩
    | bk => exact fun σ5 B5 H5 S5 l5 => h5 σ5 B5 H5 S5 (up.trans l5)
    | rt d => exact fun v σ5 B5 H5 S5 l5 a5 => h5 v σ5 B5 H5 S5 (up.trans l5) a5
    | rn d => exact fun p xs σ5 B5 H5 S5 l5 a1 a2 a3 a4 a5 => h5 p xs σ5 B5 H5 S5 (up.trans l5) a1 a2 a3 a4 a5
  · have hle : ds.length ≤ i := by omega
    refine .inl ⟨wk.stop i Z σ2 H2 e2 B2 l2 S2 hle, ?_⟩
    rw [List.drop_eq_nil_of_le hle] at h2
    exact h2 σ2 B2 H2 S2 (Same.refl B2)
end
/-! ### comprehensions -/
def wipeE : List Nat → En → En
  | [], e => e | v :: vs, e => (wipeE vs e).set v .no
def restE (vs : List Nat) (e e' : En) : En := putG (fun i s => if vs.contains i = true then e.getD i .no else s) 0 e'
def noOwn (vs : List Nat) (e : En) : Bool := vs.all fun v => !(e.getD v .no).isOwn
def refS : Sl → Sl
  | .own _ ds => .own true ds | .oin _ c ns ds => .oin true c ns ds | s => s
def refE (e : En) : En := e.map refS
/-- behind a turn: a slot outside as the turn leaves it, its flag as it was -/
def fixS (s s' : Sl) : Sl := match s' with
  | .own true ds => if s.isOwn = true then .own s.isRef ds else .no
  | .oin true c ns ds => if s.isOwn = true then .oin s.isRef c ns ds else .no
  | .val d => .val d
  | _ => .no
def fixE (vs : List Nat) (e e' : En) : En := putG (fun i s' => if vs.contains i = true then .no else fixS (e.getD i .no) s') 0 e'
def lcTurn (vs : List Nat) (t : D → M Unit) (c : M Bool) (el : M D) (d : D) : M (Option D) := fun e =>
  match (bd (noExc (t d)) fun _ => bd c fun b => if b = true then bd el fun y => pu (some y) else pu none) (refE e) with
  | .ok o e' => if e'.length = e.length then .ok o (fixE vs e e') else .bad
  | _ => .bad
def lcLoop (vs : List Nat) (t : D → M Unit) (c : M Bool) (el : M D) : List D → M (List D)
  | [] => pu []
  | d :: ds => bd (lcTurn vs t c el d) fun o => bd (lcLoop vs t c el ds) fun r => pu (match o with
    | some y => y :: r | none => r)
def fLc (src : M (List D)) (vs : List Nat) (t : D → M Unit) (c : M Bool) (el : M D) : M (List D) := bd src fun ds => fun e =>
  if ds.length ≤ 16777216 ∧ noOwn vs e = true then (match lcLoop vs t c el ds (wipeE vs e) with
    | .ok r e' => .ok r (restE vs e e') | _ => .bad) else .bad
section
variable {K : PySem.W.Frag} {mg : Str → Option Value} {Z : Ent} {B B' : Hp} {σ : St} {H H' : Hp} {e e' : En} {p : Addr}
theorem wipeE_len : ∀ {vs : List Nat}, (wipeE vs e).length = e.length
  | [] => rfl
  | v :: vs => by unfold wipeE; rw [List.length_set, wipeE_len (vs := vs)]
theorem wipeE_get : ∀ {vs : List Nat} {i : Nat} {s : Sl}, (wipeE vs e)[i]? = some s → s = .no ∨ (e[i]? = some s ∧ i ∉ vs)
  | [], i, s, h => .inr ⟨h, by simp⟩
  | v :: vs, i, s, h => by
    unfold wipeE at h
    by_cases hv : v = i
    · subst hv
      rw [List.getElem?_set] at h
      simp only [if_true] at h
      split at h
      · cases h; exact .inl rfl
      · cases h
    · rw [List.getElem?_set_ne hv] at h
      rcases wipeE_get h with z | ⟨z1, z2⟩
      · exact .inl z
      · exact .inr ⟨z1, by simp only [List.mem_cons, not_or]; exact ⟨fun q => hv q.symm, z2⟩⟩
theorem wipe_out {i : Nat} : ∀ {vs : List Nat}, i ∉ vs → (wipe σ vs)[i]? = σ[i]?
  | [], _ => rfl
  | v :: vs, h => by
    unfold wipe
    simp only [List.mem_cons, not_or] at h
    rw [List.getElem?_set_ne (fun q => h.1 q.symm)]
    exact wipe_out h.2
theorem wipe_in {i : Nat} : ∀ {vs : List Nat}, i ∈ vs → (L2.wipe σ vs)[i]? = (σ[i]?).map fun _ => none
  | v :: vs, h => by
    unfold L2.wipe
    by_cases hv : v = i
    · subst hv
      rw [List.getElem?_set]
      simp only [if_true]
      rw [wipe_length]
      split
      · rename_i hl; simp [hl]
      · rename_i hl; simp at hl; simp [hl]
    · rw [List.getElem?_set_ne hv]
      rcases List.mem_cons.mp h with z | z
      · exact absurd z.symm hv
      · exact wipe_in z
theorem wipe_wipe (σ : St) (vs : List Nat) : L2.wipe (L2.wipe σ vs) vs = L2.wipe σ vs := by
  apply List.ext_getElem?
  intro i
  by_cases h : i ∈ vs
  · rw [wipe_in h, wipe_in h]
    cases σ[i]? <;> rfl
  · rw [wipe_out h]
theorem wipe_set {i : Nat} {x : Option V} {vs : List Nat} (h : i ∈ vs) : L2.wipe (σ.set i x) vs = L2.wipe σ vs := by
  apply List.ext_getElem?
  intro j
  by_cases hj : j ∈ vs
  · rw [wipe_in hj, wipe_in hj]
    by_cases e : i = j
    · subst e
      rw [List.getElem?_set]
      simp only [if_true]
      split
      · rename_i hl; simp [hl]
      · rename_i hl; simp at hl; simp [hl]
    · rw [List.getElem?_set_ne e]
  · rw [wipe_out hj, wipe_out hj, List.getElem?_set_ne fun (e : i = j) => hj (e ▸ h)]
theorem SR.wipe (S : SR K mg Z B σ H e) (vs : List Nat) : SR K mg Z B (L2.wipe σ vs) H (wipeE vs e) := by
  refine ⟨S.le, S.bh, S.fh, S.nb, S.dm, by rw [wipe_length, wipeE_len]; exact S.ln, fun i s q => ?_, fun i j a hij hi hj e1 e2 => ?_⟩
  · rcases wipeE_get q with rfl | ⟨z1, z2⟩
    · trivial
    · rw [wipe_out z2]; exact S.sl i s z1
  · have key : ∀ i, ownAt (wipeE vs e) i → ownAt e i ∧ i ∉ vs := fun i ⟨s, q, hs⟩ => by
      rcases wipeE_get q with rfl | ⟨z1, z2⟩
      · cases hs
      · exact ⟨⟨s, z1, hs⟩, z2⟩
    obtain ⟨o1, n1⟩ := key i hi
    obtain ⟨o2, n2⟩ := key j hj
    rw [wipe_out n1] at e1
    rw [wipe_out n2] at e2
    exact S.ds i j a hij o1 o2 e1 e2
theorem getD_some {i : Nat} {s d : Sl} (h : e[i]? = some s) : e.getD i d = s := by rw [List.getD_eq_getElem?_getD, h]; rfl
theorem SR.unwipe {vs : List Nat} (S : SR K mg Z B σ H e) (no : noOwn vs e = true) (l : Same B B') (S' : SR K mg Z B' (L2.wipe σ vs) H' e') : SR K mg Z B' σ H' (restE vs e e') := by
  have hlen : e'.length = e.length := by rw [← S'.ln, wipe_length]; exact S.ln
  have get : ∀ i s, (restE vs e e')[i]? = some s → (i ∈ vs ∧ s = e.getD i .no ∧ i < e.length) ∨ (i ∉ vs ∧ e'[i]? = some s) := fun i s q => by
    unfold restE at q
    rw [putG_get] at q
    cases hi : e'[i]? with
    | none => rw [hi] at q; cases q
    | some s' =>
      rw [hi] at q
      have hlt : i < e.length := by rw [← hlen]; exact (List.getElem?_eq_some_iff.mp hi).1
      have q := Option.some.inj q
      simp only [Nat.zero_add] at q
      by_cases hv : i ∈ vs
      · rw [if_pos (by simpa using hv)] at q
        exact .inl ⟨hv, q.symm, hlt⟩
      · rw [if_neg (by simpa using hv)] at q
        exact .inr ⟨hv, by rw [← q]⟩
  have noo : ∀ i, i ∈ vs → (e.getD i .no).isOwn = false := fun i hi => by
    have := List.all_eq_true.mp no i hi
    simpa using this
  have own : ∀ i, ownAt (restE vs e e') i → ownAt e' i ∧ i ∉ vs := fun i ⟨s, q, hs⟩ => by
    rcases get i s q with ⟨h1, h2, _⟩ | ⟨h1, h2⟩
    · rw [h2, noo i h1] at hs; cases hs
    · exact ⟨⟨s, h2, hs⟩, h1⟩
  refine ⟨S'.le, S'.bh, S'.fh, S'.nb, S'.dm, by unfold restE; rw [putG_len, hlen]; exact S.ln, fun i s q => ?_, fun i j a hij hi hj e1 e2 => ?_⟩
  · rcases get i s q with ⟨h1, h2, h3⟩ | ⟨h1, h2⟩
    · have hs : e[i]? = some s := by
        rw [h2]
        rw [List.getD_eq_getElem?_getD]
        simp [h3]
      have ho : s.isOwn = false := by rw [h2]; exact noo i h1
      have z := S.sl i s hs
      cases s with
      | no => trivial
      | val d => obtain ⟨v, e1, r⟩ := z; exact ⟨v, e1, r.mono l⟩
      | _ => cases ho
    · have z := S'.sl i s h2
      rw [wipe_out h1] at z
      exact z
  · obtain ⟨o1, n1⟩ := own i hi
    obtain ⟨o2, n2⟩ := own j hj
    rw [← wipe_out (vs := vs) n1] at e1
    rw [← wipe_out (vs := vs) n2] at e2
    exact S'.ds i j a hij o1 o2 e1 e2
theorem Free.wipe {vs : List Nat} (h : Free σ e p) : Free (L2.wipe σ vs) (wipeE vs e) p := fun i ⟨s, q, hs⟩ z => by
  rcases wipeE_get q with rfl | ⟨z1, z2⟩
  · cases hs
  · rw [wipe_out z2] at z
    exact h i ⟨s, z1, hs⟩ z
end
abbrev WNo : WX := fun _ _ _ _ => False
section
variable {X : Cx} {W : WX} {elt tg iter : Expr} {ifs : List Expr} {scope : Scope} {own : List (Str × Nat)} {src : M (List D)} {t : D → M Unit} {c : M Bool} {el : M D} {pos : Pos}
def PTsD (X : Cx) (W : WX) (ifs : List Expr) (f : M Bool) : Prop := ∃ tt, PTs X ifs tt ∧ EvB X.K X.mg W tt f
theorem ptsd_nil : PTsD X W [] (pu true) := ⟨_, pts_nil, fun Z B σ H e Q S h => h B H S (Same.refl B)⟩
theorem ptsd_one {a : Expr} (h : PBD X W a c) : PTsD X W [a] c := by
  obtain ⟨tt, p, e⟩ := h
  exact ⟨_, pts_one p, e⟩
/-- a target that stores into the slots vs alone -/
def EvGv (K : PySem.W.Frag) (mg : Str → Option Value) (vs : List Nat) (g : TG) (t : D → M Unit) : Prop := ∀ Z B σ H e v d (Q : St → Hp → Prop), SR K mg Z B σ H e → At K mg B v d → (t d e).wp (fun _ e' => ∀ σ' B' H', L2.wipe σ' vs = L2.wipe σ vs → SR K mg Z B' σ' H' e' → Same B B' → Q σ' H') (fun _ _ => False) → g v σ H Q
def ownA (σ : St) (e : En) : List Addr := (List.range e.length).filterMap fun i => if (e.getD i .no).isOwn = true then (match σ[i]? with
  | some (some (.ref a)) => some a | _ => none) else none
theorem mem_ownA {σ : St} {e : En} {a : Addr} : a ∈ ownA σ e ↔ ∃ i, ownAt e i ∧ σ[i]? = some (some (V.ref a)) := by
  unfold ownA
  rw [List.mem_filterMap]
  constructor
  · rintro ⟨i, hi, h⟩
    have hlt : i < e.length := by simpa using hi
    split at h
    · rename_i ho
      split at h
      · rename_i b hb
        cases h
        exact ⟨i, ⟨e[i], by simp [hlt], by rw [List.getD_eq_getElem?_getD] at ho; simpa [hlt] using ho⟩, hb⟩
      · cases h
    · cases h
  · rintro ⟨i, ⟨s, q, hs⟩, h⟩
    have hlt : i < e.length := (List.getElem?_eq_some_iff.mp q).1
    refine ⟨i, by simpa using hlt, ?_⟩
    rw [getD_some q, if_pos hs, h]
theorem isOwn_refS {s : Sl} : (refS s).isOwn = s.isOwn := by cases s <;> rfl
section
variable {K : PySem.W.Frag} {mg : Str → Option Value} {Z : Ent} {B B' : Hp} {σ σ' : St} {H H' : Hp} {e e' : En} {p : Addr}
theorem ownAt_refE {i : Nat} (h : ownAt (refE e) i) : ownAt e i := by
  obtain ⟨s, q, hs⟩ := h
  unfold refE at q
  rw [List.getElem?_map] at q
  cases hi : e[i]? with
  | none => rw [hi] at q; cases q
  | some s' =>
    rw [hi] at q
    have q : refS s' = s := Option.some.inj q
    subst q
    rw [isOwn_refS] at hs
    exact ⟨s', hi, hs⟩
theorem SR.reenter (S : SR K mg Z B σ H e) : SR K mg ⟨B, H, ownA σ e, σ⟩ B σ H (refE e) := by
  refine ⟨Same.refl B, S.bh, fun a o h _ => h, fun a o h => .inl h, fun a o h => ⟨o, h⟩, by unfold refE; rw [List.length_map]; exact S.ln, fun i s q => ?_, fun i j a hij hi hj => S.ds i j a hij (ownAt_refE hi) (ownAt_refE hj)⟩
  unfold refE at q
  rw [List.getElem?_map] at q
  cases hi : e[i]? with
  | none => rw [hi] at q; cases q
  | some s' =>
    rw [hi] at q
    have q : refS s' = s := Option.some.inj q
    subst q
    have z := S.sl i s' hi
    cases s' with
    | no => trivial
    | val d => exact z
    | own r ds =>
      obtain ⟨a, xs, e1, w1, w2, w3⟩ := z
      exact ⟨a, xs, e1, w1, w2, w3.1, (fun z => nomatch z), fun _ => ⟨mem_ownA.mpr ⟨i, ⟨_, hi, rfl⟩, e1⟩, e1⟩⟩
    | oin r c ns ds =>
      obtain ⟨a, C, dx, fs, e1, w0, w1, w2, w3, w4⟩ := z
      exact ⟨a, C, dx, fs, e1, w0, w1, w2, w3, w4.1, (fun z => nomatch z), fun _ => ⟨mem_ownA.mpr ⟨i, ⟨_, hi, rfl⟩, e1⟩, e1⟩⟩
theorem SR.exit {vs : List Nat} (S : SR K mg Z B σ H e) (S' : SR K mg ⟨B, H, ownA σ e, σ⟩ B' σ' H' e') (hw : L2.wipe σ' vs = L2.wipe σ vs) (hl : e'.length = e.length) : SR K mg Z B' σ H' (fixE vs e e') := by
  refine S.after S' (by unfold fixE; rw [putG_len]; exact hl) (fun a m => ?_) fun i s q => ?_
  · obtain ⟨i, ⟨s, q, hs⟩, e1⟩ := mem_ownA.mp m
    obtain ⟨a', o, e2, _, _, p2, p3⟩ := (S.sl i s q).at_own hs
    rw [e1] at e2
    cases e2
    cases hr : s.isRef with
    | false => exact .inl (p2 hr)
    | true => exact .inr (p3 hr).1
  · unfold fixE at q
    rw [putG_get] at q
    cases hi : e'[i]? with
    | none => rw [hi] at q; cases q
    | some s' =>
      rw [hi] at q
      have q := Option.some.inj q
      simp only [Nat.zero_add] at q
      by_cases hv : i ∈ vs
      · rw [if_pos (by simpa using hv)] at q
        subst q
        exact .inr ⟨trivial, fun z => nomatch z⟩
      · rw [if_neg (by simpa using hv)] at q
        have hσ : σ'[i]? = σ[i]? := by rw [← wipe_out (vs := vs) hv, hw, wipe_out hv]
        have z := S'.sl i s' hi
        have hlt : i < e.length := by rw [← hl]; exact (List.getElem?_eq_some_iff.mp hi).1
        have he : e[i]? = some (e.getD i .no) := by rw [List.getD_eq_getElem?_getD]; simp [hlt]
        refine .inr ?_
        cases s' with
        | no => subst q; exact ⟨trivial, fun z => nomatch z⟩
        | val d =>
          subst q
          obtain ⟨v, e1, r⟩ := z
          rw [hσ] at e1
          exact ⟨⟨v, e1, r⟩, fun z => nomatch z⟩
        | own r ds =>
          cases r with
          | false => subst q; exact ⟨trivial, fun z => nomatch z⟩
          | true =>
            have q : (if (e.getD i .no).isOwn = true then Sl.own (e.getD i .no).isRef ds else .no) = s := q
            split at q
            · rename_i ho
              subst q
              obtain ⟨a, xs, e1, w1, w2, w3⟩ := z
              rw [hσ] at e1
              obtain ⟨a', o, e2, _, _, p2, p3⟩ := (S.sl i _ he).at_own ho
              rw [e1] at e2
              cases e2
              exact ⟨⟨a, xs, e1, w1, w2, w3.1, p2, p3⟩, fun _ => ⟨_, he, ho⟩⟩
            · subst q; exact ⟨trivial, fun z => nomatch z⟩
        | oin r c ns ds =>
          cases r with
          | false => subst q; exact ⟨trivial, fun z => nomatch z⟩
          | true =>
            have q : (if (e.getD i .no).isOwn = true then Sl.oin (e.getD i .no).isRef c ns ds else .no) = s := q
            split at q
            · rename_i ho
              subst q
              obtain ⟨a, C, dx, fs, e1, w0, w1, w2, w3, w4⟩ := z
              rw [hσ] at e1
              obtain ⟨a', o, e2, _, _, p2, p3⟩ := (S.sl i _ he).at_own ho
              rw [e1] at e2
              cases e2
              exact ⟨⟨a, C, dx, fs, e1, w0, w1, w2, w3, w4.1, p2, p3⟩, fun _ => ⟨_, he, ho⟩⟩
            · subst q; exact ⟨trivial, fun z => nomatch z⟩
theorem ownAt_fixE {vs : List Nat} {i : Nat} (hl : e'.length = e.length) (h : ownAt (fixE vs e e') i) : ownAt e i := by
  obtain ⟨s, q, hs⟩ := h
  unfold fixE at q
  rw [putG_get] at q
  cases hi : e'[i]? with
  | none => rw [hi] at q; cases q
  | some s' =>
    rw [hi] at q
    have q := Option.some.inj q
    simp only [Nat.zero_add] at q
    have hlt : i < e.length := by rw [← hl]; exact (List.getElem?_eq_some_iff.mp hi).1
    have he : e[i]? = some (e.getD i .no) := by rw [List.getD_eq_getElem?_getD]; simp [hlt]
    split at q
    · subst q; cases hs
    · cases ho : (e.getD i .no).isOwn with
      | true => exact ⟨_, he, ho⟩
      | false =>
        have none : ∀ s', (fixS (e.getD i .no) s').isOwn = false := fun s' => by
          cases s' with
          | own r ds =>
            cases r with
            | false => rfl
            | true => show (if (e.getD i .no).isOwn = true then Sl.own (e.getD i .no).isRef ds else .no).isOwn = false; rw [ho]; rfl
          | oin r c ns ds =>
            cases r with
            | false => rfl
            | true => show (if (e.getD i .no).isOwn = true then Sl.oin (e.getD i .no).isRef c ns ds else .no).isOwn = false; rw [ho]; rfl
          | _ => rfl
        rw [← q, none] at hs
        cases hs
end
/-- the loop of a comprehension, by what is left of its items -/
theorem lc_ok {K : PySem.W.Frag} {mg : Str → Option Value} {wi : TI} {g : TG} {tt : TT} {te : TE} {vs : List Nat} (ei : EvI K mg W wi src) (eg : EvGv K mg vs g t) (ec : EvB K mg WNo tt c) (ee : EvD K mg WNo te el) : EvN K mg W (tLc wi g tt te vs) (fLc src vs t c el) := by
  intro Z B σ H e Q S h
  refine ei Z B σ H e _ S ((wp_bd.mp h).imp (fun ds e1 h1 J B1 H1 S1 l1 wk => ?_) fun x e' q => q)
  have h1 : (if ds.length ≤ 16777216 ∧ noOwn vs e1 = true then (match lcLoop vs t c el ds (wipeE vs e1) with
    | .ok r e' => Res.ok r (restE vs e1 e') | _ => .bad) else .bad).wp (PN K mg Z B σ Q) (PX K mg Z B σ W) := h1
  split at h1
  · rename_i hc
    obtain ⟨hz, no⟩ := hc
    intro L hL
    obtain ⟨S2, hB, h0, hf⟩ := S1.newO (o := .lst []) hL
    refine ⟨fun i m H3 => ∃ B3 e3 acc accD, Same B1 B3 ∧ SR K mg Z B3 (L2.wipe σ vs) H3 e3 ∧ H3 L = some (.lst acc) ∧ AtL K mg B3 acc accD ∧ acc.length ≤ i ∧ B3 L = none ∧ Free (L2.wipe σ vs) e3 L ∧ m = ds.length - i ∧ i ≤ ds.length ∧
      (lcLoop vs t c el (ds.drop i) e3).wp (fun r e' => PN K mg Z B σ Q (accD ++ r) (restE vs e1 e')) (fun _ _ => False), ⟨ds.length, B1, _, [], [], Same.refl B1, S2.wipe vs, upd_same, .nil, Nat.zero_le _, hB, hf.wipe, by simp, Nat.zero_le _, ?_⟩, ?_⟩
    · rw [List.drop_zero]
      cases q : lcLoop vs t c el ds (wipeE vs e1) with
      | ok r e' => rw [q] at h1; exact h1
      | exc x e' => rw [q] at h1; exact h1
      | bad => rw [q] at h1; exact h1
    · rintro i m H3 ⟨B3, e3, acc, accD, l3, S3, hA, rA, hlen, hB3, hf3, rfl, hi, h3⟩
      by_cases hlt : i < ds.length
      · refine .inr ?_
        rw [List.drop_eq_getElem_cons hlt] at h3
        have h3 := wp_bd.mp h3
        have h3 : (match (bd (noExc (t ds[i])) fun _ => bd c fun b => if b = true then bd el fun y => pu (some y) else pu none) (refE e3) with
          | .ok o e' => if e'.length = e3.length then Res.ok o (fixE vs e3 e') else .bad
          | _ => .bad).wp _ _ := h3
        have Sr := S3.reenter
        obtain ⟨wg, wy⟩ := wk.go i ds[i] _ (L2.wipe σ vs) H3 (refE e3) B3 l3 Sr (by simp [hlt])
        refine ⟨wg, fun H' => ∃ B4 e4 acc' accD', Same B1 B4 ∧ SR K mg Z B4 (L2.wipe σ vs) H' e4 ∧ H' L = some (.lst acc') ∧ AtL K mg B4 acc' accD' ∧ acc'.length ≤ i + 1 ∧ B4 L = none ∧ Free (L2.wipe σ vs) e4 L ∧
          (lcLoop vs t c el (ds.drop (i + 1)) e4).wp (fun r e' => PN K mg Z B σ Q (accD' ++ r) (restE vs e1 e')) (fun _ _ => False), fun H' ⟨B4, e4, acc', accD', w1, w2, w3, w4, w5, w6, w7, w8⟩ => ⟨ds.length - (i + 1), by omega, B4, e4, acc', accD', w1, w2, w3, w4, w5, w6, w7, rfl, hlt, w8⟩, fun x H4 y => ?_⟩
        obtain ⟨⟨B4, S4, l4, a4⟩, keep4⟩ := wy x H4 y
        -- the turn's own run, in the state entered anew
        cases qt : (bd (noExc (t ds[i])) fun _ => bd c fun b => if b = true then bd el fun y => pu (some y) else pu none) (refE e3) with
        | bad => rw [qt] at h3; exact False.elim h3
        | exc z e5 => rw [qt] at h3; exact False.elim h3
        | ok o e5 =>
          rw [qt] at h3
          have h3 : (if e5.length = e3.length then Res.ok o (fixE vs e3 e5) else .bad).wp _ _ := h3
          split at h3
          · rename_i hl5
            have h3 := wp_bd.mp h3
            have run : ((bd (noExc (t ds[i])) fun _ => bd c fun b => if b = true then bd el fun y => pu (some y) else pu none) (refE e3)).wp (fun o' e' => o' = o ∧ e' = e5) fun _ _ => False := by rw [qt]; exact ⟨rfl, rfl⟩
            have fin : ∀ {B6 σ6 H6}, Same B4 B6 → SR K mg ⟨B3, H3, ownA (L2.wipe σ vs) e3, L2.wipe σ vs⟩ B6 σ6 H6 e5 → L2.wipe σ6 vs = L2.wipe σ vs → SR K mg Z B6 (L2.wipe σ vs) H6 (fixE vs e3 e5) ∧ B6 L = none ∧ H6 L = some (.lst acc) ∧ Free (L2.wipe σ vs) (fixE vs e3 e5) L := fun {B6 σ6 H6} l6 S6 hw6 => by
              refine ⟨S3.exit S6 (hw6.trans (wipe_wipe σ vs).symm) hl5, ?_, S6.fh L _ hA fun m => ?_, fun j hj => hf3 j (ownAt_fixE hl5 hj)⟩
              · cases q : B6 L with
                | none => rfl
                | some u =>
                  rcases S6.nb L u q with z | z
                  · have z : B3 L = some u := z
                    rw [hB3] at z; cases z
                  · have z : H3 L = none := z
                    rw [hA] at z; cases z
              · obtain ⟨j, hj, ej⟩ := mem_ownA.mp m
                exact hf3 j hj ej
            refine eg _ B4 (L2.wipe σ vs) H4 (refE e3) x _ _ S4 a4 ((noExc_wp (wp_bd.mp run)).imp (fun _ e6 r6 σ6 B6 H6 hw6 S6 l6 => ⟨hw6.trans (wipe_wipe σ vs), ?_⟩) fun z e' q => q)
            refine ec _ B6 σ6 H6 e6 _ S6 ((wp_bd.mp r6).imp (fun b e7 r7 B7 H7 S7 l7 => ?_) fun z e' q => False.elim q)
            cases b with
            | true =>
              rw [if_pos rfl]
              refine ee _ B7 σ6 H7 e7 _ S7 ((wp_bd.mp r7).imp (fun yd e8 r8 v B8 H8 S8 l8 a8 => ?_) fun z e' q => False.elim q)
              obtain ⟨ho, he⟩ := (show some yd = o ∧ e8 = e5 from r8)
              subst ho he
              obtain ⟨SE, hB8, hH8, hf8⟩ := fin ((l6.trans l7).trans l8) S8 (hw6.trans (wipe_wipe σ vs))
              have up : Same B3 B8 := ((l4.trans l6).trans l7).trans l8
              refine ⟨acc, hH8, by rw [sizeLine_eq]; omega, B8, _, acc ++ [v], accD ++ [yd], l3.trans up, SE.poke hB8 h0 hf8, upd_same, (rA.mono up).app (.cons a8 .nil), by simp; omega, hB8, hf8, ?_⟩
              exact h3.imp (fun r e' q => by rw [List.append_assoc]; exact (show PN K mg Z B σ Q (accD ++ (yd :: r)) (restE vs e1 e') from q)) fun z e' q => q
            | false =>
              rw [if_neg Bool.false_ne_true]
              obtain ⟨ho, he⟩ := (show none = o ∧ e7 = e5 from r7)
              subst ho he
              obtain ⟨SE, hB8, hH8, hf8⟩ := fin (l6.trans l7) S7 (hw6.trans (wipe_wipe σ vs))
              have up : Same B3 B7 := (l4.trans l6).trans l7
              exact ⟨B7, _, acc, accD, l3.trans up, SE, hH8, rA.mono up, by omega, hB8, hf8, h3.imp (fun r e' q => (show PN K mg Z B σ Q (accD ++ r) (restE vs e1 e') from q)) fun z e' q => q⟩
          · exact False.elim h3
      · have hle : ds.length ≤ i := by omega
        refine .inl ⟨wk.stop i Z (L2.wipe σ vs) H3 e3 B3 l3 S3 hle, ?_⟩
        rw [List.drop_eq_nil_of_le hle] at h3
        have h3 : PN K mg Z B σ Q (accD ++ []) (restE vs e1 e3) := h3
        rw [List.append_nil] at h3
        have SU := S1.unwipe no l3 S3
        refine h3 L acc B3 H3 SU (l1.trans l3) hA rA hB3 h0 fun j hj ej => ?_
        obtain ⟨s, q, hs⟩ := hj
        unfold restE at q
        rw [putG_get] at q
        cases hi2 : e3[j]? with
        | none => rw [hi2] at q; cases q
        | some s' =>
          rw [hi2] at q
          have q := Option.some.inj q
          simp only [Nat.zero_add] at q
          by_cases hv : j ∈ vs
          · rw [if_pos (by simpa using hv)] at q
            have := List.all_eq_true.mp no j hv
            rw [q] at this
            rw [hs] at this
            cases this
          · rw [if_neg (by simpa using hv)] at q
            exact hf3 j ⟨s', hi2, by rw [q]; exact hs⟩ (by rw [wipe_out hv]; exact ej)
  · exact False.elim h1
end
end Dl
set_option maxHeartbeats 1000000
/-! Layer D, part 6: comprehensions, the rule; defs. -/
namespace Dl
open PySem PySem.Spec PyProof.Rows L2
/-! ### comprehensions: the rule -/
def canD (K : PySem.W.Frag) (mg : Str → Option Value) (W : WX) (f : M D) : TE := fun σ H Q => ∃ Z B e, SR K mg Z B σ H e ∧ (f e).wp (PV K mg Z B σ Q) (PX K mg Z B σ W)
def canB (K : PySem.W.Frag) (mg : Str → Option Value) (W : WX) (f : M Bool) : TT := fun σ H Q => ∃ Z B e, SR K mg Z B σ H e ∧ (f e).wp (PB K mg Z B σ Q) (PX K mg Z B σ W)
theorem PED.can {X : Cx} {W : WX} {a : Expr} {f : M D} (h : PED X W a f) : PE X a (canD X.K X.mg W f) := by
  obtain ⟨te, p, ev⟩ := h
  exact ⟨fun pins s σ H Q I ⟨Z, B, e, S, q⟩ => p.run pins s σ H Q I (ev Z B σ H e Q S q)⟩
theorem PTsD.can {X : Cx} {W : WX} {a : List Expr} {f : M Bool} (h : PTsD X W a f) : PTs X a (canB X.K X.mg W f) := by
  obtain ⟨te, p, ev⟩ := h
  exact ⟨fun pins s σ H Q I ⟨Z, B, e, S, q⟩ => p.run pins s σ H Q I (ev Z B σ H e Q S q)⟩
def EvGvs (K : PySem.W.Frag) (mg : Str → Option Value) (vs : List Nat) (g : TGs) (t : List D → M Unit) : Prop := ∀ Z B σ H e xs ds (Q : St → Hp → Prop), SR K mg Z B σ H e → AtL K mg B xs ds → (t ds e).wp (fun _ e' => ∀ σ' B' H', L2.wipe σ' vs = L2.wipe σ vs → SR K mg Z B' σ' H' e' → Same B B' → Q σ' H') (fun _ _ => False) → g xs σ H Q
def PGV (X : Cx) (vs : List Nat) (tg : Expr) (t : D → M Unit) : Prop := ∃ g, PG X tg g ∧ EvGv X.K X.mg vs g t
def PGVs (X : Cx) (vs : List Nat) (tg : List Expr) (t : List D → M Unit) : Prop := ∃ g, PGs X tg g ∧ EvGvs X.K X.mg vs g t
def canG (K : PySem.W.Frag) (mg : Str → Option Value) (vs : List Nat) (t : D → M Unit) : TG := fun v σ H Q => ∃ Z B e d, SR K mg Z B σ H e ∧ At K mg B v d ∧ (t d e).wp (fun _ e' => ∀ σ' B' H', L2.wipe σ' vs = L2.wipe σ vs → SR K mg Z B' σ' H' e' → Same B B' → Q σ' H') (fun _ _ => False)
theorem PGV.can {X : Cx} {vs : List Nat} {tg : Expr} {t : D → M Unit} (h : PGV X vs tg t) : PG X tg (canG X.K X.mg vs t) := by
  obtain ⟨g, p, ev⟩ := h
  exact ⟨fun pins s σ H v u Q I r ⟨Z, B, e, d, S, a, q⟩ => p.run pins s σ H v u Q I r (ev Z B σ H e v d Q S a q)⟩
section
variable {X : Cx} {W : WX} {vs : List Nat} {tg a : Expr} {pos : Pos}
theorem pgv_name (i : Nat) {x : Str} (hN : X.N.Nodup) (hv : i ∈ vs) (hi : X.N[i]? = some x := by rfl) (hx : Loc X.env.scope x := by first | exact Or.inl rfl | exact Or.inr rfl) (hf : X.fn x = true ∨ X.env.scope.names.lookup x = some .local := by first | exact .inl rfl | exact .inr rfl) : PGV X vs (.Name x pos) (setV i) :=
  ⟨_, pg_name hN hi hx hf, fun Z B σ H e v d Q S r h => setV_wp h _ B H (wipe_set hv) (S.set r) (Same.refl B)⟩
theorem pgvs_nil : PGVs X vs [] gNilD := ⟨_, pgs_nil, fun Z B σ H e xs ds Q S r h => by
  obtain ⟨_, h1, h2⟩ := wp_li h
  cases ds with
  | nil => cases r; exact ⟨rfl, h2 σ B H rfl S (Same.refl B)⟩
  | cons d ds => cases h1⟩
theorem pgvs_cons {es : List Expr} {t : D → M Unit} {u : List D → M Unit} (h1 : PGV X vs a t) (h2 : PGVs X vs es u) (hs : (assignEach (a :: es) X.env).map (·.2) = assign a X.env :: (assignEach es X.env).map (·.2) := by rfl) : PGVs X vs (a :: es) (gConsD t u) := by
  obtain ⟨g, pg, eg⟩ := h1
  obtain ⟨gs, pgs, egs⟩ := h2
  refine ⟨_, pgs_cons pg pgs hs, fun Z B σ H e xs ds Q S r h => ?_⟩
  cases r with
  | nil => exact False.elim h
  | @cons v d ys ds r rr =>
    refine ⟨v, ys, rfl, eg Z B σ H e v d _ S r ((wp_bd.mp h).imp (fun _ e1 h1 σ1 B1 H1 w1 S1 l1 => ?_) fun _ _ q => q)⟩
    exact egs Z B1 σ1 H1 e1 ys ds Q S1 (rr.mono l1) (h1.imp (fun _ e2 h2 σ2 B2 H2 w2 S2 l2 => h2 σ2 B2 H2 (w2.trans w1) S2 (l1.trans l2)) fun _ _ q => q)
theorem pgv_tup {es : List Expr} {k n : Nat} {t : List D → M Unit} (hc : X.calm = true) (h : PGVs X vs es t) (hn : (assignEach es X.env).length = n := by rfl) (hst : (assignEach es X.env).findIdx? (·.1) = none := by rfl) : PGV X vs (.Tuple es k pos) (gTupD n t) := by
  obtain ⟨g, pg, eg⟩ := h
  refine ⟨_, pg_tup hc pg hn hst, fun Z B σ H e v d Q S r h => ?_⟩
  obtain ⟨ds, h1, h2⟩ := wp_li (wp_bd.mp h)
  cases d with
  | tup xs =>
    have h1 : (if xs.length = n then some xs else none) = some ds := h1
    split at h1
    · cases h1
      obtain ⟨p, ys, rfl, e1, r1⟩ := r.tup_inv
      exact ⟨p, ys, rfl, seqT S.bh e1, by rw [r1.length]; assumption, eg Z B σ H e ys _ Q S r1 h2⟩
    · cases h1
  | _ => cases h1
variable {elt iter : Expr} {ifs : List Expr} {scope : Scope} {own : List (Str × Nat)} {src : M (List D)} {t : D → M Unit} {c : M Bool} {el : M D}
theorem lc_ev (hi : PID X W tg iter src) : ∃ wi, PI X tg iter wi ∧ EvN X.K X.mg W (tLc wi (canG X.K X.mg vs t) (canB X.K X.mg WNo c) (canD X.K X.mg WNo el) vs) (fLc src vs t c el) := by
  obtain ⟨wi, pi, ei⟩ := hi
  refine ⟨wi, pi, lc_ok ei ?_ ?_ ?_⟩
  · exact fun Z B σ H e v d Q S a h => ⟨Z, B, e, d, S, a, h⟩
  · exact fun Z B σ H e Q S h => ⟨Z, B, e, S, h⟩
  · exact fun Z B σ H e Q S h => ⟨Z, B, e, S, h⟩
theorem pnd_lc (hc : X.calm = true) (hN : X.N.Nodup) (hi : PID X W tg iter src) (ok : BlkOk X.N X.env.scope scope own)
    (ht : ∀ (s : Shared) (H : Hp) (C : Addr) (cl : List (Str × Addr)) (fp : List Addr), PGV (X.blk s H scope (compEnvC scope cl C X.env) fp) (own.map (·.2)) tg t) (hcn : ∀ (s : Shared) (H : Hp) (C : Addr) (cl : List (Str × Addr)) (fp : List Addr), PTsD (X.blk s H scope (compEnvC scope cl C X.env) fp) WNo ifs c)
    (he : ∀ (s : Shared) (H : Hp) (C : Addr) (cl : List (Str × Addr)) (fp : List Addr), PED (X.blk s H scope (compEnvC scope cl C X.env) fp) WNo elt el) (hs : ∀ x, foldedSetIterable iter X.env x = pure x := by intro _; rfl) : PND X W (.ListComp elt [⟨tg, iter, ifs, 0⟩] scope pos) (fLc src (own.map (·.2)) t c el) := by
  obtain ⟨wi, pi, ev⟩ := lc_ev (vs := own.map (·.2)) (t := t) (c := c) (el := el) hi
  exact ⟨_, pe_lc hc hN pi ok (fun s H C cl fp => (ht s H C cl fp).can) (fun s H C cl fp => (hcn s H C cl fp).can) (fun s H C cl fp => (he s H C cl fp).can) hs, ev⟩
/-- y = [..] on one line -/
theorem setLc_ps {i : Nat} {y : Str} {py spos : Pos} (hc : X.calm = true) (hN : X.N.Nodup) (hy : X.N[i]? = some y) (hyl : X.env.scope.names.lookup y = some .local) (hsw : swapsWith (.ListComp elt [⟨tg, iter, ifs, 0⟩] scope pos) (some (.Name y py)) spos.line X.env = pure true) (hi : PID X W tg iter src) (ok : BlkOk X.N X.env.scope scope own)
    (ht : ∀ (s : Shared) (H : Hp) (C : Addr) (cl : List (Str × Addr)) (fp : List Addr), PGV (X.blk s H scope (compEnvC scope cl C X.env) fp) (own.map (·.2)) tg t) (hcn : ∀ (s : Shared) (H : Hp) (C : Addr) (cl : List (Str × Addr)) (fp : List Addr), PTsD (X.blk s H scope (compEnvC scope cl C X.env) fp) WNo ifs c)
    (he : ∀ (s : Shared) (H : Hp) (C : Addr) (cl : List (Str × Addr)) (fp : List Addr), PED (X.blk s H scope (compEnvC scope cl C X.env) fp) WNo elt el) (hs : ∀ x, foldedSetIterable iter X.env x = pure x := by intro _; rfl) : ∃ te, PS X (.Assign [.Name y py] (.ListComp elt [⟨tg, iter, ifs, 0⟩] scope pos) spos) (tAsg te (gName i)) ∧ EvN X.K X.mg W te (fLc src (own.map (·.2)) t c el) := by
  obtain ⟨wi, pi, ev⟩ := lc_ev (vs := own.map (·.2)) (t := t) (c := c) (el := el) hi
  exact ⟨_, ps_setLc hc hN hy hyl hsw pi ok (fun s H C cl fp => (ht s H C cl fp).can) (fun s H C cl fp => (hcn s H C cl fp).can) (fun s H C cl fp => (he s H C cl fp).can) hs, ev⟩
theorem psd_setLc {st : Stmt} {i : Nat} {fn : M (List D)} (h : ∃ te, PS X st (tAsg te (gName i)) ∧ EvN X.K X.mg W te fn) : PSD X W st (fSetT (fL fn) (setV i)) := by
  obtain ⟨te, p, ev⟩ := h
  refine ⟨_, p, fun Z B σ H e Y S h => ?_⟩
  have h := wp_bd.mp (wp_bd.mp h)
  refine ev Z B σ H e _ S (h.imp (fun ds e1 h1 p xs B1 H1 S1 l1 w1 w2 w3 w4 w5 => ?_) fun x e' q => PXs.at q)
  obtain ⟨S2, l2⟩ := S1.freeze w1 w3 w4 w5
  exact setV_wp (noExc_wp (wp_bd.mp h1)) _ _ H1 (S2.set (.lst upd_same (w2.mono l2))) (l1.trans l2)
end
/-! ### defs -/
def keepR (s : Sl) : Sl := if s.isRef = true then s else .no
def runF (n m : Nat) (g : M Fl) : En → Res D := fun as => if as.length = n ∧ n ≤ m then (match g (as ++ List.replicate (m - n) .no) with
  | .ok (.rt d) e => if e.length = m then .ok d ((e.take n).map keepR) else .bad
  | .ok .nx e => if e.length = m then .ok .non ((e.take n).map keepR) else .bad
  | .exc x e => if e.length = m then .exc x ((e.take n).map keepR) else .bad
  | _ => .bad) else .bad
def runN (n m : Nat) (g : M Fl) : En → Res (List D) := fun as => if as.length = n ∧ n ≤ m then (match g (as ++ List.replicate (m - n) .no) with
  | .ok (.rn d) e => if e.length = m then .ok d ((e.take n).map keepR) else .bad
  | .exc x e => if e.length = m then .exc x ((e.take n).map keepR) else .bad
  | _ => .bad) else .bad
section
variable {K : PySem.W.Frag} {mg : Str → Option Value} {Z : Ent} {B B' : Hp} {σ : St} {H H' : Hp} {e : En}
theorem SR.pad {n : Nat} (S : SR K mg Z B σ H e) : SR K mg Z B (σ ++ List.replicate n none) H (e ++ List.replicate n .no) := by
  have get : ∀ i s, (e ++ List.replicate n Sl.no)[i]? = some s → (i < e.length ∧ e[i]? = some s) ∨ s = .no := fun i s q => by
    by_cases hi : i < e.length
    · rw [List.getElem?_append_left hi] at q; exact .inl ⟨hi, q⟩
    · rw [List.getElem?_append_right (by omega), List.getElem?_replicate] at q
      split at q
      · cases q; exact .inr rfl
      · cases q
  have own : ∀ i, ownAt (e ++ List.replicate n Sl.no) i → ownAt e i ∧ i < e.length := fun i ⟨s, q, hs⟩ => by
    rcases get i s q with ⟨h1, h2⟩ | rfl
    · exact ⟨⟨s, h2, hs⟩, h1⟩
    · cases hs
  refine ⟨S.le, S.bh, S.fh, S.nb, S.dm, by simp [S.ln], fun i s q => ?_, fun i j a hij hi hj e1 e2 => ?_⟩
  · rcases get i s q with ⟨h1, h2⟩ | rfl
    · rw [List.getElem?_append_left (by rw [S.ln]; exact h1)]; exact S.sl i s h2
    · trivial
  · obtain ⟨o1, h1⟩ := own i hi
    obtain ⟨o2, h2⟩ := own j hj
    rw [List.getElem?_append_left (by rw [S.ln]; exact h1)] at e1
    rw [List.getElem?_append_left (by rw [S.ln]; exact h2)] at e2
    exact S.ds i j a hij o1 o2 e1 e2
/-- at the end: what was handed by reference, told at the slots of the entry -/
theorem SR.out {n : Nat} {B0 H0 : Hp} {R : List Addr} {s0 : St} (S : SR K mg ⟨B0, H0, R, s0⟩ B σ H e) (hn : s0.length = n) (hle : n ≤ e.length) : SR K mg ⟨B0, H0, R, s0⟩ B s0 H ((e.take n).map keepR) := by
  have get : ∀ (i : Nat) (s : Sl), ((e.take n).map keepR)[i]? = some s → s = .no ∨ (e[i]? = some s ∧ s.isRef = true) := fun i s q => by
    rw [List.getElem?_map] at q
    by_cases hi : i < n
    · rw [List.getElem?_take_of_lt hi] at q
      cases hs : e[i]? with
      | none => rw [hs] at q; cases q
      | some s' =>
        rw [hs] at q
        have q : keepR s' = s := Option.some.inj q
        unfold keepR at q
        split at q
        · subst q; exact .inr ⟨rfl, by assumption⟩
        · exact .inl q.symm
    · rw [List.getElem?_eq_none (by simp; omega)] at q; cases q
  have at0 : ∀ (i : Nat) (s : Sl), e[i]? = some s → s.isRef = true → ∃ a, σ[i]? = some (some (V.ref a)) ∧ s0[i]? = some (some (V.ref a)) := fun i s q hr => by
    have ho : s.isOwn = true := by cases s <;> first | rfl | cases hr
    obtain ⟨a, o, e1, _, _, _, p3⟩ := (S.sl i s q).at_own ho
    exact ⟨a, e1, (p3 hr).2⟩
  refine ⟨S.le, S.bh, S.fh, S.nb, S.dm, by simp [hn]; omega, fun i s q => ?_, fun i j a hij hi hj e1 e2 => ?_⟩
  · rcases get i s q with rfl | ⟨h1, h2⟩
    · trivial
    · obtain ⟨a, h3, h4⟩ := at0 i s h1 h2
      have z := S.sl i s h1
      rw [h3] at z
      rw [h4]
      exact z
  · have key : ∀ i, ownAt ((e.take n).map keepR) i → s0[i]? = some (some (V.ref a)) → ownAt e i ∧ σ[i]? = some (some (V.ref a)) := fun i ⟨s, q, hs⟩ e1 => by
      rcases get i s q with rfl | ⟨h1, h2⟩
      · cases hs
      · obtain ⟨a', h3, h4⟩ := at0 i s h1 h2
        rw [e1] at h4
        cases h4
        exact ⟨⟨s, h1, hs⟩, h3⟩
    obtain ⟨o1, w1⟩ := key i hi e1
    obtain ⟨o2, w2⟩ := key j hj e2
    exact S.ds i j a hij o1 o2 w1 w2
end
section
variable {P : Program} {w : World} {K : PySem.W.Frag} {mg : Str → Option Value} {base : Heap} {x qual : Str} {st : Stmt} {f : Addr} {fd : FuncData} {N ps : List Str} {k : Nat} {g : M Fl}
theorem len_run {F : En → Res D} (hF : ∀ as, F as ≠ .bad → as.length = ps.length) (vs : List V) (H : Hp) (Q : VK) (E : XK) (h : spD K mg F vs H Q E) : vs.length = ps.length := by
  obtain ⟨B, R, e, S, q⟩ := h
  have h1 := hF e (fun z => by rw [z] at q; exact q)
  have h2 := S.ln
  rw [List.length_map] at h2
  exact h2.trans h1
theorem runF_len {n m : Nat} (as : En) (h : runF n m g as ≠ .bad) : as.length = n := by
  unfold runF at h
  split at h
  · rename_i hc; exact hc.1
  · exact absurd rfl h
/-- what the body's run asks -/
theorem body_ok {ts : TS} {vs : List V} {H : Hp} {Q : VK} {E : XK} (hN : ps.length ≤ N.length) (ev : EvS K mg (fun c d _ H' => E c d H') ts g) (h : spD K mg (runF ps.length N.length g) vs H Q E) : ts { nx := fun _ H' => Q .non H', rt := Q } (L2.start N vs) H := by
  obtain ⟨B, R, e, S, q⟩ := h
  have hl : e.length = ps.length := runF_len (g := g) (m := N.length) e (fun z => by rw [z] at q; exact q)
  have hv : vs.length = ps.length := by have := S.ln; rw [List.length_map] at this; exact this.trans hl
  unfold runF at q
  rw [if_pos ⟨hl, hN⟩] at q
  have Sp := S.pad (n := N.length - ps.length)
  have e0 : vs.map some ++ List.replicate (N.length - ps.length) none = L2.start N vs := by unfold L2.start; rw [hv]
  rw [e0] at Sp
  refine ev _ B _ H _ _ Sp ?_
  cases hg : g (e ++ List.replicate (N.length - ps.length) .no) with
  | bad => rw [hg] at q; exact q
  | exc z e1 =>
    rw [hg] at q
    have q : (if e1.length = N.length then Res.exc z ((e1.take ps.length).map keepR) else Res.bad).wp _ _ := q
    split at q
    · rename_i h1
      exact fun cls dd σ' B' H' S' l a => q cls dd B' H' (S'.out (by rw [List.length_map]; exact hv) (by omega)) a
    · exact False.elim q
  | ok fl e1 =>
    rw [hg] at q
    cases fl with
    | rt d =>
      have q : (if e1.length = N.length then Res.ok d ((e1.take ps.length).map keepR) else Res.bad).wp _ _ := q
      split at q
      · rename_i h1
        exact fun v σ' B' H' S' l a => q v B' H' (S'.out (by rw [List.length_map]; exact hv) (by omega)) a
      · exact False.elim q
    | nx =>
      have q : (if e1.length = N.length then Res.ok D.non ((e1.take ps.length).map keepR) else Res.bad).wp _ _ := q
      split at q
      · rename_i h1
        exact fun σ' B' H' S' l => q .non B' H' (S'.out (by rw [List.length_map]; exact hv) (by omega)) .non
      · exact False.elim q
    | bk => exact False.elim q
    | ct => exact False.elim q
    | rn d => exact False.elim q
theorem fn_ok (F : Fun K x qual st f fd) (S : FnScope N ps (defScope st)) (hN : ps.length ≤ N.length)
    (hb : ∀ (cdv : Value) (A : Around) (outer : List Env) (s : Shared) (H : Hp) (E : XK), Room k (A.deeper (envOfC qual (defScope st) s.heap.objs.size f cdv)) → PSsD (cxOf (L2.CX P w) P w K mg base N qual (defScope st) f cdv A outer s H E) (fun c d _ H' => E c d H') (defBody st) g) :
    FnOk P w K mg base (L2.CX P w) (k + 1) f fd ps (spD K mg (runF ps.length N.length g)) := by
  refine F.okX S (len_run fun as h => runF_len as h) fun cdv A outer s H vs Q E hr h => ?_
  obtain ⟨ts, p, ev⟩ := hb cdv A outer s H E hr
  exact ⟨ts, p, body_ok hN ev h⟩
/-- .. as what callers take -/
theorem fn_raw {G : En → Res D} (h : FnOk P w K mg base (L2.CX P w) k f fd ps (spD K mg G)) (b : Binds K fd ps []) : FnR P w K mg base (L2.CX P w) k f (spD K mg G) :=
  (FnOk.raw h b .nil).imp fun vs H Q E q => by rw [List.append_nil]; exact q
/-! ### defs that give a new list out -/
theorem runN_len {n m : Nat} (as : En) (h : runN n m g as ≠ .bad) : as.length = n := by
  unfold runN at h
  split at h
  · rename_i hc; exact hc.1
  · exact absurd rfl h
theorem len_runN {F : En → Res (List D)} (hF : ∀ as, F as ≠ .bad → as.length = ps.length) (vs : List V) (H : Hp) (Q : VK) (E : XK) (h : spN K mg F vs H Q E) : vs.length = ps.length := by
  obtain ⟨B, R, e, S, q⟩ := h
  have h1 := hF e (fun z => by rw [z] at q; exact q)
  have h2 := S.ln
  rw [List.length_map] at h2
  exact h2.trans h1
theorem body_okN {ts : TS} {vs : List V} {H : Hp} {Q : VK} {E : XK} (hN : ps.length ≤ N.length) (ev : EvS K mg (fun c d _ H' => E c d H') ts g) (h : spN K mg (runN ps.length N.length g) vs H Q E) : ts { nx := fun _ H' => Q .non H', rt := Q } (L2.start N vs) H := by
  obtain ⟨B, R, e, S, q⟩ := h
  have hl : e.length = ps.length := runN_len (g := g) (m := N.length) e (fun z => by rw [z] at q; exact q)
  have hv : vs.length = ps.length := by have := S.ln; rw [List.length_map] at this; exact this.trans hl
  unfold runN at q
  rw [if_pos ⟨hl, hN⟩] at q
  have Sp := S.pad (n := N.length - ps.length)
  have e0 : vs.map some ++ List.replicate (N.length - ps.length) none = L2.start N vs := by unfold L2.start; rw [hv]
  rw [e0] at Sp
  refine ev _ B _ H _ _ Sp ?_
  cases hg : g (e ++ List.replicate (N.length - ps.length) .no) with
  | bad => rw [hg] at q; exact q
  | exc z e1 =>
    rw [hg] at q
    have q : (if e1.length = N.length then Res.exc z ((e1.take ps.length).map keepR) else Res.bad).wp _ _ := q
    split at q
    · rename_i h1
      exact fun cls dd σ' B' H' S' l a => q cls dd B' H' (S'.out (by rw [List.length_map]; exact hv) (by omega)) a
    · exact False.elim q
  | ok fl e1 =>
    rw [hg] at q
    cases fl with
    | rn d =>
      have q : (if e1.length = N.length then Res.ok d ((e1.take ps.length).map keepR) else Res.bad).wp _ _ := q
      split at q
      · rename_i h1
        intro p xs σ' B' H' S' l a1 a2 a3 a4 a5
        exact q p xs B' H' (S'.out (by rw [List.length_map]; exact hv) (by omega)) a1 a2 a3 a4
      · exact False.elim q
    | rt d => exact False.elim q
    | nx => exact False.elim q
    | bk => exact False.elim q
    | ct => exact False.elim q
theorem fn_okN (F : Fun K x qual st f fd) (S : FnScope N ps (defScope st)) (hN : ps.length ≤ N.length)
    (hb : ∀ (cdv : Value) (A : Around) (outer : List Env) (s : Shared) (H : Hp) (E : XK), Room k (A.deeper (envOfC qual (defScope st) s.heap.objs.size f cdv)) → PSsD (cxOf (L2.CX P w) P w K mg base N qual (defScope st) f cdv A outer s H E) (fun c d _ H' => E c d H') (defBody st) g) :
    FnOk P w K mg base (L2.CX P w) (k + 1) f fd ps (spN K mg (runN ps.length N.length g)) := by
  refine F.okX S (len_runN fun as h => runN_len as h) fun cdv A outer s H vs Q E hr h => ?_
  obtain ⟨ts, p, ev⟩ := hb cdv A outer s H E hr
  exact ⟨ts, p, body_okN hN ev h⟩
theorem fn_rawN {G : En → Res (List D)} (h : FnOk P w K mg base (L2.CX P w) k f fd ps (spN K mg G)) (b : Binds K fd ps []) : FnR P w K mg base (L2.CX P w) k f (spN K mg G) :=
  (FnOk.raw h b .nil).imp fun vs H Q E q => by rw [List.append_nil]; exact q
end
end Dl
set_option maxHeartbeats 1000000
/-! Layer D, part 6b: sorted of a tuple of ints. -/
namespace SrtT
open PySem PySem.Spec PyProof.Rows SrtO
section
variable {prog : Program} {w : World} {A : Around} {E : Value → Shared → Prop} {s : Shared}
theorem collect_tuple {l : Addr} {vs : List Value} {Q : List Value → Shared → Prop} (hl : s.heap.IsTuple l vs.toArray)
    (h : Q vs { s with heap := (s.heap.push (seqObj "list" #[] 0)).update s.heap.objs.size (Obj.mapSeq (· ++ vs.toArray)) }) (hsz : vs.length ≤ sizeLine) :
    wpAny (model prog w) A (collect (.ref l)) Q E s := by
  obtain ⟨o, ho, hc, n, hd⟩ := id hl
  unfold collect
  refine wpAny_bind (wpAny_runValue (codeAny_builtin entry_proto_collect' ?_))
  show wpAny _ _ (do again (.builtin "list.__iadd__" ⟨[← newList [], .ref l], []⟩)) _ _ s
  refine wpAny_bind (wpAny_newList (wpAny_pure ⟨Code.quiet_builtin _ (by decide +kernel), codeAny_builtin entry_list_iadd' ?_⟩))
  show wpAny _ _ (Builtin.List.listExtendWith (.ref s.heap.objs.size) (.ref l) (.ref s.heap.objs.size)) _ _ { s with heap := s.heap.push (seqObj "list" #[] 0) }
  unfold Builtin.List.listExtendWith
  have ho' : (s.heap.push (seqObj "list" #[] 0)).get? l = some o := Heap.get?_push_of_some _ ho
  refine wpAny_bind (wpAny_typeOf (T := "tuple") ⟨o, ho', hc⟩ ?_)
  have ht : (Value.type "tuple" == Value.type "tuple") = true := by rfl
  rw [if_pos (by rw [ht]; simp)]
  refine wpAny_bind (listItems_at ho' hd ?_)
  refine wpAny_bind (listItems_at (xs := #[]) (n := 0) (Heap.get?_push_size _ rfl) rfl ?_)
  rw [if_neg (by simp)]
  refine wpAny_bind (listUpdate_at (xs := #[]) (n := 0) (Heap.get?_push_size _ rfl) rfl ?_ (Nat.zero_le _) (by show (#[] ++ vs.toArray).size ≤ sizeLine + 1; simp only [Array.size_append, List.size_toArray, List.length_nil]; omega))
  refine wpAny_pure ?_
  show wpAny (model prog w) A (do
      let o ← load s.heap.objs.size
      match o.data with
      | .seq xs _ => pure xs.toList
      | _ => unsupported "internal:collect") Q E { s with heap := (s.heap.push (seqObj "list" #[] 0)).update s.heap.objs.size (Obj.mapSeq (· ++ vs.toArray)) }
  refine wpAny_bind (wpAny_load (get?_update_seq (Heap.get?_push_size _ rfl) _) ?_)
  show wpAny _ _ (pure ((#[] : Array Value) ++ vs.toArray).toList) Q E _
  rw [show ((#[] : Array Value) ++ vs.toArray).toList = vs by simp]
  exact wpAny_pure h
theorem sorted_ordT {l : Addr} {vs : List Value} {ltv : Value → Value → Bool} {Q : Value → Shared → Prop} (O : Swo ltv) (hl : s.heap.IsTuple l vs.toArray) (hz : vs.length ≤ sizeLine)
    (hS : 2 ≤ vs.length → ∀ (h₁ : Heap) (a : Addr), h₁.get? a = some (seqObj "list" vs.toArray 0) → (∀ b o, s.heap.get? b = some o → b ≠ a ∧ h₁.get? b = some o) → SortableO prog w A.in1.in1 { s with heap := h₁ } a vs ltv)
    (h : ∀ out : List Value, Srtd ltv out → Stb ltv out vs → Q (.ref (s.heap.objs.size + 1)) { s with heap := sortedAll s.heap vs out.toArray }) :
    wpAny (model prog w) A (call (.builtin "sorted") [.ref l]) Q E s := by
  refine Calls.call_function_entry kind_sorted plain_sorted entry_sorted (args_sorted1 _) ?_
  unfold Builtin.«sorted»
  refine wpAny_bind (m := checkCount "sorted" 1 1 _) (wpAny_pure ?_)
  refine wpAny_bind (collect_tuple hl ?_ hz)
  refine wpAny_bind (wpAny_newList ?_ hz)
  have hsz : ((s.heap.push (seqObj "list" #[] 0)).update s.heap.objs.size (Obj.mapSeq (· ++ vs.toArray))).objs.size = s.heap.objs.size + 1 := by
    rw [Heap.size_update, size_push']
  have hoL : (((s.heap.push (seqObj "list" #[] 0)).update s.heap.objs.size (Obj.mapSeq (· ++ vs.toArray))).push (seqObj "list" vs.toArray 0)).get? (s.heap.objs.size + 1) = some (seqObj "list" vs.toArray 0) := by
    rw [← hsz]; exact Heap.get?_push_size _ rfl
  have keep : ∀ b o, s.heap.get? b = some o → b ≠ s.heap.objs.size + 1 ∧ (((s.heap.push (seqObj "list" #[] 0)).update s.heap.objs.size (Obj.mapSeq (· ++ vs.toArray))).push (seqObj "list" vs.toArray 0)).get? b = some o := fun b o q => by
    have hlt : b < s.heap.objs.size := Heap.lt_size q
    refine ⟨Nat.ne_of_lt (Nat.lt_succ_of_lt hlt), Heap.get?_push_of_some _ ?_⟩
    rw [Heap.get?_update_ne _ _ _ _ (Nat.ne_of_lt hlt)]
    exact Heap.get?_push_of_some _ q
  show wpAny _ _ _ _ _ { s with heap := ((s.heap.push (seqObj "list" #[] 0)).update s.heap.objs.size (Obj.mapSeq (· ++ vs.toArray))).push (seqObj "list" vs.toArray 0) }
  rw [hsz]
  refine wpAny_bind (wpAny_holding (wpAny_call_entry slot_list_sort ⟨_, hoL, rfl⟩ entry_list_sort (list_sort_ord O hoL hz (fun h2 => hS h2 _ _ hoL keep) fun out hs hb => ⟨_, rfl, ?_⟩) (args_list_sort _)))
  exact wpAny_pure ⟨_, rfl, h out hs hb⟩
end
end SrtT
namespace Dl
open PySem PySem.Spec PyProof.Rows L2
def rSortedIT (K : PySem.W.Frag) : List V → Hp → VK → Prop := fun vs H Q => ∃ (a : Addr) (ns : List Int), vs = [V.ref a] ∧ SqT K H a (ns.map V.int) ∧
  ∀ (ns' : List Int) (p : Addr), ns'.Perm ns → ns'.Pairwise (· ≤ ·) → H p = none → Q (.ref p) (upd H p (.lst (ns'.map V.int)))
def rSortedA (K : PySem.W.Frag) : List V → Hp → VK → Prop := fun vs H Q => rSortedI K vs H Q ∨ rSortedIT K vs H Q
section
variable {X : Cx}
theorem cr_sortedIT : CallR X (.builtin "sorted") (rSortedIT X.K) := by
  intro pins s σ H vs us Q I r h
  obtain ⟨a, ns, rfl, hs, q⟩ := h
  obtain ⟨its, rv, hl, hz⟩ := I.tuple hs
  rw [Vals.ref1 r]
  have hi := rv.ints
  refine SrtT.sorted_ordT SrtO.swo_int hl (by rw [← rv.length]; exact hz) (fun h2 h₁ a' _ _ => SrtO.ints_sortable hi h2) fun out h1 h2 => ?_
  obtain ⟨k1, k2, k3⟩ := SrtO.ints_out hi h1 h2
  obtain ⟨ep, he'⟩ := PyProof.Rows.sortedAll_at s.heap its out.toArray
  have hlen : ((out.map SrtO.iv).map V.int).length ≤ sizeLine := by
    rw [List.length_map, k2.length_eq]
    rw [List.length_map] at hz
    exact hz
  exact ⟨.ref _, upd H (s.heap.objs.size + 1) (.lst ((out.map SrtO.iv).map V.int)), I.laid (t' := s.toks) (fun _ _ => PyProof.Rows.sortedAll_old) (Nat.le_succ _) ⟨hlen, out, ep, vals_of_ints k1, he'⟩, rfl, q _ _ k2 k3 (I.hok.fresh (Nat.le_succ _))⟩
/-- sorted of a list or a tuple of ints -/
theorem cr_sortedI : CallR X (.builtin "sorted") (rSortedA X.K) := by
  intro pins s σ H vs us Q I r h
  rcases h with h | h
  · exact L2.cr_sortedI pins s σ H vs us Q I r h
  · exact cr_sortedIT pins s σ H vs us Q I r h
end
end Dl
set_option maxHeartbeats 1000000
/-! Layer D, part 7: built-ins. -/
namespace Dl
open PySem PySem.Spec PyProof.Rows L2
def ClN (K : PySem.W.Frag) (mg : Str → Option Value) (W : WX) (r : List V → Hp → VK → Prop) (o : List D → M (List D)) : Prop := ∀ Z B σ H e xs as (Q : VK), SR K mg Z B σ H e → AtL K mg B xs as → (o as e).wp (PN K mg Z B σ Q) (PX K mg Z B σ W) → r xs H Q
section
variable {X : Cx} {W : WX} {es : List Expr} {e : Expr} {fr : M (List D)} {pos p : Pos} {x : Str} {id T : String} {r : List V → Hp → VK → Prop} {o : List D → M (List D)}
theorem evCN {K : PySem.W.Frag} {mg : Str → Option Value} {ta : TA} (ea : EvL K mg W ta fr) (hd : ClN K mg W r o) : EvN K mg W (tCB r ta) (bd fr o) := by
  intro Z B σ H e Q S h
  refine ea.then S h (fun x e' q => q) fun ds e1 vs B1 H1 S1 l1 a1 h1 => ?_
  exact hd Z B1 σ H1 e1 vs ds Q S1 a1 (upN l1 h1)
theorem pnd_callB (hc : CallR X (.builtin id) r) (hd : ClN X.K X.mg W r o) (hm : X.mg x = none) (hv : bootBuiltins x = some (.builtin id)) (ha : PAD X W (e :: es) fr) (hg : Gl X x := by rfl) (hn : x ≠ "__name__" := by decide) (hdb : (x == ("__debug__" : Str)) = false := by decide)
    (he : starEach (e :: es) X.env = (false, eval e X.env) :: starEach es X.env := by rfl) (hpl : (backTo pos (starEach es X.env)).any (·.1) = false := by rfl) : PND X W (.Call (.Name x p) (e :: es) [] pos) (bd fr o) := by
  obtain ⟨ta, pa, ea⟩ := ha
  exact ⟨_, pe_callB hc hg hm hv pa hn hdb he hpl, evCN ea hd⟩
end
/-! ### data by kinds -/
def toInts : List D → Option (List Int)
  | [] => some []
  | .int i :: r => match toInts r with
    | some l => some (i :: l) | none => none
  | _ :: _ => none
def toBls : List D → Option (List Bool)
  | [] => some []
  | .bl i :: r => match toBls r with
    | some l => some (i :: l) | none => none
  | _ :: _ => none
theorem toInts_map : ∀ ns : List Int, toInts (ns.map D.int) = some ns
  | [] => rfl
  | n :: ns => by simp [toInts, toInts_map ns]
theorem toBls_map : ∀ ns : List Bool, toBls (ns.map D.bl) = some ns
  | [] => rfl
  | n :: ns => by simp [toBls, toBls_map ns]
theorem toInts_eq : ∀ {ds : List D} {ns : List Int}, toInts ds = some ns → ds = ns.map D.int
  | [], ns, h => by cases h; rfl
  | .int i :: r, ns, h => by
    unfold toInts at h
    cases q : toInts r with
    | none => rw [q] at h; cases h
    | some l => rw [q] at h; cases h; rw [toInts_eq q]; rfl
  | .non :: _, _, h => by cases h
  | .bl _ :: _, _, h => by cases h
  | .str _ :: _, _, h => by cases h
  | .tup _ :: _, _, h => by cases h
  | .lst _ :: _, _, h => by cases h
  | .obj _ _ _ :: _, _, h => by cases h
  | .scr _ :: _, _, h => by cases h
  | .dic :: _, _, h => by cases h
  | .cls _ :: _, _, h => by cases h
theorem toBls_eq : ∀ {ds : List D} {ns : List Bool}, toBls ds = some ns → ds = ns.map D.bl
  | [], ns, h => by cases h; rfl
  | .bl i :: r, ns, h => by
    unfold toBls at h
    cases q : toBls r with
    | none => rw [q] at h; cases h
    | some l => rw [q] at h; cases h; rw [toBls_eq q]; rfl
  | .non :: _, _, h => by cases h
  | .int _ :: _, _, h => by cases h
  | .str _ :: _, _, h => by cases h
  | .tup _ :: _, _, h => by cases h
  | .lst _ :: _, _, h => by cases h
  | .obj _ _ _ :: _, _, h => by cases h
  | .scr _ :: _, _, h => by cases h
  | .dic :: _, _, h => by cases h
  | .cls _ :: _, _, h => by cases h
theorem AtL.bls {K : PySem.W.Frag} {mg : Str → Option Value} {B : Hp} : ∀ {xs : List V} {ns : List Bool}, AtL K mg B xs (ns.map D.bl) → xs = ns.map V.bl
  | [], [], _ => rfl
  | _ :: _, _ :: _, .cons r t => by rw [r.bl_inv, AtL.bls t]; rfl
/-! ### sorting ints -/
def ins (x : Int) : List Int → List Int
  | [] => [x]
  | y :: r => if x ≤ y then x :: y :: r else y :: ins x r
def isort : List Int → List Int
  | [] => []
  | x :: r => ins x (isort r)
theorem ins_perm (x : Int) : ∀ l : List Int, (ins x l).Perm (x :: l)
  | [] => .refl _
  | y :: r => by
    unfold ins
    split
    · exact .refl _
    · exact ((ins_perm x r).cons y).trans (.swap x y r)
theorem isort_perm : ∀ l : List Int, (isort l).Perm l
  | [] => .refl _
  | x :: r => (ins_perm x (isort r)).trans ((isort_perm r).cons x)
theorem ins_sorted {x : Int} : ∀ {l : List Int}, l.Pairwise (· ≤ ·) → (ins x l).Pairwise (· ≤ ·)
  | [], _ => by simp [ins]
  | y :: r, h => by
    unfold ins
    have h2 := List.pairwise_cons.mp h
    split
    · rename_i hxy
      refine List.pairwise_cons.mpr ⟨fun z hz => ?_, h⟩
      rcases List.mem_cons.mp hz with rfl | hz
      · exact hxy
      · exact Int.le_trans hxy (h2.1 z hz)
    · rename_i hxy
      refine List.pairwise_cons.mpr ⟨fun z hz => ?_, ins_sorted h2.2⟩
      rcases List.mem_cons.mp ((ins_perm x r).mem_iff.mp hz) with rfl | hz
      · omega
      · exact h2.1 z hz
theorem isort_sorted : ∀ l : List Int, (isort l).Pairwise (· ≤ ·)
  | [] => .nil
  | _ :: r => ins_sorted (isort_sorted r)
theorem sorted_unique : ∀ {l m : List Int}, l.Perm m → l.Pairwise (· ≤ ·) → m.Pairwise (· ≤ ·) → l = m
  | [], m, p, _, _ => (List.Perm.nil_eq p)
  | x :: l, [], p, _, _ => absurd p.symm.nil_eq (by simp)
  | x :: l, y :: m, p, hl, hm => by
    have h1 := List.pairwise_cons.mp hl
    have h2 := List.pairwise_cons.mp hm
    have e : x = y := by
      have mx : x ∈ y :: m := p.mem_iff.mp List.mem_cons_self
      have my : y ∈ x :: l := p.mem_iff.mpr List.mem_cons_self
      rcases List.mem_cons.mp mx with e | mx
      · exact e
      · rcases List.mem_cons.mp my with e | my
        · exact e.symm
        · exact Int.le_antisymm (h1.1 y my) (h2.1 x mx)
    subst e
    rw [sorted_unique (List.Perm.cons_inv p) h1.2 h2.2]
/-! ### the rules -/
def d1 (f : D → Option D) : List D → M D := fun ds => li (match ds with
  | [d] => f d | _ => none)
def d2 (f : D → D → Option D) : List D → M D := fun ds => li (match ds with
  | [a, b] => f a b | _ => none)
def oLen : D → Option D
  | .lst xs => some (.int xs.length) | .tup xs => some (.int xs.length) | .scr xs => some (.int xs.length) | _ => none
def oAbs : D → Option D
  | .int i => some (.int (if i < 0 then -i else i)) | _ => none
def oMax : D → D → Option D
  | .int i, .int j => some (.int (if j > i then j else i)) | _, _ => none
def oMin : D → D → Option D
  | .int i, .int j => some (.int (if j < i then j else i)) | _, _ => none
def oInt : D → Option D
  | .int i => some (.int i) | .bl b => some (.int (if b then 1 else 0)) | _ => none
def oAll : D → Option D
  | .lst xs => match toBls xs with
    | some bs => some (.bl (bs.all id)) | none => none
  | _ => none
def oTuple : D → Option D
  | .lst xs => some (.tup xs) | .tup xs => some (.tup xs) | _ => none
def nSort : List D → M (List D) := fun ds => li (match ds with
  | [.lst xs] => match toInts xs with
    | some ns => some ((isort ns).map D.int) | none => none
  | [.tup xs] => match toInts xs with
    | some ns => some ((isort ns).map D.int) | none => none
  | _ => none)
section
variable {K : PySem.W.Frag} {mg : Str → Option Value} {W : WX}
theorem d1_ok {r : List V → Hp → VK → Prop} {f : D → Option D} (h : ∀ Z B σ H e v d z (Q : VK), SR K mg Z B σ H e → At K mg B v d → f d = some z → (∀ v' B' H', SR K mg Z B' σ H' e → Same B B' → At K mg B' v' z → Q v' H') → r [v] H Q) : ClD K mg W r (d1 f) := by
  intro Z B σ H e xs as Q S a q
  obtain ⟨z, h1, h2⟩ := wp_li q
  match as, a, h1 with
  | [d], .cons r .nil, h1 => exact h Z B σ H e _ d z Q S r h1 h2
theorem d2_ok {r : List V → Hp → VK → Prop} {f : D → D → Option D} (h : ∀ Z B σ H e v d v2 d2 z (Q : VK), SR K mg Z B σ H e → At K mg B v d → At K mg B v2 d2 → f d d2 = some z → (∀ v' B' H', SR K mg Z B' σ H' e → Same B B' → At K mg B' v' z → Q v' H') → r [v, v2] H Q) : ClD K mg W r (d2 f) := by
  intro Z B σ H e xs as Q S a q
  obtain ⟨z, h1, h2⟩ := wp_li q
  match as, a, h1 with
  | [d, d2], .cons r (.cons r2 .nil), h1 => exact h Z B σ H e _ d _ d2 z Q S r r2 h1 h2
theorem cd_len : ClD K mg W (fun xs H Q => ∃ p ys, xs = [.ref p] ∧ (SqL K H p ys ∨ SqT K H p ys) ∧ Q (.int ys.length) H) (d1 oLen) := d1_ok fun Z B σ H e v d z Q S r h q => by
  cases d with
  | lst xs =>
    cases h
    obtain ⟨a, vs, rfl, h1, h2⟩ := r.lst_inv
    exact ⟨a, vs, rfl, .inl (SqL.of (S.bh _ _ h1)), by rw [h2.length]; exact q _ B H S (Same.refl B) (.int _)⟩
  | tup xs =>
    cases h
    obtain ⟨a, vs, rfl, h1, h2⟩ := r.tup_inv
    exact ⟨a, vs, rfl, .inr (seqT S.bh h1), by rw [h2.length]; exact q _ B H S (Same.refl B) (.int _)⟩
  | scr xs =>
    cases h
    obtain ⟨a, rfl, h1⟩ := r.scr_inv
    exact ⟨a, _, rfl, .inl (S.bh.seq h1), by rw [List.length_map]; exact q _ B H S (Same.refl B) (.int _)⟩
  | _ => cases h
theorem cd_abs : ClD K mg W (fun xs H Q => ∃ i, xs = [.int i] ∧ Q (.int (if i < 0 then -i else i)) H) (d1 oAbs) := d1_ok fun Z B σ H e v d z Q S r h q => by
  cases d with
  | int i => cases h; exact ⟨i, by rw [r.int_inv], q _ B H S (Same.refl B) (.int _)⟩
  | _ => cases h
theorem cd_max : ClD K mg W (fun xs H Q => ∃ i j, xs = [.int i, .int j] ∧ Q (.int (if j > i then j else i)) H) (d2 oMax) := d2_ok fun Z B σ H e v d v2 d2 z Q S r r2 h q => by
  cases d with
  | int i => cases d2 with
    | int j => cases h; exact ⟨i, j, by rw [r.int_inv, r2.int_inv], q _ B H S (Same.refl B) (.int _)⟩
    | _ => cases h
  | _ => cases h
theorem cd_min : ClD K mg W (fun xs H Q => ∃ i j, xs = [.int i, .int j] ∧ Q (.int (if j < i then j else i)) H) (d2 oMin) := d2_ok fun Z B σ H e v d v2 d2 z Q S r r2 h q => by
  cases d with
  | int i => cases d2 with
    | int j => cases h; exact ⟨i, j, by rw [r.int_inv, r2.int_inv], q _ B H S (Same.refl B) (.int _)⟩
    | _ => cases h
  | _ => cases h
theorem cd_int : ClD K mg W (fun xs H Q => (∃ i, xs = [.int i] ∧ Q (.int i) H) ∨ ∃ k, xs = [.bl k] ∧ Q (.int (if k then 1 else 0)) H) (d1 oInt) := d1_ok fun Z B σ H e v d z Q S r h q => by
  cases d with
  | int i => cases h; exact .inl ⟨i, by rw [r.int_inv], q _ B H S (Same.refl B) (.int _)⟩
  | bl b => cases h; exact .inr ⟨b, by rw [r.bl_inv], q _ B H S (Same.refl B) (.int _)⟩
  | _ => cases h
theorem cd_all : ClD K mg W (rAll K) (d1 oAll) := d1_ok fun Z B σ H e v d z Q S r h q => by
  cases d with
  | lst xs =>
    have h : (match toBls xs with
      | some bs => some (D.bl (bs.all id)) | none => none) = some z := h
    cases e1 : toBls xs with
    | none => rw [e1] at h; cases h
    | some bs =>
      rw [e1] at h
      cases h
      obtain ⟨a, vs, rfl, h1, h2⟩ := r.lst_inv
      rw [toBls_eq e1] at h2
      rw [h2.bls] at h1
      exact ⟨a, bs, rfl, SqL.of (S.bh _ _ h1), q _ B H S (Same.refl B) (.bl _)⟩
  | _ => cases h
theorem cd_tuple : ClD K mg W (fun xs H Q => ∃ p ys, xs = [.ref p] ∧ ((SqL K H p ys ∧ ∀ l, H l = none → Q (.ref l) (upd H l (.tup ys))) ∨ (SqT K H p ys ∧ Q (.ref p) H))) (d1 oTuple) := d1_ok fun Z B σ H e v d z Q S r h q => by
  cases d with
  | lst xs =>
    cases h
    obtain ⟨a, vs, rfl, h1, h2⟩ := r.lst_inv
    refine ⟨a, vs, rfl, .inl ⟨SqL.of (S.bh _ _ h1), fun l hl => ?_⟩⟩
    obtain ⟨S2, l2⟩ := S.new (o := .tup vs) hl
    exact q _ _ _ S2 l2 (.tup (SqT.of upd_same) (h2.mono l2))
  | tup xs =>
    cases h
    have r2 := r
    obtain ⟨a, vs, rfl, h1, h2⟩ := r.tup_inv
    exact ⟨a, vs, rfl, .inr ⟨seqT S.bh h1, q _ B H S (Same.refl B) r2⟩⟩
  | _ => cases h
theorem cn_sort : ClN K mg W (rSortedA K) nSort := by
  intro Z B σ H e xs as Q S a q
  obtain ⟨z, h1, h2⟩ := wp_li q
  match as, a, h1 with
  | [.lst ds], .cons r .nil, h1 =>
    have h1 : (match toInts ds with
      | some ns => some ((isort ns).map D.int) | none => none) = some z := h1
    cases e1 : toInts ds with
    | none => rw [e1] at h1; cases h1
    | some ns =>
      rw [e1] at h1
      cases h1
      obtain ⟨a, vs, rfl, g1, g2⟩ := r.lst_inv
      rw [toInts_eq e1] at g2
      rw [g2.ints] at g1
      refine .inl ⟨a, ns, rfl, SqL.of (S.bh _ _ g1), fun ns' p pm pw hp => ?_⟩
      have e2 : ns' = isort ns := sorted_unique (pm.trans (isort_perm ns).symm) pw (isort_sorted ns)
      subst e2
      obtain ⟨S2, hB, h0, hf⟩ := S.newO (o := .lst ((isort ns).map V.int)) hp
      exact h2 p _ B _ S2 (Same.refl B) upd_same (.of_ints _) hB h0 hf
  | [.tup ds], .cons r .nil, h1 =>
    have h1 : (match toInts ds with
      | some ns => some ((isort ns).map D.int) | none => none) = some z := h1
    cases e1 : toInts ds with
    | none => rw [e1] at h1; cases h1
    | some ns =>
      rw [e1] at h1
      cases h1
      obtain ⟨a, vs, rfl, g1, g2⟩ := r.tup_inv
      rw [toInts_eq e1] at g2
      rw [g2.ints] at g1
      refine .inr ⟨a, ns, rfl, seqT S.bh g1, fun ns' p pm pw hp => ?_⟩
      have e2 : ns' = isort ns := sorted_unique (pm.trans (isort_perm ns).symm) pw (isort_sorted ns)
      subst e2
      obtain ⟨S2, hB, h0, hf⟩ := S.newO (o := .lst ((isort ns).map V.int)) hp
      exact h2 p _ B _ S2 (Same.refl B) upd_same (.of_ints _) hB h0 hf
end
/-! ### == and != of data -/
mutual
def toP : D → Option PyData
  | .non => some .none | .bl b => some (.bool b) | .int i => some (.int i) | .str x => some (.str x)
  | .tup ds => match toPs ds with
    | some l => some (.tuple l) | none => none
  | .lst ds => match toPs ds with
    | some l => some (.list l) | none => none
  | _ => none
def toPs : List D → Option (List PyData)
  | [] => some []
  | d :: ds => match toP d, toPs ds with
    | some p, some l => some (p :: l) | _, _ => none
end
section
variable {K : PySem.W.Frag} {mg : Str → Option Value} {W : WX} {B H : Hp}
mutual
theorem At.dp (l : Same B H) : ∀ {v : V} {d : D} {p : PyData}, At K mg B v d → toP d = some p → Dp K H v p
  | _, _, _, .non, h => by simp [toP] at h; subst h; exact .non
  | _, _, _, .bl b, h => by simp [toP] at h; subst h; exact .bl b
  | _, _, _, .int i, h => by simp [toP] at h; subst h; exact .int i
  | _, _, _, .str x, h => by simp [toP] at h; subst h; exact .str x
  | _, .tup ds, _, .tup q r, h => by
    unfold toP at h
    cases e : toPs ds with
    | none => rw [e] at h; cases h
    | some ps => rw [e] at h; cases h; exact .tup (seqT l q) (AtL.dp l r e)
  | _, .lst ds, _, .lst q r, h => by
    unfold toP at h
    cases e : toPs ds with
    | none => rw [e] at h; cases h
    | some ps => rw [e] at h; cases h; exact .lst (SqL.of (l _ _ q)) (AtL.dp l r e)
  | _, _, _, .obj _ _ _ _, h => by simp [toP] at h
  | _, _, _, .scr _, h => by simp [toP] at h
  | _, _, _, .dic _, h => by simp [toP] at h
  | _, _, _, .cls _, h => by simp [toP] at h
theorem AtL.dp (l : Same B H) : ∀ {v : List V} {d : List D} {p : List PyData}, AtL K mg B v d → toPs d = some p → DpAll K H v p
  | _, _, _, .nil, h => by simp [toPs] at h; subst h; exact .nil
  | _, d :: ds, _, .cons r t, h => by
    unfold toPs at h
    cases e : toP d with
    | none => rw [e] at h; cases h
    | some p =>
      cases e2 : toPs ds with
      | none => rw [e, e2] at h; cases h
      | some ps => rw [e, e2] at h; cases h; exact .cons (At.dp l r e) (AtL.dp l t e2)
end
def eqD (a b : D) : Option Bool := match toP a, toP b with
  | some p, some q => if SeqAt.shaped p = true ∧ SeqAt.shaped q = true then some (PyData.eqv p q) else none
  | _, _ => none
def dEq : D → D → M D := fun a b => li ((eqD a b).map D.bl)
def dNe : D → D → M D := fun a b => li ((eqD a b).map fun c => D.bl (!c))
theorem eqD_at {Z : Ent} {σ : St} {e : En} {x y : V} {a b : D} {c : Bool} (S : SR K mg Z B σ H e) (ha : At K mg B x a) (hb : At K mg B y b) (h : eqD a b = some c) : ∃ p q, Dp K H x p ∧ Dp K H y q ∧ SeqAt.shaped p = true ∧ SeqAt.shaped q = true ∧ PyData.eqv p q = c := by
  unfold eqD at h
  cases e1 : toP a with
  | none => rw [e1] at h; cases h
  | some p =>
    cases e2 : toP b with
    | none => rw [e1, e2] at h; cases h
    | some q =>
      rw [e1, e2] at h
      have h : (if SeqAt.shaped p = true ∧ SeqAt.shaped q = true then some (PyData.eqv p q) else none) = some c := h
      split at h
      · rename_i hc
        cases h
        exact ⟨p, q, ha.dp S.bh e1, hb.dp S.bh e2, hc.1, hc.2, rfl⟩
      · cases h
theorem od_eq : OpD K mg W (rEqD K) dEq := by
  intro Z B σ H e x y a b Q S ha hb q
  obtain ⟨d, h1, h2⟩ := wp_li q
  cases e1 : eqD a b with
  | none => rw [e1] at h1; cases h1
  | some c =>
    rw [e1] at h1
    cases h1
    obtain ⟨p, q, w1, w2, w3, w4, rfl⟩ := eqD_at S ha hb e1
    exact ⟨p, q, w1, w2, w3, w4, h2 _ B H S (Same.refl B) (.bl _)⟩
theorem od_ne : OpD K mg W (rNeD K) dNe := by
  intro Z B σ H e x y a b Q S ha hb q
  obtain ⟨d, h1, h2⟩ := wp_li q
  cases e1 : eqD a b with
  | none => rw [e1] at h1; cases h1
  | some c =>
    rw [e1] at h1
    cases h1
    obtain ⟨p, q, w1, w2, w3, w4, rfl⟩ := eqD_at S ha hb e1
    exact ⟨p, q, w1, w2, w3, w4, h2 _ B H S (Same.refl B) (.bl _)⟩
end
/-! ### isinstance with built-in classes -/
/-- the type's name -/
def tyD : D → Option String
  | .non => some "NoneType" | .bl _ => some "bool" | .int _ => some "int" | .str _ => some "str" | .tup _ => some "tuple" | .lst _ => some "list" | .scr _ => some "list" | .dic => some "dict" | .obj _ _ _ => none | .cls _ => none
theorem At.ty {K : PySem.W.Frag} {mg : Str → Option Value} {B H : Hp} {v : V} {d : D} {t : String} (l : Same B H) (r : At K mg B v d) (h : tyD d = some t) : TyX K H v (.type t) := by
  cases r with
  | non => cases h; exact .base .non
  | bl b => cases h; exact .base (.bl b)
  | int i => cases h; exact .base (.int i)
  | str x => cases h; exact .base (.str x)
  | tup q _ =>
    cases h
    rcases q with (q | ⟨o, q⟩) | ⟨o, its, n, hk, hc, _⟩
    · exact .base (.tup (l _ _ q))
    · exact .fTuple (l _ _ q)
    · exact .kTuple hk hc
  | lst q _ => cases h; exact .base (.lst (l _ _ q))
  | scr q =>
    cases h
    rcases q with (q | ⟨o, q⟩) | ⟨o, its, n, hk, hc, _⟩
    · exact .base (.lst (l _ _ q))
    · exact .base (.frz (l _ _ q))
    · exact .kList hk hc
  | dic q => cases h; exact .base (.dK (l _ _ q))
  | obj _ _ _ _ => cases h
  | cls _ => cases h
def tys : List String := ["NoneType", "bool", "int", "str", "tuple", "list", "dict"]
theorem tyD_mem {d : D} {t : String} (h : tyD d = some t) : t ∈ tys := by cases d <;> cases h <;> decide
/-- isinstance(.., T): T one built-in class, by its table -/
def isTab (T : String) (t : String) : Bool := t == T || (T == "int" && t == "bool")
def oIs (T : String) : D → Option D := fun d => match tyD d with
  | some t => some (.bl (isTab T t)) | none => none
def oIs2 (T U : String) : D → Option D := fun d => match tyD d with
  | some t => some (.bl (isTab T t || isTab U t)) | none => none
section
variable {X : Cx} {W : WX} {a : Expr} {fa : M D} {p1 p2 pos pt : Pos} {x T : Str} {k1 : Nat}
theorem ped_is {T : String} {x : Str} (hT : ∀ t ∈ tys, kitB t T = some (isTab T t)) (ha : PED X W a fa) (hm : X.mg "isinstance" = none) (hx : X.mg x = none) (hv : bootBuiltins x = some (.type T)) (hg : Gl X "isinstance" := by rfl) (hgx : Gl X x := by rfl) (hn : x ≠ "__name__" := by decide) (hdb : (x == ("__debug__" : Str)) = false := by decide)
    (he : starEach (a :: [.Name x p2]) X.env = (false, eval a X.env) :: starEach [.Name x p2] X.env := by rfl) (he2 : starEach (.Name x p2 :: []) X.env = (false, eval (.Name x p2) X.env) :: starEach [] X.env := by rfl) (hpl : (backTo pos (starEach [.Name x p2] X.env)).any (·.1) = false := by rfl) :
    PED X W (.Call (.Name "isinstance" p1) [a, .Name x p2] [] pos) (bd fa fun d => li (oIs T d)) := by
  obtain ⟨ta, pa, ea⟩ := ha
  refine ⟨_, pe_callB call_isi hg hm (by decide +kernel) (pa_cons pa (pa_cons (pe_bltn (v := .ty T) hgx hx hv rfl hn hdb) pa_nil he2) he) (by decide) (by decide) he hpl, fun Z B σ H e Q S h => ?_⟩
  refine ea.then S h (fun x e' q => q) fun d e1 v B1 H1 S1 l1 a1 h1 => ?_
  obtain ⟨z, h2, h3⟩ := wp_li h1
  unfold oIs at h2
  cases e2 : tyD d with
  | none => rw [e2] at h2; cases h2
  | some t =>
    rw [e2] at h2
    cases h2
    exact ⟨v, .ty T, .type t, .type T, _, rfl, .ty T, a1.ty S1.bh e2, kit_ty (hT t (tyD_mem e2)), h3 _ B1 H1 S1 l1 (.bl _)⟩
theorem ped_is2 {T U : String} {x y : Str} {p3 : Pos} (hT : ∀ t ∈ tys, kitB t T = some (isTab T t)) (hU : ∀ t ∈ tys, kitB t U = some (isTab U t)) (ha : PED X W a fa) (hm : X.mg "isinstance" = none) (hx : X.mg x = none) (hv : bootBuiltins x = some (.type T)) (hy : X.mg y = none) (hw : bootBuiltins y = some (.type U))
    (hg : Gl X "isinstance" := by rfl) (hgx : Gl X x := by rfl) (hgy : Gl X y := by rfl) (hn : x ≠ "__name__" := by decide) (hdb : (x == ("__debug__" : Str)) = false := by decide) (hn2 : y ≠ "__name__" := by decide) (hdb2 : (y == ("__debug__" : Str)) = false := by decide)
    (he : starEach (a :: [.Tuple [.Name x p2, .Name y p3] k1 pt]) X.env = (false, eval a X.env) :: starEach [.Tuple [.Name x p2, .Name y p3] k1 pt] X.env := by rfl) (he2 : starEach (.Tuple [.Name x p2, .Name y p3] k1 pt :: []) X.env = (false, eval (.Tuple [.Name x p2, .Name y p3] k1 pt) X.env) :: starEach [] X.env := by rfl)
    (he3 : starEach (.Name x p2 :: [.Name y p3]) X.env = (false, eval (.Name x p2) X.env) :: starEach [.Name y p3] X.env := by rfl) (he4 : starEach (.Name y p3 :: []) X.env = (false, eval (.Name y p3) X.env) :: starEach [] X.env := by rfl)
    (hpl : (backTo pos (starEach [.Tuple [.Name x p2, .Name y p3] k1 pt] X.env)).any (·.1) = false := by rfl) :
    PED X W (.Call (.Name "isinstance" p1) [a, .Tuple [.Name x p2, .Name y p3] k1 pt] [] pos) (bd fa fun d => li (oIs2 T U d)) := by
  obtain ⟨ta, pa, ea⟩ := ha
  refine ⟨_, pe_callB call_isiT hg hm (by decide +kernel) (pa_cons pa (pa_cons (pe_tup (pa_cons (pe_bltn (v := .ty T) hgx hx hv rfl hn hdb) (pa_cons (pe_bltn (v := .ty U) hgy hy hw rfl hn2 hdb2) pa_nil he4) he3)) pa_nil he2) he) (by decide) (by decide) he hpl, fun Z B σ H e Q S h => ?_⟩
  refine ea.then S h (fun x e' q => q) fun d e1 v B1 H1 S1 l1 a1 h1 => ?_
  obtain ⟨z, h2, h3⟩ := wp_li h1
  unfold oIs2 at h2
  cases e2 : tyD d with
  | none => rw [e2] at h2; cases h2
  | some t =>
    rw [e2] at h2
    cases h2
    refine ⟨by show 2 ≤ sizeLine; decide, fun q hq => ?_⟩
    obtain ⟨S2, l2⟩ := S1.new (o := .tup [.ty T, .ty U]) hq
    refine ⟨v, q, [.ty T, .ty U], .type t, [.type T, .type U], _, rfl, upd_same, .cons (.ty T) (.cons (.ty U) .nil), (a1.mono l2).ty S2.bh e2, ?_, h3 _ _ _ S2 (l1.trans l2) (.bl _)⟩
    have k1 := kit_ty (K := X.K) (hT t (tyD_mem e2))
    have k2 := kit_ty (K := X.K) (hU t (tyD_mem e2))
    cases c1 : isTab T t with
    | true => rw [c1] at k1; exact kitAny_cons k1 (fun z => nomatch z) (fun _ => by simp)
    | false =>
      rw [c1] at k1
      refine kitAny_cons k1 (fun _ => ?_) (fun z => nomatch z)
      cases c2 : isTab U t with
      | true => rw [c2] at k2; exact kitAny_cons k2 (fun z => nomatch z) (fun _ => by simp)
      | false => rw [c2] at k2; exact kitAny_cons k2 (fun _ => by simpa using kitAny_nil) (fun z => nomatch z)
end
theorem tab_int : ∀ t ∈ tys, kitB t "int" = some (isTab "int" t) := by decide +kernel
theorem tab_bool : ∀ t ∈ tys, kitB t "bool" = some (isTab "bool" t) := by decide +kernel
theorem tab_str : ∀ t ∈ tys, kitB t "str" = some (isTab "str" t) := by decide +kernel
theorem tab_list : ∀ t ∈ tys, kitB t "list" = some (isTab "list" t) := by decide +kernel
theorem tab_tuple : ∀ t ∈ tys, kitB t "tuple" = some (isTab "tuple" t) := by decide +kernel
end Dl
set_option maxHeartbeats 1000000
/-! Layer D, part 8: operators of own classes, ranges of any size, fields stored. -/
namespace Dl
open PySem PySem.Spec PyProof.Rows L2 RZ
/-! ### what a class holds under a special name -/
def OpI (P : Program) (w : World) (K : PySem.W.Frag) (mg : Str → Option Value) (base : Heap) (k : Nat) (c n : Str) (F : En → Res D) : Prop :=
  ∃ C f, mg c = some (.ref C) ∧ PySem.W.findIn K (.ref C) n = some (some (.ref f)) ∧ PySem.W.isFn K (.ref f) = true ∧ PySem.W.selfFirst K C = true ∧ FnR P w K mg base (L2.CX P w) k f (spD K mg F)
def d2m (F : En → Res D) (c : Str) : D → D → M D := fun a b => match a, b with
  | .obj c1 n1 s1, .obj c2 n2 s2 => if c1 = c ∧ c2 = c then noExc (callR F [.d (.obj c1 n1 s1), .d (.obj c2 n2 s2)]) else fun _ => .bad
  | _, _ => fun _ => .bad
def rOwn2 (C : Addr) (sp : Sp) : R2 := fun x y H Q => ∃ a b dx fs dy gs, x = .ref a ∧ y = .ref b ∧ H a = some (.ins C dx fs) ∧ H b = some (.ins C dy gs) ∧ sp [x, y] H Q E0
section
variable {K : PySem.W.Frag} {mg : Str → Option Value} {W : WX} {c : Str} {C : Addr} {F : En → Res D}
theorem od_own2 (hm : mg c = some (.ref C)) : OpD K mg W (rOwn2 C (spD K mg F)) (d2m F c) := by
  intro Z B σ H e x y a b Q S ha hb q
  cases a with
  | obj c1 n1 s1 => cases b with
    | obj c2 n2 s2 =>
      have q2 : ((if c1 = c ∧ c2 = c then noExc (callR F [.d (.obj c1 n1 s1), .d (.obj c2 n2 s2)]) else fun _ => .bad) e).wp (PV K mg Z B σ Q) (PX K mg Z B σ W) := q
      by_cases hc : c1 = c ∧ c2 = c
      · rw [if_pos hc] at q2
        obtain ⟨hc1, hc2⟩ := hc
        subst hc1 hc2
        have ha2 := ha
        have hb2 := hb
        obtain ⟨p, C1, dx, fs, rfl, g1, g2, g3, g4⟩ := ha.obj_inv
        obtain ⟨p2, C2, dy, gs, rfl, k1, k2, k3, k4⟩ := hb.obj_inv
        obtain rfl := ref_inj g1 hm
        obtain rfl := ref_inj k1 hm
        exact ⟨p, p2, dx, fs, dy, gs, rfl, rfl, S.bh _ _ g2, S.bh _ _ k2, callR_ok (W := fun _ _ _ _ => False) S (.cons (.d ha2) (.cons (.d hb2) .nil)) ((noExc_wp q2).imp (fun _ _ q => q) fun _ _ q => False.elim q)⟩
      · rw [if_neg hc] at q2
        exact False.elim q2
    | _ => exact False.elim q
  | _ => exact False.elim q
end
section
variable {X : Cx} {k j : Nat} {sp : Sp} {f C : Addr} {c : Str} {F : En → Res D}
theorem run_0 {pins : List (Addr × Obj)} {σ : St} {H : Hp} {s : Shared} {Q : VK} {us : List Value} {vs : List V} (G : FnR X.prog X.w X.K X.mg X.base (L2.CX X.prog X.w) k f sp) (hr : Room k X.A) (I : Inv X pins σ H s) (r : Vals vs us) (h : sp vs H Q E0) :
    wpAny (model X.prog X.w) X.A (call (.ref f) us) (EP X pins σ Q) X.xe s := wpAny_call (run_R (W := WNo) G hr takes0 I r h)
end
/-! ### the rules of operators -/
end Dl
set_option maxHeartbeats 400000
/-! Layer D, part 9: the rules of own operators, ranges of any size, fields stored. -/
namespace Dl
open PySem PySem.Spec PyProof.Rows L2 RZ
section
variable {X : Cx} {j k : Nat} {c : Str} {F : En → Res D} {W : WX}
/-- a handed value is no NotImplemented -/
theorem rel_ne {v : V} {u : Value} (r : RelV v u) : u ≠ .notImplemented := by
  intro z
  subst z
  cases v <;> first | exact nomatch r | (obtain ⟨t, q⟩ := r; exact nomatch q) | (obtain ⟨t, u, q⟩ := r; exact nomatch q)
theorem cmpBack_ep {pins : List (Addr × Obj)} {σ : St} {Q : VK} {v : Value} {s' : Shared} (h : EP X pins σ Q v s') : PySem.W.CmpBack (EP X pins σ Q) v s' := by
  obtain ⟨y, H', I, r, q⟩ := h
  have ne := rel_ne r
  cases v <;> first | exact absurd rfl ne | exact ⟨y, H', I, r, q⟩
/-- o op o of one own class -/
theorem ped_own {op : Operator} {a b : Expr} {fa fb : M D} {pos : Pos} (cf : OpI X.prog X.w X.K X.mg X.base k c (PySem.dunder op.info.2) F) (hr : Room j X.A) (hk : k ≤ j) (ha : PED X W a fa) (hb : PED X W b fb) : PED X W (.BinOp a op b pos) (f2 (d2m F c) fa fb) := by
  obtain ⟨C, f, hm, hs, hf, sf, G⟩ := cf
  refine ped_op (r := rOwn2 C (spD X.K X.mg F)) ?_ (od_own2 hm) ha hb
  intro pins s σ H x y v u Q I rx ry h
  obtain ⟨p, p2, dx, fs, dy, gs, rfl, rfl, h1, h2, h3⟩ := h
  cases rx
  cases ry
  obtain ⟨mA, J, _⟩ := ins_get I.hok h1
  obtain ⟨mB, J', _⟩ := ins_get I.hok h2
  obtain ⟨od, J, _⟩ := J.look
  obtain ⟨od', J', _⟩ := J'.look
  obtain ⟨m, hF⟩ := I.fr
  exact PySem.W.binop_K hF I.ok.mod.kin J J'.type sf hs hf (wpAny_mono (run_0 (us := [.ref p, .ref p2]) (vs := [.ref p, .ref p2]) G (hr.mono hk) I (.cons rfl (.cons rfl .nil)) h3) (fun _ _ z => cmpBack_ep z) fun _ _ z => z)
/-- o == o of one own class (or another comparison that it has) -/
theorem opr_ownC {op : CmpOp} {C f : Addr} {sp : Sp} (hs : PySem.W.findIn X.K (.ref C) (cmpInfo op).2.1 = some (some (.ref f))) (hf : PySem.W.isFn X.K (.ref f) = true) (G : FnR X.prog X.w X.K X.mg X.base (L2.CX X.prog X.w) k f sp) (hr : Room k X.A) (hc : compareOp op = richCompare op) : OpR X (compareOp op) (rOwn2 C sp) := by
  intro pins s σ H x y v u Q I rx ry h
  obtain ⟨p, p2, dx, fs, dy, gs, rfl, rfl, h1, h2, h3⟩ := h
  cases rx
  cases ry
  obtain ⟨mA, J, _⟩ := ins_get I.hok h1
  obtain ⟨mB, J', _⟩ := ins_get I.hok h2
  obtain ⟨od, J, _⟩ := J.look
  obtain ⟨od', J', _⟩ := J'.look
  obtain ⟨m, hF⟩ := I.fr
  rw [hc]
  exact PySem.W.cmp_K (tb := .ref C) hr.units0 hF I.ok.mod.kin J J'.type (by simp [PySem.W.notFirst]) hs hf (wpAny_mono (run_0 (us := [.ref p, .ref p2]) (vs := [.ref p, .ref p2]) G hr I (.cons rfl (.cons rfl .nil)) h3) (fun _ _ z => cmpBack_ep z) fun _ _ z => z)
theorem ped_ownEq {a b : Expr} {fa fb : M D} {pos : Pos} (cf : OpI X.prog X.w X.K X.mg X.base k c "__eq__" F) (hr : Room j X.A) (hk : k ≤ j) (ha : PED X W a fa) (hb : PED X W b fb) (h1 : behindInMarks .Eq b = false := by first | exact nobehind _ (by decide) (by decide) | rfl) : PED X W (.Compare a [.Eq] [b] pos) (f2 (d2m F c) fa fb) := by
  obtain ⟨C, f, hm, hs, hf, sf, G⟩ := cf
  exact ped_cmp (opr_ownC (op := .Eq) hs hf G (hr.mono hk) rfl) (od_own2 hm) ha hb h1
end
/-! ### ranges of any size -/
section
theorem turn_rangeW {P : Program} {w : World} {K : PySem.W.Frag} {tg : Expr} (it : Addr) (lo : Int) (n : Nat) : Turn P w K tg (Itr lo n) [it] it (fun i h => IsLongIter h it (lo + (i : Nat) * 1) ((n : Int) - (i : Nat)) 1) where
  mem := by simp
  obj := fun i h st b hb => by
    obtain rfl : b = it := by simpa using hb
    exact ⟨_, st, fun v z => nomatch (show Data.fields _ = Data.cell v from z)⟩
  keep := fun i h h' st k => k it (by simp) _ st
  item := by
    intro X hP hw hK hc i pins s σ H E I hf st hg
    subst hP hw hK
    obtain ⟨f0, f1, f2, f3, f4, f5⟩ := hf it (by simp)
    refine (PySem.Walks.longrange (prog := X.prog) (w := X.w) (I.ok.hd hc) it lo 1 n).item i s _ _ hg st fun v h' tk hv st' kk => ?_
    obtain ⟨t, rfl⟩ := hv
    have I1 : Inv X pins σ H { s with heap := h', toks := tk } := I.turned (fun b o hb e => kk b o (by simpa using hb) e) f0 f1 f3 f4 f5
    exact ⟨_, rfl, go_of (s := { s with heap := h', toks := tk }) (n := "longrange_iterator") st' rfl rfl (by decide) ⟨.int (lo + i), H, I1, ⟨t, by rw [Int.mul_one]⟩, ⟨rfl, rfl⟩, st', fun b hb => (hf b hb).1⟩⟩
  done := by
    intro X hP hw hK hc i pins s σ H E I hf st hg
    subst hP hw hK
    obtain ⟨f0, f1, f2, f3, f4, f5⟩ := hf it (by simp)
    have hg : n ≤ i := hg
    exact wpAny_pyNext_long_end (I.ok.hd hc) st (by omega) fun h' eb => ⟨rfl, I.turned (t' := s.toks) (fun b o hb e => eb b o hb e) f0 f1 f3 f4 f5⟩
  self := fun _ _ _ _ _ st h => wpAny_pyIter_longiter st h
variable {X : Cx} {tg : Expr}
theorem range_itW {pins : List (Addr × Obj)} {σ : St} {H : Hp} {s : Shared} {R : It → Hp → Prop} {E : Value → Shared → Prop} {lo hi : Int} {t u v : Tok} {tk : Nat} (I : Inv X pins σ H s)
    (q : R (Itr lo (hi - lo).toNat) H) : wpAny (model X.prog X.w) X.A (pyIter (.ref s.heap.objs.size)) (PIE X pins σ tg R) E { s with heap := s.heap.push { cls := .type "range", data := .fields #[.int lo t, .int hi u, .int 1 v] }, toks := tk } := by
  have I1 : Inv X pins σ H { s with heap := s.heap.push { cls := .type "range", data := .fields #[.int lo t, .int hi u, .int 1 v] }, toks := tk } := I.kept fun b o e => Heap.get?_push_of_some _ e
  have e1 : lo + ((0 : Nat) : Int) * 1 = lo := by simp
  have e2 : (((hi - lo).toNat : Nat) : Int) - ((0 : Nat) : Int) = Builtin.Range.rangeSize lo hi 1 := by rw [rangeSize_one]; split <;> omega
  have new : ∀ b ∈ [(s.heap.push { cls := .type "range", data := .fields #[.int lo t, .int hi u, .int 1 v] }).objs.size], FpOk X pins H b := fun b hb => by
    obtain rfl : b = (s.heap.push { cls := .type "range", data := .fields #[.int lo t, .int hi u, .int 1 v] }).objs.size := by simpa using hb
    exact I1.fpOk (Nat.le_refl _) (I1.hok.fresh (Nat.le_refl _))
  cases hsm : Builtin.Range.small lo hi 1 with
  | true =>
    refine wpAny_pyIter_range (IsRange.new ..) hsm ⟨_, [(s.heap.push { cls := .type "range", data := .fields #[.int lo t, .int hi u, .int 1 v] }).objs.size], _, _, H, rfl, I1.kept (t' := tk) fun b o e => Heap.get?_push_of_some _ e, turn_range _ lo (hi - lo).toNat, ?_, new, q⟩
    show IsRangeIter _ _ (lo + ((0 : Nat) : Int) * 1) ((((hi - lo).toNat : Nat) : Int) - ((0 : Nat) : Int)) 1
    rw [e1, e2]
    exact Heap.get?_push_size _ rfl
  | false =>
    refine wpAny_pyIter_longrange (IsRange.new ..) hsm ⟨_, [(s.heap.push { cls := .type "range", data := .fields #[.int lo t, .int hi u, .int 1 v] }).objs.size], _, _, H, rfl, I1.kept (t' := tk) fun b o e => Heap.get?_push_of_some _ e, turn_rangeW _ lo (hi - lo).toNat, ?_, new, q⟩
    show IsLongIter _ _ (lo + ((0 : Nat) : Int) * 1) ((((hi - lo).toNat : Nat) : Int) - ((0 : Nat) : Int)) 1
    rw [e1, e2]
    exact Heap.get?_push_size _ rfl
def iRngW1 (ta : TA) : TI := fun σ H R => ta σ H fun vs H1 => ∃ j : Int, vs = [.int j] ∧ R (Itr 0 j.toNat) H1
theorem pi_rangeW1 {a : Expr} {ta : TA} {p pos : Pos} (hg : Gl X "range") (hm : X.mg "range" = none) (ha : PA X [a] ta) (hs : starEach [a] X.env = [(false, eval a X.env)] := by rfl) : PI X tg (.Call (.Name "range" p) [a] [] pos) (iRngW1 ta) := by
  refine ⟨fun pins s σ H R I h => ?_⟩
  refine Call_ (ld_blt I hg hm boot_range (PyProof.Rows.callWith_type1 (thn (ha.run pos pins s σ H _ I h) fun us s1 ⟨vs, H1, I1, r1, j, e, q⟩ => ?_) hs rfl))
  subst e
  cases r1 with
  | cons r rr =>
    cases rr
    obtain ⟨t, et⟩ := r
    subst et
    exact call_range_1 (range_itW I1 (by simpa using q))
end
def dRngW1 : List D → M (List D) := fun ds => li (match ds with
  | [.int j] => some (rangeD 0 j.toNat)
  | _ => none)
section
variable {X : Cx} {W : WX} {tg a b : Expr} {fr : M (List D)} {p pos : Pos}
theorem pid_rangeW1 (ha : PAD X W [a] fr) (hm : X.mg "range" = none) (hg : Gl X "range" := by rfl) (hs : starEach [a] X.env = [(false, eval a X.env)] := by rfl) : PID X W tg (.Call (.Name "range" p) [a] [] pos) (bd fr dRngW1) := by
  obtain ⟨ta, pa, ea⟩ := ha
  refine ⟨_, pi_rangeW1 hg hm pa hs, fun Z B σ H e R S h => ?_⟩
  refine ea Z B σ H e _ S ((wp_bd.mp h).imp (fun ds e1 h1 vs B1 H1 S1 l1 a1 => ?_) fun x e' q => q)
  obtain ⟨r, h2, h3⟩ := wp_li h1
  match ds, a1, h2 with
  | [.int j], .cons r .nil, h2 =>
    cases h2
    exact ⟨j, by rw [r.int_inv], h3 _ B1 H1 S1 l1 walks_range⟩
end
end Dl
set_option maxHeartbeats 400000
/-! Layer D, part 10: bool() by an own __bool__, fields stored, in, slices, pairs stored, isinstance with own classes. -/
namespace Dl
open PySem PySem.Spec PyProof.Rows L2 RZ
/-! ### bool(o) -/
section
variable {X : Cx} {j k : Nat} {c : Str} {F : En → Res D} {W : WX}
variable {e : Expr} {fa : M D} {fr : M (List D)} {pos p px p2 : Pos} {a b o : Expr} {fb : M D} {x f : Str}
/-! ### fields stored and read of one's own instance -/
def putNs (f : Str) : List Str → List Str
  | [] => [f] | g :: r => if g = f then g :: r else g :: putNs f r
def putDs (f : Str) (d : D) : List Str → List D → List D
  | [], _ => [d] | g :: r, x :: xs => if g = f then d :: xs else x :: putDs f d r xs
  | _ :: _, [] => []
theorem putF_at {K : PySem.W.Frag} {mg : Str → Option Value} {B : Hp} {f : Str} {v : V} {d : D} (r : At K mg B v d) : ∀ {fs : List (Str × V)} {ns : List Str} {ds : List D}, fs.map (·.1) = ns → AtL K mg B (fs.map (·.2)) ds → (putF f v fs).map (·.1) = putNs f ns ∧ AtL K mg B ((putF f v fs).map (·.2)) (putDs f d ns ds)
  | [], _, _, rfl, _ => ⟨rfl, .cons r .nil⟩
  | (g, x) :: fs, _, _, rfl, .cons rx t => by
    obtain ⟨i1, i2⟩ := putF_at (f := f) r (fs := fs) rfl t
    by_cases h : g = f
    · have e1 : putF f v ((g, x) :: fs) = (g, v) :: fs := by simp only [putF, if_pos h]
      rw [e1]
      refine ⟨by simp only [List.map_cons, putNs, if_pos h], ?_⟩
      simp only [List.map_cons, putDs, if_pos h]
      exact .cons r t
    · have e1 : putF f v ((g, x) :: fs) = (g, x) :: putF f v fs := by simp only [putF, if_neg h]
      rw [e1]
      refine ⟨by simp only [List.map_cons, putNs, if_neg h, i1], ?_⟩
      simp only [List.map_cons, putDs, if_neg h]
      exact .cons rx i2
def putI (i : Nat) (c f : Str) (d : D) : M Unit := fun e => match e[i]? with
  | some (.oin r c' ns ds) => if c' = c ∧ ns.length < 1000 then .ok () (e.set i (.oin r c (putNs f ns) (putDs f d ns ds))) else .bad
  | _ => .bad
def fFldS (i : Nat) (c f : Str) (fa : M D) : M Fl := bd fa fun d => bd (noExc (putI i c f d)) fun _ => pu .nx
theorem psd_fld (i : Nat) {p3 : Pos} (cf : FlI X.K X.mg c f) (ha : PED X W a fa) (hN : X.N[i]? = some x := by rfl) (hv : Vis X.env.scope x := by first | exact Or.inl rfl | exact Or.inr (Or.inl rfl) | exact Or.inr (Or.inr rfl)) (hd : (x == ("__debug__" : Str)) = false := by decide) (hcd : (x == ("__classdict__" : Str)) = false := by decide)
    (hs : swapsWith a (some (.Attribute (.Name x px) f p3)) pos.line X.env = pure false := by rfl) : PSD X W (.Assign [.Attribute (.Name x px) f p3] a pos) (fFldS i c f fa) := by
  obtain ⟨C, hm, cl, na⟩ := cf
  obtain ⟨ta, pa, ea⟩ := ha
  refine ⟨_, ps_fld (pe_var hN hv hd hcd) pa hs, fun Z B σ H e Y S h => ?_⟩
  refine ea.then S h (fun x e' q => PXs.at q) fun d e1 v B1 H1 S1 l1 a1 h1 => ?_
  have h1 := noExc_wp (wp_bd.mp h1)
  unfold putI at h1
  cases q : e1[i]? with
  | none => rw [q] at h1; exact False.elim h1
  | some s =>
    rw [q] at h1
    cases s with
    | oin r c' ns ds =>
      by_cases hc : c' = c ∧ ns.length < 1000
      · simp only [if_pos hc] at h1
        obtain ⟨rfl, hl⟩ := hc
        obtain ⟨p, C', dx, fs, e2, g1, g2, g3, g4, g5⟩ := S1.sl i _ q
        obtain rfl := ref_inj g1 hm
        obtain ⟨k1, k2⟩ := putF_at (f := f) a1 g3 g4
        refine ⟨_, e2, p, _, dx, fs, rfl, g2, cl, na, by rw [← List.length_map (as := fs) (f := (·.1)), g3]; exact hl, ?_⟩
        exact h1 σ B1 _ (S1.write ⟨_, q, rfl⟩ e2 ⟨p, _, dx, _, e2, g1, upd_same, k1, k2, g5⟩ rfl) l1
      · simp only [if_neg hc] at h1
        exact False.elim h1
    | _ => exact False.elim h1
end
/-! ### in, not in -/
end Dl
set_option maxHeartbeats 400000
/-! Layer D, part 11: slices, pairs stored, lists unpacked, isinstance with own classes. -/
namespace Dl
open PySem PySem.Spec PyProof.Rows L2 RZ
/-! ### slices of lists and tuples, known -/
def fSl (fa : M D) (flo fhi : M (Option Int)) : M D := bd fa fun d => bd flo fun lo => bd fhi fun hi => li (match d with
  | .lst xs => some (.lst (cutD xs lo hi)) | .tup xs => some (.tup (cutD xs lo hi)) | _ => none)
section
variable {X : Cx} {W : WX} {a b : Expr} {fa fb : M D} {pos p2 : Pos}
theorem cut_whole {xs : List V} {lo hi : Option Int} (h : HT.sIx xs.length 0 lo = 0 ∧ HT.sIx xs.length xs.length hi = xs.length) : cutV xs lo hi = xs := by
  unfold cutV
  rw [h.1, h.2]
  simp
theorem ped_slice {lo hi : Option Expr} {flo fhi : M (Option Int)} (ha : PED X W a fa) (hl : POD X W lo flo) (hh : POD X W hi fhi) : PED X W (.Subscript a (.Slice lo hi none p2) pos) (fSl fa flo fhi) := by
  obtain ⟨ta, pa, ea⟩ := ha
  obtain ⟨tl, pl, el⟩ := hl
  obtain ⟨th, ph, eh⟩ := hh
  refine ⟨_, pe_slice (L2.SlR.or sl_list sl_tupA) pa pl ph, fun Z B σ H e Q S h => ?_⟩
  refine ea.then S h (fun x e' q => q) fun d e1 v B1 H1 S1 l1 a1 h1 => ?_
  refine el Z B1 σ H1 e1 _ S1 ((wp_bd.mp h1).imp (fun lo e2 q2 B2 H2 S2 l2 => ?_) fun x e' q => PX.up l1 q)
  refine eh Z B2 σ H2 e2 _ S2 ((wp_bd.mp q2).imp (fun hi e3 q3 B3 H3 S3 l3 => ?_) fun x e' q => PX.up (l1.trans l2) q)
  obtain ⟨ds, h2, h3⟩ := wp_li q3
  have l13 := (l1.trans l2).trans l3
  cases d with
  | lst xs =>
    cases h2
    obtain ⟨p, vs, rfl, e1, r1⟩ := a1.lst_inv
    refine .inl ⟨p, vs, rfl, SqL.of (S3.bh _ _ (l3 _ _ (l2 _ _ e1))), fun q hq => ?_⟩
    obtain ⟨S4, l4⟩ := S3.new (o := .lst (cutV vs lo hi)) hq
    exact h3 _ _ _ S4 (l13.trans l4) (.lst upd_same ((r1.mono ((l2.trans l3).trans l4)).cut lo hi))
  | tup xs =>
    cases h2
    obtain ⟨p, vs, rfl, e1, r1⟩ := a1.tup_inv
    refine .inr ⟨p, vs, rfl, seqT S3.bh (seqT (l2.trans l3) e1), fun hw => ?_, fun hw q hq => ?_⟩
    · refine h3 _ B3 H3 S3 l13 (.tup (seqT (l2.trans l3) e1) ?_)
      have := (r1.mono (l2.trans l3)).cut lo hi
      rw [cut_whole hw] at this
      exact this
    · obtain ⟨S4, l4⟩ := S3.new (o := .tup (cutV vs lo hi)) hq
      exact h3 _ _ _ S4 (l13.trans l4) (.tup (SqT.of upd_same) ((r1.mono ((l2.trans l3).trans l4)).cut lo hi))
  | _ => cases h2
/-! ### a list unpacked -/
/-! ### a, b = x, y -/
def fPar (i j : Nat) (fr : M (List D)) : M Fl := bd fr fun ds => bd (noExc (match ds with
  | [d1, d2] => bd (setV i d1) fun _ => setV j d2
  | _ => fun _ => .bad)) fun _ => pu .nx
theorem psd_par (i j : Nat) {x y : Str} {fr : M (List D)} {px py pt : Pos} {kt k2 pt2} (hc : X.calm = true) (hN : X.N.Nodup) (hr : PAD X W [a, b] fr) (hij : i ≠ j) (hi : X.N[i]? = some x := by rfl) (hj : X.N[j]? = some y := by rfl) (hx : X.env.scope.names.lookup x = some .local := by rfl) (hy : X.env.scope.names.lookup y = some .local := by rfl)
    (hw : swappedStores [.Tuple [.Name x px, .Name y py] kt pt] (.Tuple [a, b] k2 pt2) X.env = pure (some [x, y]) := by rfl) (hs : swapsWithSole [.Tuple [.Name x px, .Name y py] kt pt] (.Tuple [a, b] k2 pt2) pos.line X.env = pure false := by rfl) :
    PSD X W (.Assign [.Tuple [.Name x px, .Name y py] kt pt] (.Tuple [a, b] k2 pt2) pos) (fPar i j fr) := by
  obtain ⟨ta, pa, ea⟩ := hr
  refine ⟨_, ps_par hc hN hi hj hij hx hy pa hw hs, fun Z B σ H e Y S h => ?_⟩
  refine ea.then S h (fun x e' q => PXs.at q) fun ds e1 vs B1 H1 S1 l1 a1 h1 => ?_
  match ds, a1, h1 with
  | [d1, d2], .cons r1 (.cons r2 .nil), h1 =>
    have h2 := setV_wp (wp_bd.mp (noExc_wp (wp_bd.mp h1)))
    exact ⟨_, _, rfl, setV_wp h2 _ B1 H1 ((S1.set r1).set r2) l1⟩
end
/-! ### isinstance with own classes -/
/-- the class's answers: t for the built-in ones, by name for own ones -/
def KoI (K : PySem.W.Frag) (mg : Str → Option Value) (c : Str) (yes no : List Str) : Prop := ∃ C, mg c = some (.ref C) ∧ (∀ t ∈ tys, PySem.W.kitOne K (.type t) (.ref C) = some false) ∧
  (∀ n ∈ yes, ∃ N, mg n = some (.ref N) ∧ C8.InsC K N ∧ PySem.W.kitOne K (.ref N) (.ref C) = some true) ∧ (∀ n ∈ no, ∃ N, mg n = some (.ref N) ∧ C8.InsC K N ∧ PySem.W.kitOne K (.ref N) (.ref C) = some false)
def oIsO (yes no : List Str) : D → Option D := fun d => match d with
  | .obj n _ _ => if n ∈ yes then some (.bl true) else if n ∈ no then some (.bl false) else none
  | d => match tyD d with
    | some _ => some (.bl false) | none => none
section
variable {X : Cx} {W : WX} {a : Expr} {fa : M D} {p1 p2 pos : Pos} {x : Str} {yes no : List Str}
theorem ped_isO (cf : KoI X.K X.mg x yes no) (ha : PED X W a fa) (hm : X.mg "isinstance" = none) (hg : Gl X "isinstance" := by rfl) (hgx : Gl X x := by rfl) (hd : (x == ("__debug__" : Str)) = false := by decide)
    (he : starEach (a :: [.Name x p2]) X.env = (false, eval a X.env) :: starEach [.Name x p2] X.env := by rfl) (he2 : starEach (.Name x p2 :: []) X.env = (false, eval (.Name x p2) X.env) :: starEach [] X.env := by rfl) (hpl : (backTo pos (starEach [.Name x p2] X.env)).any (·.1) = false := by rfl) :
    PED X W (.Call (.Name "isinstance" p1) [a, .Name x p2] [] pos) (bd fa fun d => li (oIsO yes no d)) := by
  obtain ⟨C, hC, ht, hy, hn⟩ := cf
  obtain ⟨ta, pa, ea⟩ := ha
  refine ⟨_, pe_callB call_isi hg hm (by decide +kernel) (pa_cons pa (pa_cons (pe_glob (v := .ref C) hgx hC rfl hd) pa_nil he2) he) (by decide) (by decide) he hpl, fun Z B σ H e Q S h => ?_⟩
  refine ea.then S h (fun x e' q => q) fun d e1 v B1 H1 S1 l1 a1 h1 => ?_
  obtain ⟨z, h2, h3⟩ := wp_li h1
  have inst : ∀ {n ns ds b}, d = .obj n ns ds → (∃ N, X.mg n = some (.ref N) ∧ C8.InsC X.K N ∧ PySem.W.kitOne X.K (.ref N) (.ref C) = some b) → z = .bl b → rIsi X.K [v, .ref C] H1 Q := fun {n ns ds b} ed ⟨N, m1, m2, m3⟩ ez => by
    subst ed ez
    obtain ⟨p, N', dx, fs, rfl, g1, g2, g3, g4⟩ := a1.obj_inv
    obtain rfl := ref_inj g1 m1
    exact ⟨_, _, _, _, _, rfl, .own C, .base (.ins (S1.bh _ _ g2) m2.cl m2.ha m2.hn m2.htk m2.hm), m3, h3 _ B1 H1 S1 l1 (.bl _)⟩
  have base : ∀ {t}, tyD d = some t → z = .bl false → rIsi X.K [v, .ref C] H1 Q := fun {t} et ez => by
    subst ez
    exact ⟨_, _, _, _, _, rfl, .own C, a1.ty S1.bh et, ht t (tyD_mem et), h3 _ B1 H1 S1 l1 (.bl _)⟩
  cases d with
  | obj n ns ds =>
    have h2 : (if n ∈ yes then some (D.bl true) else if n ∈ no then some (.bl false) else none) = some z := h2
    by_cases c1 : n ∈ yes
    · rw [if_pos c1] at h2; cases h2
      exact inst rfl (hy n c1) rfl
    · rw [if_neg c1] at h2
      by_cases c2 : n ∈ no
      · rw [if_pos c2] at h2; cases h2
        exact inst rfl (hn n c2) rfl
      · rw [if_neg c2] at h2; cases h2
  | _ => first | (cases h2; done) | (cases h2; exact base rfl rfl)
end
end Dl
set_option maxHeartbeats 400000
/-! Layer D, part 12: names of either kind, tests by own ==, the end of a law. -/
namespace Dl
open PySem PySem.Spec PyProof.Rows L2 RZ
/-- a name: a datum, or a list of one's own that becomes known -/
def fAny (i : Nat) : M D := fun e => match e[i]? with
  | some (.val d) => .ok d e
  | some (.own false ds) => .ok (.lst ds) (e.set i (.val (.lst ds)))
  | _ => .bad
def fGetA (i : Nat) (fk : M D) : M D := fun e => match e[i]? with
  | some (.val _) => f2 dAt (fVar i) fk e
  | _ => fGet i fk e
section
variable {X : Cx} {W : WX} {a b : Expr} {fa fb fk : M D} {pos p px ps : Pos} {x : Str}
theorem ped_dyn {f g h : M D} (hf : PED X W a f) (hg : PED X W a g) (hh : ∀ e, h e = f e ∨ h e = g e) : PED X W a h := by
  obtain ⟨tf, pf, ef⟩ := hf
  obtain ⟨tg, pg, eg⟩ := hg
  refine ⟨fun σ H Q => tf σ H Q ∨ tg σ H Q, ⟨fun pins s σ H Q I q => q.elim (pf.run pins s σ H Q I) (pg.run pins s σ H Q I)⟩, fun Z B σ H e Q S q => ?_⟩
  rcases hh e with z | z
  · exact .inl (ef Z B σ H e Q S (z ▸ q))
  · exact .inr (eg Z B σ H e Q S (z ▸ q))
theorem ped_any (i : Nat) (hN : X.N[i]? = some x := by rfl) (hv : Vis X.env.scope x := by first | exact Or.inl rfl | exact Or.inr (Or.inl rfl) | exact Or.inr (Or.inr rfl)) (hd : (x == ("__debug__" : Str)) = false := by decide) (hcd : (x == ("__classdict__" : Str)) = false := by decide) : PED X W (.Name x pos) (fAny i) :=
  ped_dyn (ped_var i hN hv hd hcd) (ped_frz i hN hv hd hcd) fun e => by
    unfold fAny fVar fFrz
    cases e[i]? with
    | none => exact .inl rfl
    | some s => cases s with
      | own r ds => cases r <;> exact .inr rfl
      | _ => exact .inl rfl
theorem ped_getA (i : Nat) (hk : PED X W b fk) (hN : X.N[i]? = some x := by rfl) (hv : Vis X.env.scope x := by first | exact Or.inl rfl | exact Or.inr (Or.inl rfl) | exact Or.inr (Or.inr rfl)) (hd : (x == ("__debug__" : Str)) = false := by decide) (hcd : (x == ("__classdict__" : Str)) = false := by decide)
    (hs : PlainIx b := by exact fun _ _ => rfl) : PED X W (.Subscript (.Name x px) b ps) (fGetA i fk) :=
  ped_dyn (ped_ix (ped_var i hN hv hd hcd) hk hs) (ped_get i hk hN hv hd hcd hs) fun e => by
    unfold fGetA
    cases e[i]? with
    | none => exact .inr rfl
    | some s => cases s <;> first | exact .inl rfl | exact .inr rfl
variable {j k : Nat} {c : Str} {F : En → Res D}
theorem pbd_ownEq (cf : OpI X.prog X.w X.K X.mg X.base k c "__eq__" F) (hr : Room j X.A) (hk : k ≤ j) (ha : PED X W a fa) (hb : PED X W b fb) (h1 : behindInMarks .Eq b = false := by first | exact nobehind _ (by decide) (by decide) | rfl) : PBD X W (.Compare a [.Eq] [b] pos) (fB (f2 (d2m F c) fa fb)) := by
  obtain ⟨C, f, hm, hs, hf, sf, G⟩ := cf
  exact pbd_cmp (opr_ownC (op := .Eq) hs hf G (hr.mono hk) rfl) (od_own2 hm) ha hb h1
end
/-! ### the end -/
def spLaw (K : PySem.W.Frag) : Sp := fun vs H Q _ => ∃ (a : Addr) (ns : List Int), vs = [.ref a] ∧ SqL K H a (ns.map V.int) ∧ ns.length ≤ 63 ∧ ∀ v H', v = .bl true → Q v H'
theorem law_ok {P : Program} {w : World} {K : PySem.W.Frag} {mg : Str → Option Value} {base : Heap} {CX : CXT} {k : Nat} {f : Addr} {fd : FuncData} {ps : List Str} {F : En → Res D} (h : FnOk P w K mg base CX k f fd ps (spD K mg F))
    (hl : ∀ ns : List Int, ns.length ≤ 63 → ∃ e', F [.val (.scr ns)] = .ok (.bl true) e') : FnOk P w K mg base CX k f fd ps (spLaw K) := by
  refine h.imp fun vs H Q E ⟨a, ns, ev, hs, hn, q⟩ => ?_
  subst ev
  obtain ⟨e', he⟩ := hl ns hn
  refine ⟨H, [], [.val (.scr ns)], ⟨Same.refl H, Same.refl H, fun a o h _ => h, fun a o h => .inl h, fun a o h => ⟨o, h⟩, rfl, fun i s z => ?_, fun i j a hij hi => ?_⟩, ?_⟩
  · match i, z with
    | 0, z => cases z; exact ⟨_, rfl, .scr hs⟩
    | i + 1, z => simp at z
  · obtain ⟨s, z, ho⟩ := hi
    match i, z with
    | 0, z => cases z; cases ho
    | i + 1, z => simp at z
  · rw [he]
    exact fun v B' H' S' r => q v H' r.bl_inv
theorem walk {l : PySem.W.OpenLaw} {q : Program} {loose : List Str} {XP : (Str → Option Value) → Heap → Prop} {YP : World → Heap → Prop} {d : DefRec} {K : Params → PySem.W.Frag} {k : Nat} {x : Str} (hn : l.most = some 63) (hdf : d.params.defaults = []) (hr : Room k callerA)
    (hY : ∀ (w : World) (h : Heap), YP w h → (K w.params).In h)
    (F : ∀ (w : World) (mg : Str → Option Value) (fa : Addr) (h : Heap), (K w.params).In h → h.Ns mainGlobals mg → mg d.name = some (.ref fa) →
      ∃ fd : FuncData, (∀ (s : Shared) (u : Value), BindsTo s fd ⟨[u], []⟩ [(x, u)]) ∧ ∀ base : Heap, (K w.params).In base → base.Ns mainGlobals mg → FnOk l.prog w (K w.params) mg base (L2.CX l.prog w) k fa fd [x] (spLaw (K w.params))) :
    PySem.W.WalkO q loose XP YP l.row.toRowW d [] (fun f vs => PySem.call f vs) :=
  L2.walk_of (n := 63) (k := k) (x := x) (CX := fun w => L2.CX l.prog w) (sp := fun w => spLaw (K w.params)) hn (by decide) hdf hr hY F (fun _ _ a ns hl _ hS => ⟨a, ns, rfl, hS, hl, fun _ _ z => z⟩) fun w H s e s' h => by
    obtain ⟨_, _, _, _, _, _, _, _, _, _, _, _, z⟩ := h
    exact z
/-! ### facts of isinstance -/
section
variable {K : PySem.W.Frag} {N C : Addr}
theorem kit_cond (h1 : PySem.W.isClsIn K C = true) (h2 : PySem.W.typeIn K (.ref C) = some (.type "type")) : ((PySem.W.clsIn K C).isSome && PySem.W.typeIn K (.ref C) == some (.type "type")) = true := by
  have h1' : (PySem.W.clsIn K C).isSome = true := h1
  rw [h1', h2]
  rfl
theorem kit_self : PySem.W.kitOne K (.ref C) (.ref C) = some true := by
  unfold PySem.W.kitOne
  rw [if_pos (by simp)]
theorem kit_no (h1 : PySem.W.isClsIn K C = true) (h2 : PySem.W.typeIn K (.ref C) = some (.type "type")) (h3 : PySem.W.mroIn K N (.ref C) = some false) (hne : N ≠ C) : PySem.W.kitOne K (.ref N) (.ref C) = some false := by
  unfold PySem.W.kitOne
  rw [if_neg (by simpa using hne)]
  show (if ((PySem.W.clsIn K C).isSome && PySem.W.typeIn K (.ref C) == some (.type "type")) = true then PySem.W.subIn K (.ref N) (.ref C) else none) = some false
  rw [if_pos (kit_cond h1 h2)]
  exact h3
theorem kit_base (h1 : PySem.W.isClsIn K C = true) (h2 : PySem.W.typeIn K (.ref C) = some (.type "type")) : ∀ t ∈ tys, PySem.W.kitOne K (.type t) (.ref C) = some false := by
  have key : ∀ t, PySem.W.subIn K (.type t) (.ref C) = some false → PySem.W.kitOne K (.type t) (.ref C) = some false := fun t h3 => by
    unfold PySem.W.kitOne
    rw [if_neg (by simp)]
    show (if ((PySem.W.clsIn K C).isSome && PySem.W.typeIn K (.ref C) == some (.type "type")) = true then PySem.W.subIn K (.type t) (.ref C) else none) = some false
    rw [if_pos (kit_cond h1 h2)]
    exact h3
  unfold tys
  simp only [List.forall_mem_cons]
  exact ⟨key _ rfl, key _ rfl, key _ rfl, key _ rfl, key _ rfl, key _ rfl, key _ rfl, fun _ z => nomatch z⟩
end
end Dl
set_option maxHeartbeats 400000
/-! Layer D, part 13: how mirrors are computed. -/
namespace Dl
open PySem
section
variable {α β : Type} {a b d : D} {e : En} {i j : Int}
@[simp] theorem bd_ok {m : M α} {f : α → M β} {x : α} {e' : En} (h : m e = .ok x e') : bd m f e = f x e' := by unfold bd; rw [h]
@[simp] theorem pu_eq {x : α} : pu x e = .ok x e := rfl
@[simp] theorem li_eq {x : α} : li (some x) e = .ok x e := rfl
@[simp] theorem fC_eq : fC d e = .ok d e := rfl
@[simp] theorem dAdd_eq : dAdd (.int i) (.int j) e = .ok (.int (i + j)) e := rfl
@[simp] theorem dSub_eq : dSub (.int i) (.int j) e = .ok (.int (i - j)) e := rfl
@[simp] theorem dLt_eq : dLt (.int i) (.int j) e = .ok (.bl (decide (i < j))) e := rfl
@[simp] theorem dLe_eq : dLe (.int i) (.int j) e = .ok (.bl (decide (i ≤ j))) e := rfl
@[simp] theorem dGt_eq : dGt (.int i) (.int j) e = .ok (.bl (decide (j < i))) e := rfl
@[simp] theorem dGe_eq : dGe (.int i) (.int j) e = .ok (.bl (decide (j ≤ i))) e := rfl
theorem opI_eq {c : Int → Int → Bool} {g : Int → Int → D} (h : c i j = true) : opI c g (.int i) (.int j) e = .ok (g i j) e := by
  unfold opI li
  simp only [h, if_true]
theorem dMod_eq (h : 0 < j) : dMod (.int i) (.int j) e = .ok (.int (i % j)) e := opI_eq (by simpa using h)
theorem dDiv_eq (h : 0 < j) (h2 : j.natAbs.log2 < 9000) : dDiv (.int i) (.int j) e = .ok (.int (i / j)) e := opI_eq (by simpa using ⟨h, h2⟩)
theorem dMul_l (h : -(2 ^ 64) < i ∧ i < 2 ^ 64) : dMul (.int i) (.int j) e = .ok (.int (i * j)) e := opI_eq (by unfold cMul; simp only [Bool.or_eq_true, decide_eq_true_eq]; exact .inl (.inl h))
theorem dMul_r (h : -(2 ^ 64) < j ∧ j < 2 ^ 64) : dMul (.int i) (.int j) e = .ok (.int (i * j)) e := opI_eq (by unfold cMul; simp only [Bool.or_eq_true, decide_eq_true_eq]; exact .inl (.inr h))
theorem dPow_eq (h : 0 ≤ j ∧ j ≤ 1000000 ∧ i.natAbs < 2 ^ 64) : dPow (.int i) (.int j) e = .ok (.int (i ^ j.toNat)) e := opI_eq (by simpa using h)
@[simp] theorem f2_ok {o : D → D → M D} {fa fb : M D} {x y : D} {e1 e2 : En} (h1 : fa e = .ok x e1) (h2 : fb e1 = .ok y e2) : f2 o fa fb e = o x y e2 := by unfold f2 bd; simp only [h1, h2]
@[simp] theorem fB_ok {fa : M D} {c : Bool} {e1 : En} (h : fa e = .ok (.bl c) e1) : fB fa e = .ok c e1 := by unfold fB bd; simp only [h]; rfl
@[simp] theorem fCons_ok {fa : M D} {fr : M (List D)} {x : D} {xs : List D} {e1 e2 : En} (h1 : fa e = .ok x e1) (h2 : fr e1 = .ok xs e2) : fCons fa fr e = .ok (x :: xs) e2 := by unfold fCons bd; simp only [h1, h2]; rfl
@[simp] theorem fStar_ok {fa fr : M (List D)} {x : List D} {xs : List D} {e1 e2 : En} (h1 : fa e = .ok x e1) (h2 : fr e1 = .ok xs e2) : fStar fa fr e = .ok (x ++ xs) e2 := by unfold fStar bd; simp only [h1, h2]; rfl
@[simp] theorem fNil_eq : fNil e = .ok [] e := rfl
@[simp] theorem fL_ok {fa : M (List D)} {xs : List D} {e1 : En} (h : fa e = .ok xs e1) : fL fa e = .ok (.lst xs) e1 := by unfold fL bd; simp only [h]; rfl
theorem fLst_ok {fa : M (List D)} {xs : List D} {e1 : En} (h : fa e = .ok xs e1) (h2 : xs.length ≤ 16777216) : fLst fa e = .ok xs e1 := by unfold fLst bd; simp only [h, if_pos h2]; rfl
theorem fTup_ok {fa : M (List D)} {xs : List D} {e1 : En} (h : fa e = .ok xs e1) (h2 : xs.length ≤ 16777216) : fTup fa e = .ok (.tup xs) e1 := by unfold fTup bd; simp only [h, if_pos h2]; rfl
end
/-! ### comprehensions over data: the state as it was -/
/-! ### loops -/
/-! ### steps -/
section
variable {α β : Type} {e e1 e2 : En} {d x y : D} {ds : List D}
theorem findO_d : ∀ {ds : List D} {os : En} {i : Nat}, findO (ds.map Ar.d) os i = none
  | [], _, _ => rfl
  | _ :: _, [], _ => rfl
  | _ :: ds, _ :: os, i => findO_d (ds := ds) (os := os) (i := i)
theorem putG_same {g : Nat → Sl → Sl} (h : ∀ i s, g i s = s) : ∀ {n : Nat} {e : En}, putG g n e = e
  | _, [] => rfl
  | n, s :: e => by unfold putG; rw [putG_same h, h]
theorem putO_d {os : En} : putO (ds.map Ar.d) os e = e := by
  unfold putO
  exact putG_same fun i s => by rw [findO_d]
theorem owns_d : ∀ {ds : List D}, owns (ds.map Ar.d) = []
  | [] => rfl
  | _ :: ds => owns_d (ds := ds)
theorem map_toSl : ∀ {ds : List D}, (ds.map Ar.d).map (toSl e) = ds.map Sl.val
  | [] => rfl
  | _ :: ds => congrArg (_ :: ·) (map_toSl (ds := ds))
theorem callR_d {F : En → Res D} {os : En} (h : F (ds.map Sl.val) = .ok d os) : callR F (ds.map Ar.d) e = .ok d e := by
  unfold callR
  rw [owns_d, map_toSl, h]
  show Res.ok d (putO (ds.map Ar.d) os e) = _
  rw [putO_d]
theorem callR1 {F : En → Res D} {os : En} (h : F [.val x] = .ok d os) : callR F [.d x] e = .ok d e := callR_d (ds := [x]) h
theorem callR2 {F : En → Res D} {os : En} (h : F [.val x, .val y] = .ok d os) : callR F [.d x, .d y] e = .ok d e := callR_d (ds := [x, y]) h
theorem rD_ok {fa : M D} {fr : M (List Ar)} {xs : List Ar} (h1 : fa e = .ok x e1) (h2 : fr e1 = .ok xs e2) : rD fa fr e = .ok (.d x :: xs) e2 := by unfold rD; rw [bd_ok h1, bd_ok h2]; rfl
theorem rNil_eq : rNil e = .ok [] e := rfl
theorem fRet_ok {fa : M D} (h : fa e = .ok x e1) : fRet fa e = .ok (.rt x) e1 := bd_ok h
theorem fSeq_nx {a b : M Fl} {r : Res Fl} (h : a e = .ok .nx e1) (h2 : b e1 = r) : fSeq a b e = r := by unfold fSeq; rw [bd_ok h]; exact h2
theorem fIf_t {c : M Bool} {fa fb : M α} {r : Res α} (h : c e = .ok true e1) (h2 : fa e1 = r) : fIf c fa fb e = r := by unfold fIf; rw [bd_ok h]; exact h2
theorem fIf_f {c : M Bool} {fa fb : M α} {r : Res α} (h : c e = .ok false e1) (h2 : fb e1 = r) : fIf c fa fb e = r := by unfold fIf; rw [bd_ok h]; exact h2
theorem fNot_ok {c : M Bool} {b : Bool} (h : c e = .ok b e1) : fNot c e = .ok (!b) e1 := by unfold fNot; rw [bd_ok h]; rfl
theorem fOr_ok {c c2 : M Bool} {a b : Bool} (h : c e = .ok a e1) (h2 : c2 e1 = .ok b e1) : fOr c c2 e = .ok (a || b) e1 := by unfold fOr; rw [bd_ok h]; cases a <;> first | exact h2 | rfl
theorem fAnd_ok {c c2 : M Bool} {a b : Bool} (h : c e = .ok a e1) (h2 : c2 e1 = .ok b e1) : fAnd c c2 e = .ok (a && b) e1 := by unfold fAnd; rw [bd_ok h]; cases a <;> first | exact h2 | rfl
theorem fAndV_ok {c c2 : M D} {a b : Bool} (h : c e = .ok (.bl a) e1) (h2 : c2 e1 = .ok (.bl b) e1) : fAndV c c2 e = .ok (.bl (a && b)) e1 := by unfold fAndV; rw [bd_ok (fB_ok h)]; cases a <;> first | exact h2 | rfl
theorem fSetT_ok {fa : M D} {t : D → M Unit} {u : Unit} (h : fa e = .ok x e1) (h2 : t x e1 = .ok u e2) : fSetT fa t e = .ok .nx e2 := by
  unfold fSetT
  rw [bd_ok h, bd_ok (show noExc (t x) e1 = .ok u e2 by unfold noExc; rw [h2])]
  rfl
theorem fDrop_ok {fa : M D} (h : fa e = .ok x e1) : fDrop fa e = .ok .nx e1 := bd_ok h
theorem runF_ok {n m : Nat} {g : M Fl} {as : En} (h : g (as ++ List.replicate (m - n) .no) = .ok (.rt d) e1) (hn : as.length = n) (hm : n ≤ m) (hl : e1.length = m) : runF n m g as = .ok d ((e1.take n).map keepR) := by
  unfold runF
  rw [if_pos ⟨hn, hm⟩, h]
  show (if e1.length = m then Res.ok d ((e1.take n).map keepR) else .bad) = _
  rw [if_pos hl]
theorem runF_nx {n m : Nat} {g : M Fl} {as : En} (h : g (as ++ List.replicate (m - n) .no) = .ok .nx e1) (hn : as.length = n) (hm : n ≤ m) (hl : e1.length = m) : runF n m g as = .ok .non ((e1.take n).map keepR) := by
  unfold runF
  rw [if_pos ⟨hn, hm⟩, h]
  show (if e1.length = m then Res.ok D.non ((e1.take n).map keepR) else .bad) = _
  rw [if_pos hl]
theorem noExc_ok {m : M α} {a : α} (h : m e = .ok a e1) : noExc m e = .ok a e1 := by unfold noExc; rw [h]
theorem fProp_ok {c : Str} {F : En → Res D} {fa : M D} {ns : List Str} {os : En} (h : fa e = .ok (.obj c ns ds) e1) (h2 : F [.val (.obj c ns ds)] = .ok d os) : fProp c F fa e = .ok d e1 := by
  unfold fProp
  rw [bd_ok h]
  simp only [if_true]
  rw [bd_ok (li_eq (x := ()) (e := e1))]
  exact noExc_ok (callR1 h2)
theorem fMake_ok {c : Str} {F : En → Res D} {fa : M (List D)} {xs : List D} {ns : List Str} {r : Bool} {os : En} (h : fa e = .ok xs e1) (h2 : F (.oin true c [] [] :: xs.map .val) = .ok .non (.oin r c ns ds :: os)) : fMake c F fa e = .ok (.obj c ns ds) e1 := by
  unfold fMake
  rw [bd_ok h]
  show (match F (.oin true c [] [] :: xs.map .val) with
    | .ok .non (.oin _ c' ns fs :: _) => Res.ok (D.obj c' ns fs) e1
    | .exc x _ => .exc x e1
    | _ => .bad) = _
  rw [h2]
theorem d2m_ok {c : Str} {F : En → Res D} {n1 n2 : List Str} {s1 s2 : List D} {os : En} (h : F [.val (.obj c n1 s1), .val (.obj c n2 s2)] = .ok d os) : d2m F c (.obj c n1 s1) (.obj c n2 s2) e = .ok d e := by
  have e1 : d2m F c (.obj c n1 s1) (.obj c n2 s2) = noExc (callR F [.d (.obj c n1 s1), .d (.obj c n2 s2)]) := by
    unfold d2m
    simp only [and_self, if_true]
  rw [e1]
  exact noExc_ok (callR2 h)
theorem dEq_ok {a b : D} {p q : PyData} (h1 : toP a = some p) (h2 : toP b = some q) (h3 : SeqAt.shaped p = true) (h4 : SeqAt.shaped q = true) : dEq a b e = .ok (.bl (PyData.eqv p q)) e := by
  unfold dEq eqD
  rw [h1, h2]
  simp only [h3, h4, and_self, if_true]
  rfl
theorem dNe_ok {a b : D} {p q : PyData} (h1 : toP a = some p) (h2 : toP b = some q) (h3 : SeqAt.shaped p = true) (h4 : SeqAt.shaped q = true) : dNe a b e = .ok (.bl (!PyData.eqv p q)) e := by
  unfold dNe eqD
  rw [h1, h2]
  simp only [h3, h4, and_self, if_true]
  rfl
end
/-! ### == of ints, of lists and tuples of ints -/
/-! ### more steps -/
section
variable {α : Type} {e e1 e2 e3 : En} {d y : D} {ds : List D} {i : Nat}
theorem lcTurn_t {vs : List Nat} {t : D → M Unit} {c : M Bool} {el : M D} (h1 : t d (refE e) = .ok () e1) (h2 : c e1 = .ok true e2) (h3 : el e2 = .ok y e3) (hl : e3.length = e.length) : lcTurn vs t c el d e = .ok (some y) (fixE vs e e3) := by
  unfold lcTurn
  have h : (bd (noExc (t d)) fun _ => bd c fun b => if b = true then bd el fun y => pu (some y) else pu none) (refE e) = .ok (some y) e3 := by
    rw [bd_ok (noExc_ok h1), bd_ok h2, if_pos rfl, bd_ok h3]
    rfl
  rw [h]
  show (if e3.length = e.length then Res.ok (some y) (fixE vs e e3) else .bad) = _
  rw [if_pos hl]
theorem lcTurn_f {vs : List Nat} {t : D → M Unit} {c : M Bool} {el : M D} (h1 : t d (refE e) = .ok () e1) (h2 : c e1 = .ok false e2) (hl : e2.length = e.length) : lcTurn vs t c el d e = .ok none (fixE vs e e2) := by
  unfold lcTurn
  have h : (bd (noExc (t d)) fun _ => bd c fun b => if b = true then bd el fun y => pu (some y) else pu none) (refE e) = .ok none e2 := by
    rw [bd_ok (noExc_ok h1), bd_ok h2, if_neg Bool.false_ne_true]
    rfl
  rw [h]
  show (if e2.length = e.length then Res.ok none (fixE vs e e2) else .bad) = _
  rw [if_pos hl]
theorem forL_nx {t : D → M Unit} {body : M Fl} {r : Res Fl} {u : Unit} (h1 : t d e = .ok u e1) (h2 : body e1 = .ok .nx e2) (h3 : forL t body ds e2 = r) : forL t body (d :: ds) e = r := by
  unfold forL
  rw [bd_ok (noExc_ok h1), bd_ok h2]
  exact h3
theorem fFor_ok {src : M (List D)} {t : D → M Unit} {body : M Fl} {r : Res Fl} (h : src e = .ok ds e1) (h2 : forL t body ds e1 = r) : fFor src t body e = r := by
  unfold fFor
  rw [bd_ok h]
  exact h2
theorem bdli {fa : M D} {g : D → Option α} {a : α} (h : fa e = .ok d e1) (h2 : g d = some a) : bd fa (fun d => li (g d)) e = .ok a e1 := by
  rw [bd_ok h, h2]
  rfl
theorem d1_ok' {fr : M (List D)} {g : D → Option D} {x : D} (h : fr e = .ok [d] e1) (h2 : g d = some x) : bd fr (d1 g) e = .ok x e1 := by
  rw [bd_ok h]
  show li (g d) e1 = _
  rw [h2]
  rfl
theorem d2_ok' {fr : M (List D)} {g : D → D → Option D} {x a b : D} (h : fr e = .ok [a, b] e1) (h2 : g a b = some x) : bd fr (d2 g) e = .ok x e1 := by
  rw [bd_ok h]
  show li (g a b) e1 = _
  rw [h2]
  rfl
theorem walk_lst {fa : M D} (h : fa e = .ok (.lst ds) e1) : bd fa dWalk e = .ok ds e1 := by rw [bd_ok h]; rfl
theorem walk_tup {fa : M D} (h : fa e = .ok (.tup ds) e1) : bd fa dWalk e = .ok ds e1 := by rw [bd_ok h]; rfl
theorem all_bls (bs : List Bool) : oAll (.lst (bs.map D.bl)) = some (.bl (bs.all id)) := by
  show (match toBls (bs.map D.bl) with
    | some bs => some (D.bl (bs.all id)) | none => none) = _
  rw [toBls_map]
end
end Dl
set_option maxHeartbeats 400000
/-! Layer D, part 14: star parameters, star calls, static and class methods. -/
namespace Dl
open PySem PySem.Spec PyProof.Rows L2 RZ
/-! ### a def with a star parameter -/
def starD : En → Option (List D)
  | [] => some []
  | .val d :: r => match starD r with
    | some l => some (d :: l) | none => none
  | _ :: _ => none
/-- n parameters ahead of the star, m slots -/
def runS (n m : Nat) (g : M Fl) : En → Res D := fun as => match starD (as.drop n) with
  | some ds => if n ≤ as.length ∧ ds.length ≤ 16777216 then (match runF (n + 1) m g (as.take n ++ [.val (.tup ds)]) with
    | .ok d os => .ok d (os.take n ++ List.replicate (as.length - n) .no)
    | .exc x os => .exc x (os.take n ++ List.replicate (as.length - n) .no)
    | .bad => .bad) else .bad
  | none => .bad
section
variable {P : Program} {w : World} {K : PySem.W.Frag} {mg : Str → Option Value} {base : Heap}
theorem starD_at {Z : Ent} {B H : Hp} : ∀ {e : En} {ds : List D} {vs : List V} {n : Nat}, starD e = some ds → e.length = vs.length → (∀ i s, e[i]? = some s → SlAt K mg Z B H (n + i) ((vs.map some)[i]?) s) → AtL K mg B vs ds
  | [], ds, [], n, h, _, _ => by cases h; exact .nil
  | s :: e, ds, v :: vs, n, h, hl, hs => by
    cases s with
    | val d =>
      have h : (match starD e with
        | some l => some (d :: l) | none => none) = some ds := h
      cases q : starD e with
      | none => rw [q] at h; cases h
      | some l =>
        rw [q] at h
        cases h
        obtain ⟨v', e1, r⟩ := hs 0 _ rfl
        have e1 : some (some v) = some (some v') := e1
        cases e1
        refine .cons r (starD_at (Z := Z) (H := H) (n := n + 1) q (by simpa using hl) fun i s z => ?_)
        have := hs (i + 1) s (by simpa using z)
        rw [show n + (i + 1) = n + 1 + i by omega] at this
        simpa using this
    | _ => cases h
  | [], _, _ :: _, _, _, h, _ => by simp at h
  | _ :: _, _, [], _, _, h, _ => by simp at h
/-- at the entry: the star's tuple laid -/
theorem SR.star {B H : Hp} {R : List Addr} {vs : List V} {e : En} {n : Nat} {ds : List D} {p : Addr} (S : SR K mg ⟨B, H, R, vs.map some⟩ B (vs.map some) H e) (hn : n ≤ e.length) (hd : starD (e.drop n) = some ds) (hp : H p = none) :
    SR K mg ⟨upd B p (.tup (vs.drop n)), upd H p (.tup (vs.drop n)), R, (vs.take n ++ [V.ref p]).map some⟩ (upd B p (.tup (vs.drop n))) ((vs.take n ++ [V.ref p]).map some) (upd H p (.tup (vs.drop n))) (e.take n ++ [.val (.tup ds)]) := by
  have hl : vs.length = e.length := by have := S.ln; rw [List.length_map] at this; exact this
  obtain ⟨S1, l1⟩ := S.new (o := .tup (vs.drop n)) hp
  have hB : B p = none := S.bh.free hp
  have rest : AtL K mg B (vs.drop n) ds := starD_at (Z := ⟨B, H, R, vs.map some⟩) (H := H) (n := n) hd (by simp [hl]) fun i s z => by
    rw [List.getElem?_drop] at z
    have := S.sl (n + i) s z
    rw [List.getElem?_map, List.getElem?_drop]
    rw [List.getElem?_map] at this
    exact this
  have hlen : (vs.take n).length = n := by rw [List.length_take]; omega
  have get : ∀ i, i < n → ((vs.take n ++ [V.ref p]).map some)[i]? = (vs.map some)[i]? := fun i hi => by
    rw [List.map_append, List.getElem?_append_left (by rw [List.length_map, hlen]; exact hi), List.map_take, List.getElem?_take_of_lt hi]
  have lt : ∀ i s, (e.take n ++ [Sl.val (.tup ds)])[i]? = some s → (i < n ∧ e[i]? = some s) ∨ (i = n ∧ s = .val (.tup ds)) := fun i s q => by
    by_cases hi : i < n
    · rw [List.getElem?_append_left (by rw [List.length_take]; omega), List.getElem?_take_of_lt hi] at q
      exact .inl ⟨hi, q⟩
    · rw [List.getElem?_append_right (by rw [List.length_take]; omega), List.length_take, Nat.min_eq_left hn] at q
      cases hk : i - n with
      | zero => rw [hk] at q; exact .inr ⟨by omega, (Option.some.inj q).symm⟩
      | succ k => rw [hk] at q; simp at q
  have own : ∀ i, ownAt (e.take n ++ [Sl.val (.tup ds)]) i → i < n ∧ ownAt e i := fun i ⟨s, q, hs⟩ => by
    rcases lt i s q with ⟨h1, h2⟩ | ⟨_, h2⟩
    · exact ⟨h1, s, h2, hs⟩
    · subst h2; cases hs
  refine ⟨Same.refl _, S1.bh, fun a o h _ => h, fun a o h => .inl h, fun a o h => ⟨o, h⟩, by simp [hl, hn], fun i s q => ?_, fun i j a hij hi hj e1 e2 => ?_⟩
  · rcases lt i s q with ⟨h1, h2⟩ | ⟨rfl, rfl⟩
    · rw [get i h1]
      have z := S.sl i s h2
      cases s with
      | no => trivial
      | val d => obtain ⟨v, ev, r⟩ := z; exact ⟨v, ev, r.mono l1⟩
      | own r xs =>
        obtain ⟨a, ys, ev, g1, g2, g3, g4, g5⟩ := z
        have ne : a ≠ p := ne_of_none g1 hp
        cases r with
        | false => rw [show H a = none from g4 rfl] at g1; cases g1
        | true => exact ⟨a, ys, ev, by rw [upd_ne ne]; exact g1, g2.mono l1, by rw [upd_ne ne]; exact g3, (fun z => nomatch z), fun _ => ⟨(g5 rfl).1, by show ((vs.take n ++ [V.ref p]).map some)[i]? = _; rw [get i h1]; exact ev⟩⟩
      | oin r c ns xs =>
        obtain ⟨a, C, dx, fs, ev, g0, g1, g2, g3, g4, g5, g6⟩ := z
        have ne : a ≠ p := ne_of_none g1 hp
        cases r with
        | false => rw [show H a = none from g5 rfl] at g1; cases g1
        | true => exact ⟨a, C, dx, fs, ev, g0, by rw [upd_ne ne]; exact g1, g2, g3.mono l1, by rw [upd_ne ne]; exact g4, (fun z => nomatch z), fun _ => ⟨(g6 rfl).1, by show ((vs.take n ++ [V.ref p]).map some)[i]? = _; rw [get i h1]; exact ev⟩⟩
    · refine ⟨.ref p, ?_, .tup (SqT.of upd_same) (rest.mono l1)⟩
      rw [List.map_append, List.getElem?_append_right (by rw [List.length_map, hlen]; exact Nat.le_refl _), List.length_map, hlen, Nat.sub_self]
      rfl
  · obtain ⟨h1, o1⟩ := own i hi
    obtain ⟨h2, o2⟩ := own j hj
    rw [get i h1] at e1
    rw [get j h2] at e2
    exact S.ds i j a hij o1 o2 e1 e2
/-- behind the def: told at the slots of the call -/
theorem SR.unstar {B H B' H' : Hp} {R : List Addr} {vs : List V} {n : Nat} {os : En} {p : Addr} {o : HO} (l1 : Same B (upd B p o)) (hp : H p = none) (hB : B p = none) (hn : n ≤ vs.length)
    (S' : SR K mg ⟨upd B p o, upd H p o, R, (vs.take n ++ [V.ref p]).map some⟩ B' ((vs.take n ++ [V.ref p]).map some) H' os) (ho : os.length = n + 1) : SR K mg ⟨B, H, R, vs.map some⟩ B' (vs.map some) H' (os.take n ++ List.replicate (vs.length - n) .no) := by
  have hlen : (vs.take n).length = n := by rw [List.length_take]; omega
  have get : ∀ i, i < n → ((vs.take n ++ [V.ref p]).map some)[i]? = (vs.map some)[i]? := fun i hi => by
    rw [List.map_append, List.getElem?_append_left (by rw [List.length_map, hlen]; exact hi), List.map_take, List.getElem?_take_of_lt hi]
  have lt : ∀ i s, (os.take n ++ List.replicate (vs.length - n) Sl.no)[i]? = some s → (i < n ∧ os[i]? = some s) ∨ s = .no := fun i s q => by
    by_cases hi : i < n
    · rw [List.getElem?_append_left (by rw [List.length_take]; omega), List.getElem?_take_of_lt hi] at q
      exact .inl ⟨hi, q⟩
    · rw [List.getElem?_append_right (by rw [List.length_take]; omega), List.getElem?_replicate] at q
      split at q
      · cases q; exact .inr rfl
      · cases q
  have own : ∀ i, ownAt (os.take n ++ List.replicate (vs.length - n) Sl.no) i → i < n ∧ ownAt os i := fun i ⟨s, q, hs⟩ => by
    rcases lt i s q with ⟨h1, h2⟩ | h2
    · exact ⟨h1, s, h2, hs⟩
    · subst h2; cases hs
  refine ⟨l1.trans S'.le, S'.bh, fun a u h m => ?_, fun a u h => ?_, fun a u h => ?_, by simp; omega, fun i s q => ?_, fun i j a hij hi hj e1 e2 => ?_⟩
  · exact S'.fh a u (by show upd H p o a = _; rw [upd_ne (ne_of_none h hp)]; exact h) m
  · rcases S'.nb a u h with z | z
    · have z : upd B p o a = some u := z
      by_cases hb : a = p
      · subst hb; exact .inr hp
      · rw [upd_ne hb] at z; exact .inl z
    · have z : upd H p o a = none := z
      by_cases hb : a = p
      · subst hb; exact .inr hp
      · rw [upd_ne hb] at z; exact .inr z
  · exact S'.dm a u (by show upd H p o a = _; rw [upd_ne (ne_of_none h hp)]; exact h)
  · rcases lt i s q with ⟨h1, h2⟩ | rfl
    · have z := S'.sl i s h2
      rw [get i h1] at z
      have noH : ∀ a, upd H p o a = none → H a = none := fun a z => by
        by_cases hb : a = p
        · subst hb; exact hp
        · rw [upd_ne hb] at z; exact z
      have s0 : ∀ a, ((vs.take n ++ [V.ref p]).map some)[i]? = some (some (V.ref a)) → (vs.map some)[i]? = some (some (V.ref a)) := fun a z => by rw [← get i h1]; exact z
      cases s with
      | no => trivial
      | val d => exact z
      | own r xs =>
        obtain ⟨a, ys, ev, g1, g2, g3, g4, g5⟩ := z
        exact ⟨a, ys, ev, g1, g2, g3, fun q => noH a (g4 q), fun q => ⟨(g5 q).1, s0 a (g5 q).2⟩⟩
      | oin r c ns xs =>
        obtain ⟨a, C, dx, fs, ev, g0, g1, g2, g3, g4, g5, g6⟩ := z
        exact ⟨a, C, dx, fs, ev, g0, g1, g2, g3, g4, fun q => noH a (g5 q), fun q => ⟨(g6 q).1, s0 a (g6 q).2⟩⟩
    · trivial
  · obtain ⟨h1, o1⟩ := own i hi
    obtain ⟨h2, o2⟩ := own j hj
    rw [← get i h1] at e1
    rw [← get j h2] at e2
    exact S'.ds i j a hij o1 o2 e1 e2
theorem runF_out {n m : Nat} {g : M Fl} {as os : En} {d : D} (h : runF n m g as = .ok d os ∨ runF n m g as = .exc d os) : os.length = n := by
  unfold runF at h
  by_cases hc : as.length = n ∧ n ≤ m
  · rw [if_pos hc] at h
    cases q : g (as ++ List.replicate (m - n) .no) with
    | bad => rw [q] at h; rcases h with h | h <;> cases h
    | exc z e1 =>
      rw [q] at h
      by_cases hl : e1.length = m
      · simp only [if_pos hl] at h
        rcases h with h | h <;> cases h
        simp; omega
      · simp only [if_neg hl] at h
        rcases h with h | h <;> cases h
    | ok fl e1 =>
      rw [q] at h
      cases fl with
      | rt z =>
        by_cases hl : e1.length = m
        · simp only [if_pos hl] at h
          rcases h with h | h <;> cases h
          simp; omega
        · simp only [if_neg hl] at h
          rcases h with h | h <;> cases h
      | nx =>
        by_cases hl : e1.length = m
        · simp only [if_pos hl] at h
          rcases h with h | h <;> cases h
          simp; omega
        · simp only [if_neg hl] at h
          rcases h with h | h <;> cases h
      | _ => rcases h with h | h <;> cases h
  · rw [if_neg hc] at h
    rcases h with h | h <;> cases h
/-- what a call of a star def asks, by what its body asks -/
theorem spS_ok {n m : Nat} {g : M Fl} {vs : List V} {H : Hp} {Q : VK} {E : XK} (h : spD K mg (runS n m g) vs H Q E) :
    ∃ ws rest, vs = ws ++ rest ∧ ws.length = n ∧ rest.length ≤ sizeLine ∧ ∀ p, H p = none → spD K mg (runF (n + 1) m g) (ws ++ [V.ref p]) (upd H p (.tup rest)) Q E := by
  obtain ⟨B, R, e, S, q⟩ := h
  have hl : vs.length = e.length := by have := S.ln; rw [List.length_map] at this; exact this
  unfold runS at q
  cases hd : starD (e.drop n) with
  | none => rw [hd] at q; exact False.elim q
  | some ds =>
    rw [hd] at q
    have q : (if n ≤ e.length ∧ ds.length ≤ 16777216 then (match runF (n + 1) m g (e.take n ++ [Sl.val (.tup ds)]) with
      | .ok d os => Res.ok d (os.take n ++ List.replicate (e.length - n) Sl.no)
      | .exc x os => .exc x (os.take n ++ List.replicate (e.length - n) Sl.no)
      | .bad => .bad) else .bad).wp _ _ := q
    split at q
    · rename_i hc
      have dl : ds.length = e.length - n := by
        have : ∀ {e : En} {ds : List D}, starD e = some ds → ds.length = e.length := fun {e} => by
          induction e with
          | nil => intro ds h; cases h; rfl
          | cons s e ih =>
            intro ds h
            cases s with
            | val d =>
              have h : (match starD e with
                | some l => some (d :: l) | none => none) = some ds := h
              cases q : starD e with
              | none => rw [q] at h; cases h
              | some l => rw [q] at h; cases h; simp [ih q]
            | _ => cases h
        rw [this hd, List.length_drop]
      refine ⟨vs.take n, vs.drop n, (List.take_append_drop n vs).symm, by rw [List.length_take]; omega, sz (by rw [List.length_drop]; omega), fun p hp => ?_⟩
      have hB : B p = none := S.bh.free hp
      have l1 : Same B (upd B p (.tup (vs.drop n))) := fun b u z => by rw [upd_ne (ne_of_none z hB)]; exact z
      refine ⟨_, R, _, S.star hc.1 hd hp, ?_⟩
      cases hr : runF (n + 1) m g (e.take n ++ [.val (.tup ds)]) with
      | bad => rw [hr] at q; exact q
      | ok d os =>
        rw [hr] at q
        exact fun v B' H' S' a => q v B' H' (by rw [← hl]; exact S'.unstar l1 hp hB (by omega) (runF_out (.inl hr))) a
      | exc d os =>
        rw [hr] at q
        exact fun cls dd B' H' S' a => q cls dd B' H' (by rw [← hl]; exact S'.unstar l1 hp hB (by omega) (runF_out (.inr hr))) a
    · exact False.elim q
variable {f : Addr} {name qual : Str} {params : Arguments} {body : List Stmt} {scope : Scope} {dV kV doc pm cdv ct oc : Value} {an od : Option Addr} {osl : Array (Option Value)} {N ps : List Str} {pv : Str} {k : Nat} {g : M Fl}
theorem fn_okS (lk : K.lookup f = some ⟨oc, od, .func (PySem.W.fnOf name qual params body scope dV kV doc pm an cdv ct), osl⟩) (hcd : PySem.W.codeIn K cdv qual = true) (S : FnScope N (ps ++ [pv]) scope) (hN : ps.length + 1 ≤ N.length)
    (hb : ∀ us rest : List Value, us.length = ps.length → bindArgs (PySem.W.fnOf name qual params body scope dV kV doc pm an cdv ct) ⟨us ++ rest, []⟩ = (newTuple rest >>= fun t => pure (ps.zip us ++ [(pv, t)])))
    (hbody : ∀ (A : Around) (outer : List Env) (s : Shared) (H : Hp) (E : XK), Room k (A.deeper (envOfC qual scope s.heap.objs.size f cdv)) → PSsD (cxOf (L2.CX P w) P w K mg base N qual scope f cdv A outer s H E) (fun c d _ H' => E c d H') body g) :
    FnR P w K mg base (L2.CX P w) (k + 1) f (spD K mg (runS ps.length N.length g)) := by
  refine (StX.fn_star (sp := spD K mg (runF (ps.length + 1) N.length g)) lk hcd S ?cx hb fun A outer s H vs Q E hr h => ?_).imp fun vs H Q E h => spS_ok h
  case cx => exact StX.cxUp
  obtain ⟨ts, p, ev⟩ := hbody A outer s H E hr
  refine ⟨ts, p, ?_⟩
  have := body_ok (K := K) (mg := mg) (N := N) (ps := ps ++ [pv]) (g := g) (ts := ts) (vs := vs) (H := H) (Q := Q) (E := E) (by rw [List.length_append]; exact hN) ev (by rw [List.length_append]; exact h)
  exact this
end
end Dl
set_option maxHeartbeats 400000
/-! Layer D, part 15: calls with stars, of static and class methods, of a class that a name holds. -/
namespace Dl
open PySem PySem.Spec PyProof.Rows L2 RZ
section
variable {M : Model} {A : Around} {E : Value → Shared → Prop} {s : Shared} {K : PySem.W.Frag} {env : Env} {pos p : Pos} {f : Value} {first : List Value} {Q : Value → Shared → Prop} {h₀ : Heap} {e : Expr} {rest : List Expr}
theorem evalArgs_two {f : Value} {x y : Bool × Sem Value} {rest : List (Bool × Sem Value)} {Q : Args → Shared → Prop} (h : wpAny M A (spliced (x :: y :: rest)) (fun vs s' => Q ⟨vs, []⟩ s') E s) : wpAny M A (evalArgs f true (x :: y :: rest) []) Q E s := by
  obtain ⟨b, x⟩ := x
  unfold evalArgs
  cases b with
  | false =>
    show wpAny M A (spliced ((false, x) :: y :: rest) >>= _) Q E s
    refine wpAny_bind (wpAny_mono h (fun vs s' z => ?_) fun _ _ z => z)
    exact wpAny_holding (wpAny_bind (wpAny_pure (wpAny_bind (wpAny_pure (wpAny_pure z)))))
  | true =>
    show wpAny M A (spliced ((true, x) :: y :: rest) >>= _) Q E s
    refine wpAny_bind (wpAny_mono h (fun vs s' z => ?_) fun _ _ z => z)
    exact wpAny_holding (wpAny_bind (wpAny_pure (wpAny_bind (wpAny_pure (wpAny_pure z)))))
theorem callWith_two {e2 : Expr} {b1 b2 : Bool} {x1 x2 : Sem Value} (X : K.In h₀) (hk : PySem.W.keepIn K f = true) (h : wpAny M A (spliced (backTo pos (starEach (e :: e2 :: rest) env))) (fun vs s₁ => K.In s₁.heap ∧ wpAny M A (call f (first ++ vs)) Q E s₁) E s)
    (he : starEach (e :: e2 :: rest) env = (b1, x1) :: (b2, x2) :: starEach rest env := by rfl) (hst : (backTo pos (starEach (e :: e2 :: rest) env)).any (·.1) = true := by rfl) :
    wpAny M A (callWith pos f first (backTo pos (starEach (e :: e2 :: rest) env)) []) Q E s := by
  refine PySem.W.ks_call hst (PySem.W.keeps_K hk) ?_
  rw [he] at h ⊢
  cases b1 <;> cases b2 <;> exact evalArgs_two h
end
section
variable {X : Cx} {W : WX} {j k i : Nat} {x c m : Str} {F : En → Res D} {e e2 o : Expr} {es : List Expr} {fr : M (List Ar)} {fl : M (List D)} {fo : M D} {p sp_ pos apos : Pos} {f C : Addr} {sp : Sp} {t : TA} {te ta : TE}
/-- C(*y) -/
theorem pe_makeS1 (N : Mk X.K C f) (G : FnR X.prog X.w X.K X.mg X.base (L2.CX X.prog X.w) k f sp) (hr : Room (k + 1) X.A) (tk : Takes X W) (hg : Gl X x) (hm : X.mg x = some (.ref C)) (he : PE X e te) (hdb : (x == ("__debug__" : Str)) = false := by decide)
    (hst : starEach [.Starred e sp_] X.env = [(true, eval e X.env)] := by rfl) : PE X (.Call (.Name x p) [.Starred e sp_] [] pos) (tKW C W sp fun σ H Q => te σ H fun y H1 => ∃ a xs, y = V.ref a ∧ (SqT X.K H1 a xs ∨ SqL X.K H1 a xs) ∧ Q xs H1) := by
  refine ⟨fun pins s σ H Q I h => wpAny_Call_Name_kw (ld_glob I hg hm ?_ hdb)⟩
  refine PySem.W.callWith_S (h₀ := X.base) I.ok.mod.kin N.kp (thn (he.run pins s σ H _ I h) fun v s1 ⟨y, H1, I1, ry, a, xs, ey, hxs, q⟩ => ?_) hst
  subst ey
  obtain rfl : v = Value.ref a := ry
  exact StX.star_any I1 hxs fun us s2 I2 rv => ⟨I2.kIn, run_K N G hr tk I2 rv q⟩
/-- C(e, *y, ..): more than one, one of them a star -/
theorem pe_makeS2 {b1 b2 : Bool} {x1 x2 : Sem Value} (N : Mk X.K C f) (G : FnR X.prog X.w X.K X.mg X.base (L2.CX X.prog X.w) k f sp) (hr : Room (k + 1) X.A) (tk : Takes X W) (hg : Gl X x) (hm : X.mg x = some (.ref C)) (ha : PA X (e :: e2 :: es) t) (hdb : (x == ("__debug__" : Str)) = false := by decide)
    (he : starEach (e :: e2 :: es) X.env = (b1, x1) :: (b2, x2) :: starEach es X.env := by rfl) (hst : (backTo pos (starEach (e :: e2 :: es) X.env)).any (·.1) = true := by rfl) : PE X (.Call (.Name x p) (e :: e2 :: es) [] pos) (tKW C W sp t) := by
  refine ⟨fun pins s σ H Q I h => wpAny_Call_Name_kw (ld_glob I hg hm ?_ hdb)⟩
  exact callWith_two (h₀ := X.base) I.ok.mod.kin N.kp (thn (ha.run pos pins s σ H _ I h) fun us s1 ⟨vs, H1, I1, r, q⟩ => ⟨I1.kIn, run_K N G hr tk I1 r q⟩) he hst
theorem ped_makeS1 {fa : M D} (cf : MkI X.prog X.w X.K X.mg X.base k x F) (hr : Room j X.A) (hk : k + 1 ≤ j) (tk : Takes X W) (ha : PED X W e fa) (hg : Gl X x := by rfl) (hdb : (x == ("__debug__" : Str)) = false := by decide)
    (hst : starEach [.Starred e sp_] X.env = [(true, eval e X.env)] := by rfl) : PED X W (.Call (.Name x p) [.Starred e sp_] [] pos) (fMake x F (bd fa dItems)) := by
  obtain ⟨C, f, hm, mk, G⟩ := cf
  obtain ⟨ta, pa, ea⟩ := ha
  refine ⟨_, pe_makeS1 mk G (hr.mono hk) tk hg hm pa hdb hst, fun Z B σ H e Q S h => ?_⟩
  have h1 : (bd (bd fa dItems) (fun ds => fMake x F (pu ds)) e).wp (PV X.K X.mg Z B σ Q) (PX X.K X.mg Z B σ W) := h
  have h2 := wp_bd.mp (wp_bd.mp h1)
  refine ea Z B σ H e _ S (h2.imp (fun d e1 q v B1 H1 S1 l1 a1 => ?_) fun x e' q => q)
  obtain ⟨ds, p, xs, q2, rfl, sq, r1⟩ := dItems_at (ds := []) a1 q
  refine ⟨p, xs, rfl, sq.imp (fun z => seqT S1.bh z) (fun z => S1.bh.seq z), ?_⟩
  intro x' dx hx hd ne
  exact make_ok hm S1 r1 (upV l1 q2) x' dx hx hd ne
theorem ped_makeS2 {b1 b2 : Bool} {x1 x2 : Sem Value} (cf : MkI X.prog X.w X.K X.mg X.base k x F) (hr : Room j X.A) (hk : k + 1 ≤ j) (tk : Takes X W) (ha : PAD X W (e :: e2 :: es) fl) (hg : Gl X x := by rfl) (hdb : (x == ("__debug__" : Str)) = false := by decide)
    (he : starEach (e :: e2 :: es) X.env = (b1, x1) :: (b2, x2) :: starEach es X.env := by rfl) (hst : (backTo pos (starEach (e :: e2 :: es) X.env)).any (·.1) = true := by rfl) : PED X W (.Call (.Name x p) (e :: e2 :: es) [] pos) (fMake x F fl) := by
  obtain ⟨C, f, hm, mk, G⟩ := cf
  obtain ⟨ta, pa, ea⟩ := ha
  refine ⟨_, pe_makeS2 mk G (hr.mono hk) tk hg hm pa hdb he hst, fun Z B σ H e Q S h => ?_⟩
  refine ea.then S h (fun x e' q => q) fun ds e1 vs B1 H1 S1 l1 a1 h1 => ?_
  intro x' dx hx hd ne
  exact make_ok hm S1 a1 (upV l1 h1) x' dx hx hd ne
/-! ### C.m(..), m static -/
structure SMet (K : PySem.W.Frag) (C : Addr) (mc : Value) (m : Str) (p g : Addr) : Prop where
  at_ : PySem.W.findCls K (.ref C) mc m = some (.get (.builtin "staticmethod.__get__") (.ref p) .none (.ref C))
  rc : ∃ rest, PySem.W.recIn K p "staticmethod" = some (.ref g :: rest)
  kp : PySem.W.keepIn K (.ref g) = true
theorem pe_smeth {mc : Value} {q g : Addr} {pl : Sem Bool} (he : PE X o (tC (.ref C))) (r : ClX.CRead X.K C mc) (c : SMet X.K C mc m q g) (G : FnR X.prog X.w X.K X.mg X.base (L2.CX X.prog X.w) k g sp) (hr : Room k X.A) (tk : Takes X W) (ha : PA X (e :: es) t)
    (hst : starEach (e :: es) X.env = (false, eval e X.env) :: starEach es X.env := by rfl) (hpl : (backTo pos (starEach es X.env)).any (·.1) = false := by rfl)
    (ht : eval (.Call (.Attribute o m apos) (e :: es) [] pos) X.env = (do
      let ov ← eval o X.env
      standAt apos.atName
      let (f, first) ← holding [ov] (getMethod ov m pl)
      callWith pos f first (backTo pos (starEach (e :: es) X.env)) (backToKw pos (keywordEach [] X.env))) := by rfl) : PE X (.Call (.Attribute o m apos) (e :: es) [] pos) (tCW W sp t) := by
  refine ⟨fun pins s σ H Q I h => PySem.W.methodCall_KW (pl := pl) (thn (he.run pins s σ H (fun v H1 => v = .ref C ∧ H1 = H) I ⟨rfl, rfl⟩) fun u s1 ⟨x, H1, I1, rx, ex, eh⟩ => ?_) ht⟩
  subst ex eh
  obtain rfl : u = Value.ref C := rx
  obtain ⟨rest, hp⟩ := c.rc
  refine PySem.W.method_cls I1.kIn r.ga (PySem.W.cls_bind I1.kIn r.rd c.at_ (wpAny_call (PySem.W.sm_get (s := { s1 with toks := s1.toks + 1 }) I1.kIn hp (PySem.W.handed_on rfl ?_))))
  have I2 := I1.tok (s1.toks + 1)
  exact PySem.W.callWith_K (h₀ := X.base) I.ok.mod.kin c.kp (thn (ha.run pos pins _ σ _ _ I2 h) fun us s2 ⟨vs, H2, I3, r3, q⟩ => ⟨I3.kIn, wpAny_call (run_R G hr tk I3 r3 q)⟩) hst hpl
end
end Dl
set_option maxHeartbeats 400000
/-! Layer D, part 16: class methods, a class that a name holds. -/
namespace Dl
open PySem PySem.Spec PyProof.Rows L2 RZ
section
variable {X : Cx} {W : WX} {j k i : Nat} {x c m : Str} {F : En → Res D} {e e2 o : Expr} {es : List Expr} {fr : M (List Ar)} {fl : M (List D)} {fo : M D} {p sp_ pos apos : Pos} {f C q g : Addr} {sp : Sp} {t : TA} {te ta : TE} {mc : Value}
theorem run_cmW {pins : List (Addr × Obj)} {σ : St} {H : Hp} {s : Shared} {b : Addr} {Q : VK} {us : List Value} {vs : List V} (G : FnR X.prog X.w X.K X.mg X.base (L2.CX X.prog X.w) k g sp) (hr : Room k X.A) (tk : Takes X W) (I : Inv X ((b, PySem.W.methodObj (.ref g) (.ref C)) :: pins) σ H s)
    (r : Vals vs us) (h : sp (.ref C :: vs) H Q fun c d H' => W c d σ H') : wpAny (model X.prog X.w) X.A (call (.ref b) us) (EP X pins σ Q) X.xe s :=
  thn (wpAny_call (PySem.W.method_call (ClX.pin_at I) (run_R (us := .ref C :: us) (vs := .ref C :: vs) G hr tk I (.cons rfl r) h))) fun _ _ y => ClX.unpinE y
theorem pe_cmethW {pl : Sem Bool} (he : PE X o (tC (.ref C))) (r : ClX.CRead X.K C mc) (c : ClX.CMet X.K C mc m q g) (G : FnR X.prog X.w X.K X.mg X.base (L2.CX X.prog X.w) k g sp) (hr : Room k X.A) (tk : Takes X W) (ha : PA X (e :: es) t)
    (hst : starEach (e :: es) X.env = (false, eval e X.env) :: starEach es X.env := by rfl) (hpl : (backTo pos (starEach es X.env)).any (·.1) = false := by rfl)
    (ht : eval (.Call (.Attribute o m apos) (e :: es) [] pos) X.env = (do
      let ov ← eval o X.env
      standAt apos.atName
      let (f, first) ← holding [ov] (getMethod ov m pl)
      callWith pos f first (backTo pos (starEach (e :: es) X.env)) (backToKw pos (keywordEach [] X.env))) := by rfl) : PE X (.Call (.Attribute o m apos) (e :: es) [] pos) (tCW W (fun vs => sp (.ref C :: vs)) t) := by
  refine ⟨fun pins s σ H Q I h => PySem.W.methodCall_KW (pl := pl) (thn (he.run pins s σ H (fun v H1 => v = .ref C ∧ H1 = H) I ⟨rfl, rfl⟩) fun u s1 ⟨x, H1, I1, rx, ex, eh⟩ => ?_) ht⟩
  subst ex eh
  obtain rfl : u = Value.ref C := rx
  refine ClX.getmethcm_ok I1 r c fun s2 I2 => ?_
  exact ClX.callwith_cm I2 (ClX.base_none I1 (Nat.le_refl _)) c.fi (thn (ha.run pos _ s2 σ _ _ I2 h) fun us s3 ⟨vs, H2, I3, rv, q2⟩ => ⟨⟨ClX.pin_at I3, I3.kIn⟩, run_cmW G hr tk I3 rv q2⟩) hst hpl
theorem pe_cmethW0 {pl : Sem Bool} (he : PE X o (tC (.ref C))) (r : ClX.CRead X.K C mc) (c : ClX.CMet X.K C mc m q g) (G : FnR X.prog X.w X.K X.mg X.base (L2.CX X.prog X.w) k g sp) (hr : Room k X.A) (tk : Takes X W)
    (ht : eval (.Call (.Attribute o m apos) [] [] pos) X.env = (do
      let ov ← eval o X.env
      standAt apos.atName
      let (f, first) ← holding [ov] (getMethod ov m pl)
      callWith pos f first (backTo pos (starEach [] X.env)) (backToKw pos (keywordEach [] X.env))) := by rfl) : PE X (.Call (.Attribute o m apos) [] [] pos) (tCW W (fun vs => sp (.ref C :: vs)) tNil) := by
  refine ⟨fun pins s σ H Q I h => PySem.W.methodCall_KW (pl := pl) (thn (he.run pins s σ H (fun v H1 => v = .ref C ∧ H1 = H) I ⟨rfl, rfl⟩) fun u s1 ⟨x, H1, I1, rx, ex, eh⟩ => ?_) ht⟩
  subst ex eh
  obtain rfl : u = Value.ref C := rx
  refine ClX.getmethcm_ok I1 r c fun s2 I2 => ?_
  exact PySem.W.callWith_M0 (first := []) ⟨ClX.pin_at I2, I2.kIn⟩ c.fi (run_cmW (us := []) (vs := []) G hr tk I2 .nil h)
def CmI (P : Program) (w : World) (K : PySem.W.Frag) (mg : Str → Option Value) (base : Heap) (k : Nat) (c m : Str) (F : En → Res D) : Prop := ∃ C mc p g, mg c = some (.ref C) ∧ ClX.CRead K C mc ∧ ClX.CMet K C mc m p g ∧ FnR P w K mg base (L2.CX P w) k g (spD K mg F)
def SmI (P : Program) (w : World) (K : PySem.W.Frag) (mg : Str → Option Value) (base : Heap) (k : Nat) (c m : Str) (F : En → Res D) : Prop := ∃ C mc p g, mg c = some (.ref C) ∧ ClX.CRead K C mc ∧ SMet K C mc m p g ∧ FnR P w K mg base (L2.CX P w) k g (spD K mg F)
def fCMeth (c : Str) (F : En → Res D) (fr : M (List Ar)) : M D := bd fr fun as => callR F (.d (.cls c) :: as)
theorem ped_cmeth {px : Pos} (cf : CmI X.prog X.w X.K X.mg X.base k c m F) (hr : Room j X.A) (hk : k ≤ j) (tk : Takes X W) (ha : PRD X W (e :: es) fr) {pl : Sem Bool} (hg : Gl X c := by rfl) (hd : (c == ("__debug__" : Str)) = false := by decide)
    (hst : starEach (e :: es) X.env = (false, eval e X.env) :: starEach es X.env := by rfl) (hpl : (backTo pos (starEach es X.env)).any (·.1) = false := by rfl)
    (ht : eval (.Call (.Attribute (.Name c px) m apos) (e :: es) [] pos) X.env = (do
      let ov ← eval (.Name c px) X.env
      standAt apos.atName
      let (f, first) ← holding [ov] (getMethod ov m pl)
      callWith pos f first (backTo pos (starEach (e :: es) X.env)) (backToKw pos (keywordEach [] X.env))) := by rfl) : PED X W (.Call (.Attribute (.Name c px) m apos) (e :: es) [] pos) (fCMeth c F fr) := by
  obtain ⟨C, mc, p, g, hm, r, cm, G⟩ := cf
  obtain ⟨ta, pa, ea⟩ := ha
  refine ⟨_, pe_cmethW (pe_glob (v := .ref C) hg hm rfl hd) r cm G (hr.mono hk) tk pa hst hpl ht, fun Z B σ H e Q S h => ?_⟩
  refine ea Z B σ H e _ S ((wp_bd.mp h).imp (fun as e1 h1 vs B1 H1 S1 l1 a1 => ?_) fun x e' q => q)
  exact callR_ok S1 (.cons (.d (.cls hm)) a1) (upV l1 h1)
theorem ped_cmeth0 {px : Pos} (cf : CmI X.prog X.w X.K X.mg X.base k c m F) (hr : Room j X.A) (hk : k ≤ j) (tk : Takes X W) {pl : Sem Bool} (hg : Gl X c := by rfl) (hd : (c == ("__debug__" : Str)) = false := by decide)
    (ht : eval (.Call (.Attribute (.Name c px) m apos) [] [] pos) X.env = (do
      let ov ← eval (.Name c px) X.env
      standAt apos.atName
      let (f, first) ← holding [ov] (getMethod ov m pl)
      callWith pos f first (backTo pos (starEach [] X.env)) (backToKw pos (keywordEach [] X.env))) := by rfl) : PED X W (.Call (.Attribute (.Name c px) m apos) [] [] pos) (fCMeth c F rNil) := by
  obtain ⟨C, mc, p, g, hm, r, cm, G⟩ := cf
  refine ⟨_, pe_cmethW0 (pe_glob (v := .ref C) hg hm rfl hd) r cm G (hr.mono hk) tk ht, fun Z B σ H e Q S h => ?_⟩
  exact callR_ok S (.cons (.d (.cls hm)) .nil) h
theorem ped_smeth {px : Pos} (cf : SmI X.prog X.w X.K X.mg X.base k c m F) (hr : Room j X.A) (hk : k ≤ j) (tk : Takes X W) (ha : PRD X W (e :: es) fr) {pl : Sem Bool} (hg : Gl X c := by rfl) (hd : (c == ("__debug__" : Str)) = false := by decide)
    (hst : starEach (e :: es) X.env = (false, eval e X.env) :: starEach es X.env := by rfl) (hpl : (backTo pos (starEach es X.env)).any (·.1) = false := by rfl)
    (ht : eval (.Call (.Attribute (.Name c px) m apos) (e :: es) [] pos) X.env = (do
      let ov ← eval (.Name c px) X.env
      standAt apos.atName
      let (f, first) ← holding [ov] (getMethod ov m pl)
      callWith pos f first (backTo pos (starEach (e :: es) X.env)) (backToKw pos (keywordEach [] X.env))) := by rfl) : PED X W (.Call (.Attribute (.Name c px) m apos) (e :: es) [] pos) (bd fr (callR F)) := by
  obtain ⟨C, mc, p, g, hm, r, cm, G⟩ := cf
  obtain ⟨ta, pa, ea⟩ := ha
  exact ⟨_, pe_smeth (pe_glob (v := .ref C) hg hm rfl hd) r cm G (hr.mono hk) tk pa hst hpl ht, evCW ea⟩
/-- name(e, ..), the name of a slot that holds a class -/
def isCls (i : Nat) (c : Str) : M Unit := fun e => match e[i]? with
  | some (.val (.cls c')) => if c' = c then .ok () e else .bad
  | _ => .bad
theorem isCls_wp {i : Nat} {c : Str} {e : En} {Q : Unit → En → Prop} {E : D → En → Prop} (h : (isCls i c e).wp Q E) : e[i]? = some (.val (.cls c)) ∧ Q () e := by
  unfold isCls at h
  cases q : e[i]? with
  | none => rw [q] at h; exact False.elim h
  | some s =>
    rw [q] at h
    cases s with
    | val d => cases d with
      | cls c' =>
        by_cases hc : c' = c
        · simp only [if_pos hc] at h; subst hc; exact ⟨rfl, h⟩
        · simp only [if_neg hc] at h; exact False.elim h
      | _ => exact False.elim h
    | _ => exact False.elim h
theorem ped_makeV (i : Nat) (cf : MkI X.prog X.w X.K X.mg X.base k c F) (hr : Room j X.A) (hk : k + 1 ≤ j) (tk : Takes X W) (ha : PAD X W (e :: es) fl) (hN : X.N[i]? = some x := by rfl) (hv : Vis X.env.scope x := by first | exact Or.inl rfl | exact Or.inr (Or.inl rfl) | exact Or.inr (Or.inr rfl)) (hdb : (x == ("__debug__" : Str)) = false := by decide) (hcd : (x == ("__classdict__" : Str)) = false := by decide)
    (he : starEach (e :: es) X.env = (false, eval e X.env) :: starEach es X.env := by rfl) (hpl : (backTo pos (starEach es X.env)).any (·.1) = false := by rfl) : PED X W (.Call (.Name x p) (e :: es) [] pos) (bd (isCls i c) fun _ => fMake c F fl) := by
  obtain ⟨C, f, hm, mk, G⟩ := cf
  obtain ⟨ta, pa, ea⟩ := ha
  refine ⟨fun σ H Q => σ[i]? = some (some (.ref C)) ∧ tKW C W (spD X.K X.mg F) ta σ H Q, ⟨fun pins s σ H Q I ⟨h1, h2⟩ => ?_⟩, fun Z B σ H e Q S h => ?_⟩
  · refine wpAny_Call_Name_kw (thn ((pe_var (pos := p) hN hv hdb hcd).run pins s σ H (fun v H1 => v = .ref C ∧ H1 = H) I ⟨.ref C, h1, rfl, rfl⟩) fun u s1 ⟨v, H1, I1, r1, q1, q2⟩ => ?_)
    subst q1 q2
    obtain rfl : u = Value.ref C := r1
    exact PySem.W.callWith_K (h₀ := X.base) I.ok.mod.kin mk.kp (thn (pa.run pos pins s1 σ _ _ I1 h2) fun us s2 ⟨vs, H2, I2, r, q⟩ => ⟨I2.kIn, run_K mk G (hr.mono hk) tk I2 r q⟩) he hpl
  · obtain ⟨e1, h⟩ := isCls_wp (wp_bd.mp h)
    obtain ⟨v, e2, r⟩ := S.sl i _ e1
    obtain ⟨C', rfl, hm'⟩ := r.cls_inv
    obtain rfl := ref_inj hm hm'
    refine ⟨e2, ea.then S h (fun x e' q => q) fun ds e3 vs B1 H1 S1 l1 a1 h1 => ?_⟩
    intro x' dx hx hd ne
    exact make_ok hm S1 a1 (upV l1 h1) x' dx hx hd ne
end
end Dl
set_option maxHeartbeats 1000000
/-! Layer D, part 17: sets of ints, sorted at once. -/
namespace Dl
open PySem PySem.Spec PyProof.Rows L2 RZ
section
variable {P : Program} {w : World} {A : Around} {E : Value → Shared → Prop} {s : Shared}
/-- the object of a new set -/
abbrev setO0 (w : World) : Obj := { cls := .type "set", dict := none, data := .set #[] 0 (.fresh 0 0 (!w.params.followText "set-order")) }
end
section
variable {X : Cx}
/-- the members told by a list -/
theorem set_card {w : World} {h : Heap} {a : Addr} {S : Int → Bool} {n : Nat} (R : SetR w h a S n) {ns : List Int} (hn : ns.Nodup) (hS : ∀ k : Int, S k = true ↔ k ∈ ns) : n = ns.length := by
  obtain ⟨o, es, ep, t, _, _, _, _, nd, mem, _, _, sz, _⟩ := R
  have p : (es.toList.map keyOf).Perm ns := (List.perm_ext_iff_of_nodup nd hn).mpr fun k => by rw [← mem, hS]
  have := p.length_eq
  rw [List.length_map, Array.length_toList] at this
  omega
def rSortedSetU (w : World) : List V → Hp → VK → Prop := fun vs H Q => ∃ (a : Addr) (S : Int → Bool) (n : Nat) (ms : List Int), vs = [V.ref a] ∧ H a = some (SetO w a S n) ∧ ms.Nodup ∧ (∀ k : Int, S k = true ↔ k ∈ ms) ∧ ms.length < 64 ∧
  ∀ (ns : List Int) (p : Addr), ns.Pairwise (· < ·) → (∀ k : Int, k ∈ ns ↔ S k = true) → H p = none → Q (.ref p) (upd H p (.lst (ns.map V.int)))
theorem cr_sortedSetU (hc : X.calm = true) : CallR X (.builtin "sorted") (rSortedSetU X.w) := by
  intro pins s σ H vs us Q I r h
  obtain ⟨a, S, n, ms, rfl, ha, nd, hS, h64, q⟩ := h
  have e := set_card (setO_get I ha) nd hS
  exact cr_sortedSet hc pins s σ H _ us Q I r ⟨a, S, n, rfl, ha, by omega, fun ns p h1 h2 _ h4 => q ns p h1 h2 h4⟩
end
end Dl
set_option maxHeartbeats 400000
/-! Tables of counts: a start and lost ranks, in plain Lean. -/
namespace Tab
open Dl
def cnt (l : List Int) (c : Int) : Int := ((l.filter fun x => decide (x ≤ c)).length : Int)
def aft (s : Int) (l : List Int) (c : Int) : Int := s + c - cnt l c
def fld (l : List Int) (m : Int) : Int := l.foldl (fun r x => if x ≤ r then r + 1 else r) m
def lr (s : Int) (l : List Int) (c : Int) : Int := fld l (if s < c then c - s else 0)
structure Vl (s : Int) (l : List Int) : Prop where
  s0 : 0 ≤ s
  up : l.Pairwise (· < ·)
  pos : ∀ x ∈ l, 0 < x
theorem cnt_nil (c : Int) : cnt [] c = 0 := rfl
theorem cnt_cons (x : Int) (l : List Int) (c : Int) : cnt (x :: l) c = (if x ≤ c then 1 else 0) + cnt l c := by
  unfold cnt
  rw [List.filter_cons]
  by_cases h : x ≤ c
  · simp [h]; omega
  · simp [h]
theorem cnt_app (l m : List Int) (c : Int) : cnt (l ++ m) c = cnt l c + cnt m c := by
  unfold cnt
  rw [List.filter_append, List.length_append]
  omega
theorem cnt_perm {l m : List Int} (h : l.Perm m) (c : Int) : cnt l c = cnt m c := by
  unfold cnt
  rw [(h.filter _).length_eq]
theorem cnt_nn (l : List Int) (c : Int) : 0 ≤ cnt l c := by unfold cnt; omega
theorem cnt_zero {l : List Int} {c : Int} (h : ∀ x ∈ l, c < x) : cnt l c = 0 := by
  induction l with
  | nil => rfl
  | cons x l ih =>
    rw [cnt_cons, ih fun y hy => h y (List.mem_cons_of_mem _ hy), if_neg (by have := h x List.mem_cons_self; omega)]
    rfl
/-- one count further -/
theorem cnt_step {l : List Int} (hu : l.Pairwise (· < ·)) (c : Int) : cnt l (c + 1) = cnt l c + if c + 1 ∈ l then 1 else 0 := by
  induction l with
  | nil => rfl
  | cons x l ih =>
    have h := List.pairwise_cons.mp hu
    have ih := ih h.2
    rw [cnt_cons, cnt_cons, ih]
    by_cases hx : x = c + 1
    · subst hx
      have hn : ¬ (c + 1 ∈ l) := fun z => by have := h.1 _ z; omega
      rw [if_pos (Int.le_refl _), if_neg (show ¬ c + 1 ≤ c by omega), if_pos List.mem_cons_self, if_neg hn]
      omega
    · have e : (c + 1 ∈ x :: l) ↔ c + 1 ∈ l := by
        rw [List.mem_cons]
        exact ⟨fun z => z.resolve_left fun q => hx q.symm, .inr⟩
      simp only [e]
      by_cases h1 : x ≤ c
      · rw [if_pos (show x ≤ c + 1 by omega), if_pos h1]
        omega
      · rw [if_neg (show ¬ x ≤ c + 1 by omega), if_neg h1]
        omega
theorem cnt_add {l : List Int} (hu : l.Pairwise (· < ·)) (c : Int) : ∀ n : Nat, cnt l (c + n) ≤ cnt l c + n
  | 0 => by simp
  | n + 1 => by
    have ih := cnt_add hu c n
    have s := cnt_step hu (c + n)
    have e : c + ((n + 1 : Nat) : Int) = c + n + 1 := by omega
    rw [e, s]
    split <;> omega
theorem cnt_le {l : List Int} (hu : l.Pairwise (· < ·)) {c d : Int} (h : c ≤ d) : cnt l d - cnt l c ≤ d - c := by
  have := cnt_add hu c (d - c).toNat
  have e : c + ((d - c).toNat : Int) = d := by omega
  rw [e] at this
  omega
theorem gap_nn {s : Int} {l : List Int} (v : Vl s l) {c : Int} (h : 0 ≤ c) : 0 ≤ c - cnt l c := by
  have h1 := cnt_le v.up h
  have h2 : cnt l 0 = 0 := cnt_zero v.pos
  omega
theorem fld_cons (x : Int) (l : List Int) (m : Int) : fld (x :: l) m = fld l (if x ≤ m then m + 1 else m) := rfl
theorem fld_small {l : List Int} {m : Int} (h : ∀ x ∈ l, m < x) : fld l m = m := by
  induction l with
  | nil => rfl
  | cons x l ih =>
    rw [fld_cons, if_neg (by have := h x List.mem_cons_self; omega)]
    exact ih fun y hy => h y (List.mem_cons_of_mem _ hy)
theorem fld_spec {l : List Int} (hu : l.Pairwise (· < ·)) : ∀ m : Int, fld l m = m + cnt l (fld l m) ∧ fld l m ∉ l ∧ m ≤ fld l m := by
  induction l with
  | nil => intro m; exact ⟨by show m = m + 0; omega, by simp, Int.le_refl _⟩
  | cons x l ih =>
    intro m
    have h := List.pairwise_cons.mp hu
    rw [fld_cons]
    by_cases hx : x ≤ m
    · rw [if_pos hx]
      obtain ⟨h1, h2, h3⟩ := ih h.2 (m + 1)
      refine ⟨?_, ?_, by omega⟩
      · rw [cnt_cons, if_pos (by omega)]
        omega
      · rw [List.mem_cons]
        exact fun z => z.elim (fun q => by omega) h2
    · rw [if_neg hx]
      have e : fld l m = m := fld_small fun y hy => by have := h.1 y hy; omega
      rw [e]
      refine ⟨?_, ?_, Int.le_refl _⟩
      · rw [cnt_cons, if_neg hx, cnt_zero fun y hy => by have := h.1 y hy; omega]
        omega
      · rw [List.mem_cons]
        exact fun z => z.elim (fun q => by omega) fun q => by have := h.1 m q; omega
theorem lr_back {s : Int} {l : List Int} (v : Vl s l) {c : Int} (h : s < c) : aft s l (lr s l c) = c ∧ lr s l c ∉ l ∧ 0 < lr s l c := by
  unfold lr aft
  rw [if_pos h]
  obtain ⟨h1, h2, h3⟩ := fld_spec v.up (c - s)
  exact ⟨by omega, h2, by omega⟩
theorem lr_zero {s : Int} {l : List Int} (v : Vl s l) {c : Int} (h : c ≤ s) : lr s l c = 0 := by
  unfold lr
  rw [if_neg (by omega)]
  exact fld_small v.pos
theorem aft_ge {s : Int} {l : List Int} (v : Vl s l) {c : Int} (h : 0 ≤ c) : s ≤ aft s l c := by
  have := gap_nn v h
  unfold aft
  omega
theorem galois {s : Int} {l : List Int} (v : Vl s l) (c : Int) {k : Int} (hk : 0 ≤ k) : lr s l c ≤ k ↔ c ≤ aft s l k := by
  by_cases h : s < c
  · obtain ⟨h1, h2, h3⟩ := lr_back v h
    constructor
    · intro z
      have := cnt_le v.up z
      unfold aft at h1 ⊢
      omega
    · intro z
      refine Int.not_lt.mp fun q => ?_
      have e := cnt_step v.up (lr s l c - 1)
      rw [show lr s l c - 1 + 1 = lr s l c by omega, if_neg h2] at e
      have := cnt_le v.up (show k ≤ lr s l c - 1 by omega)
      unfold aft at h1 z
      omega
  · rw [lr_zero v (by omega)]
    have := aft_ge v hk
    omega
/-! ### sums -/
def sumL (s1 : Int) (l1 l2 : List Int) : List Int := isort (l1 ++ (l2.filter fun r => decide (s1 < r)).map (lr s1 l1))
theorem cnt_fur {s1 : Int} {l1 : List Int} (v : Vl s1 l1) {c : Int} (hc : 0 ≤ c) (l2 : List Int) : cnt ((l2.filter fun r => decide (s1 < r)).map (lr s1 l1)) c = cnt l2 (aft s1 l1 c) - cnt l2 s1 := by
  induction l2 with
  | nil => rfl
  | cons x l ih =>
    have ha := aft_ge v hc
    rw [cnt_cons, cnt_cons, List.filter_cons]
    by_cases h : s1 < x
    · simp only [h, decide_true, if_true, List.map_cons]
      rw [cnt_cons, ih, if_neg (show ¬ x ≤ s1 by omega)]
      by_cases h2 : lr s1 l1 x ≤ c
      · rw [if_pos h2, if_pos ((galois v x hc).mp h2)]
        omega
      · rw [if_neg h2, if_neg fun z => h2 ((galois v x hc).mpr z)]
        omega
    · simp only [h, decide_false, Bool.false_eq_true, if_false]
      rw [ih, if_pos (show x ≤ aft s1 l1 c by omega), if_pos (show x ≤ s1 by omega)]
      omega
theorem comp {s1 s2 : Int} {l1 l2 : List Int} (v : Vl s1 l1) {c : Int} (hc : 0 ≤ c) : aft (aft s2 l2 s1) (sumL s1 l1 l2) c = aft s2 l2 (aft s1 l1 c) := by
  have e : cnt (sumL s1 l1 l2) c = cnt l1 c + (cnt l2 (aft s1 l1 c) - cnt l2 s1) := by
    unfold sumL
    rw [cnt_perm (isort_perm _), cnt_app, cnt_fur v hc]
  show aft s2 l2 s1 + c - cnt (sumL s1 l1 l2) c = s2 + aft s1 l1 c - cnt l2 (aft s1 l1 c)
  rw [e]
  show s2 + s1 - cnt l2 s1 + c - _ = s2 + (s1 + c - cnt l1 c) - _
  omega
theorem sum_vl {s1 s2 : Int} {l1 l2 : List Int} (v : Vl s1 l1) (v2 : Vl s2 l2) : Vl (aft s2 l2 s1) (sumL s1 l1 l2) := by
  have hf : ∀ y ∈ (l2.filter fun r => decide (s1 < r)).map (lr s1 l1), 0 < y ∧ y ∉ l1 := fun y hy => by
    obtain ⟨x, hx, rfl⟩ := List.mem_map.mp hy
    have hx := List.mem_filter.mp hx
    have := lr_back v (of_decide_eq_true hx.2)
    exact ⟨this.2.2, this.2.1⟩
  refine ⟨?_, ?_, fun x hx => ?_⟩
  · have := aft_ge v2 v.s0
    have := v2.s0
    omega
  · have nd : (l1 ++ (l2.filter fun r => decide (s1 < r)).map (lr s1 l1)).Nodup := by
      refine List.nodup_append.mpr ⟨v.up.imp fun h => by omega, ?_, fun a ha b hb e => (hf b hb).2 (e ▸ ha)⟩
      refine List.pairwise_map.mpr ?_
      refine List.Pairwise.imp_of_mem (R := (· < ·)) (fun {a b} ha hb hab e => ?_) (v2.up.filter _)
      have h1 := (lr_back v (of_decide_eq_true (List.mem_filter.mp ha).2)).1
      have h2 := (lr_back v (of_decide_eq_true (List.mem_filter.mp hb).2)).1
      rw [e, h2] at h1
      omega
    have nd2 : (sumL s1 l1 l2).Nodup := (isort_perm _).nodup_iff.mpr nd
    have st : (sumL s1 l1 l2).Pairwise (· ≤ ·) := isort_sorted _
    exact (st.and nd2).imp fun h => by omega
  · have hx : x ∈ l1 ++ (l2.filter fun r => decide (s1 < r)).map (lr s1 l1) := (isort_perm _).mem_iff.mp hx
    rcases List.mem_append.mp hx with h | h
    · exact v.pos x h
    · exact (hf x h).1
theorem sorted_ext : ∀ {l m : List Int}, l.Pairwise (· < ·) → m.Pairwise (· < ·) → (∀ x, x ∈ l ↔ x ∈ m) → l = m
  | [], [], _, _, _ => rfl
  | [], y :: m, _, _, h => absurd ((h y).mpr List.mem_cons_self) (by simp)
  | x :: l, [], _, _, h => absurd ((h x).mp List.mem_cons_self) (by simp)
  | x :: l, y :: m, hl, hm, h => by
    have h1 := List.pairwise_cons.mp hl
    have h2 := List.pairwise_cons.mp hm
    have e : x = y := by
      rcases List.mem_cons.mp ((h x).mp List.mem_cons_self) with e | mx
      · exact e
      · rcases List.mem_cons.mp ((h y).mpr List.mem_cons_self) with e | my
        · exact e.symm
        · have a := h2.1 x mx
          have b := h1.1 y my
          omega
    subst e
    congr 1
    refine sorted_ext h1.2 h2.2 fun z => ⟨fun hz => ?_, fun hz => ?_⟩
    · exact (List.mem_cons.mp ((h z).mp (List.mem_cons_of_mem _ hz))).resolve_left fun q => by have := h1.1 z hz; omega
    · exact (List.mem_cons.mp ((h z).mpr (List.mem_cons_of_mem _ hz))).resolve_left fun q => by have := h2.1 z hz; omega
theorem mem_iff {s : Int} {l : List Int} (v : Vl s l) (x : Int) : x ∈ l ↔ 0 < x ∧ aft s l x = aft s l (x - 1) := by
  have e := cnt_step v.up (x - 1)
  rw [show x - 1 + 1 = x by omega] at e
  unfold aft
  constructor
  · intro h
    rw [if_pos h] at e
    exact ⟨v.pos x h, by omega⟩
  · rintro ⟨h1, h2⟩
    refine Classical.byContradiction fun q => ?_
    rw [if_neg q] at e
    omega
theorem ext {s t : Int} {l m : List Int} (v : Vl s l) (u : Vl t m) (h : ∀ c, 0 ≤ c → aft s l c = aft t m c) : s = t ∧ l = m := by
  refine ⟨?_, sorted_ext v.up u.up fun x => ?_⟩
  · have := h 0 (Int.le_refl _)
    unfold aft at this
    rw [cnt_zero v.pos, cnt_zero u.pos] at this
    omega
  · rw [mem_iff v, mem_iff u]
    constructor
    · rintro ⟨h1, h2⟩
      exact ⟨h1, by rw [← h x (by omega), ← h (x - 1) (by omega)]; exact h2⟩
    · rintro ⟨h1, h2⟩
      exact ⟨h1, by rw [h x (by omega), h (x - 1) (by omega)]; exact h2⟩
theorem vl0 : Vl 0 [] := ⟨Int.le_refl _, .nil, fun x h => nomatch h⟩
theorem zero_r {s : Int} {l : List Int} (v : Vl s l) : aft 0 [] s = s ∧ sumL s l [] = l :=
  ext (sum_vl v vl0) v fun c hc => by
    rw [comp v hc]
    unfold aft
    rw [cnt_nil]
    omega
theorem len_sum (s1 : Int) (l1 l2 : List Int) : ((sumL s1 l1 l2).length : Int) = l1.length + l2.length - cnt l2 s1 := by
  have e : ∀ l : List Int, ((l.filter fun r => decide (s1 < r)).length : Int) = l.length - cnt l s1 := fun l => by
    induction l with
    | nil => rfl
    | cons x l ih =>
      rw [cnt_cons, List.filter_cons]
      by_cases h : s1 < x
      · rw [if_neg (show ¬ x ≤ s1 by omega)]
        simp [h]
        omega
      · rw [if_pos (show x ≤ s1 by omega)]
        simp [h]
        omega
  unfold sumL
  rw [(isort_perm _).length_eq, List.length_append, List.length_map]
  have := e l2
  omega
end Tab
set_option maxHeartbeats 1000000
/-! Layer D, part 18: sorted(set(..)), sorted({.. for ..}). -/
namespace Dl
open PySem PySem.Spec PyProof.Rows L2 RZ
/-- ints, each once, ascending -/
def uins (x : Int) : List Int → List Int
  | [] => [x]
  | y :: r => if x < y then x :: y :: r else if x = y then y :: r else y :: uins x r
def usort : List Int → List Int
  | [] => []
  | x :: r => uins x (usort r)
theorem uins_mem {x k : Int} : ∀ {l : List Int}, k ∈ uins x l ↔ k = x ∨ k ∈ l
  | [] => by simp [uins]
  | y :: r => by
    unfold uins
    by_cases h : x < y
    · rw [if_pos h]; simp
    · rw [if_neg h]
      by_cases h2 : x = y
      · rw [if_pos h2, h2]; simp
      · rw [if_neg h2, List.mem_cons, uins_mem (l := r), List.mem_cons]
        exact ⟨fun z => z.elim (fun q => .inr (.inl q)) fun q => q.elim .inl fun q => .inr (.inr q), fun z => z.elim (fun q => .inr (.inl q)) fun q => q.elim .inl fun q => .inr (.inr q)⟩
theorem uins_up {x : Int} : ∀ {l : List Int}, l.Pairwise (· < ·) → (uins x l).Pairwise (· < ·)
  | [], _ => by simp [uins]
  | y :: r, h => by
    have h2 := List.pairwise_cons.mp h
    unfold uins
    by_cases h1 : x < y
    · rw [if_pos h1]
      refine List.pairwise_cons.mpr ⟨fun z hz => ?_, h⟩
      rcases List.mem_cons.mp hz with rfl | hz
      · exact h1
      · exact Int.lt_trans h1 (h2.1 z hz)
    · rw [if_neg h1]
      by_cases h3 : x = y
      · rw [if_pos h3]; exact h
      · rw [if_neg h3]
        refine List.pairwise_cons.mpr ⟨fun z hz => ?_, uins_up h2.2⟩
        rcases uins_mem.mp hz with rfl | hz
        · omega
        · exact h2.1 z hz
theorem usort_mem {k : Int} : ∀ {l : List Int}, k ∈ usort l ↔ k ∈ l
  | [] => Iff.rfl
  | x :: r => by unfold usort; rw [uins_mem, usort_mem (l := r), List.mem_cons]
theorem usort_up : ∀ l : List Int, (usort l).Pairwise (· < ·)
  | [] => .nil
  | x :: r => uins_up (usort_up r)
/-! ### a new set of ints, on the way -/
def PQ (K : PySem.W.Frag) (mg : Str → Option Value) (w : World) (Z : Ent) (B : Hp) (σ : St) (Q : VK) : List Int → En → Prop := fun ns e' => ∀ p S c B' H', SR K mg Z B' σ H' e' → Same B B' → H' p = some (SetO w p S c) → c ≤ ns.length → (∀ k : Int, S k = true ↔ k ∈ ns) → Q (.ref p) H'
def EvQ (K : PySem.W.Frag) (mg : Str → Option Value) (w : World) (W : WX) (te : TE) (f : M (List Int)) : Prop := ∀ Z B σ H e (Q : VK), SR K mg Z B σ H e → (f e).wp (PQ K mg w Z B σ Q) (PX K mg Z B σ W) → te σ H Q
def PQD (X : Cx) (W : WX) (a : Expr) (f : M (List Int)) : Prop := ∃ te, PE X a te ∧ EvQ X.K X.mg X.w W te f
def fSortQ (fq : M (List Int)) : M (List D) := bd fq fun ns => li (if (usort ns).length < 64 then some ((usort ns).map D.int) else none)
section
variable {X : Cx} {W : WX} {a e : Expr} {fa : M D} {fq : M (List Int)} {p pos : Pos}
theorem pnd_sortQ (hc : X.calm = true) (hm : X.mg "sorted" = none) (hq : PQD X W e fq) (hg : Gl X "sorted" := by rfl) (he : starEach (e :: []) X.env = (false, eval e X.env) :: starEach [] X.env := by rfl) (hpl : (backTo pos (starEach [] X.env)).any (·.1) = false := by rfl) : PND X W (.Call (.Name "sorted" p) [e] [] pos) (fSortQ fq) := by
  obtain ⟨ta, pa, ea⟩ := hq
  refine ⟨_, pe_callB (cr_sortedSetU hc) hg hm (by decide +kernel) (pa_cons pa pa_nil he) (by decide) (by decide) he hpl, fun Z B σ H e Q S h => ?_⟩
  refine ea Z B σ H e _ S ((wp_bd.mp h).imp (fun ns e1 h1 q S0 c B1 H1 S1 l1 g1 g2 g3 => ?_) fun x e' q => q)
  obtain ⟨ds, h2, h3⟩ := wp_li h1
  by_cases hl : (usort ns).length < 64
  · rw [if_pos hl] at h2
    cases h2
    refine ⟨q, S0, c, usort ns, rfl, g1, (usort_up ns).imp fun h => Int.ne_of_lt h, fun k => by rw [g3, usort_mem], hl, fun ms p up mem hp => ?_⟩
    obtain rfl : ms = usort ns := Tab.sorted_ext up (usort_up ns) fun k => by rw [mem, g3, usort_mem]
    obtain ⟨S2, hB, h0, hf⟩ := S1.newO (o := .lst ((usort ns).map V.int)) hp
    exact h3 p _ B1 _ S2 l1 upd_same (.of_ints _) hB h0 hf
  · rw [if_neg hl] at h2; cases h2
end
end Dl
set_option maxHeartbeats 1000000
/-! Layer D, part 19: {e for x in xs}, e an int. -/
namespace Dl
open PySem PySem.Spec PyProof.Rows L2 RZ
/-- what a set comprehension of ints asks: D the new set -/
def tSetI (w : World) (wi : TI) (g : TG) (tt : TT) (te : TE) (vs : List Nat) : TE := fun σ H Q => wi σ H fun J H1 => ∀ D, H1 D = none → ∃ U : Nat → Nat → Hp → Prop, (∃ m, U 0 m (upd H1 D (SetO w D (fun _ => false) 0))) ∧ ∀ i m H, U i m H →
  (J.stop i H ∧ Q (.ref D) H) ∨ (J.go i H ∧ ∃ Nx : Hp → Prop, (∀ H', Nx H' → ∃ m', m' < m ∧ U (i + 1) m' H') ∧ ∀ x H', J.yld i H x H' → g x (L2.wipe σ vs) H' fun σ2 H2 => L2.wipe σ2 vs = L2.wipe σ vs ∧ tt σ2 H2 fun b H3 =>
    if b = true then te σ2 H3 fun y H4 => ∃ (k : Int) (S : Int → Bool) (n : Nat), y = .int k ∧ H4 D = some (SetO w D S n) ∧ n + 1 < scanBound ∧ Nx (upd H4 D (SetO w D (fun j => S j || decide (j = k)) (if S k = true then n else n + 1))) else Nx H3)
theorem setR_zero {h : Heap} (w : World) : SetR w (h.push (setO0 w)) h.objs.size (fun _ => false) 0 := by
  have z := setR_new_at (w := w) (h := h.push (setO0 w)) (a := h.objs.size) (ns := []) (Heap.get?_push_size _ rfl)
  exact z.congr fun j => by simp
section
variable {X : Cx}
theorem add_int {pins : List (Addr × Obj)} {σ : L2.St} {H : Hp} {s : Shared} {E : Value → Shared → Prop} {D : Addr} {S : Int → Bool} {n : Nat} {k : Int} {tk : Tok} {Q : Value → Shared → Prop} (I : Inv X pins σ H s) (hD : H D = some (SetO X.w D S n)) (room : n + 1 < scanBound)
    (h : ∀ s', Inv X pins σ (upd H D (SetO X.w D (fun j => S j || decide (j = k)) (if S k = true then n else n + 1))) s' → Q .none s') : wpAny (model X.prog X.w) X.A (call (.builtin "set.add") [.ref D, .int k tk]) Q E s := by
  refine setR_add (setO_get I hD) room fun h' sb new => ?_
  have there : ∃ u, h'.get? D = some u := by
    have ⟨o, _, _, _, ho, _⟩ := new
    exact ⟨o, ho⟩
  exact h _ (I.write (e := D) (t' := s.toks + 1) (by rw [hD]; trivial) (.inl rfl) (fun b u hb hu => (sb.2 b hb).trans hu) there (setO_new new))
theorem setI_core {pins : List (Addr × Obj)} {s : Shared} {σ : L2.St} {H : Hp} {Q : VK} {elt tg iter : Expr} {ifs : List Expr} {scope : Scope} {own : List (PySem.Str × Nat)} {pos pos' : Pos} {wi : TI} {g : TG} {tt : TT} {te : TE} {use : Option (Value → Sem Unit)} {Qf : Value → Shared → Prop}
    (hc : X.calm = true) (hN : X.N.Nodup) (I : Inv X pins σ H s) (hi : PI X tg iter wi) (ok : BlkOk X.N X.env.scope scope own)
    (hg : ∀ (s : Shared) (H : Hp) (C : Addr) (cl : List (PySem.Str × Addr)) (fp : List Addr), PG (X.blk s H scope (compEnvC scope cl C X.env) fp) tg g) (ht : ∀ (s : Shared) (H : Hp) (C : Addr) (cl : List (PySem.Str × Addr)) (fp : List Addr), PTs (X.blk s H scope (compEnvC scope cl C X.env) fp) ifs tt)
    (he : ∀ (s : Shared) (H : Hp) (C : Addr) (cl : List (PySem.Str × Addr)) (fp : List Addr), PE (X.blk s H scope (compEnvC scope cl C X.env) fp) elt te) (hs : ∀ x, foldedSetIterable iter X.env x = pure x)
    (h : tSetI X.w wi g tt te (own.map (·.2)) σ H Q)
    (fin : ∀ D C s' m H', Inv X pins σ H' s' → Q (.ref D) H' → s'.heap.Ns C m → FpOk X pins H' C → compPost (model X.prog X.w) X.A X.xe use Qf (.ref D) C (.ok .next) s') :
    wpAny (model X.prog X.w) X.A (comprehension (.SetComp elt [⟨tg, iter, ifs, 0⟩] scope pos) scope X.env pos' (newSet (.type "set")) false (eval iter X.env) use) Qf X.xe s := by
  have cells : ∀ y ∈ scope.names, y.2 = .free → ∃ c, X.env.cells.lookup y.1 = some c := fun y hy e => (ok.free y hy e).elim (fun k => I.ok.has _ (.inl k)) fun k => I.ok.has _ (.inr k)
  refine wpAny_comprehension_free (use := use) rfl hs (closure_ok cells) ok.kind (fun y hy e => by rw [ok.uniq y hy, e]) (thn (hi.run pins s σ H _ I h) fun xv s1 hx => thn hx fun itv s2 ⟨it, fp, tn, J, H2, ev, I2, T, st2, f2, q⟩ => ?_)
  subst ev
  refine PpSet.newSet_ok (newEnv_comp ?_)
  have newD : H2 s2.heap.objs.size = none := I2.hok.fresh (Nat.le_refl _)
  obtain ⟨U, ⟨m0, w0⟩, turn⟩ := q _ newD
  -- the set laid
  have I3 : Inv X pins σ (upd H2 s2.heap.objs.size (SetO X.w s2.heap.objs.size (fun _ => false) 0)) { s2 with heap := s2.heap.push (setO0 X.w) } := I2.laid (t' := s2.toks) (fun b o e => Heap.get?_push_of_some _ e) (Nat.le_refl _) (setO_new (setR_zero X.w))
  have young : ∀ b ∈ fp, b < s2.heap.objs.size := fun b hb => let ⟨o, e, _⟩ := T.obj _ _ st2 b hb; Heap.lt_size e
  have f3 : ∀ b ∈ fp, FpOk X pins (upd H2 s2.heap.objs.size (SetO X.w s2.heap.objs.size (fun _ => false) 0)) b ∧ b < (s2.heap.push (setO0 X.w)).objs.size := fun b hb =>
    ⟨⟨by rw [upd_ne (Nat.ne_of_lt (young b hb))]; exact (f2 b hb).1, (f2 b hb).2⟩, by rw [Heap.size_push]; exact Nat.lt_succ_of_lt (young b hb)⟩
  have st3 : tn 0 (s2.heap.push (setO0 X.w)) := T.keep _ _ _ st2 fun b _ o e => Heap.get?_push_of_some _ e
  generalize hD : s2.heap.objs.size = D at I3 f3 w0 turn newD
  generalize hs3 : ({ s2 with heap := s2.heap.push (setO0 X.w) } : Shared) = s3 at I3
  have h3 : s3.heap = s2.heap.push (setO0 X.w) := by rw [← hs3]
  rw [← h3] at st3 f3
  generalize hH3 : upd H2 D (SetO X.w D (fun _ => false) 0) = H3 at I3 f3 w0
  have I4 := block_start I3 ok hN f3
  have pg := hg s3 H3 s3.heap.objs.size (cellsFrom (s3.heap.objs.size + 1) scope.names (cloFrom X.env.cells scope.names [])) fp
  have pt := ht s3 H3 s3.heap.objs.size (cellsFrom (s3.heap.objs.size + 1) scope.names (cloFrom X.env.cells scope.names [])) fp
  have pe := he s3 H3 s3.heap.objs.size (cellsFrom (s3.heap.objs.size + 1) scope.names (cloFrom X.env.cells scope.names [])) fp
  have goal : codeAny (model X.prog X.w) X.A (.compStart (.SetComp elt [⟨tg, iter, ifs, 0⟩] scope pos) 0 (.ref it) (.ref D) (compEnvC scope (cellsFrom (s3.heap.objs.size + 1) scope.names (cloFrom X.env.cells scope.names [])) s3.heap.objs.size X.env)) (compPost (model X.prog X.w) X.A X.xe use Qf (.ref D) s3.heap.objs.size) { s3 with heap := pushCells (s3.heap.push { cls := .type "dict", data := .dict #[] }) scope.names } := by
    have free0 : ∀ b ∈ fp, H3 b = none := fun b hb => (f3 b hb).1.1
    generalize hce : compEnvC scope (cellsFrom (s3.heap.objs.size + 1) scope.names (cloFrom X.env.cells scope.names [])) s3.heap.objs.size X.env = ce at I4 pg pt pe ⊢
    have cL : ce.locals = s3.heap.objs.size := by subst hce; rfl
    generalize hs4 : ({ s3 with heap := pushCells (s3.heap.push { cls := .type "dict", data := .dict #[] }) scope.names } : Shared) = s4 at I4 ⊢
    have st4 : tn 0 s4.heap := T.keep _ _ _ st3 fun b _ o e => by rw [← hs4]; exact pushCells_keeps _ _ _ _ (Heap.get?_push_of_some _ e)
    have its : ∀ {σ' : L2.St} {H' : Hp} {s' : Shared}, Inv (X.blk s3 H3 scope ce fp) [] σ' H' s' → (∀ b ∈ fp, H' b = none) → ∀ b ∈ fp, FpOk (X.blk s3 H3 scope ce fp) [] H' b := fun {σ' H' s'} I' hn b hb =>
      ⟨hn b hb, (I'.ok.exf b hb).1, I'.ok.exfs b hb, .inl hb, fun x c e => (I'.ok.exf b hb).2 x c e, fun p hp => absurd (show p ∈ ([] : List (Addr × Obj)) ++ [] from hp) (by simp)⟩
    have loop : codeAny (model X.prog X.w) X.A (.compLoop (.SetComp elt [⟨tg, iter, ifs, 0⟩] scope pos) 0 (.ref it) (.ref D) ce) (compPost (model X.prog X.w) X.A X.xe use Qf (.ref D) s3.heap.objs.size) s4 := by
      refine PpSet.compLoopS_any (fun n s' => ∃ i H', Inv (X.blk s3 H3 scope ce fp) [] (L2.wipe σ (own.map (·.2))) H' s' ∧ tn i s'.heap ∧ (∀ b ∈ fp, H' b = none) ∧ U i n H') ?_ m0 ⟨0, H3, I4, st4, free0, w0⟩
      rintro n s5 ⟨i, H5, I5, st5, n5, w5⟩
      rcases turn i n H5 w5 with ⟨stop, qq⟩ | ⟨go, Nx, hNx, step⟩
      · refine thnF (T.done (X.blk s3 H3 scope ce fp) rfl rfl rfl hc i [] s5 _ H5 (fun _ _ => False) I5 (its I5 n5) st5 stop) fun r s6 ⟨hr, I6⟩ => ?_
        subst hr
        have I7 : Inv X pins σ H5 s6 := I3.call' (ch := fp) I6.os I6.base I6.hok I6.bare fun b hb => ⟨(f3 b hb).1.2.2.2.1, (f3 b hb).1.2.1, (f3 b hb).1.2.2.2.2.1, (f3 b hb).1.2.2.2.2.2⟩
        have nC : H5 s3.heap.objs.size = none := by
          have z : H5 ce.locals = none := I6.free
          rwa [cL] at z
        obtain ⟨m, hn, _⟩ := I6.loc
        have hn : s6.heap.Ns ce.locals m := hn
        rw [cL] at hn
        exact fin D s3.heap.objs.size s6 m H5 I7 qq hn (I3.fpOk (Nat.le_refl _) nC)
      · refine thnF (T.item (X.blk s3 H3 scope ce fp) rfl rfl rfl hc i [] s5 _ H5 (fun _ _ => False) I5 (its I5 n5) st5 go) fun r s6 ⟨u, hr, h6⟩ => ?_
        subst hr
        refine thnF h6 fun _ s7 ⟨x, H7, I7, r7, y7, st7, n7⟩ => ?_
        refine thnF (pg.run _ s7 _ H7 x u _ (I7.pinned (its I7 n7) (T.obj _ _ st7)) r7 (step x H7 y7)) fun _ s8 ⟨σ8, H8, I8, hw8, q8⟩ => ?_
        refine thnF (pt.run _ s8 σ8 H8 _ I8 q8) fun b s9 ⟨H9, I9, q9⟩ => ?_
        have again : ∀ {s' : Shared} {H' : Hp}, Inv (X.blk s3 H3 scope ce fp) ([] ++ pinsAt fp s7.heap) σ8 H' s' → Nx H' → ∃ m, m < n ∧ ∃ i H', Inv (X.blk s3 H3 scope ce fp) [] (L2.wipe σ (own.map (·.2))) H' s' ∧ tn i s'.heap ∧ (∀ b ∈ fp, H' b = none) ∧ U i m H' := fun {s' H'} I' nx => by
          obtain ⟨m', hm, w'⟩ := hNx H' nx
          have still : ∀ b ∈ fp, ∀ o, s7.heap.get? b = some o → s'.heap.get? b = some o ∧ H' b = none := fun b hb o e =>
            have z := I'.pin (b, o) (List.mem_append_right _ (List.mem_append_right _ (mem_pinsAt hb e)))
            ⟨z.1, z.2.1⟩
          refine ⟨m', hm, i + 1, H', (I'.unpinned (pins := [])).weak (by rw [← hw8, wipe_length]) (fun j v e => (wipe_some (hw8 ▸ e)).1), T.keep _ _ _ st7 fun b hb o e => (still b hb o e).1, fun b hb => ?_, w'⟩
          obtain ⟨o, e, _⟩ := T.obj _ _ st7 b hb
          exact (still b hb o e).2
        cases b with
        | false => exact again I9 (by simpa using q9)
        | true =>
          simp only [if_true] at q9 ⊢
          refine thnF (pe.run _ s9 σ8 H9 _ I9 q9) fun z s10 ⟨yv, H10, I10, r10, k, S0, n0, ey, hD10, hz10, nx⟩ => ?_
          subst ey
          obtain ⟨tk, rfl⟩ := (show ∃ t, z = Value.int k t from r10)
          exact add_int (X := X.blk s3 H3 scope ce fp) I10 hD10 hz10 fun s11 I11 => again I11 nx
    exact PpSet.codeAny_compStart_set loop (T.self X.A 0 _ _ _ st4 loop)
  subst hD hs3
  exact goal
theorem pe_setI {elt tg iter : Expr} {ifs : List Expr} {scope : Scope} {own : List (PySem.Str × Nat)} {pos : Pos} {wi : TI} {g : TG} {tt : TT} {te : TE} (hc : X.calm = true) (hN : X.N.Nodup) (hi : PI X tg iter wi) (ok : BlkOk X.N X.env.scope scope own)
    (hg : ∀ (s : Shared) (H : Hp) (C : Addr) (cl : List (PySem.Str × Addr)) (fp : List Addr), PG (X.blk s H scope (compEnvC scope cl C X.env) fp) tg g) (ht : ∀ (s : Shared) (H : Hp) (C : Addr) (cl : List (PySem.Str × Addr)) (fp : List Addr), PTs (X.blk s H scope (compEnvC scope cl C X.env) fp) ifs tt)
    (he : ∀ (s : Shared) (H : Hp) (C : Addr) (cl : List (PySem.Str × Addr)) (fp : List Addr), PE (X.blk s H scope (compEnvC scope cl C X.env) fp) elt te) (hs : ∀ x, foldedSetIterable iter X.env x = pure x := by intro _; rfl) :
    PE X (.SetComp elt [⟨tg, iter, ifs, 0⟩] scope pos) (tSetI X.w wi g tt te (own.map (·.2))) := by
  refine ⟨fun pins s σ H Q I h => ?_⟩
  rw [PpSet.eval_SetComp]
  refine setI_core hc hN I hi ok hg ht he hs h fun D C s' m H' I' q hn ⟨f0, f1, f2, f3, f4, f5⟩ => ⟨m, hn, fun h'' sb => ?_⟩
  exact ⟨.ref D, H', I'.turned (t' := s'.toks) (fun b o hb e => (sb.2 b hb).trans e) f0 f1 f3 f4 f5, rfl, q⟩
end
end Dl
set_option maxHeartbeats 400000
/-! Layer D, part 20: set comprehensions of ints over data. -/
namespace Dl
open PySem PySem.Spec PyProof.Rows L2 RZ
def scInts (ds : List D) : Option (List Int) := match toInts ds with
  | some ns => if ns.length ≤ 4000 then some ns else none
  | none => none
theorem scInts_eq {ds : List D} {ns : List Int} (h : scInts ds = some ns) : ds = ns.map D.int ∧ ns.length ≤ 4000 := by
  unfold scInts at h
  cases q : toInts ds with
  | none => rw [q] at h; cases h
  | some ms =>
    rw [q] at h
    by_cases hl : ms.length ≤ 4000
    · simp only [if_pos hl] at h
      cases h
      exact ⟨toInts_eq q, hl⟩
    · simp only [if_neg hl] at h; cases h
theorem scInts_mid {accD r : List D} {y : D} {ns : List Int} (h : scInts (accD ++ (y :: r)) = some ns) : ∃ k, y = .int k ∧ accD.length + 1 ≤ 4000 := by
  obtain ⟨e, hl⟩ := scInts_eq h
  have hy : y ∈ ns.map D.int := by rw [← e]; simp
  obtain ⟨k, _, ek⟩ := List.mem_map.mp hy
  refine ⟨k, ek.symm, ?_⟩
  have : (accD ++ (y :: r)).length = ns.length := by rw [e, List.length_map]
  simp at this
  omega
def fSc (src : M (List D)) (vs : List Nat) (t : D → M Unit) (c : M Bool) (el : M D) : M (List Int) := bd (fLc src vs t c el) fun ds => li (scInts ds)
theorem sc_ok {w : World} {K : PySem.W.Frag} {mg : Str → Option Value} {wi : TI} {g : TG} {tt : TT} {te : TE} {vs : List Nat} {src : M (List D)} {W : WX} {t : D → M Unit} {c : M Bool} {el : M D} (ei : EvI K mg W wi src) (eg : EvGv K mg vs g t) (ec : EvB K mg WNo tt c) (ee : EvD K mg WNo te el) : EvQ K mg w W (tSetI w wi g tt te vs) (fSc src vs t c el) := by
  intro Z B σ H e Q S h
  refine ei Z B σ H e _ S ((wp_bd.mp (wp_bd.mp h)).imp (fun ds e1 h1 J B1 H1 S1 l1 wk => ?_) fun x e' q => q)
  have h1 : (if ds.length ≤ 16777216 ∧ noOwn vs e1 = true then (match lcLoop vs t c el ds (wipeE vs e1) with
    | .ok r e' => Res.ok r (restE vs e1 e') | _ => .bad) else .bad).wp (fun ds e' => (li (scInts ds) e').wp (PQ K mg w Z B σ Q) (PX K mg Z B σ W)) (PX K mg Z B σ W) := h1
  split at h1
  · rename_i hc
    obtain ⟨hz, no⟩ := hc
    intro L hL
    obtain ⟨S2, hB, h0, hf⟩ := S1.newO (o := SetO w L (fun _ => false) 0) hL
    refine ⟨fun i m H3 => ∃ B3 e3 S0 n accD, Same B1 B3 ∧ SR K mg Z B3 (L2.wipe σ vs) H3 e3 ∧ H3 L = some (SetO w L S0 n) ∧ n ≤ accD.length ∧ (∀ k : Int, S0 k = true ↔ D.int k ∈ accD) ∧ B3 L = none ∧ Free (L2.wipe σ vs) e3 L ∧ m = ds.length - i ∧ i ≤ ds.length ∧
      (lcLoop vs t c el (ds.drop i) e3).wp (fun r e' => ∃ ns, scInts (accD ++ r) = some ns ∧ PQ K mg w Z B σ Q ns (restE vs e1 e')) (fun _ _ => False), ⟨ds.length, B1, _, _, 0, [], Same.refl B1, S2.wipe vs, upd_same, Nat.le_refl _, (fun k => by simp), hB, hf.wipe, by simp, Nat.zero_le _, ?_⟩, ?_⟩
    · rw [List.drop_zero]
      cases q : lcLoop vs t c el ds (wipeE vs e1) with
      | ok r e' => rw [q] at h1; exact wp_li h1
      | exc x e' => rw [q] at h1; exact h1
      | bad => rw [q] at h1; exact h1
    · rintro i m H3 ⟨B3, e3, S0, n0, accD, l3, S3, hA, hlen, hS0, hB3, hf3, rfl, hi, h3⟩
      by_cases hlt : i < ds.length
      · refine .inr ?_
        rw [List.drop_eq_getElem_cons hlt] at h3
        have h3 := wp_bd.mp h3
        have h3 : (match (bd (noExc (t ds[i])) fun _ => bd c fun b => if b = true then bd el fun y => pu (some y) else pu none) (refE e3) with
          | .ok o e' => if e'.length = e3.length then Res.ok o (fixE vs e3 e') else .bad
          | _ => .bad).wp _ _ := h3
        have Sr := S3.reenter
        obtain ⟨wg, wy⟩ := wk.go i ds[i] _ (L2.wipe σ vs) H3 (refE e3) B3 l3 Sr (by simp [hlt])
        refine ⟨wg, fun H' => ∃ B4 e4 S' n' accD', Same B1 B4 ∧ SR K mg Z B4 (L2.wipe σ vs) H' e4 ∧ H' L = some (SetO w L S' n') ∧ n' ≤ accD'.length ∧ (∀ k : Int, S' k = true ↔ D.int k ∈ accD') ∧ B4 L = none ∧ Free (L2.wipe σ vs) e4 L ∧
          (lcLoop vs t c el (ds.drop (i + 1)) e4).wp (fun r e' => ∃ ns, scInts (accD' ++ r) = some ns ∧ PQ K mg w Z B σ Q ns (restE vs e1 e')) (fun _ _ => False), fun H' ⟨B4, e4, S', n', accD', w1, w2, w3, w4, w5, w6, w7, w8⟩ => ⟨ds.length - (i + 1), by omega, B4, e4, S', n', accD', w1, w2, w3, w4, w5, w6, w7, rfl, hlt, w8⟩, fun x H4 y => ?_⟩
        obtain ⟨⟨B4, S4, l4, a4⟩, keep4⟩ := wy x H4 y
        -- the turn's own run, in the state entered anew
        cases qt : (bd (noExc (t ds[i])) fun _ => bd c fun b => if b = true then bd el fun y => pu (some y) else pu none) (refE e3) with
        | bad => rw [qt] at h3; exact False.elim h3
        | exc z e5 => rw [qt] at h3; exact False.elim h3
        | ok o e5 =>
          rw [qt] at h3
          have h3 : (if e5.length = e3.length then Res.ok o (fixE vs e3 e5) else .bad).wp _ _ := h3
          split at h3
          · rename_i hl5
            have h3 := wp_bd.mp h3
            have run : ((bd (noExc (t ds[i])) fun _ => bd c fun b => if b = true then bd el fun y => pu (some y) else pu none) (refE e3)).wp (fun o' e' => o' = o ∧ e' = e5) fun _ _ => False := by rw [qt]; exact ⟨rfl, rfl⟩
            have fin : ∀ {B6 σ6 H6}, Same B4 B6 → SR K mg ⟨B3, H3, ownA (L2.wipe σ vs) e3, L2.wipe σ vs⟩ B6 σ6 H6 e5 → L2.wipe σ6 vs = L2.wipe σ vs → SR K mg Z B6 (L2.wipe σ vs) H6 (fixE vs e3 e5) ∧ B6 L = none ∧ H6 L = some (SetO w L S0 n0) ∧ Free (L2.wipe σ vs) (fixE vs e3 e5) L := fun {B6 σ6 H6} l6 S6 hw6 => by
              refine ⟨S3.exit S6 (hw6.trans (wipe_wipe σ vs).symm) hl5, ?_, S6.fh L _ hA fun m => ?_, fun j hj => hf3 j (ownAt_fixE hl5 hj)⟩
              · cases q : B6 L with
                | none => rfl
                | some u =>
                  rcases S6.nb L u q with z | z
                  · have z : B3 L = some u := z
                    rw [hB3] at z; cases z
                  · have z : H3 L = none := z
                    rw [hA] at z; cases z
              · obtain ⟨j, hj, ej⟩ := mem_ownA.mp m
                exact hf3 j hj ej
            refine eg _ B4 (L2.wipe σ vs) H4 (refE e3) x _ _ S4 a4 ((noExc_wp (wp_bd.mp run)).imp (fun _ e6 r6 σ6 B6 H6 hw6 S6 l6 => ⟨hw6.trans (wipe_wipe σ vs), ?_⟩) fun z e' q => q)
            refine ec _ B6 σ6 H6 e6 _ S6 ((wp_bd.mp r6).imp (fun b e7 r7 B7 H7 S7 l7 => ?_) fun z e' q => False.elim q)
            cases b with
            | true =>
              rw [if_pos rfl]
              refine ee _ B7 σ6 H7 e7 _ S7 ((wp_bd.mp r7).imp (fun yd e8 r8 v B8 H8 S8 l8 a8 => ?_) fun z e' q => False.elim q)
              obtain ⟨ho, he⟩ := (show some yd = o ∧ e8 = e5 from r8)
              subst ho he
              obtain ⟨SE, hB8, hH8, hf8⟩ := fin ((l6.trans l7).trans l8) S8 (hw6.trans (wipe_wipe σ vs))
              have up : Same B3 B8 := ((l4.trans l6).trans l7).trans l8
              obtain ⟨k, hk, hlk⟩ : ∃ k, yd = .int k ∧ accD.length + 1 ≤ 4000 := by
                have h3 : (lcLoop vs t c el (ds.drop (i + 1)) (fixE vs e3 e8)).wp _ _ := h3
                cases q : lcLoop vs t c el (ds.drop (i + 1)) (fixE vs e3 e8) with
                | ok r e' =>
                  rw [q] at h3
                  obtain ⟨ns, hns, _⟩ := h3
                  exact scInts_mid (accD := accD) (y := yd) (r := r) hns
                | exc z e' => rw [q] at h3; exact False.elim h3
                | bad => rw [q] at h3; exact False.elim h3
              subst hk
              refine ⟨k, S0, n0, a8.int_inv, hH8, by unfold scanBound; omega, B8, _, _, _, accD ++ [.int k], l3.trans up, SE.poke hB8 h0 hf8, upd_same, ?_, fun j => ?_, hB8, hf8, ?_⟩
              · rw [List.length_append]
                show _ ≤ accD.length + 1
                split <;> omega
              · rw [Bool.or_eq_true, hS0, decide_eq_true_eq, List.mem_append, List.mem_singleton]
                exact ⟨fun z => z.elim .inl fun q => .inr (by rw [q]), fun z => z.elim .inl fun q => .inr (by injection q)⟩
              · exact h3.imp (fun r e' q => by rw [List.append_assoc]; exact q) fun z e' q => q
            | false =>
              rw [if_neg Bool.false_ne_true]
              obtain ⟨ho, he⟩ := (show none = o ∧ e7 = e5 from r7)
              subst ho he
              obtain ⟨SE, hB8, hH8, hf8⟩ := fin (l6.trans l7) S7 (hw6.trans (wipe_wipe σ vs))
              have up : Same B3 B7 := (l4.trans l6).trans l7
              exact ⟨B7, _, S0, n0, accD, l3.trans up, SE, hH8, hlen, hS0, hB8, hf8, h3.imp (fun r e' q => q) fun z e' q => q⟩
          · exact False.elim h3
      · have hle : ds.length ≤ i := by omega
        refine .inl ⟨wk.stop i Z (L2.wipe σ vs) H3 e3 B3 l3 S3 hle, ?_⟩
        rw [List.drop_eq_nil_of_le hle] at h3
        obtain ⟨ns, hns, h3⟩ := (show ∃ ns, scInts (accD ++ []) = some ns ∧ PQ K mg w Z B σ Q ns (restE vs e1 e3) from h3)
        rw [List.append_nil] at hns
        have SU := S1.unwipe no l3 S3
        obtain ⟨e4, _⟩ := scInts_eq hns
        exact h3 L S0 n0 B3 H3 SU (l1.trans l3) hA (by rw [← List.length_map (as := ns) (f := D.int), ← e4]; exact hlen) fun k => by
          rw [hS0, e4, List.mem_map]
          exact ⟨fun ⟨x, hx, ex⟩ => by injection ex with ex; rw [← ex]; exact hx, fun hx => ⟨k, hx, rfl⟩⟩
  · exact False.elim h1
section
variable {X : Cx} {W : WX} {vs : List Nat} {tg a : Expr} {pos : Pos} {elt iter : Expr} {ifs : List Expr} {scope : Scope} {own : List (Str × Nat)} {src : M (List D)} {t : D → M Unit} {c : M Bool} {el : M D}
theorem pqd_sc (hc : X.calm = true) (hN : X.N.Nodup) (hi : PID X W tg iter src) (ok : BlkOk X.N X.env.scope scope own)
    (ht : ∀ (s : Shared) (H : Hp) (C : Addr) (cl : List (Str × Addr)) (fp : List Addr), PGV (X.blk s H scope (compEnvC scope cl C X.env) fp) (own.map (·.2)) tg t) (hcn : ∀ (s : Shared) (H : Hp) (C : Addr) (cl : List (Str × Addr)) (fp : List Addr), PTsD (X.blk s H scope (compEnvC scope cl C X.env) fp) WNo ifs c)
    (he : ∀ (s : Shared) (H : Hp) (C : Addr) (cl : List (Str × Addr)) (fp : List Addr), PED (X.blk s H scope (compEnvC scope cl C X.env) fp) WNo elt el) (hs : ∀ x, foldedSetIterable iter X.env x = pure x := by intro _; rfl) : PQD X W (.SetComp elt [⟨tg, iter, ifs, 0⟩] scope pos) (fSc src (own.map (·.2)) t c el) := by
  obtain ⟨wi, pi, ei⟩ := hi
  refine ⟨_, pe_setI (g := canG X.K X.mg (own.map (·.2)) t) (tt := canB X.K X.mg WNo c) (te := canD X.K X.mg WNo el) hc hN pi ok (fun s H C cl fp => (ht s H C cl fp).can) (fun s H C cl fp => (hcn s H C cl fp).can) (fun s H C cl fp => (he s H C cl fp).can) hs, sc_ok ei ?_ ?_ ?_⟩
  · exact fun Z B σ H e v d Q S a h => ⟨Z, B, e, d, S, a, h⟩
  · exact fun Z B σ H e Q S h => ⟨Z, B, e, S, h⟩
  · exact fun Z B σ H e Q S h => ⟨Z, B, e, S, h⟩
end
end Dl
set_option maxHeartbeats 1000000
/-! Layer D, part 21: enumerate of a tuple. -/
namespace Dl
open PySem PySem.Spec PyProof.Rows L2 RZ
open AutoSeq1 (wpAny_loadPart')
end Dl
set_option maxHeartbeats 400000
/-! Layer D, part 22: chains, count, max and min of lists, tuples joined, global ints, len by an own __len__, own operators with an int. -/
namespace Dl
open PySem PySem.Spec PyProof.Rows L2 RZ
/-! ### a op b op2 c, of ints or what else the operators take; each answer a bool -/
/-! ### tuples joined -/
section
variable {K : PySem.W.Frag} {mg : Str → Option Value} {W : WX}
def dCatS : D → D → M D := fun a b => li (match a, b with
  | .str x, .str y => if x.length + y.length ≤ 16777216 then some (.str (x ++ y)) else none
  | _, _ => none)
theorem od_catS : OpD K mg W (fun x y H Q => ∃ i j, x = .str i ∧ y = .str j ∧ i.length + j.length ≤ sizeLine ∧ Q (.str (i ++ j)) H) dCatS := by
  intro Z B σ H e x y a b Q S ha hb q
  obtain ⟨d, h1, h2⟩ := wp_li q
  cases a with
  | str i => cases b with
    | str j =>
      have h1 : (if i.length + j.length ≤ 16777216 then some (D.str (i ++ j)) else none) = some d := h1
      by_cases hz : i.length + j.length ≤ 16777216
      · rw [if_pos hz] at h1
        cases h1
        exact ⟨i, j, ha.str_inv, hb.str_inv, sz hz, h2 _ B H S (Same.refl B) (.str _)⟩
      · rw [if_neg hz] at h1; cases h1
    | _ => cases h1
  | _ => cases h1
end
/-! ### xs.count(k), ints; a global int -/
end Dl
set_option maxHeartbeats 400000
/-! Layer D, part 23: several names stored at once, some of them new lists. -/
namespace Dl
open PySem PySem.Spec PyProof.Rows L2 RZ
inductive Itm where
  | d (d : D) | n (ds : List D)
/-- v is the datum, or a new list that nothing knows -/
def ItR (K : PySem.W.Frag) (mg : Str → Option Value) (Z : Ent) (B H : Hp) (σ : St) (e : En) (v : V) : Itm → Prop
  | .d d => At K mg B v d
  | .n ds => ∃ p xs, v = .ref p ∧ H p = some (.lst xs) ∧ AtL K mg B xs ds ∧ B p = none ∧ Z.H0 p = none ∧ Free σ e p
/-- .. the new ones apart -/
inductive ItsR (K : PySem.W.Frag) (mg : Str → Option Value) (Z : Ent) (B H : Hp) (σ : St) (e : En) : List V → List Itm → Prop
  | nil : ItsR K mg Z B H σ e [] []
  | cons {v : V} {vs : List V} {t : Itm} {ts : List Itm} : ItR K mg Z B H σ e v t → (∀ (ds : List D), t = .n ds → ∀ (j : Nat) (ms : List D), ts[j]? = some (Itm.n ms) → vs[j]? ≠ some v) → ItsR K mg Z B H σ e vs ts → ItsR K mg Z B H σ e (v :: vs) (t :: ts)
section
variable {K : PySem.W.Frag} {mg : Str → Option Value} {Z : Ent} {B B' : Hp} {σ : St} {H H' : Hp} {e e' : En} {W : WX}
theorem ItsR.length : ∀ {vs : List V} {ts : List Itm}, ItsR K mg Z B H σ e vs ts → vs.length = ts.length
  | _, _, .nil => rfl
  | _, _, .cons _ _ t => congrArg (· + 1) (ItsR.length t)
theorem ItsR.get : ∀ {vs : List V} {ts : List Itm} {j : Nat} {t : Itm}, ItsR K mg Z B H σ e vs ts → ts[j]? = some t → ∃ v, vs[j]? = some v ∧ ItR K mg Z B H σ e v t
  | _, _, 0, _, .cons r _ _, h => by simp at h; subst h; exact ⟨_, rfl, r⟩
  | _, _, j + 1, _, .cons _ _ t, h => by
    obtain ⟨v, h1, h2⟩ := ItsR.get (j := j) t (by simpa using h)
    exact ⟨v, by simpa using h1, h2⟩
  | _, _, _, _, .nil, h => by simp at h
variable {X : Cx} {a : Expr} {es : List Expr} {fa : M D} {fn : M (List D)} {fr : M (List Itm)} {pos : Pos}
/-! ### stored -/
theorem free_set {p q : Addr} {i : Nat} {s : Sl} (hf : Free σ e p) (hpq : s.isOwn = true → q ≠ p) : Free (σ.set i (some (.ref q))) (e.set i s) p := fun j hj ej => by
  rcases ownAt_set hj with ⟨rfl, ho⟩ | ⟨nj, hj'⟩
  · rw [List.getElem?_set] at ej
    simp only [if_true] at ej
    split at ej
    · cases ej; exact hpq ho rfl
    · cases ej
  · rw [List.getElem?_set_ne (Ne.symm nj)] at ej
    exact hf j hj' ej
theorem ItsR.setO {i : Nat} {q : Addr} {ls : List D} {vs : List V} {ts : List Itm} (r : ItsR K mg Z B H σ e vs ts) : (∀ (j : Nat) (ms : List D), ts[j]? = some (Itm.n ms) → vs[j]? ≠ some (V.ref q)) → ItsR K mg Z B H (σ.set i (some (.ref q))) (e.set i (.own false ls)) vs ts := by
  induction r with
  | nil => exact fun _ => .nil
  | @cons v vs t ts r n rr ih =>
    intro hq
    refine .cons ?_ n (ih fun j ms h => by simpa using hq (j + 1) ms (by simpa using h))
    cases t with
    | d d => exact r
    | n ds =>
      obtain ⟨p, xs, rfl, h1, h2, h3, h4, h5⟩ := r
      exact ⟨p, xs, rfl, h1, h2, h3, h4, free_set h5 fun _ z => hq 0 ds rfl (by rw [z]; rfl)⟩
theorem ItsR.keep {vs : List V} {ts : List Itm} (hk : ∀ a o, H a = some o → H' a = some o) (r : ItsR K mg Z B H σ e vs ts) : ItsR K mg Z B H' σ e vs ts := by
  induction r with
  | nil => exact .nil
  | @cons v vs t ts r n rr ih =>
    refine .cons ?_ n ih
    cases t with
    | d d => exact r
    | n ds => obtain ⟨p, xs, ev, g1, g2⟩ := r; exact ⟨p, xs, ev, hk _ _ g1, g2⟩
variable {b c : Expr} {i j l : Nat} {x y z : Str} {px py pz pt : Pos} {kt k2 : Nat} {pt2 : Pos}
end
end Dl
set_option maxHeartbeats 400000
/-! Layer D, part 24: a block within a block. -/
namespace Dl
open PySem PySem.Spec PyProof.Rows L2 RZ
end Dl
set_option maxHeartbeats 1000000
/-! Layer D, part 25: == and != of lists and tuples whose items have an own ==, either answer. -/
set_option maxHeartbeats 1000000
/-! Layer D, part 26: == and != of lists and tuples of instances of one own class. -/
namespace Dl
open PySem PySem.Spec PyProof.Rows L2 RZ
/-! ### data that no value stands for at once -/
/-! ### the answer, item by item -/
/-! ### the rules -/
end Dl
set_option maxHeartbeats 1000000
/-! Layer D, part 27: xs[::-1], is of bools. -/
namespace Dl
open PySem PySem.Spec PyProof.Rows L2 RZ
end Dl
set_option maxHeartbeats 400000
/-! Layer P: typed mirrors. A def's mirror over data is followed by a plain function into options; none where the mirror has no answer. -/
namespace Dl
open PySem PySem.Spec PyProof.Rows L2 RZ
/-! ### slots forgotten -/
def wkE : List Nat → En → En
  | [], e => e | j :: js, e => wkE js (e.set j .no)
def fWk (js : List Nat) (g : M Fl) : M Fl := bd g fun f => fun e => .ok f (wkE js e)
section
variable {K : PySem.W.Frag} {mg : Str → Option Value} {Z : Ent} {B : Hp} {σ : St} {H : Hp} {e : En} {X : Cx} {W : WX}
theorem wkE_own : ∀ {js : List Nat} {e : En} {i : Nat}, ownAt (wkE js e) i → ownAt e i
  | [], _, _, h => h
  | j :: js, e, i, h => by
    have h1 := wkE_own (js := js) h
    rcases ownAt_set h1 with ⟨_, z⟩ | ⟨_, z⟩
    · cases z
    · exact z
theorem SR.wk : ∀ {js : List Nat} {e : En}, SR K mg Z B σ H e → SR K mg Z B σ H (wkE js e)
  | [], _, S => S
  | j :: js, e, S => SR.wk (js := js) (S.weak (i := j) (s := .no) (fun _ => trivial) fun z => nomatch z)
theorem wk_F {js : List Nat} {Y : Ends} {f : Fl} (h : PF K mg Z B Y f (wkE js e)) : PF K mg Z B Y f e := by
  cases f with
  | nx => exact fun σ' B' H' S l => h σ' B' H' S.wk l
  | rt d => exact fun v σ' B' H' S l a => h v σ' B' H' S.wk l a
  | bk => exact fun σ' B' H' S l => h σ' B' H' S.wk l
  | ct => exact fun σ' B' H' S l => h σ' B' H' S.wk l
  | rn ds => exact fun p xs σ' B' H' S l a1 a2 a3 a4 a5 => h p xs σ' B' H' S.wk l a1 a2 a3 a4 fun i hi => a5 i (wkE_own hi)
theorem ev_wk {ts : TS} {g : M Fl} {js : List Nat} (h : EvS K mg W ts g) : EvS K mg W ts (fWk js g) := fun Z B σ H e Y S q =>
  h Z B σ H e Y S ((wp_bd.mp q).imp (fun f e1 h1 => wk_F h1) fun x e' q => q)
theorem psd_wk {st : Stmt} {g : M Fl} (js : List Nat) (h : PSD X W st g) : PSD X W st (fWk js g) := by
  obtain ⟨ts, p, e⟩ := h
  exact ⟨ts, p, ev_wk e⟩
theorem pssd_wk {sts : List Stmt} {g : M Fl} (js : List Nat) (h : PSsD X W sts g) : PSsD X W sts (fWk js g) := by
  obtain ⟨ts, p, e⟩ := h
  exact ⟨ts, p, ev_wk e⟩
end
theorem fWk_ok {js : List Nat} {g : M Fl} {f : Fl} {e e1 e2 : En} (h : g e = .ok f e1) (hw : wkE js e1 = e2) : fWk js g e = .ok f e2 := by
  unfold fWk
  rw [bd_ok h, ← hw]
/-! ### encodings -/
abbrev Stp := Bool × Int
abbrev wd (b : Bool) : Str := if b then ("insert" : Str) else ("remove" : Str)
abbrev stD (x : Stp) : D := .tup [.str (wd x.1), .int x.2]
abbrev eL {α : Type} (f : α → D) (xs : List α) : D := .lst (xs.map f)
abbrev eT {α : Type} (f : α → D) (xs : List α) : D := .tup (xs.map f)
abbrev eP {α β : Type} (f : α → D) (g : β → D) (p : α × β) : D := .tup [f p.1, g p.2]
abbrev eP1 {α : Type} (f : α → D) (x : α) : D := .tup [f x]
abbrev eP3 {α β γ : Type} (f : α → D) (g : β → D) (h : γ → D) (p : α × β × γ) : D := .tup [f p.1, g p.2.1, h p.2.2]
abbrev tD (a : Int × List Int) : D := .obj "Table" ["base", "gone"] [.int a.1, .tup (a.2.map D.int)]
abbrev sqD (xs : List Stp) : D := .obj "Sequence" ["parts"] [.tup (xs.map stD)]
/-- .. by its fields -/
abbrev Eff := List Int × List (Int × List Int)
abbrev eF (f : Eff) : D := .obj "Effect" ["cuts", "maps"] [.tup (f.1.map D.int), .tup (f.2.map tD)]
def sqG {α : Type} (f : α → D) (p : Bool × List α) : D := if p.1 then .tup (p.2.map f) else .lst (p.2.map f)
/-! ### what a typed function is made of -/
inductive Fw (R S : Type) where
  | nx (s : S) | rt (r : R) | bk (s : S)
theorem bsome {α β : Type} {o : Option α} {f : α → Option β} {b : β} (h : o.bind f = some b) : ∃ a, o = some a ∧ f a = some b := by
  cases o with
  | none => cases h
  | some a => exact ⟨a, rfl, h⟩
def forS {α S : Type} (f : α → S → Option S) : List α → S → Option S
  | [], s => some s
  | x :: xs, s => (f x s).bind fun s => forS f xs s
def forF {α R S : Type} (f : α → S → Option (Fw R S)) : List α → S → Option (Fw R S)
  | [], s => some (.nx s)
  | x :: xs, s => (f x s).bind fun w => match w with
    | .nx s => forF f xs s | .bk s => some (.nx s) | .rt r => some (.rt r)
def mulP (a b : Int) : Option Int := if cMul a b = true then some (a * b) else none
def divP (a b : Int) : Option Int := if 0 < b ∧ b.natAbs.log2 < 9000 then some (a / b) else none
def modP (a b : Int) : Option Int := if 0 < b then some (a % b) else none
def appP {α : Type} (xs : List α) (x : α) : Option (List α) := if xs.length < 16777216 then some (xs ++ [x]) else none
def catP {α : Type} (xs ys : List α) : Option (List α) := if xs.length + ys.length ≤ 16777216 then some (xs ++ ys) else none
def lstP {α : Type} (xs : List α) : Option (List α) := if xs.length ≤ 16777216 then some xs else none
def putP {α : Type} (xs : List α) (k : Int) (x : α) : Option (List α) := (ixN xs.length k).map fun j => xs.set j x
def cutP {α : Type} (xs : List α) (lo hi : Option Int) : List α := (xs.drop (HT.sIx xs.length 0 lo)).take (HT.sIx xs.length xs.length hi - HT.sIx xs.length 0 lo)
def rngP (lo hi : Int) : List Int := (List.range (hi - lo).toNat).map fun (i : Nat) => lo + (i : Int)
def setP (xs : List Int) : Option (List Int) := if xs.length ≤ 4000 then some xs else none
def srtP (xs : List Int) : Option (List Int) := if (usort xs).length < 64 then some (usort xs) else none
/-- a comprehension whose body always answers -/
def lcT {α β : Type} (xs : List α) (p : α → Bool) (g : α → β) : Option (List β) := if xs.length ≤ 16777216 then some ((xs.filter p).map g) else none
/-- .. that may have no answer -/
def lcO {α β : Type} (f : α → Option (Option β)) : List α → Option (List β)
  | [] => some []
  | x :: xs => (f x).bind fun o => (lcO f xs).bind fun r => some (match o with
    | some y => y :: r | none => r)
/-- .. that changes what stands outside -/
def lcS {α β S : Type} (f : α → S → Option (β × S)) : List α → S → Option (List β × S)
  | [], s => some ([], s)
  | x :: xs, s => (f x s).bind fun r => (lcS f xs r.2).bind fun q => some (r.1 :: q.1, q.2)
def lcG {α β : Type} (f : α → Option (Option β)) (xs : List α) : Option (List β) := if xs.length ≤ 16777216 then lcO f xs else none
def lcH {α β S : Type} (f : α → S → Option (β × S)) (xs : List α) (s : S) : Option (List β × S) := if xs.length ≤ 16777216 then lcS f xs s else none
end Dl
set_option maxHeartbeats 4000000
/-! Layer D, part 28: tuple * int, of any number. -/
namespace Dl
open PySem PySem.Spec PyProof.Rows L2 RZ
theorem tuple_mulW1 (l : Addr) (items : Array Value) (n : Nat) (dd : Option Addr) (sl : Array (Option Value)) (x : Int) (u : Tok) (c0 : (decide (x < -(2 ^ 63)) || decide (x ≥ 2 ^ 63)) = false) (c1 : (items.isEmpty || x == 1) = true) :
    Meets (Builtin.«tuple.__mul__» ⟨[.ref l, .int x u], []⟩) (fun _ R s => s.heap.get? l = some { cls := .type "tuple", dict := dd, data := .seq items n, slots := sl } ∧ R (.ok (.ret (Value.ref l))) s) :=
  .of_wp fun prog w A R s h => by
    obtain ⟨hp, g, d, tk, os⟩ := s
    obtain ⟨hl, h⟩ := h
    have f1 := AutoSeq1.idx_int
    have f2 := AutoSeq1.sub_tuple_tuple
    wp_walk using wpAny_loadPart' hl
    repeat (first
      | (refine wpAny_ite_false (decide_eq_false (by rw [c0]; exact Bool.false_ne_true)) ?_; wp_walk using wpAny_loadPart' hl)
      | (refine wpAny_ite_true (decide_eq_true (by rw [c1])) ?_; wp_walk using wpAny_loadPart' hl))
    exact ⟨_, rfl, h⟩
theorem tuple_mulW0 (l : Addr) (items : Array Value) (n : Nat) (dd : Option Addr) (sl : Array (Option Value)) (x : Int) (u : Tok) (c0 : (decide (x < -(2 ^ 63)) || decide (x ≥ 2 ^ 63)) = false) (c1 : (items.isEmpty || x == 1) = false) (c2 : (decide (x ≤ 0) || items.isEmpty) = true) :
    Meets (Builtin.«tuple.__mul__» ⟨[.ref l, .int x u], []⟩) (fun _ R s => s.heap.get? l = some { cls := .type "tuple", dict := dd, data := .seq items n, slots := sl } ∧ R (.ok (.ret (Value.ref s.heap.objs.size))) { s with heap := s.heap.push { cls := Value.type "tuple", data := Data.seq #[] }, toks := s.toks }) :=
  .of_wp fun prog w A R s h => by
    obtain ⟨hp, g, d, tk, os⟩ := s
    obtain ⟨hl, h⟩ := h
    have f1 := AutoSeq1.idx_int
    wp_walk using wpAny_loadPart' hl
    repeat (first
      | (refine wpAny_ite_false (decide_eq_false (by rw [c0]; exact Bool.false_ne_true)) ?_; wp_walk using wpAny_loadPart' hl)
      | (refine wpAny_ite_false (decide_eq_false (by rw [c1]; exact Bool.false_ne_true)) ?_; wp_walk using wpAny_loadPart' hl)
      | (refine wpAny_ite_true (decide_eq_true (by rw [c2])) ?_; wp_walk using wpAny_loadPart' hl))
    exact ⟨_, rfl, h⟩
/-- t * k -/
def rRepA (K : PySem.W.Frag) : R2 := fun x y H Q => ∃ l k xs, x = .ref l ∧ y = .int k ∧ SqT K H l xs ∧ xs ≠ [] ∧ -(2 ^ 63) ≤ k ∧ k ≤ 1000 ∧ xs.length ≤ 1000 ∧
  (k = 1 → Q (.ref l) H) ∧ (k ≠ 1 → ∀ p, H p = none → Q (.ref p) (upd H p (.tup (List.replicate k.toNat xs).flatten)))
section
variable {X : Cx}
theorem op_repA : OpR X (binaryOp .Mult) (rRepA X.K) := by
  intro pins s σ H x y v u Q I rx ry h
  obtain ⟨l, k, xs, rfl, rfl, hT, hne, h1, h2, hz, q1, q2⟩ := h
  by_cases hk2 : 2 ≤ k
  · exact op_repT pins s σ H _ _ v u Q I rx ry ⟨l, k, xs, rfl, rfl, hT, hne, hk2, h2, hz, q2 (by omega)⟩
  cases rx
  obtain ⟨t, rfl⟩ := ry
  obtain ⟨its, r, ⟨⟨cls, dd, data, sl⟩, ho, hc, n, hd⟩, hs⟩ := I.tuple hT
  simp only at hc hd
  subst hc hd
  have hle : its.length = xs.length := r.length.symm
  have hn : its ≠ [] := fun e => hne (by
    rw [e] at hle
    exact List.eq_nil_of_length_eq_zero hle.symm)
  have hi : its.toArray.isEmpty = false := by
    cases its with
    | nil => exact absurd rfl hn
    | cons a b => rfl
  have c0 : (decide (k < -(2 ^ 63)) || decide (k ≥ 2 ^ 63)) = false := by
    rw [decide_eq_false (by omega), decide_eq_false (by omega)] <;> rfl
  by_cases hk : k = 1
  · have c1 : (its.toArray.isEmpty || k == 1) = true := by
      rw [hi, Bool.false_or]
      exact beq_iff_eq.mpr hk
    exact wpAny_binaryOp_repeat_ref (T := "tuple") (U := "int") (by decide) ⟨_, ho, rfl⟩ (fun s' => typeIs_int s' k t) noFill_tuple_mul F.fills_int_mul F.slot_int_rmul repeat_tuple F.slot_int_index.lookup
      (call_meets F.slot_int_rmul (typeIs_int s k t) F.entry_int_rmul (F.args_int_rmul_2 _ _) (int_rmul_tuple k t l its.toArray n dd sl)
        ⟨ho, rfl, ⟨_, ho, rfl⟩, call_meets F.slot_tuple_mul ⟨_, ho, rfl⟩ F.entry_tuple_mul (F.args_tuple_mul_2 _ _) (tuple_mulW1 l its.toArray n dd sl k t c0 c1) ⟨ho, .ref l, H, I, rfl, q1 hk⟩⟩)
  · have c1 : (its.toArray.isEmpty || k == 1) = false := by
      rw [hi, Bool.false_or]
      exact beq_eq_false_iff_ne.mpr hk
    have c2 : (decide (k ≤ 0) || its.toArray.isEmpty) = true := by
      rw [hi, Bool.or_false]
      exact decide_eq_true (by omega)
    have hk0 : k.toNat = 0 := by omega
    have q2 := q2 hk
    rw [hk0] at q2
    refine wpAny_binaryOp_repeat_ref (T := "tuple") (U := "int") (by decide) ⟨_, ho, rfl⟩ (fun s' => typeIs_int s' k t) noFill_tuple_mul F.fills_int_mul F.slot_int_rmul repeat_tuple F.slot_int_index.lookup
      (call_meets F.slot_int_rmul (typeIs_int s k t) F.entry_int_rmul (F.args_int_rmul_2 _ _) (int_rmul_tuple k t l its.toArray n dd sl)
        ⟨ho, rfl, ⟨_, ho, rfl⟩, call_meets F.slot_tuple_mul ⟨_, ho, rfl⟩ F.entry_tuple_mul (F.args_tuple_mul_2 _ _) (tuple_mulW0 l its.toArray n dd sl k t c0 c1 c2) ⟨ho, ?_⟩⟩)
    refine ⟨.ref s.heap.objs.size, _, I.laid (t' := s.toks) (o := .tup (List.replicate 0 xs).flatten) (fun b ob q => Heap.get?_push_of_some _ q) (Nat.le_refl _) ?_, rfl, q2 _ (I.hok.fresh (Nat.le_refl _))⟩
    exact ⟨by show (0 : Nat) ≤ sizeLine; rw [sizeLine_eq]; omega, [], .nil, IsTup.new _ _⟩
end
def dRepT : D → D → M D := fun a b => li (match a, b with
  | .tup xs, .int k => if xs ≠ [] ∧ -(2 ^ 63) ≤ k ∧ k ≤ 1000 ∧ xs.length ≤ 1000 then some (.tup (List.replicate k.toNat xs).flatten) else none
  | _, _ => none)
section
variable {K : PySem.W.Frag} {mg : Str → Option Value} {W : WX}
theorem od_repT : OpD K mg W (rRepA K) dRepT := by
  intro Z B σ H e x y a b Q S ha hb q
  obtain ⟨d, h1, h2⟩ := wp_li q
  cases a with
  | tup as =>
    cases b with
    | int k =>
      have h1 : (if as ≠ [] ∧ -(2 ^ 63) ≤ k ∧ k ≤ 1000 ∧ as.length ≤ 1000 then some (D.tup (List.replicate k.toNat as).flatten) else none) = some d := h1
      split at h1
      · rename_i hc
        cases h1
        have ha2 := ha
        obtain ⟨p, xs, rfl, e1, r1⟩ := ha.tup_inv
        refine ⟨p, k, xs, rfl, hb.int_inv, seqT S.bh e1, fun hx => ?_, hc.2.1, hc.2.2.1, by rw [r1.length]; exact hc.2.2.2, fun hk => ?_, fun hk q hq => ?_⟩
        · subst hx
          cases r1
          exact hc.1 rfl
        · subst hk
          have e : (List.replicate (1 : Int).toNat as).flatten = as := by simp
          rw [e] at h2
          exact h2 _ B H S (Same.refl B) ha2
        · obtain ⟨S', l⟩ := S.new (o := .tup (List.replicate k.toNat xs).flatten) hq
          exact h2 _ _ _ S' l (.tup (SqT.of upd_same) ((r1.mono l).reps _))
      · cases h1
    | _ => cases h1
  | _ => cases h1
end
end Dl
set_option maxHeartbeats 400000
/-! Layer D, part 29: an own operator with an int on the right. -/
namespace Dl
open PySem PySem.Spec PyProof.Rows L2 RZ
def BiI (K : PySem.W.Frag) (mg : Str → Option Value) (c : Str) (op : Operator) : Prop := ∃ C, mg c = some (.ref C) ∧ PySem.W.findIn K (.ref C) (dunderR op.info.2) = some none ∧
  (∃ fo, PySem.W.findIn K (.type "int") (PySem.dunder op.info.2) = some fo) ∧ (∃ ro, PySem.W.findIn K (.type "int") (dunderR op.info.2) = some ro) ∧ PySem.W.subIn K (.type "int") (.ref C) = some false
def d2i (F : En → Res D) (c : Str) : D → D → M D := fun a b => match a, b with
  | .obj c1 n1 s1, .int k => if c1 = c then noExc (callR F [.d (.obj c1 n1 s1), .d (.int k)]) else fun _ => .bad
  | _, _ => fun _ => .bad
def rOwnI (C : Addr) (sp : Sp) : R2 := fun x y H Q => ∃ a k dx fs, x = .ref a ∧ y = .int k ∧ H a = some (.ins C dx fs) ∧ sp [x, y] H Q E0
section
variable {K : PySem.W.Frag} {mg : Str → Option Value} {W : WX} {c : Str} {C : Addr} {F : En → Res D}
theorem od_ownI (hm : mg c = some (.ref C)) : OpD K mg W (rOwnI C (spD K mg F)) (d2i F c) := by
  intro Z B σ H e x y a b Q S ha hb q
  cases a with
  | obj c1 n1 s1 => cases b with
    | int k =>
      have q2 : ((if c1 = c then noExc (callR F [.d (.obj c1 n1 s1), .d (.int k)]) else fun _ => .bad) e).wp (PV K mg Z B σ Q) (PX K mg Z B σ W) := q
      by_cases hc : c1 = c
      · rw [if_pos hc] at q2
        subst hc
        have ha2 := ha
        have hb2 := hb
        obtain ⟨p, C1, dx, fs, rfl, g1, g2, g3, g4⟩ := ha.obj_inv
        obtain rfl := hb.int_inv
        obtain rfl := ref_inj g1 hm
        exact ⟨p, k, dx, fs, rfl, rfl, S.bh _ _ g2, callR_ok (W := fun _ _ _ _ => False) S (.cons (.d ha2) (.cons (.d hb2) .nil)) ((noExc_wp q2).imp (fun _ _ q => q) fun _ _ q => False.elim q)⟩
      · rw [if_neg hc] at q2
        exact False.elim q2
    | _ => exact False.elim q
  | _ => exact False.elim q
end
section
variable {X : Cx} {j k : Nat} {c : Str} {F : En → Res D} {W : WX}
theorem ped_ownI {op : Operator} {a b : Expr} {fa fb : M D} {pos : Pos} (cf : OpI X.prog X.w X.K X.mg X.base k c (PySem.dunder op.info.2) F) (bi : BiI X.K X.mg c op) (hr : Room j X.A) (hk : k ≤ j) (ha : PED X W a fa) (hb : PED X W b fb) : PED X W (.BinOp a op b pos) (f2 (d2i F c) fa fb) := by
  obtain ⟨C, f, hm, hs, hf, sf, G⟩ := cf
  obtain ⟨C', hm', h1, ⟨fo, h2⟩, ⟨ro, h3⟩, h4⟩ := bi
  obtain rfl := ref_inj hm hm'
  refine ped_op (r := rOwnI C (spD X.K X.mg F)) ?_ (od_ownI hm) ha hb
  intro pins s σ H x y v u Q I rx ry h
  obtain ⟨p, i, dx, fs, rfl, rfl, g1, g3⟩ := h
  cases rx
  obtain ⟨t, rfl⟩ := ry
  obtain ⟨mA, J, _⟩ := ins_get I.hok g1
  obtain ⟨od, J, _⟩ := J.look
  obtain ⟨m, hF⟩ := I.fr
  exact PySem.W.ksp_binT (T := "int") hF I.ok.mod.kin J rfl sf hs hf h1 (.inl rfl) h2 h3 h4 (wpAny_mono (run_0 (us := [.ref p, .int i t]) (vs := [.ref p, .int i]) G (hr.mono hk) I (.cons rfl (.cons ⟨t, rfl⟩ .nil)) g3) (fun _ _ z => cmpBack_ep z) fun _ _ z => z)
end
end Dl
set_option maxHeartbeats 400000
/-! Layer D, part 30: three names stored at once, one of them read in a block. -/
namespace Dl
open PySem PySem.Spec PyProof.Rows L2 RZ
end Dl
set_option maxHeartbeats 400000
/-! Layer D: x.pop(i) of a list of one's own, and the match statement over tuples of a word and one more. -/
namespace Dl
open PySem PySem.Spec PyProof.Rows L2
/-! ### x.pop(i) -/
/-! ### match -/
end Dl
set_option maxHeartbeats 400000
/-! Layer D: defs that are called where no display is under way; repr. -/
namespace Dl
open PySem PySem.Spec PyProof.Rows L2
/-! ### calls of such defs -/
/-! ### repr -/
/-! ### == and != of texts -/
def dNeS : D → D → M D := fun a b => li (match a, b with
  | .str x, .str y => some (.bl (!decide (x = y))) | _, _ => none)
theorem od_neS {K : PySem.W.Frag} {mg : Str → Option Value} {W : WX} : OpD K mg W rNe dNeS := fun Z B σ H e x y a b Q S ha hb q => by
  cases a with
  | str u => cases b with
    | str v =>
      cases ha
      cases hb
      refine ⟨rfl, ?_⟩
      have e : decide (V.str u = V.str v) = decide (u = v) := by
        by_cases z : u = v
        · subst z; simp
        · rw [decide_eq_false z, decide_eq_false fun h => z (by injection h)]
      rw [e]
      exact q _ B H S (Same.refl B) (.bl _)
    | _ => exact False.elim q
  | _ => exact False.elim q
/-! ### the end -/
end Dl
set_option maxHeartbeats 400000
/-! Layer D: list(range(a, b)). -/
namespace Dl
open PySem PySem.Spec PyProof.Rows L2
end Dl
set_option maxHeartbeats 4000000
/-! Layer D: own exceptions over any built-in exception whose facts are given. -/
namespace Dl
open PySem PySem.Spec PyProof.Rows L2
/-! ### readings -/
end Dl
set_option maxHeartbeats 400000
/-! Layer D: own exceptions with one field: raise, try .. except X as e. -/
namespace Dl
open PySem PySem.Spec PyProof.Rows L2
/-! ### the class -/
/-! ### raise -/
/-! ### what an except suite reads -/
/-- slot i holds the exception that stands for x -/
def Ltx (K : PySem.W.Frag) (mg : Str → Option Value) (i : Nat) (a : Addr) (cls : Value) (dd : Option Addr) (x : D) (B : Hp) (σ : St) : Prop := σ[i]? = some (some (.ref a)) ∧ XAt K mg B B x cls dd
theorem Ltx.up {K : PySem.W.Frag} {mg : Str → Option Value} {i : Nat} {a : Addr} {cls : Value} {dd : Option Addr} {x : D} {B B' : Hp} {σ : St} (l : Same B B') (h : Ltx K mg i a cls dd x B σ) : Ltx K mg i a cls dd x B' σ := by
  obtain ⟨h1, c, n, d, C, q, v, h2, h3, h4, h5, h6, h7⟩ := h
  exact ⟨h1, c, n, d, C, q, v, h2, h3, h4, h5, l _ _ h6, h7.mono l⟩
abbrev LP := D → Hp → St → Prop
def Lup (L : LP) : Prop := ∀ x B B' σ, Same B B' → L x B σ → L x B' σ
def EvDr (L : LP) (K : PySem.W.Frag) (mg : Str → Option Value) (te : TE) (g : D → M D) : Prop := ∀ x Z B σ H e (Q : VK), L x B σ → SR K mg Z B σ H e → (g x e).wp (PV K mg Z B σ Q) (fun _ _ => False) → te σ H Q
def EvLr (L : LP) (K : PySem.W.Frag) (mg : Str → Option Value) (ta : TA) (g : D → M (List D)) : Prop := ∀ x Z B σ H e (Q : List V → Hp → Prop), L x B σ → SR K mg Z B σ H e → (g x e).wp (PL K mg Z B σ Q) (fun _ _ => False) → ta σ H Q
section
variable {L : LP} {K : PySem.W.Frag} {mg : Str → Option Value} {Z : Ent} {B : Hp} {σ : St}
theorem EvDr.then {α : Type} {P : α → En → Prop} {ta : TE} {ga : D → M D} {x : D} {k : D → M α} (up : Lup L) (ha : EvDr L K mg ta ga) {H : Hp} {e : En} {Q : VK} (hx : L x B σ) (S : SR K mg Z B σ H e) (h : (bd (ga x) k e).wp P (fun _ _ => False))
    (kk : ∀ d e' v B' H', L x B' σ → SR K mg Z B' σ H' e' → Same B B' → At K mg B' v d → (k d e').wp P (fun _ _ => False) → Q v H') : ta σ H Q :=
  ha x Z B σ H e Q hx S ((wp_bd.mp h).imp (fun d e' q v B' H' S' l a => kk d e' v B' H' (up _ _ _ _ l hx) S' l a q) fun _ _ q => q)
theorem EvLr.then {α : Type} {P : α → En → Prop} {ta : TA} {ga : D → M (List D)} {x : D} {k : List D → M α} (up : Lup L) (ha : EvLr L K mg ta ga) {H : Hp} {e : En} {Q : List V → Hp → Prop} (hx : L x B σ) (S : SR K mg Z B σ H e) (h : (bd (ga x) k e).wp P (fun _ _ => False))
    (kk : ∀ d e' v B' H', L x B' σ → SR K mg Z B' σ H' e' → Same B B' → AtL K mg B' v d → (k d e').wp P (fun _ _ => False) → Q v H') : ta σ H Q :=
  ha x Z B σ H e Q hx S ((wp_bd.mp h).imp (fun d e' q v B' H' S' l a => kk d e' v B' H' (up _ _ _ _ l hx) S' l a q) fun _ _ q => q)
end
/-! ### e.f and isinstance(e, C) -/
/-! ### try -/
theorem SR.drop {K : PySem.W.Frag} {mg : Str → Option Value} {Z : Ent} {B : Hp} {σ : St} {H : Hp} {e : En} (i : Nat) (u : Option V) (S : SR K mg Z B σ H e) : SR K mg Z B (σ.set i u) H (e.set i .no) := by
  have own : ∀ j, ownAt (e.set i .no) j → j ≠ i ∧ ownAt e j := fun j ⟨s, q, hs⟩ => by
    by_cases hj : i = j
    · subst hj
      rw [List.getElem?_set] at q
      simp only [if_true] at q
      split at q
      · cases q; cases hs
      · cases q
    · rw [List.getElem?_set_ne hj] at q
      exact ⟨Ne.symm hj, s, q, hs⟩
  refine ⟨S.le, S.bh, S.fh, S.nb, S.dm, by rw [List.length_set, List.length_set]; exact S.ln, fun j s q => ?_, fun j k b hjk hj hk e1 e2 => ?_⟩
  · by_cases hj : i = j
    · subst hj
      rw [List.getElem?_set] at q
      simp only [if_true] at q
      split at q
      · cases q; trivial
      · cases q
    · rw [List.getElem?_set_ne hj] at q
      rw [List.getElem?_set_ne hj]
      exact S.sl j s q
  · obtain ⟨n1, o1⟩ := own j hj
    obtain ⟨n2, o2⟩ := own k hk
    rw [List.getElem?_set_ne (Ne.symm n1)] at e1
    rw [List.getElem?_set_ne (Ne.symm n2)] at e2
    exact S.ds j k b hjk o1 o2 e1 e2
/-! ### a class method through an instance -/
end Dl
set_option maxHeartbeats 1000000
/-! Layer D: != of lists of instances of one own class. -/
namespace Dl
open PySem PySem.Spec PyProof.Rows L2 RZ
end Dl
set_option maxHeartbeats 1000000
/-! Layer D: several except clauses, each with a name. -/
namespace Dl
open PySem PySem.Spec PyProof.Rows L2
/-! ### over data -/
end Dl
set_option maxHeartbeats 400000
/-! Layer D: the empty dict as a value, repr of it. -/
namespace Dl
open PySem PySem.Spec PyProof.Rows L2
end Dl
set_option maxHeartbeats 400000
/-! Layer D: own == and != with values of built-in classes. -/
namespace Dl
open PySem PySem.Spec PyProof.Rows L2
end Dl
set_option maxHeartbeats 400000
/-! Layer D: an instance as a test, by its own __bool__. -/
namespace Dl
open PySem PySem.Spec PyProof.Rows L2
/-! ### len(o) by the class's own __len__ -/
end Dl
set_option maxHeartbeats 400000
/-! Layer D: tests in an except suite. -/
namespace Dl
open PySem PySem.Spec PyProof.Rows L2
def EvTr (L : LP) (K : PySem.W.Frag) (mg : Str → Option Value) (tt : TT) (g : D → M Bool) : Prop := ∀ x Z B σ H e (Q : Bool → Hp → Prop), L x B σ → SR K mg Z B σ H e → (g x e).wp (PB K mg Z B σ Q) (fun _ _ => False) → tt σ H Q
def XTD (L : LP) (X : Cx) (a : Expr) (g : D → M Bool) : Prop := ∃ tt, PT X a tt ∧ EvTr L X.K X.mg tt g
def XWD (L : LP) (X : Cx) (a : Expr) (g : D → M Bool) : Prop := ∃ tt, PW X a tt ∧ EvTr L X.K X.mg tt g
section
variable {L : LP} {K : PySem.W.Frag} {mg : Str → Option Value} {Z : Ent} {B : Hp} {σ : St}
theorem EvTr.then {α : Type} {P : α → En → Prop} {ta : TT} {ga : D → M Bool} {x : D} {k : Bool → M α} (up : Lup L) (ha : EvTr L K mg ta ga) {H : Hp} {e : En} {Q : Bool → Hp → Prop} (hx : L x B σ) (S : SR K mg Z B σ H e) (h : (bd (ga x) k e).wp P (fun _ _ => False))
    (kk : ∀ d e' B' H', L x B' σ → SR K mg Z B' σ H' e' → Same B B' → (k d e').wp P (fun _ _ => False) → Q d H') : ta σ H Q :=
  ha x Z B σ H e Q hx S ((wp_bd.mp h).imp (fun d e' q B' H' S' l => kk d e' B' H' (up _ _ _ _ l hx) S' l q) fun _ _ q => q)
end
section
variable {L : LP} {X : Cx} {a b c : Expr} {rest : List Expr} {ga gb : D → M D} {gc gd : D → M Bool} {pos p : Pos}
theorem XWD.pt (h : XWD L X a gc) : XTD L X a gc := by
  obtain ⟨ta, pa, ea⟩ := h
  exact ⟨_, pa.pt, ea⟩
end
end Dl
set_option maxHeartbeats 400000
/-! Layer D: in an except suite: isinstance by a built-in class. -/
namespace Dl
open PySem PySem.Spec PyProof.Rows L2
end Dl
set_option maxHeartbeats 400000
/-! Layer D: max(a, b, key=len) of two tuples. -/
namespace Dl
open PySem PySem.Spec PyProof.Rows L2
end Dl
set_option maxHeartbeats 1000000
/-! Layer D: sorted(dict([(int, ..), ..])). -/
namespace Dl
open PySem PySem.Spec PyProof.Rows L2 RZ
/-! ### a new dict with int keys, on the way -/
end Dl
set_option maxHeartbeats 1000000
/-! Layer D: sorted of steps of one word. -/
namespace Dl
open PySem PySem.Spec PyProof.Rows L2
end Dl
set_option maxHeartbeats 1000000
/-! Layer D: a list of lists, the last of which grows: for x in xs: if T: parts[-1].append(x) else: parts.append([x]). -/
namespace Dl
open PySem PySem.Spec PyProof.Rows L2 RZ
/-! ### the mirror -/
/-! ### states -/
section
variable {K : PySem.W.Frag} {mg : Str → Option Value} {Z : Ent} {B B' : Hp} {σ : St} {H H' : Hp} {e : En} {ip j : Nat}
structure Owd (Z : Ent) (B : Hp) (σ : St) (e : En) (a : Addr) : Prop where
  nb : B a = none
  n0 : Z.H0 a = none
  fr : Free σ e a
/-- the inner lists -/
inductive Inn (K : PySem.W.Frag) (mg : Str → Option Value) (B H : Hp) : List Addr → List (List D) → Prop
  | nil : Inn K mg B H [] []
  | cons {a : Addr} {xs : List V} {ds : List D} {as : List Addr} {acc : List (List D)} : H a = some (.lst xs) → AtL K mg B xs ds → Inn K mg B H as acc → Inn K mg B H (a :: as) (ds :: acc)
theorem Inn.keep : ∀ {as : List Addr} {acc : List (List D)}, (∀ a o, a ∈ as → H a = some o → H' a = some o) → Inn K mg B H as acc → Inn K mg B H' as acc
  | _, _, _, .nil => .nil
  | _, _, k, .cons h r t => .cons (k _ _ List.mem_cons_self h) r (Inn.keep (fun a o m => k a o (List.mem_cons_of_mem _ m)) t)
theorem Inn.app : ∀ {as bs : List Addr} {acc bcc : List (List D)}, Inn K mg B H as acc → Inn K mg B H bs bcc → Inn K mg B H (as ++ bs) (acc ++ bcc)
  | _, _, _, _, .nil, s => s
  | _, _, _, _, .cons h r t, s => .cons h r (Inn.app t s)
theorem Inn.length : ∀ {as : List Addr} {acc : List (List D)}, Inn K mg B H as acc → as.length = acc.length
  | _, _, .nil => rfl
  | _, _, .cons _ _ t => congrArg (· + 1) (Inn.length t)
theorem Inn.has : ∀ {as : List Addr} {acc : List (List D)} {a : Addr}, Inn K mg B H as acc → a ∈ as → ∃ xs, H a = some (.lst xs)
  | _, _, _, .nil, m => nomatch m
  | _, _, _, .cons h r t, m => by
    rcases List.mem_cons.mp m with rfl | m
    · exact ⟨_, h⟩
    · exact Inn.has t m
structure Pts (K : PySem.W.Frag) (mg : Str → Option Value) (Z : Ent) (B : Hp) (σ : St) (H : Hp) (e : En) (ip : Nat) (p : Addr) (as : List Addr) (acc : List (List D)) : Prop where
  sl : σ[ip]? = some (some (.ref p))
  hp : H p = some (.lst (as.map V.ref))
  op : Owd Z B σ e p
  oa : ∀ a ∈ as, Owd Z B σ e a
  nd : (p :: as).Nodup
  inn : Inn K mg B H as acc
theorem Owd.ne {a p : Addr} {o : HO} (S : SR K mg Z B σ H e) (h : H a = some o) (hp : H p = none) : a ≠ p := ne_of_none h hp
theorem Owd.new {p : Addr} (S : SR K mg Z B σ H e) (hp : H p = none) : Owd Z B σ e p :=
  let ⟨_, h1, h2, h3⟩ := S.newO (o := .lst []) hp; ⟨h1, h2, h3⟩
theorem Pts.set {p : Addr} {as : List Addr} {acc : List (List D)} (P : Pts K mg Z B σ H e ip p as acc) (v : V) (d : D) (hj : ip ≠ j) : Pts K mg Z B (σ.set j (some v)) H (e.set j (.val d)) ip p as acc := by
  have fr : ∀ {a}, Owd Z B σ e a → Owd Z B (σ.set j (some v)) (e.set j (.val d)) a := fun w => ⟨w.nb, w.n0, fun i hi => by
    rcases ownAt_set hi with ⟨_, z⟩ | ⟨n1, hi'⟩
    · cases z
    · rw [List.getElem?_set_ne (Ne.symm n1)]
      exact w.fr i hi'⟩
  exact ⟨by rw [List.getElem?_set_ne (Ne.symm hj)]; exact P.sl, P.hp, fr P.op, fun a m => fr (P.oa a m), P.nd, P.inn⟩
end
/-! ### the rule -/
end Dl
set_option maxHeartbeats 1000000
/-! Layer D: t[::-1] of tuples. -/
namespace Dl
open PySem PySem.Spec PyProof.Rows L2 HT
end Dl
set_option maxHeartbeats 1000000
/-! Layer D: a test that looks at a list of one's own; x[::-1] as a new list. -/
namespace Dl
open PySem PySem.Spec PyProof.Rows L2 RZ
end Dl
set_option maxHeartbeats 1000000
/-! Layer D: x + y of lists as a new list; xs.insert(i, y). -/
namespace Dl
open PySem PySem.Spec PyProof.Rows L2 RZ
end Dl
set_option maxHeartbeats 1000000
/-! Layer D: min of a list of tuples of ints. -/
namespace Dl
open PySem PySem.Spec PyProof.Rows L2 PySem.Calls
/-! ### as a rule -/
end Dl
set_option maxHeartbeats 1000000
/-! Layer D: x or y, x a list. -/
namespace Dl
open PySem PySem.Spec PyProof.Rows L2
end Dl
set_option maxHeartbeats 1000000
/-! Layer D: xs.count(y), xs.index(y) of data. -/
namespace Dl
open PySem PySem.Spec PyProof.Rows L2
end Dl
set_option maxHeartbeats 1000000
/-! Layer D: comprehensions with two for (what stands outside is only read; the items are numbers, bools, texts or None). -/
namespace Dl
open PySem PySem.Spec PyProof.Rows L2 RZ
section
variable {X : Cx} {W : WX} {elt tg iter tg1 iter1 : Expr} {ifs ifs1 : List Expr} {scope : Scope} {own : List (Str × Nat)} {src src1 : M (List D)} {t t1 : D → M Unit} {c c1 : M Bool} {el : M D} {pos : Pos} {vs1 : List Nat}
def canI (K : PySem.W.Frag) (mg : Str → Option Value) (W : WX) (f : M (List D)) : TI := fun σ H R => ∃ Z B e, SR K mg Z B σ H e ∧ (f e).wp (fun ds e' => ∀ J B' H', SR K mg Z B' σ H' e' → Same B B' → Walks K mg J B' ds → R J H') (PX K mg Z B σ W)
theorem PID.can {a b : Expr} {f : M (List D)} (h : PID X W a b f) : PI X a b (canI X.K X.mg W f) := by
  obtain ⟨wi, p, ev⟩ := h
  exact ⟨fun pins s σ H R I ⟨Z, B, e, S, q⟩ => p.run pins s σ H R I (ev Z B σ H e R S q)⟩
end
end Dl
set_option maxHeartbeats 400000
/-! Layer D: repr of lists in which empty dicts are. -/
namespace PySem
open Sem (wp)
end PySem
namespace Dl
open PySem PySem.Spec PyProof.Rows L2
end Dl
set_option maxHeartbeats 400000
/-! Layer D: sum of a tuple of ints. -/
namespace L2
open PySem PySem.Spec PyProof.Rows
end L2
namespace Dl
open PySem PySem.Spec PyProof.Rows L2 RZ
end Dl
set_option maxHeartbeats 1000000
/-! Layer D: a list of one's own handed on whole; calls of objects that give a new list. -/
namespace Dl
open PySem PySem.Spec PyProof.Rows L2 RZ
end Dl
set_option maxHeartbeats 400000
/-! Layer D: zip of a tuple and a list. -/
namespace Dl
open PySem PySem.Spec PyProof.Rows L2 RZ
/-- the cells of such a zip at their places -/
structure ZcM (z p q j k a b : Addr) : Prop where
  zp : p ≠ z
  zq : q ≠ z
  zj : j ≠ z
  zk : k ≠ z
  pq : p ≠ q
  pj : p ≠ j
  pk : p ≠ k
  qj : q ≠ j
  qk : q ≠ k
  jk : j ≠ k
  az : a ≠ z
  aq : a ≠ q
  ak : a ≠ k
  aj : a ≠ j
  bz : b ≠ z
  bq : b ≠ q
  bj : b ≠ j
  bk : b ≠ k
theorem ZcM.sep {z p q j k a b : Addr} (c : ZcM z p q j k a b) : ZipSep2 z p q j k [j, a] [k, b] where
  TIz := c.zp
  TOz := c.zq
  TITO := c.pq
  TIi1 := c.pj
  mem1 := List.mem_cons_self
  zf1 := fun m => by rcases List.mem_cons.mp m with e | m; exact c.zj e.symm; exact c.az (List.mem_singleton.mp m).symm
  Tf1 := fun m => by rcases List.mem_cons.mp m with e | m; exact c.qj e; exact c.aq (List.mem_singleton.mp m).symm
  TIi2 := c.pk
  mem2 := List.mem_cons_self
  zf2 := fun m => by rcases List.mem_cons.mp m with e | m; exact c.zk e.symm; exact c.bz (List.mem_singleton.mp m).symm
  Tf2 := fun m => by rcases List.mem_cons.mp m with e | m; exact c.qk e; exact c.bq (List.mem_singleton.mp m).symm
  sep1_2 := fun m => by rcases List.mem_cons.mp m with e | m; exact c.jk e; exact c.bj (List.mem_singleton.mp m).symm
  sep2_1 := fun m => by rcases List.mem_cons.mp m with e | m; exact c.jk e.symm; exact c.ak (List.mem_singleton.mp m).symm
/-- an iterator that stands at its end -/
theorem endT {P : Program} {w : World} {A : Around} {j a : Addr} {i : Nat} {xs : Array Value} {G : Nat → Value → Prop} (hh : A.handled = none) (he : xs[i]? = none) : Draws P w A j [j, a] i G fun n h => n = i ∧ h.IsTupleIter j a i ∧ h.IsTuple a xs where
  live := fun _ _ st => let ⟨o, ho, _⟩ := st.2.1; ⟨o, ho⟩
  frame := fun _ _ _ st up => ⟨st.1, st.2.1.at fun o t => up j (by simp) o t, st.2.2.at fun o t => up a (by simp) o t⟩
  item := fun n _ _ _ lt st _ => absurd st.1 (Nat.ne_of_lt lt)
  done := fun _ _ _ st hE => wpAny_nextOf_tuple_end hh st.2.1 st.2.2 he hE
theorem endL {P : Program} {w : World} {A : Around} {j a : Addr} {i : Nat} {xs : Array Value} {G : Nat → Value → Prop} (hh : A.handled = none) (he : xs[i]? = none) : Draws P w A j [j, a] i G fun n h => n = i ∧ h.IsListIter j a i ∧ h.IsList a xs where
  live := fun _ _ st => let ⟨o, ho, _⟩ := st.2.1; ⟨o, ho⟩
  frame := fun _ _ _ st up => ⟨st.1, st.2.1.at fun o t => up j (by simp) o t, st.2.2.at fun o t => up a (by simp) o t⟩
  item := fun n _ _ _ lt st _ => absurd st.1 (Nat.ne_of_lt lt)
  done := fun _ _ _ st hE => wpAny_nextOf_list_end hh st.2.1 st.2.2 he hE
theorem five {z p q j k c : Addr} (m : c ∈ [z, p, q, j, k]) : c = z ∨ c = p ∨ c = q ∨ c = j ∨ c = k := by simpa using m
end Dl
set_option maxHeartbeats 1000000
/-! Layer D: texts. -/
namespace Dl
open PySem PySem.Spec PyProof.Rows L2 RZ
/-- the texts of a list -/
def toStrs : List D → Option (List Str)
  | [] => some []
  | .str s :: ds => (toStrs ds).map (s :: ·)
  | _ => none
theorem toStrs_map (l : List Str) : toStrs (l.map D.str) = some l := by
  induction l with
  | nil => rfl
  | cons s l ih => show (toStrs (l.map D.str)).map _ = _; rw [ih]; rfl
theorem toStrs_inv : ∀ {ds : List D} {l : List Str}, toStrs ds = some l → ds = l.map D.str
  | [], l, h => by cases h; rfl
  | d :: ds, l, h => by
    cases d with
    | str s =>
      have h : (toStrs ds).map (s :: ·) = some l := h
      cases q : toStrs ds with
      | none => rw [q] at h; cases h
      | some m => rw [q] at h; cases h; rw [toStrs_inv q]; rfl
    | _ => cases h
theorem strs_inv {K : PySem.W.Frag} {mg : Str → Option Value} {B : Hp} : ∀ {vs : List V} {l : List Str}, AtL K mg B vs (l.map D.str) → vs = l.map V.str
  | [], [], .nil => rfl
  | v :: vs, s :: l, .cons h t => by rw [h.str_inv, strs_inv t]; rfl
theorem strs_at {K : PySem.W.Frag} {mg : Str → Option Value} {B : Hp} : ∀ l : List Str, AtL K mg B (l.map V.str) (l.map D.str)
  | [] => .nil
  | s :: l => .cons (.str s) (strs_at l)
section
variable {X : Cx} {W : WX} {a b : Expr} {fa fb : M D} {pos p2 apos : Pos} {K : PySem.W.Frag} {mg : Str → Option Value}
theorem ped_gstr {x : Str} {s : Str} (hm : ∃ t, X.mg x = some (.str s t)) (hg : Gl X x := by rfl) (hd : (x == ("__debug__" : Str)) = false := by decide) : PED X W (.Name x pos) (fC (.str s)) := by
  obtain ⟨t, hm⟩ := hm
  exact ped_c (v := .str s) (pe_glob hg hm ⟨t, rfl⟩ hd) fun B => .str s
/-! ### slices, signs, lengths -/
def oLenS : D → Option D
  | .str z => if z.length ≤ 16777216 then some (.int z.length) else none
  | _ => none
theorem cd_lenS : ClD K mg W (fun xs H Q => ∃ z, xs = [.str z] ∧ z.length ≤ sizeLine ∧ Q (.int z.length) H) (d1 oLenS) := d1_ok fun Z B σ H e v d z Q S r h q => by
  cases d with
  | str x =>
    have h : (if x.length ≤ 16777216 then some (D.int x.length) else none) = some z := h
    by_cases hz : x.length ≤ 16777216
    · rw [if_pos hz] at h
      cases h
      exact ⟨x, by rw [r.str_inv], sz hz, q _ B H S (Same.refl B) (.int _)⟩
    · rw [if_neg hz] at h; cases h
  | _ => cases h
/-! ### numbers and texts -/
def oStrI : D → Option D
  | .int i => if i.natAbs.log2 < 1920 then some (.str (toString i)) else none
  | _ => none
theorem cd_strI : ClD K mg W (fun xs H Q => ∃ i, xs = [.int i] ∧ i.natAbs.log2 < 1920 ∧ Q (.str (toString i)) H) (d1 oStrI) := d1_ok fun Z B σ H e v d z Q S r h q => by
  cases d with
  | int i =>
    have h : (if i.natAbs.log2 < 1920 then some (D.str (toString i)) else none) = some z := h
    by_cases hz : i.natAbs.log2 < 1920
    · rw [if_pos hz] at h
      cases h
      exact ⟨i, by rw [r.int_inv], hz, q _ B H S (Same.refl B) (.str _)⟩
    · rw [if_neg hz] at h; cases h
  | _ => cases h
/-! ### one sign in a text -/
/-! ### sign by sign -/
/-! ### methods of one argument -/
def fM1 (o : Str → D → Option D) (fa fb : M D) : M D := bd fa fun d => match d with
  | .str x => bd fb fun y => li (o x y)
  | _ => fun _ => .bad
theorem ped_m1 {r : V → List V → Hp → VK → Prop} {id : String} {name : Str} {o : Str → D → Option D} (slot : Slot "str" name id) (ty : typeOf (.builtin id) = pure (.type "method_descriptor")) (rule : MtR X id r)
    (ho : ∀ Z B σ H e x v d z (Q : VK), SR X.K X.mg Z B σ H e → At X.K X.mg B v d → o x d = some z → (∀ v' B' H', SR X.K X.mg Z B' σ H' e → Same B B' → At X.K X.mg B' v' z → Q v' H') → r (.str x) [v] H Q)
    (ha : PED X W a fa) (hb : PED X W b fb) (hs : starEach [b] X.env = [(false, eval b X.env)] := by rfl) (hbase : attributeBase a name X.env (eval a X.env) = eval a X.env := by rfl) (hline : (apos.endLine == pos.line) = true := by rfl) :
    PED X W (.Call (.Attribute a name apos) [b] [] pos) (fM1 o fa fb) := by
  obtain ⟨ta, pa, ea⟩ := ha
  obtain ⟨tb, pb, eb⟩ := hb
  refine ⟨_, pe_m1 slot ty rule pa pb hs hbase hline, fun Z B σ H e Q S h => ?_⟩
  refine ea.then S h (fun x e' q => q) fun d e1 v B1 H1 S1 l1 a1 h1 => ?_
  cases d with
  | str x =>
    have ex := a1.str_inv
    subst ex
    refine ⟨⟨x, rfl⟩, ?_⟩
    refine eb Z B1 σ H1 e1 _ S1 ((wp_bd.mp h1).imp (fun y e2 q2 v2 B2 H2 S2 l2 a2 => ?_) fun x e' q => PX.up l1 q)
    obtain ⟨z, h2, h3⟩ := wp_li q2
    exact ho Z B2 σ H2 e2 x v2 y z Q S2 a2 h2 fun v' B' H' S' l' a' => h3 v' B' H' S' ((l1.trans l2).trans l') a'
  | _ => exact False.elim h1
def oJoin (x : Str) : D → Option D
  | .lst ds => match toStrs ds with
    | some ys => if (ys.map (·.length)).sum + ys.length * x.length ≤ 16777216 then some (.str (Txt.join x ys)) else none
    | none => none
  | _ => none
theorem ped_join (ha : PED X W a fa) (hb : PED X W b fb) (hs : starEach [b] X.env = [(false, eval b X.env)] := by rfl) (hbase : attributeBase a "join" X.env (eval a X.env) = eval a X.env := by rfl) (hline : (apos.endLine == pos.line) = true := by rfl) :
    PED X W (.Call (.Attribute a "join" apos) [b] [] pos) (fM1 oJoin fa fb) :=
  ped_m1 F.slot_str_join F.type_str_join mt_join (fun Z B σ H e x v d z Q S r h q => by
    cases d with
    | lst ds =>
      have h : (match toStrs ds with
        | some ys => if (ys.map (·.length)).sum + ys.length * x.length ≤ 16777216 then some (D.str (Txt.join x ys)) else none
        | none => none) = some z := h
      cases g : toStrs ds with
      | none => rw [g] at h; cases h
      | some ys =>
        rw [g] at h
        have h : (if (ys.map (·.length)).sum + ys.length * x.length ≤ 16777216 then some (D.str (Txt.join x ys)) else none) = some z := h
        by_cases hz : (ys.map (·.length)).sum + ys.length * x.length ≤ 16777216
        · rw [if_pos hz] at h
          cases h
          obtain ⟨p, vs, rfl, g1, g2⟩ := r.lst_inv
          rw [toStrs_inv g] at g2
          rw [strs_inv g2] at g1
          exact ⟨x, p, ys, rfl, rfl, .inl (SqL.of (S.bh _ _ g1)), hz, q _ B H S (Same.refl B) (.str _)⟩
        · rw [if_neg hz] at h; cases h
    | _ => cases h) ha hb hs hbase hline
def fSplit (fa fb : M D) : M (List D) := bd fa fun d => match d with
  | .str x => bd fb fun y => li (match y with
    | .str y => if (y.length == 0) = false ∧ x.length + 2 ≤ 16777216 then some ((Txt.split x y).map D.str) else none
    | _ => none)
  | _ => fun _ => .bad
theorem pnd_split (ha : PED X W a fa) (hb : PED X W b fb) (hs : starEach [b] X.env = [(false, eval b X.env)] := by rfl) (hbase : attributeBase a "split" X.env (eval a X.env) = eval a X.env := by rfl) (hline : (apos.endLine == pos.line) = true := by rfl) :
    PND X W (.Call (.Attribute a "split" apos) [b] [] pos) (fSplit fa fb) := by
  obtain ⟨ta, pa, ea⟩ := ha
  obtain ⟨tb, pb, eb⟩ := hb
  refine ⟨_, pe_split pa pb hs hbase hline, fun Z B σ H e Q S h => ?_⟩
  refine ea.then S h (fun x e' q => q) fun d e1 v B1 H1 S1 l1 a1 h1 => ?_
  cases d with
  | str x =>
    have ex := a1.str_inv
    subst ex
    refine ⟨⟨x, rfl⟩, ?_⟩
    refine eb Z B1 σ H1 e1 _ S1 ((wp_bd.mp h1).imp (fun y e2 q2 v2 B2 H2 S2 l2 a2 => ?_) fun x e' q => PX.up l1 q)
    obtain ⟨z, h2, h3⟩ := wp_li q2
    cases y with
    | str y =>
      have h2 : (if (y.length == 0) = false ∧ x.length + 2 ≤ 16777216 then some ((Txt.split x y).map D.str) else none) = some z := h2
      by_cases hz : (y.length == 0) = false ∧ x.length + 2 ≤ 16777216
      · rw [if_pos hz] at h2
        cases h2
        have ey := a2.str_inv
        subst ey
        refine ⟨x, y, rfl, rfl, hz.1, sz hz.2, fun p hp => ?_⟩
        obtain ⟨S3, hB, h0, hf⟩ := S2.newO (o := .lst ((Txt.split x y).map V.str)) hp
        exact h3 p _ B2 _ S3 (l1.trans l2) upd_same (strs_at _) hB h0 hf
      · rw [if_neg hz] at h2; cases h2
    | _ => cases h2
  | _ => exact False.elim h1
/-! ### text or text -/
def fOrS (fa fb : M D) : M D := bd fa fun d => match d with
  | .str x => if x.length ≤ 16777216 then (if x.length = 0 then fb else pu d) else fun _ => .bad
  | _ => fun _ => .bad
theorem ped_orS {rest : List Expr} (ha : PED X W a fa) (hb : PED X W (.BoolOp .Or (b :: rest) pos) fb) : PED X W (.BoolOp .Or (a :: b :: rest) pos) (fOrS fa fb) := by
  obtain ⟨ta, pa, ea⟩ := ha
  obtain ⟨tb, pb, eb⟩ := hb
  refine ⟨_, pe_orT pa pb, fun Z B σ H e Q S h => ?_⟩
  refine ea.then S h (fun x e' q => q) fun d e1 v B1 H1 S1 l1 a1 h1 => ?_
  cases d with
  | str x =>
    have ex := a1.str_inv
    subst ex
    have h1 : ((if x.length ≤ 16777216 then (if x.length = 0 then fb else pu (.str x)) else fun _ => Res.bad) e1).wp (PV X.K X.mg Z B σ Q) (PX X.K X.mg Z B σ W) := h1
    by_cases hz : x.length ≤ 16777216
    · rw [if_pos hz] at h1
      refine ⟨((x.length : Int) != 0), ⟨sz hz, rfl⟩, ?_⟩
      by_cases q : x.length = 0
      · rw [if_pos q] at h1
        rw [if_neg (by simp [q])]
        exact eb Z B1 σ H1 e1 Q S1 (upV l1 h1)
      · rw [if_neg q] at h1
        rw [if_pos (by simp; omega)]
        exact h1 _ B1 H1 S1 l1 (.str x)
    · rw [if_neg hz] at h1; exact False.elim h1
  | _ => exact False.elim h1
/-! ### text * int -/
theorem mulOk {z : Str} {n : Int} (h1 : -(2 ^ 62) ≤ n) (h2 : n < 2 ^ 62) (h : z.length * n.toNat ≤ 16777216) : MulOk z n := by
  refine ⟨?_, fun h3 _ hc => ?_, fun h3 _ => ?_⟩
  · rw [decide_eq_false (by omega), decide_eq_false (by omega)]
    rfl
  · have h4 : (z.length : Int) * n ≤ 2 ^ 63 - 1 := by
      have : ((z.length * n.toNat : Nat) : Int) = (z.length : Int) * n := by
        rw [Int.natCast_mul, Int.toNat_of_nonneg (by omega)]
      omega
    have := (Int.le_ediv_iff_mul_le (show 0 < n by omega)).mpr h4
    omega
  · simp [Builtin.Str.tooLong, sizeLine]
    omega
theorem op_mul_str : OpR X (binaryOp .Mult) (fun x y H Q => ∃ z n, x = .str z ∧ y = .int n ∧ MulOk z n ∧ Q (.str (Txt.mul z n)) H) := by
  intro pins s σ H x y v u Q I rx ry h
  obtain ⟨z, n, rfl, rfl, ok, q⟩ := h
  obtain ⟨t, rfl⟩ := rx
  obtain ⟨t', rfl⟩ := ry
  exact PySem.SB.mul ok fun t2 k => ⟨.str (Txt.mul z n), H, I.tok k, ⟨t2, rfl⟩, q⟩
def dMulS : D → D → M D := fun a b => li (match a, b with
  | .str z, .int n => if -(2 ^ 62) ≤ n ∧ n < 2 ^ 62 ∧ z.length * n.toNat ≤ 16777216 then some (.str (Txt.mul z n)) else none
  | _, _ => none)
theorem od_mulS : OpD K mg W (fun x y H Q => ∃ z n, x = .str z ∧ y = .int n ∧ MulOk z n ∧ Q (.str (Txt.mul z n)) H) dMulS := by
  intro Z B σ H e x y a b Q S ha hb q
  obtain ⟨d, h1, h2⟩ := wp_li q
  cases a with
  | str z => cases b with
    | int n =>
      have h1 : (if -(2 ^ 62) ≤ n ∧ n < 2 ^ 62 ∧ z.length * n.toNat ≤ 16777216 then some (D.str (Txt.mul z n)) else none) = some d := h1
      by_cases hz : -(2 ^ 62) ≤ n ∧ n < 2 ^ 62 ∧ z.length * n.toNat ≤ 16777216
      · rw [if_pos hz] at h1
        cases h1
        exact ⟨z, n, ha.str_inv, hb.int_inv, mulOk hz.1 hz.2.1 hz.2.2, h2 _ B H S (Same.refl B) (.str _)⟩
      · rw [if_neg hz] at h1; cases h1
    | _ => cases h1
  | _ => cases h1
end
end Dl
set_option maxHeartbeats 1000000
/-! Layer D: xs[i] as a target among others; f-strings. -/
namespace Dl
open PySem PySem.Spec PyProof.Rows L2 RZ
section
variable {X : Cx} {W : WX} {a b : Expr} {fa fk : M D} {pos px ps : Pos} {x : Str}
/-! ### f-strings -/
def fFmt (fa : M D) : M D := bd fa fun d => li (match d with
  | .str y => if y.length ≤ 16777216 then some (.str y) else none
  | .int i => if i.natAbs.log2 < 1920 then some (.str (toString i)) else none
  | _ => none)
theorem ped_fmt (ha : PED X W a fa) : PED X W (.FormattedValue a (-1) none pos) (fFmt fa) := by
  obtain ⟨ta, pa, ea⟩ := ha
  refine ⟨_, pe_fmt pa, fun Z B σ H e Q S h => ?_⟩
  refine ea.then S h (fun x e' q => q) fun d e1 v B1 H1 S1 l1 a1 h1 => ?_
  obtain ⟨z, h2, h3⟩ := wp_li h1
  cases d with
  | str y =>
    have h2 : (if y.length ≤ 16777216 then some (D.str y) else none) = some z := h2
    by_cases hz : y.length ≤ 16777216
    · rw [if_pos hz] at h2
      cases h2
      exact .inl ⟨y, a1.str_inv, sz hz, h3 _ B1 H1 S1 l1 (.str y)⟩
    · rw [if_neg hz] at h2; cases h2
  | int i =>
    have h2 : (if i.natAbs.log2 < 1920 then some (D.str (toString i)) else none) = some z := h2
    by_cases hz : i.natAbs.log2 < 1920
    · rw [if_pos hz] at h2
      cases h2
      exact .inr ⟨i, a1.int_inv, hz, h3 _ B1 H1 S1 l1 (.str _)⟩
    · rw [if_neg hz] at h2; cases h2
  | _ => cases h2
def fJoin : List (M D) → Str → M D
  | [], acc => pu (.str acc)
  | f :: fs, acc => bd f fun d => match d with
    | .str y => if (acc ++ y).length ≤ 16777216 then fJoin fs (acc ++ y) else fun _ => .bad
    | _ => fun _ => .bad
def PJD (X : Cx) (W : WX) (es : List Expr) (fs : List (M D)) : Prop := ∃ ts, PJ X es ts ∧ ∀ Z B σ H e acc (Q : Str → Hp → Prop), SR X.K X.mg Z B σ H e →
  (fJoin fs acc e).wp (fun d e' => ∀ s, d = .str s → ∀ B' H', SR X.K X.mg Z B' σ H' e' → Same B B' → Q s H') (PX X.K X.mg Z B σ W) → tJs ts acc σ H Q
theorem pjd_nil : PJD X W [] [] := ⟨[], .nil, fun Z B σ H e acc Q S h => by
  have h : ∀ s, D.str acc = .str s → ∀ B' H', SR X.K X.mg Z B' σ H' e → Same B B' → Q s H' := h
  exact h acc rfl B H S (Same.refl B)⟩
theorem pjd_cons {es : List Expr} {fs : List (M D)} (ha : PED X W a fa) (hr : PJD X W es fs) : PJD X W (a :: es) (fa :: fs) := by
  obtain ⟨ta, pa, ea⟩ := ha
  obtain ⟨ts, pr, er⟩ := hr
  refine ⟨ta :: ts, .cons pa pr, fun Z B σ H e acc Q S h => ?_⟩
  have h : (bd fa (fun d => match d with
    | .str y => if (acc ++ y).length ≤ 16777216 then fJoin fs (acc ++ y) else fun _ => .bad
    | _ => fun _ => .bad) e).wp (fun d e' => ∀ s, d = .str s → ∀ B' H', SR X.K X.mg Z B' σ H' e' → Same B B' → Q s H') (PX X.K X.mg Z B σ W) := h
  show ta σ H _
  refine ea Z B σ H e _ S ((wp_bd.mp h).imp (fun d e1 h1 v B1 H1 S1 l1 a1 => ?_) fun x e' q => q)
  cases d with
  | str y =>
    have h1 : ((if (acc ++ y).length ≤ 16777216 then fJoin fs (acc ++ y) else fun _ => Res.bad) e1).wp (fun d e' => ∀ s, d = .str s → ∀ B' H', SR X.K X.mg Z B' σ H' e' → Same B B' → Q s H') (PX X.K X.mg Z B σ W) := h1
    by_cases hz : (acc ++ y).length ≤ 16777216
    · rw [if_pos hz] at h1
      refine ⟨y, a1.str_inv, sz hz, er Z B1 σ H1 e1 _ Q S1 (h1.imp (fun d e2 h2 s hs B2 H2 S2 l2 => h2 s hs B2 H2 S2 (l1.trans l2)) fun x e' q => PX.up l1 q)⟩
    · rw [if_neg hz] at h1; exact h1.elim
  | _ => exact h1.elim
theorem ped_joined {v1 v2 : Expr} {rest : List Expr} {fs : List (M D)} (h : PJD X W (v1 :: v2 :: rest) fs) : PED X W (.JoinedStr (v1 :: v2 :: rest) pos) (fJoin fs Str.empty) := by
  obtain ⟨ts, pj, ej⟩ := h
  refine ⟨_, pe_joined pj, fun Z B σ H e Q S h => ?_⟩
  refine ej Z B σ H e _ _ S (h.imp (fun d e1 h1 s hs B1 H1 S1 l1 => ?_) fun x e' q => q)
  subst hs
  exact h1 _ B1 H1 S1 l1 (.str s)
end
end Dl
set_option maxHeartbeats 1000000
/-! Layer D: zip of a list and a tuple. -/
namespace Dl
open PySem PySem.Spec PyProof.Rows L2 RZ
/-- the list at a and the tuple at b side by side, as they stand -/
def ItzQ (K : PySem.W.Frag) (a b : Addr) : It where
  go i H := ∃ (us vs : List V) (u v : V), SqL K H a us ∧ SqT K H b vs ∧ us[i]? = some u ∧ vs[i]? = some v
  yld i H r H2 := ∃ T u v, r = .ref T ∧ H T = none ∧ H2 = upd H T (.tup [u, v]) ∧ (∀ us, SqL K H a us → us[i]? = some u) ∧ ∀ vs, SqT K H b vs → vs[i]? = some v
  stop i H := ∃ us vs : List V, SqL K H a us ∧ SqT K H b vs ∧ (us.length ≤ i ∨ vs.length ≤ i)
abbrev tnQ (z p q j k a b : Addr) (i : Nat) (h : Heap) : Prop := IsZip h z p q .none ∧ IsTupOf2 h p (.ref j) (.ref k) ∧ (∃ x y, IsTupOf2 h q x y) ∧ h.IsListIter j a i ∧ h.IsTupleIter k b i
theorem pyNext_zipQ_end {P : Program} {w : World} {A : Around} {E : Value → Shared → Prop} {s : Shared} {z p q j k a b : Addr} {x y : Value} {i : Nat} {us vs : Array Value} {Q : Option Value → Shared → Prop} (hh : A.handled = none) (c : ZcM z p q j k a b) (gz : IsZip s.heap z p q .none) (gp : IsTupOf2 s.heap p (.ref j) (.ref k)) (gq : IsTupOf2 s.heap q x y)
    (s1 : s.heap.IsListIter j a i) (s2 : s.heap.IsTupleIter k b i) (tu : s.heap.IsList a us) (tv : s.heap.IsTuple b vs) (fin : us[i]? = none ∨ vs[i]? = none)
    (post : ∀ h2 tk, (∀ e o, e ≠ z → e ≠ q → e ≠ j → e ≠ k → s.heap.get? e = some o → h2.get? e = some o) → Q none { s with heap := h2, toks := tk }) : wpAny (model P w) A (pyNext (.ref z)) Q E s := by
  have hh2 : A.in1.handled = none := hh
  have ll : ∀ {xs : Array Value}, xs[i]? ≠ none → i < xs.size := fun {xs} n => by
    by_cases lt : i < xs.size
    · exact lt
    · exact absurd (Array.getElem?_eq_none_iff.mpr (by omega)) n
  by_cases e1 : us[i]? = none
  · by_cases e2 : vs[i]? = none
    · exact wpAny_pyNext_zipD2_end (P1 := fun _ _ => True) (P2 := fun _ _ => True) c.sep (endL hh2 e1) (endT hh2 e2) gz gp gq ⟨rfl, s1, tu⟩ ⟨rfl, s2, tv⟩ (Nat.le_refl i) (Nat.le_refl i) (.inl rfl) post
    · exact wpAny_pyNext_zipD2_end (P1 := fun _ _ => True) c.sep (endL hh2 e1) (Draws.tuple hh2 k b c.bk vs) gz gp gq ⟨rfl, s1, tu⟩ ⟨s2, tv⟩ (Nat.le_refl i) (Nat.le_of_lt (ll e2)) (.inl rfl) post
  · have e2 := fin.resolve_left e1
    exact wpAny_pyNext_zipD2_end (P2 := fun _ _ => True) c.sep (Draws.list hh2 j a c.aj us) (endT hh2 e2) gz gp gq ⟨s1, tu⟩ ⟨rfl, s2, tv⟩ (Nat.le_of_lt (ll e1)) (Nat.le_refl i) (.inr rfl) post
theorem turn_zipQ {P : Program} {w : World} {K : PySem.W.Frag} {es : List Expr} {n : Nat} {tp : Pos} {z p q j k a b : Addr} (c : ZcM z p q j k a b) : Turn P w K (.Tuple es n tp) (ItzQ K a b) [z, p, q, j, k] z (tnQ z p q j k a b) where
  mem := List.mem_cons_self
  obj := fun i h st e m => by
    obtain ⟨gz, gp, ⟨x, y, gq⟩, ⟨o1, e1, _, d1⟩, ⟨o2, e2, _, d2⟩⟩ := st
    rcases five m with r | r | r | r | r <;> subst r
    · exact ⟨_, gz, fun v t => nomatch t⟩
    · exact ⟨_, gp, fun v t => nomatch t⟩
    · exact ⟨_, gq, fun v t => nomatch t⟩
    · exact ⟨o1, e1, fun v t => by rw [d1] at t; cases t⟩
    · exact ⟨o2, e2, fun v t => by rw [d2] at t; cases t⟩
  keep := fun i h h2 st up => by
    obtain ⟨gz, gp, ⟨x, y, gq⟩, s1, s2⟩ := st
    exact ⟨up z (by simp) _ gz, up p (by simp) _ gp, ⟨x, y, up q (by simp) _ gq⟩, s1.at fun o t => up j (by simp) o t, s2.at fun o t => up k (by simp) o t⟩
  item := by
    intro X hP hw hK calm i pins s σ H E I fp st go
    subst hP hw hK
    obtain ⟨gz, gp, ⟨x0, y0, gq⟩, s1, s2⟩ := st
    obtain ⟨us, vs, u, v, su, sv, hu, hv⟩ := go
    obtain ⟨iu, ru, tu, _⟩ := I.list su
    obtain ⟨iv, rv, tv, _⟩ := I.tuple sv
    obtain ⟨wu, lu, ru2⟩ := ru.get hu
    obtain ⟨wv, lv, rv2⟩ := rv.get hv
    have lt1 : i < iu.toArray.size := by rw [List.size_toArray]; exact (List.getElem?_eq_some_iff.mp lu).1
    have lt2 : i < iv.toArray.size := by rw [List.size_toArray]; exact (List.getElem?_eq_some_iff.mp lv).1
    have zl : z < s.heap.objs.size := Heap.lt_size gz
    have hh : X.A.in1.handled = none := I.ok.hd calm
    refine wpAny_pyNext_zipD2_item (P1 := fun i v => iu.toArray[i]? = some v) (P2 := fun i v => iv.toArray[i]? = some v) c.sep (Draws.list hh j a c.aj iu.toArray) (Draws.tuple hh k b c.bk iv.toArray) gz gp gq ⟨s1, tu.isList⟩ ⟨s2, tv⟩ lt1 lt2 fun x1 x2 h1 tk q1 q2 gz1 gq1 st1 st2 new sz up => ?_
    refine ⟨_, rfl, wpAny_letOwnedTupleGo_zip (s := { s with heap := h1, toks := tk }) gz1 fun h2 gz2 sb => ?_⟩
    have new2 : h2.get? s.heap.objs.size = some { cls := .type "tuple", data := .seq #[x1, x2] } := (sb.2 _ (Nat.ne_of_gt zl)).trans new
    have e1 : x1 = wu := by
      have t : iu[i]? = some x1 := by simpa using q1
      rw [lu] at t; exact (Option.some.inj t).symm
    have e2 : x2 = wv := by
      have t : iv[i]? = some x2 := by simpa using q2
      rw [lv] at t; exact (Option.some.inj t).symm
    subst e1 e2
    have ok : ObjOk X.prog X.w (upd H s.heap.objs.size (.tup [u, v])) h2 s.heap.objs.size (.tup [u, v]) := ⟨by show 2 ≤ sizeLine; decide, [x1, x2], .cons ru2 (.cons rv2 .nil), ⟨_, new2, rfl, _, rfl⟩⟩
    have away : ∀ e o, e ∉ [z, p, q, j, k] → s.heap.get? e = some o → h2.get? e = some o := fun e o m t => by
      have n : e ≠ z ∧ e ≠ p ∧ e ≠ q ∧ e ≠ j ∧ e ≠ k := by simpa using m
      exact (sb.2 e n.1).trans (up e o n.1 n.2.2.1 n.2.2.2.1 n.2.2.2.2 t)
    have I2 : Inv X pins σ (upd H s.heap.objs.size (.tup [u, v])) { s with heap := h2, toks := tk } := I.turnedNew (t' := tk) (ch := [z, p, q, j, k]) away fp (Nat.le_refl _) ok
    refine ⟨.ref s.heap.objs.size, _, I2, rfl, ⟨_, u, v, rfl, I.hok.fresh (Nat.le_refl _), rfl, fun l m => ?_, fun l m => ?_⟩, ⟨gz2, ?_, ⟨x1, x2, ?_⟩, ?_, ?_⟩, fun e m => ?_⟩
    · rw [I.list_inj m su]; exact hu
    · rw [I.tuple_inj m sv]; exact hv
    · exact (sb.2 _ c.zp).trans (up _ _ c.zp c.pq c.pj c.pk gp)
    · exact (sb.2 _ c.zq).trans gq1
    · exact st1.1.at fun o t => (sb.2 _ c.zj).trans t
    · exact st2.1.at fun o t => (sb.2 _ c.zk).trans t
    · have le : e < s.heap.objs.size := by
        rcases five m with r | r | r | r | r <;> subst r
        · exact zl
        · exact Heap.lt_size gp
        · exact Heap.lt_size gq
        · obtain ⟨_, t, _⟩ := s1; exact Heap.lt_size t
        · obtain ⟨_, t, _⟩ := s2; exact Heap.lt_size t
      rw [upd_ne (Nat.ne_of_lt le)]
      exact (fp e m).1
  done := by
    intro X hP hw hK calm i pins s σ H E I fp st stop
    subst hP hw hK
    obtain ⟨gz, gp, ⟨x0, y0, gq⟩, s1, s2⟩ := st
    obtain ⟨us, vs, su, sv, fin⟩ := stop
    obtain ⟨iu, ru, tu, _⟩ := I.list su
    obtain ⟨iv, rv, tv, _⟩ := I.tuple sv
    have l1 := ru.length
    have l2 := rv.length
    have hh : X.A.handled = none := I.ok.hd calm
    have away : ∀ {Q : Option Value → Shared → Prop}, (∀ h2 tk, (∀ e o, e ∉ [z, p, q, j, k] → s.heap.get? e = some o → h2.get? e = some o) → Q none { s with heap := h2, toks := tk }) → wpAny (model X.prog X.w) X.A (pyNext (.ref z)) Q E s := fun post => by
      refine pyNext_zipQ_end hh c gz gp gq s1 s2 tu.isList tv (by rcases fin with f | f; exact .inl (by simp; omega); exact .inr (by simp; omega)) fun h2 tk up => post h2 tk fun e o m t => ?_
      have n : e ≠ z ∧ e ≠ p ∧ e ≠ q ∧ e ≠ j ∧ e ≠ k := by simpa using m
      exact up e o n.1 n.2.2.1 n.2.2.2.1 n.2.2.2.2 t
    exact away fun h2 tk up => ⟨rfl, I.turnedL (t' := tk) (ch := [z, p, q, j, k]) up fp⟩
  self := fun A i s Q E st h => wpAny_pyIter_zip st.1 h
def iZipQ (K : PySem.W.Frag) (ta : TA) : TI := fun σ H R => ta σ H fun vs H1 => ∃ a b us ws, vs = [.ref a, .ref b] ∧ SqL K H1 a us ∧ SqT K H1 b ws ∧ R (ItzQ K a b) H1
theorem pi_zipQ {X : Cx} {e e2 : Expr} {ta : TA} {p pos tpos : Pos} {es : List Expr} {n : Nat} (hg : Gl X "zip") (hm : X.mg "zip" = none) (ha : PA X [e, e2] ta)
    (hs : starEach [e, e2] X.env = (false, eval e X.env) :: starEach [e2] X.env := by rfl) (hpl : (backTo pos (starEach [e2] X.env)).any (·.1) = false := by rfl) : PI X (.Tuple es n tpos) (.Call (.Name "zip" p) [e, e2] [] pos) (iZipQ X.K ta) where
  run := fun pins s σ H R I h => by
    refine Call_ (ld_blt I hg hm PyProof.Rows.boot_zip (PyProof.Rows.callWith_type1 (thn (ha.run pos pins s σ H _ I h) fun us s1 ⟨vs, H1, I1, r1, q1⟩ => ?_) hs hpl))
    obtain ⟨a, b, xs, ys, rfl, qx, qy, go⟩ := q1
    obtain ⟨u1, us, rfl, w1, rr⟩ : ∃ u1 us', us = u1 :: us' ∧ RelV (.ref a) u1 ∧ Vals [.ref b] us' := by cases r1 with | cons r rr => exact ⟨_, _, rfl, r, rr⟩
    obtain ⟨u2, us, rfl, w2, rr⟩ : ∃ u1 us', us = u1 :: us' ∧ RelV (.ref b) u1 ∧ Vals [] us' := by cases rr with | cons r rr => exact ⟨_, _, rfl, r, rr⟩
    cases rr
    cases (show u1 = Value.ref a from w1)
    cases (show u2 = Value.ref b from w2)
    obtain ⟨iu, _, tu, _⟩ := I1.list qx
    obtain ⟨iv, _, tv, _⟩ := I1.tuple qy
    have la := tu.lt
    have lb : b < s1.heap.objs.size := by obtain ⟨_, t, _⟩ := tv; exact Heap.lt_size t
    refine zip_begins2 (begins_list a iu.toArray) (begins_tuple b iv.toArray) tu.isList tv fun h' gz gp gq g1 g2 sz up => wpAny_pyIter_zip gz ?_
    have I2 : Inv X pins σ H1 { s1 with heap := h' } := I1.kept (t' := s1.toks) up
    have fr : ∀ c, s1.heap.objs.size ≤ c → FpOk X pins H1 c := fun c le => I1.fpOk le (I1.hok.fresh le)
    generalize s1.heap.objs.size = N at *
    have apart : ZcM (N + 4) (N + 2) (N + 3) N (N + 1) a b := by
      constructor <;> (intro t; revert t la lb; simp only [Addr] at *; omega)
    refine ⟨N + 4, [N + 4, N + 2, N + 3, N, N + 1], _, _, H1, rfl, I2, turn_zipQ apart, ⟨gz, gp, ⟨_, _, gq⟩, ⟨_, g1, rfl, rfl⟩, ⟨_, g2, rfl, rfl⟩⟩, fun c m => ?_, go⟩
    rcases five m with t | t | t | t | t <;> subst t
    · exact fr _ (Nat.le_add_right _ _)
    · exact fr _ (Nat.le_add_right _ _)
    · exact fr _ (Nat.le_add_right _ _)
    · exact fr _ (Nat.le_refl _)
    · exact fr _ (Nat.le_add_right _ _)
def dZipQ : List D → M (List D) := fun ds => li (match ds with
  | [.lst xs, .tup ys] => some (zipD xs ys)
  | _ => none)
section
variable {K : PySem.W.Frag} {mg : Str → Option Value} {B' : Hp} {p q : Addr} {X : Cx} {W : WX} {a b : Expr} {fr : M (List D)} {pz pos : Pos} {es : List Expr} {n : Nat} {tpos : Pos}
theorem walks_zipQ {us vs : List V} {ds cs : List D} (h : SqL K B' p us) (r : AtL K mg B' us ds) (h2 : SqT K B' q vs) (r2 : AtL K mg B' vs cs) : Walks K mg (ItzQ K p q) B' (zipD ds cs) where
  go := fun i d Z σ1 H1 e1 B1 l S hd => by
    obtain ⟨x, y, hx, hy, rfl⟩ := zipD_get hd
    obtain ⟨u, hu, ru⟩ := r.get hx
    obtain ⟨v, hv, rv⟩ := r2.get hy
    have tu : SqL K H1 p us := S.bh.seq (l.seq h)
    have tv : SqT K H1 q vs := seqT S.bh (seqT l h2)
    refine ⟨⟨us, vs, u, v, tu, tv, hu, hv⟩, fun x H2 w => ?_⟩
    obtain ⟨T, u', v', rfl, hT, rfl, f1, f2⟩ := w
    cases hu.symm.trans (f1 us tu)
    cases hv.symm.trans (f2 vs tv)
    obtain ⟨S2, l2⟩ := S.new (o := .tup [u, v]) hT
    exact ⟨⟨_, S2, l2, .tup (SqT.of upd_same) (.cons (ru.mono (l.trans l2)) (.cons (rv.mono (l.trans l2)) .nil))⟩, fun a o z => by rw [upd_ne (ne_of_none z hT)]; exact z⟩
  stop := fun i Z σ1 H1 e1 B1 l S hi => ⟨us, vs, S.bh.seq (l.seq h), seqT S.bh (seqT l h2), by rw [r.length, r2.length]; exact zipD_len hi⟩
theorem pid_zipQ (ha : PAD X W [a, b] fr) (hm : X.mg "zip" = none) (hg : Gl X "zip" := by rfl) (hs : starEach [a, b] X.env = (false, eval a X.env) :: starEach [b] X.env := by rfl) (hpl : (backTo pos (starEach [b] X.env)).any (·.1) = false := by rfl) : PID X W (.Tuple es n tpos) (.Call (.Name "zip" pz) [a, b] [] pos) (bd fr dZipQ) := by
  obtain ⟨ta, pa, ea⟩ := ha
  refine ⟨_, pi_zipQ hg hm pa hs hpl, fun Z B σ H e R S h => ?_⟩
  refine ea Z B σ H e _ S ((wp_bd.mp h).imp (fun ds e1 h1 vs B1 H1 S1 l1 a1 => ?_) fun x e' q => q)
  obtain ⟨r, h2, h3⟩ := wp_li h1
  match ds, h2 with
  | [.lst xs, .tup ys], h2 =>
    cases h2
    cases a1 with
    | cons r rr =>
      cases rr with
      | cons r2 rr =>
        cases rr
        obtain ⟨p1, v1, rfl, g1, g2⟩ := r.lst_inv
        obtain ⟨p2, v2, rfl, k1, k2⟩ := r2.tup_inv
        exact ⟨p1, p2, v1, v2, rfl, SqL.of (S1.bh _ _ g1), seqT S1.bh k1, h3 _ B1 H1 S1 l1 (walks_zipQ (SqL.of g1) g2 k1 k2)⟩
end
end Dl
set_option maxHeartbeats 1000000
/-! Layer D: isinstance of an own object by a built-in class. -/
namespace Dl
open PySem PySem.Spec PyProof.Rows L2 RZ
end Dl
set_option maxHeartbeats 1000000
/-! Layer D: a call whose one argument is a new list, changed by the callee and then gone. -/
namespace Dl
open PySem PySem.Spec PyProof.Rows L2 RZ
end Dl
set_option maxHeartbeats 1000000
/-! Layer D: fields of f-strings at the right of a width. -/
namespace Dl
open PySem PySem.Spec PyProof.Rows L2 RZ
open Builtin Builtin.Str Builtin.Int Builtin.Float PySem.W TL
/-- at the right of w signs -/
def padR (w : Nat) (y : Str) : Str := padded y (w - y.length) 0 32
theorem padR_list (w : Nat) (y : Str) : (padR w y).cps.toList = List.replicate (w - y.length) 32 ++ y.cps.toList := by
  unfold padR
  rw [padded_list, List.replicate_zero, List.append_nil]
theorem padR_len (w : Nat) (y : Str) : (padR w y).length = w - y.length + y.length := size_padded _ _ _ _
theorem padR_id {w : Nat} {y : Str} (h : w ≤ y.length) : padR w y = y := by
  have e : (padR w y).cps.toList = y.cps.toList := by
    rw [padR_list, Nat.sub_eq_zero_of_le h]
    rfl
  have e2 : (padR w y).cps = y.cps := Array.toList_inj.mp e
  cases hh : padR w y with
  | mk a => rw [hh] at e2; cases y; cases e2; rfl
section
variable {prog : Program} {w : World} {A : Around} {E : Value → Shared → Prop} {s : Shared} {t : Tok} {x sp : Str}
theorem field_of {n : Nat} (hn : n ≤ 100) : strField x ({ align := 62, width := some n } : FormatSpec) "str" = .ok (if n ≤ x.length then none else some (padR n x)) := by
  by_cases h : n ≤ x.length
  · rw [if_pos h]
    have e : (decide (n ≤ x.length) && (none : Option Nat).all (· ≥ x.length)) = true := by rw [decide_eq_true h]; rfl
    show (if (decide (n ≤ x.length) && (none : Option Nat).all (· ≥ x.length)) = true then (Except.ok none : Except String (Option Str)) else _) = _
    rw [if_pos e]
  · rw [if_neg h]
    have e : ¬ (decide (n ≤ x.length) && (none : Option Nat).all (· ≥ x.length)) = true := by rw [decide_eq_false h]; exact Bool.false_ne_true
    show (if (decide (n ≤ x.length) && (none : Option Nat).all (· ≥ x.length)) = true then (Except.ok none : Except String (Option Str)) else _) = _
    rw [if_neg e]
    show (Except.ok (some (padded (strSub x 0 x.length) (n - (strSub x 0 x.length).length) (n - (strSub x 0 x.length).length - (n - (strSub x 0 x.length).length)) 32)) : Except String (Option Str)) = .ok (some (padded x (n - x.length) 0 32))
    rw [strSub_whole, Nat.sub_self]
theorem meets_strW {n : Nat} (hne : (sp.length == 0) = false) (hasc : ((sp.cps.toList.drop 1).any (· ≥ 128) || (sp.cps.getD 0 0 ≥ 128 && !([60, 62, 61, 94] : List Nat).contains (sp.cps.getD 1 0))) = false)
    (hp : parseFormatSpec sp.cps.toList "str" 60 = .ok { align := 62, width := some n }) (hb : (sp.cps.back? == some 0) = false) (hn : n ≤ 100) (hz : x.length + 100 ≤ sizeLine) (u : Tok) :
    Meets («str.__format__» ⟨[.str x t, .str sp u], []⟩) (fun _ R s => ∀ t' k, R (.ok (.ret (.str (padR n x) t'))) { s with toks := k }) := by
  apply KPc.meets_of
  intro _ _ _ _ _ _ h
  unfold Builtin.«str.__format__»
  refine wpAny_bind (wpAny_of_eq (a := (_, _, _)) rfl ?_)
  refine wpAny_bind (wpAny_of_eq (a := some _) rfl ?_)
  refine wpAny_ite (KPc.ite_no (by rw [hne]; exact Bool.false_ne_true) ?_)
  refine wpAny_ite (KPc.ite_no (by rw [hasc]; exact Bool.false_ne_true) ?_)
  refine wpAny_bind (KXf.cut_str ?_)
  have hc : (do
      let f ← parseFormatSpec sp.cps.toList "str" 60
      have f : FormatSpec :=
        if (f.type.isNone && sp.cps.back? == some 0) = true then
          { fill := f.fill, align := f.align, sign := f.sign, noNeg0 := f.noNeg0, alt := f.alt, width := f.width,
            grouping := f.grouping, precision := f.precision, type := some 0 }
        else f
      if tooLong (f.width.getD 0) = true then pure none
        else do
          let __do_lift ← strField x f "str"
          pure (some __do_lift) : Except String (Option (Option Str))) = .ok (some (if n ≤ x.length then none else some (padR n x))) := by
    rw [hp]
    show (if tooLong ((if (true && sp.cps.back? == some 0) = true then _ else ({ align := 62, width := some n } : FormatSpec)).width.getD 0) = true then _ else _) = _
    rw [Bool.true_and, hb, if_neg Bool.false_ne_true]
    have tl : tooLong n = false := by unfold tooLong; rw [sizeLine_eq]; exact decide_eq_false (by omega)
    show (if tooLong n = true then _ else _) = _
    rw [tl, if_neg Bool.false_ne_true]
    show (strField x ({ align := 62, width := some n } : FormatSpec) "str" >>= fun l => pure (some l)) = _
    rw [field_of hn]
    rfl
  dsimp only
  rw [hc]
  by_cases q : n ≤ x.length
  · rw [if_pos q]
    have e : padR n x = x := padR_id q
    rw [e] at h
    exact wpAny_bind (wpAny_rule (wpAny_pure (h _ _)))
  · rw [if_neg q]
    exact KXf.ret_text rfl (by rw [padR_len]; omega) h
theorem field_strW {n : Nat} {Q : Value → Shared → Prop} (hne : (sp.length == 0) = false) (hasc : ((sp.cps.toList.drop 1).any (· ≥ 128) || (sp.cps.getD 0 0 ≥ 128 && !([60, 62, 61, 94] : List Nat).contains (sp.cps.getD 1 0))) = false)
    (hp : parseFormatSpec sp.cps.toList "str" 60 = .ok { align := 62, width := some n }) (hb : (sp.cps.back? == some 0) = false) (hn : n ≤ 100) (hsz : sp.length ≤ sizeLine) (hz : x.length + 100 ≤ sizeLine)
    (h : ∀ t' k, Q (.str (padR n x) t') { s with toks := k }) : wpAny (model prog w) A (formatField (.str x t) sp) Q E s :=
  KXf.field_str rfl rfl hne hsz (meets_strW hne hasc hp hb hn hz) h
theorem fld (n : Nat) (neg : Bool) {ds : List Nat} (hd : ds ≠ []) : (intField' { align := 62, width := some n } neg [] ds [] 3).cps.toList = List.replicate (n - ((if neg = true then [45] else []) ++ ds).length) 32 ++ ((if neg = true then [45] else []) ++ ds) := by
  have z : (0 : Int).toNat - ds.length = 0 := Nat.zero_sub _
  have key : ∀ sg : List Nat, (List.replicate (((n : Int) - ((sg.length : Int) + (([] : List Nat).length : Int) + (([] : List Nat).length : Int)) - ((List.replicate ((0 : Int).toNat - ds.length) 48 ++ ds).length : Int)).toNat) 32 ++ sg ++ [] ++ List.replicate 0 32 ++ (List.replicate ((0 : Int).toNat - ds.length) 48 ++ ds) ++ [] ++ List.replicate 0 32 : List Nat) = List.replicate (n - (sg ++ ds).length) 32 ++ (sg ++ ds) := fun sg => by
    rw [z, List.replicate_zero, List.nil_append, List.replicate_zero, List.append_nil, List.append_nil, List.append_nil, List.append_nil, List.append_assoc, List.length_append]
    congr 2
    simp only [List.length_nil]
    omega
  cases ds with
  | nil => exact absurd rfl hd
  | cons d r => cases neg with
    | true => exact key [45]
    | false => exact key []
theorem int_list (a : Int) : (Str.ofString (toString a)).cps.toList = (if decide (a < 0) = true then [45] else []) ++ numL a.natAbs := by
  show tl (Str.ofString (toString a)) = _
  cases a with
  | ofNat m => rw [if_neg (by simp)]; exact tl_num m
  | negSucc m =>
    rw [if_pos (by simp [Int.negSucc_lt_zero])]
    have e : (toString (Int.negSucc m) : String) = "-" ++ toString (((m + 1 : Nat) : Int)) := rfl
    rw [e, tl_ofString, String.toList_append, List.map_append]
    have h := tl_num (m + 1)
    rw [tl_ofString] at h
    rw [h]
    rfl
theorem int_len {a : Int} (h : a.natAbs.log2 < 1920) : (Str.ofString (toString a)).length ≤ 601 := by
  have l : (Str.ofString (toString a)).length = ((if decide (a < 0) = true then [45] else []) ++ numL a.natAbs).length := by rw [← int_list]; rfl
  have b : a.natAbs < 10 ^ 600 := by
    have h2 : (2 : Nat) ^ 1920 ≤ 10 ^ 600 := by decide +kernel
    by_cases z : a.natAbs = 0
    · rw [z]; exact Nat.pow_pos (by decide)
    · exact Nat.lt_of_lt_of_le ((Nat.log2_lt z).mp h) h2
  have := numL_len (k := 600) (by decide) b
  rw [l, List.length_append]
  split
  · simp only [List.length_singleton]; omega
  · simp only [List.length_nil]; omega
theorem meets_intW {n : Nat} {a : Int} (hne : (sp.length == 0) = false) (hasc : ((sp.cps.toList.drop 1).any (· ≥ 128) || (sp.cps.getD 0 0 ≥ 128 && !([60, 62, 61, 94] : List Nat).contains (sp.cps.getD 1 0))) = false)
    (hp : parseFormatSpec sp.cps.toList "int" 62 = .ok { align := 62, width := some n }) (hb : (sp.cps.back? == some 0) = false) (hn : n ≤ 100) (ha : a.natAbs.log2 < 1920) (u : Tok) :
    Meets («int.__format__» ⟨[.int a t, .str sp u], []⟩) (fun _ R s => ∀ t' k, R (.ok (.ret (.str (padR n (toString a)) t'))) { s with toks := k }) := by
  apply KPc.meets_of
  intro _ _ _ _ _ _ h
  unfold Builtin.«int.__format__»
  refine wpAny_bind (wpAny_of_eq (a := (_, _)) rfl ?_)
  refine wpAny_bind (wpAny_of_eq (a := _) rfl ?_)
  refine wpAny_ite (KPc.ite_no (by exact Bool.false_ne_true) ?_)
  refine wpAny_bind (wpAny_typeNameOf (T := "str") (typeIs_str _ _ _) (by decide) fun _ => ?_)
  refine wpAny_bind (wpAny_of_eq (a := some _) rfl ?_)
  refine wpAny_ite (KPc.ite_no (by rw [hne]; exact Bool.false_ne_true) ?_)
  refine wpAny_ite (KPc.ite_no (by rw [hasc]; exact Bool.false_ne_true) ?_)
  refine wpAny_bind (wpAny_typeNameOfCut_int ?_)
  rw [hp]
  dsimp only
  rw [hb]
  refine wpAny_ite (KPc.ite_yes (by decide) ?_)
  show wpAny _ _ (do let r ← Builtin.overDigitLimit? a; _) _ _ _
  refine wpAny_bind (wpAny_of_eq (PySem.overDigitLimit_small ha) ?_)
  refine wpAny_ite (KPc.ite_no (c := n > 100000) (by omega) ?_)
  have ed : (Nat.toDigits 10 a.natAbs).map (fun c => (if ((100 : Nat) == 88) = true then c.toUpper else c).toNat) = numL a.natAbs := rfl
  have key : intField' { align := 62, width := some n } (decide (a < 0)) [] ((Nat.toDigits 10 a.natAbs).map fun c => (if ((100 : Nat) == 88) = true then c.toUpper else c).toNat) [] 3 = padR n (Str.ofString (toString a)) := by
    rw [ed]
    have e := int_list a
    have l : (Str.ofString (toString a)).length = ((if decide (a < 0) = true then [45] else []) ++ numL a.natAbs).length := by rw [← e]; rfl
    have goal : (intField' { align := 62, width := some n } (decide (a < 0)) [] (numL a.natAbs) [] 3).cps.toList = (padR n (Str.ofString (toString a))).cps.toList := by
      rw [padR_list, e, l]
      exact fld n _ (numL_ne _)
    have e2 := Array.toList_inj.mp goal
    generalize intField' { align := 62, width := some n } (decide (a < 0)) [] (numL a.natAbs) [] 3 = p at e2
    generalize padR n (Str.ofString (toString a)) = q at e2
    cases p; cases q; cases e2; rfl
  have hl : (intField' { align := 62, width := some n } (decide (a < 0)) [] ((Nat.toDigits 10 a.natAbs).map fun c => (if ((100 : Nat) == 88) = true then c.toUpper else c).toNat) [] 3).length ≤ sizeLine := by
    rw [key, padR_len, sizeLine_eq]
    have := int_len ha
    omega
  exact KXf.ret_text key hl h
theorem field_intW {n : Nat} {a : Int} {Q : Value → Shared → Prop} (hne : (sp.length == 0) = false) (hasc : ((sp.cps.toList.drop 1).any (· ≥ 128) || (sp.cps.getD 0 0 ≥ 128 && !([60, 62, 61, 94] : List Nat).contains (sp.cps.getD 1 0))) = false)
    (hp : parseFormatSpec sp.cps.toList "int" 62 = .ok { align := 62, width := some n }) (hb : (sp.cps.back? == some 0) = false) (hn : n ≤ 100) (hsz : sp.length ≤ sizeLine) (ha : a.natAbs.log2 < 1920)
    (h : ∀ t' k, Q (.str (padR n (toString a)) t') { s with toks := k }) : wpAny (model prog w) A (formatField (.int a t) sp) Q E s :=
  KXf.field_int rfl hne hsz (meets_intW hne hasc hp hb hn ha) h
end
section
variable {X : Cx} {W : WX} {a : Expr} {fa : M D} {pos jp cp : Pos} {sp : Str} {ci n : Nat}
/-- what is asked of a written format -/
structure FmW (sp : Str) (n : Nat) : Prop where
  ne : (sp.length == 0) = false
  asc : ((sp.cps.toList.drop 1).any (· ≥ 128) || (sp.cps.getD 0 0 ≥ 128 && !([60, 62, 61, 94] : List Nat).contains (sp.cps.getD 1 0))) = false
  ps : parseFormatSpec sp.cps.toList "str" 60 = .ok { align := 62, width := some n }
  pi : parseFormatSpec sp.cps.toList "int" 62 = .ok { align := 62, width := some n }
  b : (sp.cps.back? == some 0) = false
  n : n ≤ 100
  z : sp.length ≤ 100
def tFmtW (n : Nat) (te : TE) : TE := fun σ H Q => te σ H fun x H1 => (∃ y : Str, x = .str y ∧ y.length + 100 ≤ sizeLine ∧ Q (.str (padR n y)) H1) ∨ ∃ i : Int, x = .int i ∧ i.natAbs.log2 < 1920 ∧ Q (.str (padR n (toString i))) H1
theorem pe_fmtW {te : TE} (fw : FmW sp n) (he : PE X a te) : PE X (.FormattedValue a (-1) (some (.JoinedStr [.Constant (.str sp) ci cp] jp)) pos) (tFmtW n te) := by
  refine ⟨fun pins s σ H Q I h => ?_⟩
  refine wpAny_FormattedValue_spec (thn (he.run pins s σ H _ I h) fun v s1 hv => ?_)
  obtain ⟨x, H1, I1, r1, q⟩ := hv
  have hz : sp.length ≤ sizeLine := by rw [sizeLine_eq]; have := fw.z; omega
  refine wpAny_JoinedStr_one (Calls.Constant_str ⟨sp, _, rfl, ?_⟩)
  rcases q with ⟨y, rfl, hy, q⟩ | ⟨i, rfl, hi, q⟩
  · obtain ⟨t, rfl⟩ := r1
    exact field_strW fw.ne fw.asc fw.ps fw.b fw.n hz hy fun t' k => ⟨.str (padR n y), H1, I1.tok _, ⟨_, rfl⟩, q⟩
  · obtain ⟨t, rfl⟩ := r1
    exact field_intW fw.ne fw.asc fw.pi fw.b fw.n hz hi fun t' k => ⟨.str (padR n (toString i)), H1, I1.tok _, ⟨_, rfl⟩, q⟩
def fFmtW (n : Nat) (fa : M D) : M D := bd fa fun d => li (match d with
  | .str y => if y.length ≤ 16000000 then some (.str (padR n y)) else none
  | .int i => if i.natAbs.log2 < 1920 then some (.str (padR n (toString i))) else none
  | _ => none)
theorem ped_fmtW (fw : FmW sp n) (ha : PED X W a fa) : PED X W (.FormattedValue a (-1) (some (.JoinedStr [.Constant (.str sp) ci cp] jp)) pos) (fFmtW n fa) := by
  obtain ⟨ta, pa, ea⟩ := ha
  refine ⟨_, pe_fmtW fw pa, fun Z B σ H e Q S h => ?_⟩
  refine ea.then S h (fun x e' q => q) fun d e1 v B1 H1 S1 l1 a1 h1 => ?_
  obtain ⟨z, h2, h3⟩ := wp_li h1
  cases d with
  | str y =>
    have h2 : (if y.length ≤ 16000000 then some (D.str (padR n y)) else none) = some z := h2
    by_cases hz : y.length ≤ 16000000
    · rw [if_pos hz] at h2
      cases h2
      exact .inl ⟨y, a1.str_inv, by rw [sizeLine_eq]; omega, h3 _ B1 H1 S1 l1 (.str _)⟩
    · rw [if_neg hz] at h2; cases h2
  | int i =>
    have h2 : (if i.natAbs.log2 < 1920 then some (D.str (padR n (toString i))) else none) = some z := h2
    by_cases hz : i.natAbs.log2 < 1920
    · rw [if_pos hz] at h2
      cases h2
      exact .inr ⟨i, a1.int_inv, hz, h3 _ B1 H1 S1 l1 (.str _)⟩
    · rw [if_neg hz] at h2; cases h2
  | _ => cases h2
theorem fw8 : FmW (">8" : Str) 8 := ⟨rfl, rfl, by rfl, by rfl, rfl, by decide, by decide⟩
theorem fw6 : FmW (">6" : Str) 6 := ⟨rfl, rfl, by rfl, by rfl, rfl, by decide, by decide⟩
end
end Dl
set_option maxHeartbeats 1000000
/-! Layer D: where a token must be out (replace). -/
namespace Dl
open PySem PySem.Spec PyProof.Rows L2 RZ CwR
def PEDT (X : Cx) (W : WX) (a : Expr) (f : M D) : Prop := ∃ te, PET X a te ∧ EvD X.K X.mg W te f
def PSDT (X : Cx) (W : WX) (st : Stmt) (f : M Fl) : Prop := ∃ ts, PST X st ts ∧ EvS X.K X.mg W ts f
def PSsDT (X : Cx) (W : WX) (st : List Stmt) (f : M Fl) : Prop := ∃ ts, PSsT X st ts ∧ EvS X.K X.mg W ts f
section
variable {X : Cx} {W : WX} {a : Expr} {fa : M D} {st : Stmt} {rest : List Stmt} {g u : M Fl} {pos : Pos}
theorem PSDT.of (h : PSD X W st g) : PSDT X W st g := by
  obtain ⟨t, p, e⟩ := h
  exact ⟨t, PST.of p, e⟩
theorem PSsDT.of (h : PSsD X W rest g) : PSsDT X W rest g := by
  obtain ⟨t, p, e⟩ := h
  exact ⟨t, PSsT.of p, e⟩
theorem pssdt_one (h : PSDT X W st g) : PSsDT X W [st] g := by
  obtain ⟨t, p, e⟩ := h
  refine ⟨_, psst_one p, ?_⟩
  exact e
theorem pssdt_cons (h1 : PSDT X W st g) (h2 : PSsDT X W rest u) : PSsDT X W (st :: rest) (fSeq g u) := by
  obtain ⟨t, p, et⟩ := h1
  obtain ⟨t2, p2, e2⟩ := h2
  refine ⟨_, psst_cons p p2, fun Z B σ H e Y S h => ?_⟩
  refine et Z B σ H e _ S ((wp_bd.mp h).imp (fun f e1 h1 => ?_) fun x e' q => q)
  cases f with
  | nx => exact fun σ' B' H' S' l' => e2 Z B' σ' H' e1 Y S' (upF l' h1)
  | rt d => exact h1
  | bk => exact h1
  | ct => exact h1
  | rn d => exact h1
end
/-! ### a def with a parameter: a token is out when its body begins -/
section
variable {P : Program} {w : World} {K : PySem.W.Frag} {mg : Str → Option Value} {base : Heap} {x qual : Str} {st : Stmt} {f : Addr} {fd : FuncData} {N ps : List Str} {k : Nat} {g : M Fl}
theorem fn_okT (F : Fun K x qual st f fd) (S : FnScope N ps (defScope st)) (hN : ps.length ≤ N.length) (hnc : ∀ y ∈ (defScope st).names, y.2 ≠ .cell) (h1 : 1 ≤ ps.length)
    (hb : ∀ (cdv : Value) (A : Around) (outer : List Env) (s : Shared) (H : Hp) (E : XK), Room k (A.deeper (envOfC qual (defScope st) s.heap.objs.size f cdv)) → PSsDT (cxOf (L2.CX P w) P w K mg base N qual (defScope st) f cdv A outer s H E) (fun c d _ H' => E c d H') (defBody st) g) :
    FnOk P w K mg base (L2.CX P w) (k + 1) f fd ps (spD K mg (runF ps.length N.length g)) := by
  obtain ⟨o1, o2, v1, v2, v3, o3, cv, v4, sl, rfl, look, code⟩ := F.ex
  refine fn_ofT look code S hnc h1 (len_run fun as h => runF_len as h) fun A outer s H vs Q E room sp => ?_
  obtain ⟨ts, p, ev⟩ := hb cv A outer s H E room
  exact ⟨ts, p, body_ok hN ev sp⟩
end
/-! ### replace, and a test that begins with it -/
def fRepl (y z : Str) (fo : M D) : M D := bd fo fun d => li (match d with
  | .str x => if x.length + (x.length + 1) * z.length ≤ 16777216 then some (.str (Txt.replace x y z)) else none
  | _ => none)
def PTT (X : Cx) (c : Expr) (t : TT) : Prop :=
  ∀ (pins : List (Addr × Obj)) (s : Shared) (σ : St) (H : Hp) (Q : Bool → Hp → Prop), 1 ≤ s.toks → Inv X pins σ H s → t σ H Q → wpAny (model X.prog X.w) X.A (isTrue c X.env (eval c X.env)) (TP X pins σ Q) X.xe s
def PBDT (X : Cx) (W : WX) (a : Expr) (f : M Bool) : Prop := ∃ tt, PTT X a tt ∧ EvB X.K X.mg W tt f
section
variable {X : Cx} {W : WX} {a b c o : Expr} {fa fb fo : M D} {sa sb : List Stmt} {gc : M Bool} {ga gb : M Fl} {pos apos c0 c1 : Pos} {y z : Str} {j k : Nat} {te tb : TE} {tc : TT} {t u : TS}
theorem ped_repl (ho : PED X W o fo) (hyz : (y == z) = false := by decide)
    (hst : starEach [.Constant (.str y) j c0, .Constant (.str z) k c1] X.env = [(false, eval (.Constant (.str y) j c0) X.env), (false, eval (.Constant (.str z) k c1) X.env)] := by rfl)
    (hbase : attributeBase o "replace" X.env (eval o X.env) = eval o X.env := by rfl) (hline : (apos.endLine == pos.line) = true := by rfl) :
    PEDT X W (.Call (.Attribute o "replace" apos) [.Constant (.str y) j c0, .Constant (.str z) k c1] [] pos) (fRepl y z fo) := by
  obtain ⟨to, po, eo⟩ := ho
  refine ⟨_, pet_replC po hyz hst hbase hline, fun Z B σ H e Q S h => ?_⟩
  refine eo.then S h (fun x e' q => q) fun d e1 v B1 H1 S1 l1 a1 h1 => ?_
  obtain ⟨r, h2, h3⟩ := wp_li h1
  cases d with
  | str x =>
    have h2 : (if x.length + (x.length + 1) * z.length ≤ 16777216 then some (D.str (Txt.replace x y z)) else none) = some r := h2
    by_cases hz : x.length + (x.length + 1) * z.length ≤ 16777216
    · rw [if_pos hz] at h2
      cases h2
      exact ⟨x, a1.str_inv, hz, h3 _ B1 H1 S1 l1 (.str _)⟩
    · rw [if_neg hz] at h2; cases h2
  | _ => cases h2
theorem ptt_cmp {op : CmpOp} {r : R2} (ho : OpR X (compareOp op) r) (ha : PET X a te) (hb : PE X b tb) (hm : behindInMarks op b = false) : PTT X (.Compare a [op] [b] pos) (tTest (tOp r te tb)) := by
  intro pins s σ H Q tok I h
  refine wpAny_isTrue_Compare1 (thn (ha pins s σ H _ tok I h) fun p s1 ⟨x, Ha, Ia, rx, qa⟩ => thn (hb.run pins s1 σ Ha _ Ia qa) fun q s2 ⟨w, Hb, Ib, rw2, qb⟩ => thn (ho pins s2 σ Hb x w p q _ Ib rx rw2 qb) fun d s3 ⟨i, Hc, Ic, rc, l, el, qc⟩ => ?_) hm
  subst el
  cases rc
  exact wpAny_truthy_bool ⟨Hc, Ic, qc⟩
theorem pbdt_cmp {op : CmpOp} {r : R2} {od : D → D → M D} (ho : OpR X (compareOp op) r) (hd : OpD X.K X.mg W r od) (ha : PEDT X W a fa) (hb : PED X W b fb) (hm : behindInMarks op b = false := by first | exact nobehind _ (by decide) (by decide) | rfl) : PBDT X W (.Compare a [op] [b] pos) (fB (f2 od fa fb)) := by
  obtain ⟨ta, pa, ea⟩ := ha
  obtain ⟨tb, pb, eb⟩ := hb
  exact ⟨_, ptt_cmp ho pa pb hm, evB_of (evD_op ea eb hd)⟩
theorem pst_ifT (hc : PTT X c tc) (ha : PSsT X sa t) (hb : PSsT X sb u) : PST X (.If c sa sb pos) (tIfS tc t u) := by
  intro pins s σ H D tok I h
  refine wpAny_If (wpAny_mono (PySem.wpAny_toks (hc pins s σ H _ tok I h)) (fun d s1 q => ?_) fun _ _ z => z.2)
  obtain ⟨le, H1, I1, q⟩ := q
  have tok1 : 1 ≤ s1.toks := Nat.le_trans tok le
  cases d with
  | true => exact ha pins s1 σ H1 D tok1 I1 q
  | false => exact hb pins s1 σ H1 D tok1 I1 q
theorem psdt_if (hc : PBDT X W c gc) (ha : PSsDT X W sa ga) (hb : PSsDT X W sb gb) : PSDT X W (.If c sa sb pos) (fIf gc ga gb) := by
  obtain ⟨tc, pc, ec⟩ := hc
  obtain ⟨ta, pa, ea⟩ := ha
  obtain ⟨tb, pb, eb⟩ := hb
  refine ⟨_, pst_ifT pc pa pb, fun Z B σ H e Y S h => ?_⟩
  refine ec.then S h (fun x e' q => PXs.at q) fun d e1 B1 H1 S1 l1 h1 => ?_
  cases d with
  | true => exact ea Z B1 σ H1 e1 Y S1 (upF l1 h1)
  | false => exact eb Z B1 σ H1 e1 Y S1 (upF l1 h1)
end
/-! ### for, whose body needs a token -/
theorem thnK {α : Type} {P : Program} {w : World} {A : Around} {E : Value → Shared → Prop} {s : Shared} {m : Sem α} {R Q : α → Shared → Prop} (h : wpAny (model P w) A m R E s) (k : ∀ v s', s.toks ≤ s'.toks → R v s' → Q v s') : wpAny (model P w) A m Q E s :=
  wpAny_mono (PySem.wpAny_toks h) (fun v s' q => k v s' q.1 q.2) fun _ _ z => z.2
section
variable {X : Cx} {W : WX} {tg iter : Expr} {body : List Stmt} {wi : TI} {gg : TG} {tb : TS} {pos : Pos}
theorem pst_forT (own : PassesOwn (model X.prog X.w) X.A X.env X.xe) (cm : X.calm = true) (src : PI X tg iter wi) (tgt : PG X tg gg) (bdy : PSsT X body tb)
    (fold : ∀ x, foldedSetIterable iter X.env x = pure x := by intro _; rfl) : PST X (.For tg iter body [] pos) (tFor wi gg tb) := by
  intro pins s σ H D tok I h
  refine wpAny_For (thnK (src.run pins s σ H _ I h) fun v sa la ha => thnK ha fun itv sb lb hb => ?_) fold
  obtain ⟨it, foot, turnAt, J, Hb, ev, Ib, tr, at0, clear, Wk, ⟨m0, w0⟩, turn⟩ := hb
  subst ev
  have still : ∀ {Hx : Hp}, (∀ c ∈ foot, Hx c = none) → ∀ c ∈ foot, FpOk X pins Hx c := fun no c hc => ⟨no c hc, (clear c hc).2⟩
  refine codeAny_forLoop_any (fun n sx => 1 ≤ sx.toks ∧ ∃ i σx Hx, Inv X pins σx Hx sx ∧ turnAt i sx.heap ∧ (∀ c ∈ foot, Hx c = none) ∧ Wk i n σx Hx) ?_ m0 ⟨by omega, 0, σ, Hb, Ib, at0, fun c hc => (clear c hc).1, w0⟩
  rintro n sc ⟨tc, i, σc, Hc, Ic, atc, noc, wc⟩
  rcases turn i n σc Hc wc with ⟨halt, qn⟩ | ⟨more, Nx, next, step⟩
  · refine wpAny_passesOwn own (thnK (tr.done X rfl rfl rfl cm i pins sc σc Hc X.xe Ic (still noc) atc halt) fun r sd _ ⟨er, Id⟩ => ?_)
    subst er
    exact wpAny_execs_nil ⟨σc, Hc, Id, qn⟩
  · refine wpAny_passesOwn own (thnK (tr.item X rfl rfl rfl cm i pins sc σc Hc X.xe Ic (still noc) atc more) fun r sd ld ⟨u, er, hd⟩ => ?_)
    subst er
    refine wpAny_passesOwn own (thnK hd fun _ se le ⟨x, He, Ie, re, ye, ate, noe⟩ => ?_)
    have Ip := Ie.pinned (still noe) (tr.obj _ _ ate)
    refine wpAny_passesOwn own (thnK (tgt.run _ se σc He x u _ Ip re (step x He ye)) fun _ sf lf ⟨σf, Hf, If, qf⟩ => ?_)
    refine wpAny_passesOwn own (thnK (bdy _ sf σf Hf _ (by omega) If qf) fun fl sg lg qg => ?_)
    have back : ∀ {σg : St} {Hg : Hp}, Inv X (pins ++ pinsAt foot se.heap) σg Hg sg → Nx σg Hg → ∃ m, m < n ∧ (1 ≤ sg.toks ∧ ∃ i σx Hx, Inv X pins σx Hx sg ∧ turnAt i sg.heap ∧ (∀ c ∈ foot, Hx c = none) ∧ Wk i m σx Hx) := fun {σg Hg} Ig ng => by
      obtain ⟨m, lt, wg⟩ := next σg Hg ng
      have held : ∀ c ∈ foot, ∀ o, se.heap.get? c = some o → (c, o) ∈ (X.pn ++ (pins ++ pinsAt foot se.heap)) := fun c hc o eo => List.mem_append_right _ (List.mem_append_right _ (mem_pinsAt hc eo))
      refine ⟨m, lt, by omega, i + 1, σg, Hg, Ig.unpinned, tr.keep _ _ _ ate fun c hc o eo => (Ig.pin (c, o) (held c hc o eo)).1, fun c hc => ?_, wg⟩
      obtain ⟨o, eo, _⟩ := tr.obj _ _ ate c hc
      exact (Ig.pin (c, o) (held c hc o eo)).2.1
    cases fl with
    | next => obtain ⟨σg, Hg, Ig, ng⟩ := qg; exact back Ig ng
    | cont => obtain ⟨σg, Hg, Ig, ng⟩ := qg; exact back Ig ng
    | brk => obtain ⟨σg, Hg, Ig, q⟩ := qg; exact ⟨σg, Hg, Ig.unpinned, q⟩
    | ret v => obtain ⟨xg, σg, Hg, Ig, rg, q⟩ := qg; exact ⟨xg, σg, Hg, Ig.unpinned, rg, q⟩
end
section
variable {X : Cx} {W : WX} {tg iter : Expr} {body : List Stmt} {src : M (List D)} {t : D → M Unit} {g : M Fl} {pos : Pos}
theorem psdt_for (hp : PassesOwn (model X.prog X.w) X.A X.env X.xe) (hc : X.calm = true) (hi : PID X W tg iter src) (ht : PGD X tg t) (hb : PSsDT X W body g) (hs : ∀ x, foldedSetIterable iter X.env x = pure x := by intro _; rfl) : PSDT X W (.For tg iter body [] pos) (fFor src t g) := by
  obtain ⟨wi, pi, ei⟩ := hi
  obtain ⟨gt, pg, eg⟩ := ht
  obtain ⟨tb, pb, eb⟩ := hb
  refine ⟨_, pst_forT hp hc pi pg pb hs, fun Z B σ H e Y S h => ?_⟩
  refine ei Z B σ H e _ S ((wp_bd.mp h).imp (fun ds e1 h1 J B1 H1 S1 l1 wk => ?_) fun x e' q => PXs.at q)
  refine ⟨fun i m σ2 H2 => ∃ B2 e2, Same B1 B2 ∧ SR X.K X.mg Z B2 σ2 H2 e2 ∧ m = ds.length - i ∧ i ≤ ds.length ∧ (forL t g (ds.drop i) e2).wp (PF X.K X.mg Z B2 Y) (PXs X.K X.mg Z B2 W), ⟨ds.length, B1, e1, Same.refl B1, S1, by simp, Nat.zero_le _, by simpa using upF l1 h1⟩, ?_⟩
  rintro i m σ2 H2 ⟨B2, e2, l2, S2, rfl, hi, h2⟩
  by_cases hlt : i < ds.length
  · refine .inr ?_
    obtain ⟨wg, wy⟩ := wk.go i ds[i] Z σ2 H2 e2 B2 l2 S2 (by simp [hlt])
    refine ⟨wg, fun σ' H' => ∃ B3 e3, Same B1 B3 ∧ SR X.K X.mg Z B3 σ' H' e3 ∧ (forL t g (ds.drop (i + 1)) e3).wp (PF X.K X.mg Z B3 Y) (PXs X.K X.mg Z B3 W), fun σ' H' ⟨B3, e3, l3, S3, h3⟩ => ⟨ds.length - (i + 1), by omega, B3, e3, l3, S3, rfl, hlt, h3⟩, fun x H3 y => ?_⟩
    obtain ⟨⟨B3, S3, l3, a3⟩, _⟩ := wy x H3 y
    rw [List.drop_eq_getElem_cons hlt] at h2
    refine eg Z B3 σ2 H3 e2 x _ _ S3 a3 ((noExc_wp (wp_bd.mp h2)).imp (fun _ e4 h4 σ4 B4 H4 S4 l4 => ?_) fun x e' q => q)
    refine eb Z B4 σ4 H4 e4 _ S4 ((wp_bd.mp h4).imp (fun f e5 h5 => ?_) fun x e' q => PXs.up (l3.trans l4) q)
    have up : Same B2 B4 := l3.trans l4
    cases f with
    | nx => exact fun σ5 B5 H5 S5 l5 => ⟨B5, e5, ((l2.trans up).trans l5), S5, upF (up.trans l5) h5⟩
    | ct => exact fun σ5 B5 H5 S5 l5 => ⟨B5, e5, ((l2.trans up).trans l5), S5, upF (up.trans l5) h5⟩
    | bk => exact fun σ5 B5 H5 S5 l5 => h5 σ5 B5 H5 S5 (up.trans l5)
    | rt d => exact fun v σ5 B5 H5 S5 l5 a5 => h5 v σ5 B5 H5 S5 (up.trans l5) a5
    | rn d => exact fun p xs σ5 B5 H5 S5 l5 a1 a2 a3 a4 a5 => h5 p xs σ5 B5 H5 S5 (up.trans l5) a1 a2 a3 a4 a5
  · have hle : ds.length ≤ i := by omega
    refine .inl ⟨wk.stop i Z σ2 H2 e2 B2 l2 S2 hle, ?_⟩
    rw [List.drop_eq_nil_of_le hle] at h2
    exact h2 σ2 B2 H2 S2 (Same.refl B2)
end
end Dl
set_option maxHeartbeats 400000
/-! Layer P, part 2: how a typed function's answer tells the mirror's. -/
namespace Dl
open PySem PySem.Spec PyProof.Rows L2 RZ
/-! ### flows -/
def Ot {R S : Type} (m : M Fl) (e : En) (P : S → En → Prop) (d : R → Fl) (Q : R → En → Prop) : Fw R S → Prop
  | .nx s => ∃ e1, m e = .ok .nx e1 ∧ P s e1
  | .rt r => ∃ e2, m e = .ok (d r) e2 ∧ Q r e2
  | .bk s => ∃ e1, m e = .ok .bk e1 ∧ P s e1
/-- a flow that leaves -/
def Lv (f : Fl) : Prop := (∃ x, f = .rt x) ∨ ∃ x, f = .rn x
structure Fin {R : Type} (n m : Nat) (os : R → En) (r : R) (e : En) : Prop where
  len : e.length = m
  out : (e.take n).map keepR = os r
section
variable {R S : Type} {e e1 : En} {P P' : S → En → Prop} {d : R → Fl} {Q : R → En → Prop} {w : Fw R S} {a b g : M Fl}
theorem ot_of {m m' : M Fl} (h : m e = m' e1) (h2 : Ot m' e1 P d Q w) : Ot m e P d Q w := by
  cases w with
  | nx s => obtain ⟨e2, h3, h4⟩ := h2; exact ⟨e2, h.trans h3, h4⟩
  | rt r => obtain ⟨e2, h3, h4⟩ := h2; exact ⟨e2, h.trans h3, h4⟩
  | bk s => obtain ⟨e2, h3, h4⟩ := h2; exact ⟨e2, h.trans h3, h4⟩
theorem ot_seq (h : a e = .ok .nx e1) (h2 : Ot b e1 P d Q w) : Ot (fSeq a b) e P d Q w := ot_of (fSeq_nx h rfl) h2
theorem ot_seq_rt {S' : Type} {P' : S' → En → Prop} {r : R} (hd : Lv (d r)) (h : Ot a e P' d Q (.rt r)) : Ot (fSeq a b) e P d Q (.rt r) := by
  obtain ⟨e2, h3, h4⟩ := h
  refine ⟨e2, ?_, h4⟩
  unfold fSeq
  rw [bd_ok h3]
  rcases hd with ⟨x, hx⟩ | ⟨x, hx⟩ <;> rw [hx] <;> rfl
theorem ot_seq_bk {S' : Type} {P' : S' → En → Prop} {s' : S'} {s : S} (h : Ot a e P' d Q (.bk s')) (hs : ∀ e1, P' s' e1 → P s e1) : Ot (fSeq a b) e P d Q (.bk s) := by
  obtain ⟨e2, h3, h4⟩ := h
  refine ⟨e2, ?_, hs _ h4⟩
  unfold fSeq
  rw [bd_ok h3]
  rfl
theorem ot_if_t {c : M Bool} {b' : Bool} (h : c e = .ok b' e1) (hb : b' = true) (h2 : Ot a e1 P d Q w) : Ot (fIf c a b) e P d Q w := ot_of (fIf_t (hb ▸ h) rfl) h2
theorem ot_if_f {c : M Bool} {b' : Bool} (h : c e = .ok b' e1) (hb : ¬ b' = true) (h2 : Ot b e1 P d Q w) : Ot (fIf c a b) e P d Q w := ot_of (fIf_f (eq_false_of_ne_true hb ▸ h) rfl) h2
theorem ot_rt {r : R} {e2 : En} (h : a e = .ok (d r) e2) (hq : Q r e2) : Ot a e P d Q (.rt r) := ⟨e2, h, hq⟩
theorem Fin.wk1 {n m : Nat} {os : R → En} {r : R} {e : En} {j : Nat} (h : Fin n m os r e) (hj : n ≤ j ∨ (os r)[j]? = some .no) : Fin n m os r (e.set j .no) := by
  refine ⟨by rw [List.length_set]; exact h.len, ?_⟩
  rw [List.take_set, List.map_set, h.out]
  rcases hj with hj | hj
  · apply List.set_eq_of_length_le
    rw [← h.out, List.length_map, List.length_take]
    omega
  · apply List.ext_getElem?
    intro i
    rw [List.getElem?_set]
    split
    · rename_i hi
      subst hi
      split
      · rw [hj]; rfl
      · rename_i hl
        rw [List.getElem?_eq_none (by omega)]
    · rfl
theorem Fin.wk {n m : Nat} {os : R → En} {r : R} : ∀ {js : List Nat} {e : En}, Fin n m os r e → (∀ j ∈ js, n ≤ j ∨ (os r)[j]? = some .no) → Fin n m os r (wkE js e)
  | [], _, h, _ => h
  | j :: js, e, h, hj => Fin.wk (js := js) (h.wk1 (hj j List.mem_cons_self)) fun i hi => hj i (List.mem_cons_of_mem _ hi)
theorem ot_wk {js : List Nat} {n m : Nat} {os : R → En} (h : Ot g e P d (Fin n m os) w) (hP : ∀ s e1, P s e1 → P' s (wkE js e1)) (hj : ∀ r, ∀ j ∈ js, n ≤ j ∨ (os r)[j]? = some .no) : Ot (fWk js g) e P' d (Fin n m os) w := by
  cases w with
  | nx s => obtain ⟨e2, h3, h4⟩ := h; exact ⟨_, fWk_ok h3 rfl, hP _ _ h4⟩
  | rt r => obtain ⟨e2, h3, h4⟩ := h; exact ⟨_, fWk_ok h3 rfl, h4.wk (hj r)⟩
  | bk s => obtain ⟨e2, h3, h4⟩ := h; exact ⟨_, fWk_ok h3 rfl, hP _ _ h4⟩
theorem ot_wkQ {js : List Nat} (h : Ot g e (fun s e1 => P s (wkE js e1)) d Q w) (hQ : ∀ r e2, Q r e2 → Q r (wkE js e2)) : Ot (fWk js g) e P d Q w := by
  cases w with
  | nx s => obtain ⟨e2, h3, h4⟩ := h; exact ⟨_, fWk_ok h3 rfl, h4⟩
  | rt r => obtain ⟨e2, h3, h4⟩ := h; exact ⟨_, fWk_ok h3 rfl, hQ _ _ h4⟩
  | bk s => obtain ⟨e2, h3, h4⟩ := h; exact ⟨_, fWk_ok h3 rfl, h4⟩
theorem all_lt {n : Nat} {js : List Nat} (h : (js.all fun j => decide (n ≤ j)) = true) {P : Nat → Prop} : ∀ j ∈ js, n ≤ j ∨ P j := fun j hj => .inl (of_decide_eq_true (List.all_eq_true.mp h j hj))
theorem run_Ot {n m : Nat} {as : En} {dD : R → D} {os : R → En} {r : R} {P : Unit → En → Prop} (h : Ot g (as ++ List.replicate (m - n) .no) P (fun r => .rt (dD r)) (Fin n m os) (.rt r)) (hn : as.length = n) (hm : n ≤ m) : runF n m g as = .ok (dD r) (os r) := by
  obtain ⟨e2, h1, h2⟩ := h
  rw [runF_ok h1 hn hm h2.len, h2.out]
theorem runN_Ot {n m : Nat} {as : En} {dD : R → List D} {os : R → En} {r : R} {P : Unit → En → Prop} (h : Ot g (as ++ List.replicate (m - n) .no) P (fun r => .rn (dD r)) (Fin n m os) (.rt r)) (hn : as.length = n) (hm : n ≤ m) : runN n m g as = .ok (dD r) (os r) := by
  obtain ⟨e2, h1, h2⟩ := h
  unfold runN
  rw [if_pos ⟨hn, hm⟩, h1]
  show (if e2.length = m then Res.ok (dD r) ((e2.take n).map keepR) else .bad) = _
  rw [if_pos h2.len, h2.out]
theorem runX_Ot {n m : Nat} {as : En} {os : S → En} {s : S} (h : Ot (R := Unit) g (as ++ List.replicate (m - n) .no) (fun s e => Fin n m os s e) (fun _ => .rt .non) (fun _ _ => True) (.nx s)) (hn : as.length = n) (hm : n ≤ m) : runF n m g as = .ok .non (os s) := by
  obtain ⟨e2, h1, h2⟩ := h
  rw [runF_nx h1 hn hm h2.len, h2.out]
end
theorem ot_seq_w {R S S' : Type} {e : En} {P : S → En → Prop} {E' : S' → En} {d : R → Fl} {Q : R → En → Prop} {w : Fw R S} {w' : Fw R S'} {a b : M Fl} (hd : ∀ r, Lv (d r)) (h : Ot a e (fun s e1 => e1 = E' s) d Q w') (hn : ∀ s, w' = .nx s → Ot b (E' s) P d Q w) (hr : ∀ r, w' = .rt r → w = .rt r) (hb : ∀ s, w' = .bk s → ∃ s2, w = .bk s2 ∧ P s2 (E' s)) : Ot (fSeq a b) e P d Q w := by
  cases w' with
  | nx s =>
    obtain ⟨e1, h1, rfl⟩ := h
    exact ot_seq h1 (hn s rfl)
  | rt r => rw [hr r rfl]; exact ot_seq_rt (hd r) h
  | bk s =>
    obtain ⟨s2, rfl, e2⟩ := hb s rfl
    exact ot_seq_bk h fun e1 q => q ▸ e2
theorem nx_of {S : Type} {m : M Fl} {e : En} {E : S → En} {s : S} (h : Ot (R := Unit) m e (fun s e1 => e1 = E s) (fun _ => .rt .non) (fun _ _ => True) (.nx s)) : m e = .ok .nx (E s) := by
  obtain ⟨e1, h1, rfl⟩ := h
  exact h1
theorem nx_wk {S : Type} {m : M Fl} {js : List Nat} {e : En} {E : S → En} {s : S} (h : Ot (R := Unit) m e (fun s e1 => wkE js e1 = E s) (fun _ => .rt .non) (fun _ _ => True) (.nx s)) : fWk js m e = .ok .nx (E s) := by
  obtain ⟨e1, h1, h2⟩ := h
  exact fWk_ok h1 h2
theorem fIf_n {α : Type} {c : M Bool} {fa fb : M α} {b : Bool} {e e1 : En} {r : Res α} (h : c e = .ok b e1) (hb : ¬ b = true) (h2 : fb e1 = r) : fIf c fa fb e = r := fIf_f (eq_false_of_ne_true hb ▸ h) h2
theorem findO_no : ∀ {as : List Ar} {os : En} {i : Nat}, owns as = [] → findO as os i = none
  | [], _, _, _ => by unfold findO; rfl
  | .d _ :: as, [], _, _ => rfl
  | .d _ :: as, _ :: os, i, h => findO_no (as := as) (os := os) (i := i) h
  | .o _ :: _, _, _, h => nomatch h
theorem putO_id {as : List Ar} {os e : En} (h : owns as = []) : putO as os e = e := by
  unfold putO
  exact putG_same fun i s => by rw [findO_no h]
theorem fRetL_ok {fl : M (List D)} {e e1 : En} {ds : List D} (h : fl e = .ok ds e1) : fRetL fl e = .ok (.rn ds) e1 := by unfold fRetL; rw [bd_ok h]; rfl
/-! ### loops -/
section
variable {α R S : Type} {enc : α → D} {E : S → En} {t : D → M Unit} {body : M Fl} {src : M (List D)} {e : En} {d : R → Fl} {Q : R → En → Prop}
theorem forS_ot {B : α → S → Option S} (hb : ∀ x s s', B x s = some s' → ∃ e1, t (enc x) (E s) = .ok () e1 ∧ body e1 = .ok .nx (E s')) : ∀ {xs : List α} {s s' : S}, forS B xs s = some s' → forL t body (xs.map enc) (E s) = .ok .nx (E s')
  | [], s, s', h => by cases h; rfl
  | x :: xs, s, s', h => by
    obtain ⟨s1, h1, h2⟩ := bsome h
    obtain ⟨e1, t1, b1⟩ := hb x s s1 h1
    exact forL_nx t1 b1 (forS_ot hb h2)
theorem fFor_S {B : α → S → Option S} {xs : List α} {s s' : S} (h : forS B xs s = some s') (hs : src e = .ok (xs.map enc) (E s)) (hb : ∀ x s s', B x s = some s' → ∃ e1, t (enc x) (E s) = .ok () e1 ∧ body e1 = .ok .nx (E s')) : fFor src t body e = .ok .nx (E s') := fFor_ok hs (forS_ot hb h)
theorem forF_ot {B : α → S → Option (Fw R S)} (hd : ∀ r, Lv (d r)) (hb : ∀ x s w, B x s = some w → ∃ e1, t (enc x) (E s) = .ok () e1 ∧ Ot body e1 (fun s e1 => e1 = E s) d Q w) : ∀ {xs : List α} {s : S} {w : Fw R S}, forF B xs s = some w → Ot (forL t body (xs.map enc)) (E s) (fun s e1 => e1 = E s) d Q w
  | [], s, w, h => by cases h; exact ⟨_, rfl, rfl⟩
  | x :: xs, s, w, h => by
    obtain ⟨w1, h1, h2⟩ := bsome h
    obtain ⟨e1, t1, b1⟩ := hb x s w1 h1
    cases w1 with
    | nx s1 =>
      obtain ⟨e2, b2, rfl⟩ := b1
      exact ot_of (forL_nx t1 b2 rfl) (forF_ot hd hb h2)
    | bk s1 =>
      cases h2
      obtain ⟨e2, b2, rfl⟩ := b1
      refine ⟨_, ?_, rfl⟩
      show forL t body (enc x :: xs.map enc) (E s) = _
      unfold forL
      rw [bd_ok (noExc_ok t1), bd_ok b2]
      rfl
    | rt r =>
      cases h2
      obtain ⟨e2, b2, q⟩ := b1
      refine ⟨e2, ?_, q⟩
      show forL t body (enc x :: xs.map enc) (E s) = _
      unfold forL
      rw [bd_ok (noExc_ok t1), bd_ok b2]
      rcases hd r with ⟨x, hx⟩ | ⟨x, hx⟩ <;> rw [hx] <;> rfl
theorem fFor_F {B : α → S → Option (Fw R S)} {xs : List α} {s : S} {w : Fw R S} (h : forF B xs s = some w) (hs : src e = .ok (xs.map enc) (E s)) (hd : ∀ r, Lv (d r)) (hb : ∀ x s w, B x s = some w → ∃ e1, t (enc x) (E s) = .ok () e1 ∧ Ot body e1 (fun s e1 => e1 = E s) d Q w) : Ot (fFor src t body) e (fun s e1 => e1 = E s) d Q w :=
  ot_of (fFor_ok hs rfl) (forF_ot hd hb h)
end
/-! ### comprehensions -/
section
variable {α β S : Type} {enc : α → D} {encB : β → D} {src : M (List D)} {vs : List Nat} {t : D → M Unit} {c : M Bool} {el : M D} {e e1 : En}
theorem fLc_T {xs : List α} {p : α → Bool} {g : α → β} {r : List β} (h : lcT xs p g = some r) (hs : src e = .ok (xs.map enc) e1) (hn : noOwn vs e1 = true) (hw : restE vs e1 (wipeE vs e1) = e1)
    (ht : ∀ x, ∃ e2, t (enc x) (refE (wipeE vs e1)) = .ok () e2 ∧ c e2 = .ok (p x) e2 ∧ (p x = true → el e2 = .ok (encB (g x)) e2) ∧ e2.length = (wipeE vs e1).length ∧ fixE vs (wipeE vs e1) e2 = wipeE vs e1) : fLc src vs t c el e = .ok (r.map encB) e1 := by
  unfold lcT at h
  split at h
  · rename_i hl
    cases h
    have key : ∀ xs : List α, lcLoop vs t c el (xs.map enc) (wipeE vs e1) = .ok (((xs.filter p).map g).map encB) (wipeE vs e1) := by
      intro xs
      induction xs with
      | nil => rfl
      | cons x xs ih =>
        obtain ⟨e2, h1, h2, h3, h4, h5⟩ := ht x
        rw [List.map_cons]
        unfold lcLoop
        by_cases hp : p x = true
        · rw [hp] at h2
          rw [bd_ok (lcTurn_t h1 h2 (h3 hp) h4), h5, bd_ok ih, List.filter_cons_of_pos hp]
          rfl
        · rw [eq_false_of_ne_true hp] at h2
          rw [bd_ok (lcTurn_f h1 h2 h4), h5, bd_ok ih, List.filter_cons_of_neg hp]
          rfl
    unfold fLc
    rw [bd_ok hs]
    simp only [List.length_map, hl, hn, and_self, if_true, key]
    rw [hw]
  · cases h
theorem fLc_O {f : α → Option (Option β)} {xs : List α} {r : List β} (h : lcG f xs = some r) (hs : src e = .ok (xs.map enc) e1) (hn : noOwn vs e1 = true) (hw : restE vs e1 (wipeE vs e1) = e1)
    (ht : ∀ x o, f x = some o → ∃ e2, t (enc x) (refE (wipeE vs e1)) = .ok () e2 ∧ (match o with
      | some y => c e2 = .ok true e2 ∧ el e2 = .ok (encB y) e2
      | none => c e2 = .ok false e2) ∧ e2.length = (wipeE vs e1).length ∧ fixE vs (wipeE vs e1) e2 = wipeE vs e1) : fLc src vs t c el e = .ok (r.map encB) e1 := by
  unfold lcG at h
  split at h
  case isFalse => cases h
  rename_i hl
  have key : ∀ (xs : List α) (r : List β), lcO f xs = some r → lcLoop vs t c el (xs.map enc) (wipeE vs e1) = .ok (r.map encB) (wipeE vs e1) := by
    intro xs
    induction xs with
    | nil => intro r h; cases h; rfl
    | cons x xs ih =>
      intro r h
      obtain ⟨o, h1, h2⟩ := bsome h
      obtain ⟨r', h3, h4⟩ := bsome h2
      cases h4
      obtain ⟨e2, k1, k2, k3, k4⟩ := ht x o h1
      rw [List.map_cons]
      unfold lcLoop
      cases o with
      | some y =>
        rw [bd_ok (lcTurn_t k1 k2.1 k2.2 k3), k4, bd_ok (ih r' h3)]
        rfl
      | none =>
        rw [bd_ok (lcTurn_f k1 k2 k3), k4, bd_ok (ih r' h3)]
        rfl
  unfold fLc
  rw [bd_ok hs]
  simp only [List.length_map, hl, hn, and_self, if_true, key xs r h]
  rw [hw]
theorem fLc_S {f : α → S → Option (β × S)} {xs : List α} {s : S} {q : List β × S} {E : S → En} (h : lcH f xs s = some q) (hs : src e = .ok (xs.map enc) (E s)) (hn : noOwn vs (E s) = true) (hw : restE vs (E s) (wipeE vs (E q.2)) = E q.2)
    (ht : ∀ x s r, f x s = some r → ∃ e2 e3, t (enc x) (refE (wipeE vs (E s))) = .ok () e2 ∧ c e2 = .ok true e2 ∧ el e2 = .ok (encB r.1) e3 ∧ e3.length = (wipeE vs (E s)).length ∧ fixE vs (wipeE vs (E s)) e3 = wipeE vs (E r.2)) : fLc src vs t c el e = .ok (q.1.map encB) (E q.2) := by
  unfold lcH at h
  split at h
  case isFalse => cases h
  rename_i hl
  have key : ∀ (xs : List α) (s : S) (q : List β × S), lcS f xs s = some q → lcLoop vs t c el (xs.map enc) (wipeE vs (E s)) = .ok (q.1.map encB) (wipeE vs (E q.2)) := by
    intro xs
    induction xs with
    | nil => intro s q h; cases h; rfl
    | cons x xs ih =>
      intro s q h
      obtain ⟨r, h1, h2⟩ := bsome h
      obtain ⟨q', h3, h4⟩ := bsome h2
      cases h4
      obtain ⟨e2, e3, k1, k2, k3, k4, k5⟩ := ht x s r h1
      rw [List.map_cons]
      unfold lcLoop
      rw [bd_ok (lcTurn_t k1 k2 k3 k4), k5, bd_ok (ih r.2 q' h3)]
      rfl
  unfold fLc
  rw [bd_ok hs]
  simp only [List.length_map, hl, hn, and_self, if_true, key xs s q h]
  rw [hw]
end
/-! ### expressions -/
section
variable {α β : Type} {F : α → D} {G : β → D} {e e1 e2 e3 : En} {a b c : Int} {fa fb fo : M D} {xs ys : List α} {x : α}
theorem x_op {o : D → D → M D} {p q r : D} (ha : fa e = .ok p e1) (hb : fb e1 = .ok q e2) (h : o p q e2 = .ok r e3) : f2 o fa fb e = .ok r e3 := (f2_ok ha hb).trans h
theorem o_mul (h : mulP a b = some c) : dMul (.int a) (.int b) e = .ok (.int c) e := by
  unfold mulP at h
  split at h
  · cases h; exact opI_eq (by assumption)
  · cases h
theorem o_div (h : divP a b = some c) : dDiv (.int a) (.int b) e = .ok (.int c) e := by
  unfold divP at h
  split at h
  · rename_i q; cases h; exact dDiv_eq q.1 q.2
  · cases h
theorem o_mod (h : modP a b = some c) : dMod (.int a) (.int b) e = .ok (.int c) e := by
  unfold modP at h
  split at h
  · cases h; exact dMod_eq (by assumption)
  · cases h
theorem o_at (h : L2.atI xs a = some x) : dAt (.lst (xs.map F)) (.int a) e = .ok (F x) e := by
  show li (L2.atI (xs.map F) a) e = _
  rw [atI_map, h]
  rfl
theorem o_atS {ns : List Int} (h : L2.atI ns a = some b) : dAt (.scr ns) (.int a) e = .ok (.int b) e := by
  show li ((L2.atI ns a).map D.int) e = _
  rw [h]
  rfl
theorem o_cat {zs : List α} (h : catP xs ys = some zs) : dCatL (.lst (xs.map F)) (.lst (ys.map F)) e = .ok (.lst (zs.map F)) e := by
  unfold catP at h
  split at h
  · cases h
    rename_i hl
    show li (if (xs.map F).length + (ys.map F).length ≤ 16777216 then some (D.lst (xs.map F ++ ys.map F)) else none) e = _
    rw [List.length_map, List.length_map, if_pos hl, List.map_append]
    rfl
  · cases h
theorem x_getA {i : Nat} {fk : M D} {r : Bool} (hi : e[i]? = some (.own r (xs.map F))) (hk : fk e = .ok (.int a) e) (h : L2.atI xs a = some x) : fGetA i fk e = .ok (F x) e := by
  unfold fGetA
  rw [hi]
  unfold fGet isL
  have h1 : (fun e : En => match e[i]? with
    | some (.own _ _) => Res.ok () e | _ => .bad) e = .ok () e := by simp only [hi]
  rw [bd_ok h1, bd_ok hk]
  unfold getOI
  rw [hi]
  show (match L2.atI (xs.map F) a with
    | some d => Res.ok d e | none => .bad) = _
  rw [atI_map, h]
  rfl
theorem x_d1 {g : D → Option D} {p q : D} (ha : fa e = .ok p e1) (h : g p = some q) : bd (fCons fa fNil) (d1 g) e = .ok q e1 := d1_ok' (fCons_ok ha fNil_eq) h
theorem x_d2 {g : D → D → Option D} {p q r : D} (ha : fa e = .ok p e1) (hb : fb e1 = .ok q e2) (h : g p q = some r) : bd (fCons fa (fCons fb fNil)) (d2 g) e = .ok r e2 := d2_ok' (fCons_ok ha (fCons_ok hb fNil_eq)) h
theorem l_lst : oLen (.lst (xs.map F)) = some (.int (xs.length : Int)) := by show some (D.int ((xs.map F).length : Nat)) = _; rw [List.length_map]
theorem l_tup : oLen (.tup (xs.map F)) = some (.int (xs.length : Int)) := by show some (D.int ((xs.map F).length : Nat)) = _; rw [List.length_map]
theorem l_all {bs : List Bool} : oAll (.lst (bs.map D.bl)) = some (.bl (bs.all id)) := all_bls bs
theorem x_wL (ha : fa e = .ok (.lst (xs.map F)) e1) : bd fa dWalk e = .ok (xs.map F) e1 := walk_lst ha
theorem x_wT (ha : fa e = .ok (.tup (xs.map F)) e1) : bd fa dWalk e = .ok (xs.map F) e1 := walk_tup ha
theorem x_iL (ha : fa e = .ok (.lst (xs.map F)) e1) : bd fa dItems e = .ok (xs.map F) e1 := by rw [bd_ok ha]; rfl
theorem x_iT (ha : fa e = .ok (.tup (xs.map F)) e1) : bd fa dItems e = .ok (xs.map F) e1 := by rw [bd_ok ha]; rfl
theorem rngP_eq (lo hi : Int) : rangeD lo (hi - lo).toNat = (rngP lo hi).map D.int := by
  unfold rangeD rngP
  rw [List.map_map]
  rfl
theorem x_rng1 (ha : fa e = .ok (.int a) e1) : bd (fCons fa fNil) dRngW1 e = .ok ((rngP 0 a).map D.int) e1 := by
  rw [bd_ok (fCons_ok ha fNil_eq), ← rngP_eq, Int.sub_zero]
  rfl
theorem zip_eq : ∀ (xs : List α) (ys : List β), zipD (xs.map F) (ys.map G) = (xs.zip ys).map (eP F G)
  | [], _ => by simp [zipD]
  | _ :: _, [] => by simp [zipD]
  | x :: xs, y :: ys => by
    show D.tup [F x, G y] :: zipD (xs.map F) (ys.map G) = _
    rw [zip_eq xs ys]
    rfl
theorem x_zip {ys : List β} (ha : fa e = .ok (.lst (xs.map F)) e1) (hb : fb e1 = .ok (.lst (ys.map G)) e2) : bd (fCons fa (fCons fb fNil)) dZip e = .ok ((xs.zip ys).map (eP F G)) e2 := by
  rw [bd_ok (fCons_ok ha (fCons_ok hb fNil_eq)), ← zip_eq]
  rfl
theorem x_zipT {ys : List β} (ha : fa e = .ok (.tup (xs.map F)) e1) (hb : fb e1 = .ok (.tup (ys.map G)) e2) : bd (fCons fa (fCons fb fNil)) dZip e = .ok ((xs.zip ys).map (eP F G)) e2 := by
  rw [bd_ok (fCons_ok ha (fCons_ok hb fNil_eq)), ← zip_eq]
  rfl
theorem x_sort {ns : List Int} (ha : fa e = .ok (.lst (ns.map D.int)) e1) : bd (fCons fa fNil) nSort e = .ok ((isort ns).map D.int) e1 := by
  rw [bd_ok (fCons_ok ha fNil_eq)]
  show li (match toInts (ns.map D.int) with
    | some ns => some ((isort ns).map D.int) | none => none) e1 = _
  rw [toInts_map]
  rfl
theorem cut_eq (xs : List α) (lo hi : Option Int) : cutD (xs.map F) lo hi = (cutP xs lo hi).map F := by
  unfold cutD cutP
  rw [List.length_map, List.map_take, List.map_drop]
theorem x_slL {flo fhi : M (Option Int)} {lo hi : Option Int} (ha : fa e = .ok (.lst (xs.map F)) e1) (hl : flo e1 = .ok lo e2) (hh : fhi e2 = .ok hi e3) : fSl fa flo fhi e = .ok (.lst ((cutP xs lo hi).map F)) e3 := by
  unfold fSl
  rw [bd_ok ha, bd_ok hl, bd_ok hh, ← cut_eq]
  rfl
theorem x_slT {flo fhi : M (Option Int)} {lo hi : Option Int} (ha : fa e = .ok (.tup (xs.map F)) e1) (hl : flo e1 = .ok lo e2) (hh : fhi e2 = .ok hi e3) : fSl fa flo fhi e = .ok (.tup ((cutP xs lo hi).map F)) e3 := by
  unfold fSl
  rw [bd_ok ha, bd_ok hl, bd_ok hh, ← cut_eq]
  rfl
theorem x_part (ha : fa e = .ok (.int a) e1) : fPart (some fa) e = .ok (some a) e1 := by
  show bd fa _ e = _
  rw [bd_ok ha]
  rfl
theorem x_lstP {fl : M (List D)} {zs : List α} (h : lstP xs = some zs) (hl : fl e = .ok (xs.map F) e1) : fLst fl e = .ok (zs.map F) e1 := by
  unfold lstP at h
  split at h
  · cases h; exact fLst_ok hl (by rw [List.length_map]; assumption)
  · cases h
theorem x_star {fs fr : M (List D)} (h1 : fs e = .ok (xs.map F) e1) (h2 : fr e1 = .ok (ys.map F) e2) : fStar fs fr e = .ok ((xs ++ ys).map F) e2 := by rw [fStar_ok h1 h2, List.map_append]
theorem x_cons {fr : M (List D)} (h1 : fa e = .ok (F x) e1) (h2 : fr e1 = .ok (ys.map F) e2) : fCons fa fr e = .ok ((x :: ys).map F) e2 := fCons_ok h1 h2
theorem x_nil : fNil e = .ok (([] : List α).map F) e := rfl
theorem x_not {p : Bool} {ga : M Bool} (h : ga e = .ok p e1) : fBl (fNot ga) e = .ok (.bl (!p)) e1 := by unfold fBl; rw [bd_ok (fNot_ok h)]; rfl
theorem x_or {c1 c2 : M Bool} {p q r : Bool} (h : c1 e = .ok p e) (h2 : p = false → c2 e = .ok r e) (h3 : p = true → r = true) : fOr c1 c2 e = .ok r e := by
  unfold fOr
  rw [bd_ok h]
  cases p with
  | false => exact h2 rfl
  | true => rw [h3 rfl]; rfl
theorem x_andV {c1 c2 : M D} {p r : Bool} (h : c1 e = .ok (.bl p) e) (h2 : p = true → c2 e = .ok (.bl r) e) (h3 : p = false → r = false) : fAndV c1 c2 e = .ok (.bl r) e := by
  unfold fAndV
  rw [bd_ok (fB_ok h)]
  cases p with
  | true => exact h2 rfl
  | false => rw [h3 rfl]; rfl
theorem x_if {γ : Type} {cc : M Bool} {f1 f2 : M γ} {p : Bool} {r : Res γ} (h : cc e = .ok p e1) (h1 : p = true → f1 e1 = r) (h2 : p = false → f2 e1 = r) : fIf cc f1 f2 e = r := by
  cases p with
  | true => exact fIf_t h (h1 rfl)
  | false => exact fIf_f h (h2 rfl)
theorem x_call {FF : En → Res D} {fr : M (List Ar)} {as : List Ar} {d : D} {os : En} (hr : fr e = .ok as e1) (nd : noDup (owns as) = true) (h : FF (as.map (toSl e1)) = .ok d os) (hp : putO as os e1 = e2) : bd fr (callR FF) e = .ok d e2 := by
  rw [bd_ok hr]
  unfold callR
  rw [if_pos nd, h]
  show Res.ok d (putO as os e1) = _
  rw [hp]
theorem x_callN {FF : En → Res (List D)} {fr : M (List Ar)} {as : List Ar} {d : List D} {os : En} (hr : fr e = .ok as e1) (nd : noDup (owns as) = true) (h : FF (as.map (toSl e1)) = .ok d os) (hp : putO as os e1 = e2) : bd fr (callN FF) e = .ok d e2 := by
  rw [bd_ok hr]
  unfold callN
  rw [if_pos nd, h]
  show Res.ok d (putO as os e1) = _
  rw [hp]
theorem rO_ok {i : Nat} {fr : M (List Ar)} {as : List Ar} {r : Bool} {ds : List D} (h : e[i]? = some (.own r ds)) (h2 : fr e = .ok as e1) (h3 : ∃ r' ds', e1[i]? = some (.own r' ds')) : rO i fr e = .ok (.o i :: as) e1 := by
  obtain ⟨r', ds', h3⟩ := h3
  unfold rO
  have k1 : isO i e = .ok () e := by unfold isO; rw [h]
  have k2 : isO i e1 = .ok () e1 := by unfold isO; rw [h3]
  rw [bd_ok k1, bd_ok h2, bd_ok k2]
  rfl
theorem x_app {i : Nat} {r r0 : Bool} {ds0 : List D} (h : e[i]? = some (.own r0 ds0)) (hf : fa e = .ok (F x) e1) (h1 : e1[i]? = some (.own r (xs.map F))) (hl : appP xs x = some ys) : fApp i fa e = .ok .nx (e1.set i (.own r (ys.map F))) := by
  unfold appP at hl
  split at hl
  · cases hl
    unfold fApp isL
    have k : (fun e : En => match e[i]? with
      | some (.own _ _) => Res.ok () e | _ => .bad) e = .ok () e := by simp only [h]
    rw [bd_ok k, bd_ok hf]
    have k2 : appO i (F x) e1 = .ok () (e1.set i (.own r ((xs ++ [x]).map F))) := by
      unfold appO
      rw [h1]
      show (if (xs.map F).length < 16777216 then Res.ok () (e1.set i (.own r (xs.map F ++ [F x]))) else .bad) = _
      rw [List.length_map, if_pos (by assumption), List.map_append]
      rfl
    rw [bd_ok (noExc_ok k2)]
    rfl
  · cases hl
theorem x_put {i : Nat} {fk : M D} {r : Bool} (hf : fa e = .ok (F x) e1) (h1 : ∃ r ds, e1[i]? = some (.own r ds)) (hk : fk e1 = .ok (.int a) e2) (h2 : e2[i]? = some (.own r (xs.map F))) (hl : putP xs a x = some ys) : fPut i fa fk e = .ok .nx (e2.set i (.own r (ys.map F))) := by
  obtain ⟨r1, ds1, h1⟩ := h1
  unfold fPut isL
  have k : (fun e : En => match e[i]? with
    | some (.own _ _) => Res.ok () e | _ => .bad) e1 = .ok () e1 := by simp only [h1]
  rw [bd_ok hf, bd_ok k, bd_ok hk]
  unfold putP at hl
  have k2 : putOI i (.int a) (F x) e2 = .ok () (e2.set i (.own r (ys.map F))) := by
    unfold putOI
    rw [h2]
    show (match ixN (xs.map F).length a with
      | some j => Res.ok () (e2.set i (.own r ((xs.map F).set j (F x)))) | none => .bad) = _
    rw [List.length_map]
    cases q : ixN xs.length a with
    | none => rw [q] at hl; cases hl
    | some j => rw [q] at hl; cases hl; rw [List.map_set]
  rw [bd_ok (noExc_ok k2)]
  rfl
theorem x_aug {i : Nat} {o : D → D → M D} {p q r : D} (h1 : fVar i e = .ok p e) (h2 : fa e = .ok q e1) (h3 : o p q e1 = .ok r e1) (h4 : setV i r e1 = .ok () e2) : fAug i o fa e = .ok .nx e2 := by
  unfold fAug
  rw [bd_ok h1, bd_ok h2, bd_ok h3, bd_ok h4]
  rfl
theorem x_setN {i : Nat} {fl : M (List D)} (h : fl e = .ok (xs.map F) e1) (h2 : setO i (xs.map F) e1 = .ok () e2) : fSetN i fl e = .ok .nx e2 := by
  unfold fSetN
  rw [bd_ok h, bd_ok h2]
  rfl
theorem x_prop {cN : Str} {FF : En → Res D} {ns : List Str} {ds : List D} {d : D} {os : En} (h : fa e = .ok (.obj cN ns ds) e1) (h2 : FF [.val (.obj cN ns ds)] = .ok d os) : fProp cN FF fa e = .ok d e1 := fProp_ok h h2
theorem x_meth {cN m : Str} {FF : En → Res D} {fr : M (List Ar)} {as : List Ar} {ns : List Str} {ds : List D} {d : D} {os : En} (h : fo e = .ok (.obj cN ns ds) e1) (hm : (look m ns ds).isNone = true) (hr : fr e1 = .ok as e2) (nd : noDup (owns as) = true) (h2 : FF (.val (.obj cN ns ds) :: as.map (toSl e2)) = .ok d os) (hp : putO (.d (.obj cN ns ds) :: as) os e2 = e3) : fMeth cN m FF fo fr e = .ok d e3 := by
  unfold fMeth
  rw [bd_ok h]
  have k : dNoF cN m (.obj cN ns ds) e1 = .ok (.obj cN ns ds) e1 := by
    unfold dNoF
    simp only [hm, and_self, if_true]
    rfl
  rw [bd_ok k, bd_ok hr]
  unfold callR
  rw [if_pos (show noDup (owns (.d (.obj cN ns ds) :: as)) = true from nd)]
  show (match FF (.val (.obj cN ns ds) :: as.map (toSl e2)) with
    | .ok d os => Res.ok d (putO _ os e2) | .exc x os => .exc x (putO _ os e2) | .bad => .bad) = _
  rw [h2]
  show Res.ok d (putO _ os e2) = _
  rw [hp]
theorem x_cmeth {cN : Str} {FF : En → Res D} {fr : M (List Ar)} {as : List Ar} {d : D} {os : En} (hr : fr e = .ok as e1) (nd : noDup (owns as) = true) (h2 : FF (.val (.cls cN) :: as.map (toSl e1)) = .ok d os) (hp : putO (.d (.cls cN) :: as) os e1 = e2) : fCMeth cN FF fr e = .ok d e2 := by
  unfold fCMeth
  rw [bd_ok hr]
  unfold callR
  rw [if_pos (show noDup (owns (.d (.cls cN) :: as)) = true from nd)]
  show (match FF (.val (.cls cN) :: as.map (toSl e1)) with
    | .ok d os => Res.ok d (putO _ os e1) | .exc x os => .exc x (putO _ os e1) | .bad => .bad) = _
  rw [h2]
  show Res.ok d (putO _ os e1) = _
  rw [hp]
theorem x_own {cN : Str} {FF : En → Res D} {n1 n2 : List Str} {s1 s2 : List D} {d : D} {os : En} (ha : fa e = .ok (.obj cN n1 s1) e1) (hb : fb e1 = .ok (.obj cN n2 s2) e2) (h : FF [.val (.obj cN n1 s1), .val (.obj cN n2 s2)] = .ok d os) : f2 (d2m FF cN) fa fb e = .ok d e2 := (f2_ok ha hb).trans (d2m_ok h)
theorem x_make {cN : Str} {FF : En → Res D} {fl : M (List D)} {vs : List D} {d : D} (hl : fl e = .ok vs e1) (h : ∃ ns fs r os, d = .obj cN ns fs ∧ FF (.oin true cN [] [] :: vs.map .val) = .ok .non (.oin r cN ns fs :: os)) : fMake cN FF fl e = .ok d e1 := by
  obtain ⟨ns, fs, r, os, rfl, h⟩ := h
  exact fMake_ok hl h
theorem x_makeV {i : Nat} {cN : Str} {m : M D} {r : Res D} (hc : isCls i cN e = .ok () e) (h : m e = r) : bd (isCls i cN) (fun _ => m) e = r := by rw [bd_ok hc]; exact h
theorem starD_vals' : ∀ ds : List D, starD (ds.map Sl.val) = some ds
  | [] => rfl
  | d :: ds => by
    show (match starD (ds.map Sl.val) with
      | some l => some (d :: l) | none => none) = some (d :: ds)
    rw [starD_vals' ds]
theorem runS_ini {m : Nat} {g : M Fl} {cN : Str} {ns : List Str} {fs ds : List D} (hl : ds.length ≤ 16777216) (h : runF 2 m g [.oin true cN [] [], .val (.tup ds)] = .ok .non [.oin true cN ns fs, Sl.no]) : runS 1 m g (.oin true cN [] [] :: ds.map .val) = .ok .non (.oin true cN ns fs :: List.replicate ds.length Sl.no) := by
  unfold runS
  rw [show (Sl.oin true cN [] [] :: ds.map Sl.val).drop 1 = ds.map Sl.val from rfl, starD_vals']
  show (if 1 ≤ (Sl.oin true cN [] [] :: ds.map Sl.val).length ∧ ds.length ≤ 16777216 then _ else _) = _
  rw [if_pos ⟨by simp, hl⟩]
  show (match runF (1 + 1) m g [.oin true cN [] [], .val (.tup ds)] with
    | .ok d os => Res.ok d (os.take 1 ++ List.replicate ((Sl.oin true cN [] [] :: ds.map Sl.val).length - 1) Sl.no)
    | .exc x os => .exc x (os.take 1 ++ List.replicate ((Sl.oin true cN [] [] :: ds.map Sl.val).length - 1) Sl.no)
    | .bad => .bad) = _
  rw [show (1 + 1 : Nat) = 2 from rfl, h]
  show Res.ok D.non (Sl.oin true cN ns fs :: List.replicate ((Sl.oin true cN [] [] :: ds.map Sl.val).length - 1) Sl.no) = _
  rw [List.length_cons, List.length_map, Nat.add_sub_cancel]
theorem x_par {i j : Nat} {fr : M (List D)} {p q : D} (h : fr e = .ok [p, q] e1) (h2 : bd (setV i p) (fun _ => setV j q) e1 = .ok () e2) : fPar i j fr e = .ok .nx e2 := by
  unfold fPar
  rw [bd_ok h, bd_ok (noExc_ok h2)]
  rfl
end
section
variable {α : Type} {F : α → D} {e e1 e2 e3 : En} {a : Int} {fa : M D} {xs ys : List α} {x : α}
theorem x_star0 {fs fr : M (List D)} (h1 : fs e = .ok (xs.map F) e1) (h2 : fr e1 = .ok [] e2) : fStar fs fr e = .ok (xs.map F) e2 := by rw [fStar_ok h1 h2, List.append_nil]
theorem x_sortSc {src : M (List D)} {vs : List Nat} {t : D → M Unit} {c : M Bool} {el : M D} {ns ms ys : List Int} (h : setP ns = some ms) (h2 : srtP ms = some ys) (ha : fLc src vs t c el e = .ok (ns.map D.int) e1) : fSortQ (fSc src vs t c el) e = .ok (ys.map D.int) e1 := by
  unfold setP at h
  unfold srtP at h2
  split at h
  · rename_i hl
    cases h
    split at h2
    · rename_i hu
      cases h2
      have k : fSc src vs t c el e = .ok ns e1 := by
        unfold fSc
        rw [bd_ok ha]
        unfold scInts
        rw [toInts_map]
        simp only [if_pos hl]
        rfl
      unfold fSortQ
      rw [bd_ok k, if_pos hu]
      rfl
    · cases h2
  · cases h
end
/-! ### a list or a tuple -/
section
variable {α β : Type} {F : α → D} {G : β → D} {e e1 e2 e3 : En} {fa fb : M D} {p : Bool × List α} {q : Bool × List β}
theorem x_wG (ha : fa e = .ok (sqG F p) e1) : bd fa dWalk e = .ok (p.2.map F) e1 := by
  rw [bd_ok ha]
  obtain ⟨b, l⟩ := p
  cases b <;> rfl
theorem x_slG {flo fhi : M (Option Int)} {lo hi : Option Int} (ha : fa e = .ok (sqG F p) e1) (hl : flo e1 = .ok lo e2) (hh : fhi e2 = .ok hi e3) : fSl fa flo fhi e = .ok (sqG F (p.1, cutP p.2 lo hi)) e3 := by
  obtain ⟨b, l⟩ := p
  cases b
  · exact x_slL (xs := l) ha hl hh
  · exact x_slT (xs := l) ha hl hh
theorem x_zipG (ha : fa e = .ok (sqG F p) e1) (hb : fb e1 = .ok (sqG G q) e2) (h : p.1 = q.1) : bd (fCons fa (fCons fb fNil)) dZip e = .ok ((p.2.zip q.2).map (eP F G)) e2 := by
  obtain ⟨b, l⟩ := p
  obtain ⟨c, m⟩ := q
  obtain rfl : b = c := h
  cases b
  · exact x_zip (xs := l) (ys := m) ha hb
  · exact x_zipT (xs := l) (ys := m) ha hb
theorem l_seq : oLen (sqG F p) = some (.int (p.2.length : Int)) := by
  obtain ⟨b, l⟩ := p
  cases b
  · exact l_lst
  · exact l_tup
theorem l_tuplG : oTuple (sqG F p) = some (.tup (p.2.map F)) := by
  obtain ⟨b, l⟩ := p
  cases b <;> rfl
theorem is2_seq : oIs2 "list" "tuple" (sqG F p) = some (.bl true) := by
  obtain ⟨b, l⟩ := p
  cases b <;> rfl
end
theorem x_fldS {i : Nat} {c f : Str} {fa : M D} {d : D} {e e1 e2 : En} (h : fa e = .ok d e1) (h2 : putI i c f d e1 = .ok () e2) : fFldS i c f fa e = .ok .nx e2 := by
  unfold fFldS
  rw [bd_ok h, bd_ok (noExc_ok h2)]
  rfl
/-! ### == of what is typed -/
structure PE {α : Type} (F : α → D) (k : Nat) where
  P : α → PyData
  toP : ∀ a, toP (F a) = some (P a)
  lay : ∀ a, PyData.canLay0 (P a) = true
  dep : ∀ a, PyData.depth (P a) ≤ k
  eqv : ∀ a b, PyData.eqv (P a) (P b) = true ↔ a = b
theorem toPs_map {α : Type} {F : α → D} {P : α → PyData} (h : ∀ a, toP (F a) = some (P a)) : ∀ l : List α, toPs (l.map F) = some (l.map P)
  | [] => rfl
  | x :: l => by
    show (match toP (F x), toPs (l.map F) with
      | some p, some q => some (p :: q) | _, _ => none) = _
    rw [toPs_map h l, h x]
    rfl
theorem lay_map {α : Type} {P : α → PyData} (h : ∀ a, PyData.canLay0 (P a) = true) : ∀ l : List α, PyData.canLayAll0 (l.map P) = true
  | [] => rfl
  | x :: l => by
    show (PyData.canLay0 (P x) && PyData.canLayAll0 (l.map P)) = true
    rw [lay_map h l, h x]
    rfl
theorem dep_map {α : Type} {P : α → PyData} {k : Nat} (h : ∀ a, PyData.depth (P a) ≤ k) : ∀ l : List α, PyData.depthAll (l.map P) ≤ k
  | [] => Nat.zero_le _
  | x :: l => by
    show max (PyData.depth (P x)) (PyData.depthAll (l.map P)) ≤ k
    exact Nat.max_le.mpr ⟨h x, dep_map h l⟩
theorem eqv_map {α : Type} {P : α → PyData} (h : ∀ a b, PyData.eqv (P a) (P b) = true ↔ a = b) : ∀ l m : List α, PyData.eqvAll (l.map P) (m.map P) = true ↔ l = m
  | [], [] => by simp [PyData.eqvAll]
  | [], _ :: _ => by simp [PyData.eqvAll]
  | _ :: _, [] => by simp [PyData.eqvAll]
  | x :: l, y :: m => by
    show (PyData.eqv (P x) (P y) && PyData.eqvAll (l.map P) (m.map P)) = true ↔ _
    rw [Bool.and_eq_true, h x y, eqv_map h l m]
    simp
def PE.int : PE D.int 0 := ⟨.int, fun _ => rfl, fun _ => rfl, fun _ => Nat.le_refl _, fun a b => by show (a == b) = true ↔ _; simp⟩
def PE.bl : PE D.bl 0 := ⟨.bool, fun _ => rfl, fun _ => rfl, fun _ => Nat.le_refl _, fun a b => by show (a == b) = true ↔ _; simp⟩
def PE.list {α : Type} {F : α → D} {k : Nat} (h : PE F k) : PE (fun l : List α => D.lst (l.map F)) (k + 1) := ⟨fun l => .list (l.map h.P), fun l => by unfold Dl.toP; rw [toPs_map h.toP], fun l => lay_map h.lay l, fun l => Nat.succ_le_succ (dep_map h.dep l), fun l m => eqv_map h.eqv l m⟩
def PE.tupl {α : Type} {F : α → D} {k : Nat} (h : PE F k) : PE (fun l : List α => D.tup (l.map F)) (k + 1) := ⟨fun l => .tuple (l.map h.P), fun l => by unfold Dl.toP; rw [toPs_map h.toP], fun l => lay_map h.lay l, fun l => Nat.succ_le_succ (dep_map h.dep l), fun l m => eqv_map h.eqv l m⟩
section
variable {α : Type} [DecidableEq α] {F : α → D} {k : Nat} {e : En} {a b : α}
theorem o_eq (h : PE F k) (hk : k ≤ 64 := by decide) : dEq (F a) (F b) e = .ok (.bl (decide (a = b))) e := by
  have sh : ∀ a, SeqAt.shaped (h.P a) = true := fun a => by
    show (PyData.canLay0 (h.P a) && decide (PyData.depth (h.P a) ≤ 64)) = true
    rw [h.lay, decide_eq_true (Nat.le_trans (h.dep a) hk)]
    rfl
  rw [dEq_ok (h.toP a) (h.toP b) (sh a) (sh b)]
  have : PyData.eqv (h.P a) (h.P b) = decide (a = b) := by rw [Bool.eq_iff_iff, h.eqv]; simp
  rw [this]
theorem o_ne (h : PE F k) (hk : k ≤ 64 := by decide) : dNe (F a) (F b) e = .ok (.bl (!decide (a = b))) e := by
  have sh : ∀ a, SeqAt.shaped (h.P a) = true := fun a => by
    show (PyData.canLay0 (h.P a) && decide (PyData.depth (h.P a) ≤ 64)) = true
    rw [h.lay, decide_eq_true (Nat.le_trans (h.dep a) hk)]
    rfl
  rw [dNe_ok (h.toP a) (h.toP b) (sh a) (sh b)]
  have : PyData.eqv (h.P a) (h.P b) = decide (a = b) := by rw [Bool.eq_iff_iff, h.eqv]; simp
  rw [this]
end
theorem dEq_wd' {b c : Bool} {e : En} : dEq (.str (wd b)) (.str (wd c)) e = .ok (.bl (decide (b = c))) e := by
  cases b <;> cases c <;> (rw [dEq_ok (p := .str _) (q := .str _) rfl rfl (by decide +kernel) (by decide +kernel)]; congr 2)
theorem o_wdI {b : Bool} {e : En} : dEq (.str (wd b)) (.str ("insert" : Str)) e = .ok (.bl b) e := by
  have h := dEq_wd' (b := b) (c := true) (e := e)
  rw [show decide (b = true) = b by cases b <;> rfl] at h
  exact h
theorem o_wdR {b : Bool} {e : En} : dEq (.str (wd b)) (.str ("remove" : Str)) e = .ok (.bl (!b)) e := by
  have h := dEq_wd' (b := b) (c := false) (e := e)
  rw [show decide (b = false) = !b by cases b <;> rfl] at h
  exact h
end Dl
set_option maxHeartbeats 400000
/-! Layer P: further rules. -/
namespace Dl
open PySem PySem.Spec PyProof.Rows L2 RZ
section
variable {α : Type} {F : α → D} {xs : List α} {e e1 e2 : En} {fa : M D}
def repT {α : Type} (xs : List α) (k : Int) : Option (List α) := if xs.length ≠ 0 ∧ -(2 ^ 63) ≤ k ∧ k ≤ 1000 ∧ xs.length ≤ 1000 then some (List.replicate k.toNat xs).flatten else none
theorem o_repT {a : Int} {zs : List α} (h : repT xs a = some zs) : dRepT (.tup (xs.map F)) (.int a) e = .ok (.tup (zs.map F)) e := by
  unfold repT at h
  split at h
  · cases h
    rename_i hl
    show li (if xs.map F ≠ [] ∧ -(2 ^ 63) ≤ a ∧ a ≤ 1000 ∧ (xs.map F).length ≤ 1000 then some (D.tup (List.replicate a.toNat (xs.map F)).flatten) else none) e = _
    rw [List.length_map, if_pos ⟨fun z => hl.1 (by rw [List.map_eq_nil_iff.mp z]; rfl), hl.2⟩, List.map_flatten, List.map_replicate]
    rfl
  · cases h
end
section
variable {fa fb : M D} {e e1 e2 : En}
theorem own2I_ok {FF : En → Res D} {c : Str} {n1 : List Str} {s1 : List D} {i : Int} {d : D} {os : En} (h : FF [.val (.obj c n1 s1), .val (.int i)] = .ok d os) : d2i FF c (.obj c n1 s1) (.int i) e = .ok d e := by
  show (if c = c then noExc (callR FF [.d (.obj c n1 s1), .d (.int i)]) else fun _ => .bad) e = _
  rw [if_pos rfl]
  exact noExc_ok (callR2 h)
theorem x_ownI {cN : Str} {FF : En → Res D} {n1 : List Str} {s1 : List D} {i : Int} {d : D} {os : En} (ha : fa e = .ok (.obj cN n1 s1) e1) (hb : fb e1 = .ok (.int i) e2) (h : FF [.val (.obj cN n1 s1), .val (.int i)] = .ok d os) : f2 (d2i FF cN) fa fb e = .ok d e2 := x_op ha hb (own2I_ok h)
end
/-! ### while, with what leaves it -/
end Dl
set_option maxHeartbeats 400000
/-! Layer P: x.pop(i); steps with ranks from either end, and medians. -/
namespace Dl
open PySem PySem.Spec PyProof.Rows L2 RZ
end Dl
set_option maxHeartbeats 400000
/-! Layer P: the words of wide steps, their parts. -/
namespace Dl
open PySem PySem.Spec PyProof.Rows L2 RZ
inductive W4 where
  | ins | rem | top | med
  deriving DecidableEq
def w4 : W4 → Str
  | .ins => "insert" | .rem => "remove" | .top => "top" | .med => "median"
end Dl
set_option maxHeartbeats 400000
/-! Layer P: repr. -/
namespace Dl
open PySem PySem.Spec PyProof.Rows L2 RZ
/-! what has a display -/
theorem int_short {a : Int} (h : a.natAbs.log2 < 1920) : (PyData.shown (.int a)).length ≤ 2000 := by
  have e := int_text_length_le (k := 1920) (by decide) h
  show (Str.ofString (toString a)).length ≤ 2000
  rw [PySem.ofString_length]
  omega
end Dl
set_option maxHeartbeats 400000
/-! Layer P: data as they are, class methods through instances, != of lists of instances. -/
namespace Dl
open PySem PySem.Spec PyProof.Rows L2 RZ
/-- a datum as it is -/
abbrev eD (d : D) : D := d
end Dl
set_option maxHeartbeats 400000
/-! Layer P: repr where empty dicts may be; runs that end in an exception. -/
namespace Dl
open PySem PySem.Spec PyProof.Rows L2 RZ
end Dl
set_option maxHeartbeats 400000
/-! Layer P: more runs that end in an exception. -/
namespace Dl
open PySem PySem.Spec PyProof.Rows L2 RZ
end Dl
set_option maxHeartbeats 400000
/-! Layer P: wide steps as data; loops that end in an exception. -/
namespace Dl
open PySem PySem.Spec PyProof.Rows L2 RZ
end Dl
set_option maxHeartbeats 400000
/-! Layer P: max by len, sorted(dict(..)). -/
namespace Dl
open PySem PySem.Spec PyProof.Rows L2 RZ
end Dl
set_option maxHeartbeats 400000
/-! Layer P: the longest parts of neighbouring steps of one word. -/
namespace Dl
open PySem L2
end Dl
set_option maxHeartbeats 400000
/-! Layer P: x + y as a new list, xs.insert(i, y). -/
namespace Dl
open PySem L2
/-! ### the least of triples -/
end Dl
set_option maxHeartbeats 400000
/-! Layer P: xs.count(y), xs.index(y). -/
namespace Dl
open PySem L2
/-! ### texts -/
/-! ### lists of lists, tuples of tuples -/
end Dl
set_option maxHeartbeats 400000
/-! Layer P: lists or tuples compared and shown, enumerate of them, x if x is None, a list that gets another kind of item. -/
namespace Dl
open PySem L2
section
variable {α : Type} {F : α → D} {k : Nat}
def PE.seq (h : PE F k) : PE (sqG F) (k + 1) := ⟨fun p => if p.1 then .tuple (p.2.map h.P) else .list (p.2.map h.P),
  fun p => by
    obtain ⟨b, l⟩ := p
    cases b
    · exact (PE.list h).toP l
    · exact (PE.tupl h).toP l,
  fun p => by
    obtain ⟨b, l⟩ := p
    cases b
    · exact (PE.list h).lay l
    · exact (PE.tupl h).lay l,
  fun p => by
    obtain ⟨b, l⟩ := p
    cases b
    · exact (PE.list h).dep l
    · exact (PE.tupl h).dep l,
  fun p q => by
    obtain ⟨b, l⟩ := p
    obtain ⟨c, m⟩ := q
    cases b <;> cases c
    · rw [Prod.mk.injEq]
      exact ((PE.list h).eqv l m).trans ⟨fun z => ⟨rfl, z⟩, fun z => z.2⟩
    · show false = true ↔ _
      simp
    · show false = true ↔ _
      simp
    · rw [Prod.mk.injEq]
      exact ((PE.tupl h).eqv l m).trans ⟨fun z => ⟨rfl, z⟩, fun z => z.2⟩⟩
end
/-! ### data as they are -/
end Dl
set_option maxHeartbeats 400000
/-! Layer P: comprehensions with two for. -/
namespace Dl
open PySem L2
end Dl
set_option maxHeartbeats 400000
/-! Layer P: repr of lists in which empty dicts are. -/
namespace Dl
open PySem PySem.Spec PyProof.Rows L2 RZ
end Dl
set_option maxHeartbeats 400000
/-! Layer P: sums and items of lists or tuples. -/
namespace Dl
open PySem L2
end Dl
set_option maxHeartbeats 400000
/-! Layer P: defs that give a new list out, by facts; calls of objects that do. -/
namespace Dl
open PySem L2
end Dl
set_option maxHeartbeats 400000
/-! Layer P: zip of a tuple and a list. -/
namespace Dl
open PySem L2
end Dl
set_option maxHeartbeats 400000
/-! Layer P: texts. -/
namespace Dl
open PySem L2
def catSP (x y : Str) : Option Str := if x.length + y.length ≤ 16777216 then some (x ++ y) else none
def mulSP (z : Str) (n : Int) : Option Str := if -(2 ^ 62) ≤ n ∧ n < 2 ^ 62 ∧ z.length * n.toNat ≤ 16777216 then some (Txt.mul z n) else none
def joinSP (x : Str) (ys : List Str) : Option Str := if (ys.map (·.length)).sum + ys.length * x.length ≤ 16777216 then some (Txt.join x ys) else none
def splitSP (x y : Str) : Option (List Str) := if (y.length == 0) = false ∧ x.length + 2 ≤ 16777216 then some (Txt.split x y) else none
def strIP (i : Int) : Option Str := if i.natAbs.log2 < 1920 then some (toString i) else none
def lenSP (z : Str) : Option Int := if z.length ≤ 16777216 then some z.length else none
def orSP (x : Str) (o : Option Str) : Option Str := if x.length ≤ 16777216 then (if x.length = 0 then o else some x) else none
def fmtSP (y : Str) : Option Str := if y.length ≤ 16777216 then some y else none
def jnSP : List Str → Str → Option Str
  | [], acc => some acc
  | y :: ys, acc => if (acc ++ y).length ≤ 16777216 then jnSP ys (acc ++ y) else none
section
variable {e e1 e2 e3 : En} {fa fb : M D} {x y z r : Str} {n i : Int}
theorem o_catS (h : catSP x y = some r) : dCatS (.str x) (.str y) e = .ok (.str r) e := by
  unfold catSP at h
  split at h
  case isFalse => cases h
  rename_i hz
  cases h
  show li (if x.length + y.length ≤ 16777216 then some (D.str (x ++ y)) else none) e = _
  rw [if_pos hz]; rfl
theorem o_mulS (h : mulSP z n = some r) : dMulS (.str z) (.int n) e = .ok (.str r) e := by
  unfold mulSP at h
  split at h
  case isFalse => cases h
  rename_i hz
  cases h
  show li (if -(2 ^ 62) ≤ n ∧ n < 2 ^ 62 ∧ z.length * n.toNat ≤ 16777216 then some (D.str (Txt.mul z n)) else none) e = _
  rw [if_pos hz]; rfl
theorem x_join {ys : List Str} (h : joinSP x ys = some r) (ha : fa e = .ok (.str x) e1) (hb : fb e1 = .ok (.lst (ys.map D.str)) e2) : fM1 oJoin fa fb e = .ok (.str r) e2 := by
  unfold joinSP at h
  split at h
  case isFalse => cases h
  rename_i hz
  cases h
  unfold fM1
  rw [bd_ok ha]
  show bd fb _ e1 = _
  rw [bd_ok hb]
  show li (match toStrs (ys.map D.str) with
    | some ys => if (ys.map (·.length)).sum + ys.length * x.length ≤ 16777216 then some (D.str (Txt.join x ys)) else none
    | none => none) e2 = _
  rw [toStrs_map]
  show li (if (ys.map (·.length)).sum + ys.length * x.length ≤ 16777216 then some (D.str (Txt.join x ys)) else none) e2 = _
  rw [if_pos hz]; rfl
theorem x_split {ys : List Str} (h : splitSP x y = some ys) (ha : fa e = .ok (.str x) e1) (hb : fb e1 = .ok (.str y) e2) : fSplit fa fb e = .ok (ys.map D.str) e2 := by
  unfold splitSP at h
  split at h
  case isFalse => cases h
  rename_i hz
  cases h
  unfold fSplit
  rw [bd_ok ha]
  show bd fb _ e1 = _
  rw [bd_ok hb]
  show li (if (y.length == 0) = false ∧ x.length + 2 ≤ 16777216 then some ((Txt.split x y).map D.str) else none) e2 = _
  rw [if_pos hz]; rfl
theorem l_strI (h : strIP i = some r) : oStrI (.int i) = some (.str r) := by
  unfold strIP at h
  split at h
  case isFalse => cases h
  rename_i hz
  cases h
  show (if i.natAbs.log2 < 1920 then some (D.str (toString i)) else none) = _
  rw [if_pos hz]
theorem l_lenS (h : lenSP z = some n) : oLenS (.str z) = some (.int n) := by
  unfold lenSP at h
  split at h
  case isFalse => cases h
  rename_i hz
  cases h
  show (if z.length ≤ 16777216 then some (D.int z.length) else none) = _
  rw [if_pos hz]
theorem x_orStr {o : Option Str} (h : orSP x o = some r) (ha : fa e = .ok (.str x) e1) (hb : ∀ s, o = some s → fb e1 = .ok (.str s) e1) : fOrS fa fb e = .ok (.str r) e1 := by
  unfold orSP at h
  split at h
  case isFalse => cases h
  rename_i hz
  unfold fOrS
  rw [bd_ok ha]
  show (if x.length ≤ 16777216 then (if x.length = 0 then fb else pu (.str x)) else fun _ => Res.bad) e1 = _
  rw [if_pos hz]
  split at h
  · rename_i h0
    rw [if_pos h0]; exact hb r h
  · rename_i h0
    cases h
    rw [if_neg h0]; rfl
theorem x_fmtS (h : fmtSP y = some r) (ha : fa e = .ok (.str y) e1) : fFmt fa e = .ok (.str r) e1 := by
  unfold fmtSP at h
  split at h
  case isFalse => cases h
  rename_i hz
  cases h
  unfold fFmt
  rw [bd_ok ha]
  show li (if y.length ≤ 16777216 then some (D.str y) else none) e1 = _
  rw [if_pos hz]; rfl
theorem x_fmtI (h : strIP i = some r) (ha : fa e = .ok (.int i) e1) : fFmt fa e = .ok (.str r) e1 := by
  unfold strIP at h
  split at h
  case isFalse => cases h
  rename_i hz
  cases h
  unfold fFmt
  rw [bd_ok ha]
  show li (if i.natAbs.log2 < 1920 then some (D.str (toString i)) else none) e1 = _
  rw [if_pos hz]; rfl
theorem x_jnCons {fs : List (M D)} {ys : List Str} {acc : Str} (h : jnSP (y :: ys) acc = some r) (ha : fa e = .ok (.str y) e1) (hb : ∀ acc', jnSP ys acc' = some r → fJoin fs acc' e1 = .ok (.str r) e2) : fJoin (fa :: fs) acc e = .ok (.str r) e2 := by
  unfold jnSP at h
  split at h
  case isFalse => cases h
  rename_i hz
  show bd fa (fun d => match d with
    | .str y => if (acc ++ y).length ≤ 16777216 then fJoin fs (acc ++ y) else fun _ => Res.bad
    | _ => fun _ => Res.bad) e = _
  rw [bd_ok ha]
  show (if (acc ++ y).length ≤ 16777216 then fJoin fs (acc ++ y) else fun _ => Res.bad) e1 = _
  rw [if_pos hz]
  exact hb _ h
theorem x_jnEnd {acc : Str} (h : jnSP [] acc = some r) : fJoin [] acc e = .ok (.str r) e := by cases h; rfl
end
end Dl
set_option maxHeartbeats 400000
/-! Layer P: zip of a list and a tuple. -/
namespace Dl
open PySem L2
theorem x_zipQ {α β : Type} {F : α → D} {G : β → D} {xs : List α} {ys : List β} {fa fb : M D} {e e1 e2 : En} (ha : fa e = .ok (.lst (xs.map F)) e1) (hb : fb e1 = .ok (.tup (ys.map G)) e2) : bd (fCons fa (fCons fb fNil)) dZipQ e = .ok ((xs.zip ys).map (eP F G)) e2 := by
  rw [bd_ok (fCons_ok ha (fCons_ok hb fNil_eq)), ← zip_eq]
  rfl
end Dl
set_option maxHeartbeats 400000
/-! Layer P: None in a list; two targets. -/
namespace Dl
open PySem L2
end Dl
set_option maxHeartbeats 400000
/-! Layer P: texts compared. -/
namespace Dl
open PySem L2
theorem o_neSt {a b : Str} {e : En} : dNeS (.str a) (.str b) e = .ok (.bl (!decide (a = b))) e := rfl
end Dl
set_option maxHeartbeats 400000
/-! Layer P: a list without None. -/
namespace Dl
open PySem L2
def noN (ns : List (Option Int)) : Option (List Int) := if ns.any Option.isNone = true then none else some (ns.filterMap id)
end Dl
set_option maxHeartbeats 400000
/-! Layer P: the tail of a triple. -/
namespace Dl
open PySem L2
end Dl
set_option maxHeartbeats 400000
/-! Layer P: fields at the right of a width. -/
namespace Dl
open PySem L2
def fmtWSP (n : Nat) (y : Str) : Option Str := if y.length ≤ 16000000 then some (padR n y) else none
def fmtWIP (n : Nat) (i : Int) : Option Str := if i.natAbs.log2 < 1920 then some (padR n (toString i)) else none
section
variable {fa : M D} {e e1 : En} {y r : Str} {i : Int} {n : Nat}
theorem x_fmtWS (h : fmtWSP n y = some r) (ha : fa e = .ok (.str y) e1) : fFmtW n fa e = .ok (.str r) e1 := by
  unfold fmtWSP at h
  split at h
  case isFalse => cases h
  rename_i hz
  cases h
  unfold fFmtW
  rw [bd_ok ha]
  show li (if y.length ≤ 16000000 then some (D.str (padR n y)) else none) e1 = _
  rw [if_pos hz]; rfl
theorem x_fmtWI (h : fmtWIP n i = some r) (ha : fa e = .ok (.int i) e1) : fFmtW n fa e = .ok (.str r) e1 := by
  unfold fmtWIP at h
  split at h
  case isFalse => cases h
  rename_i hz
  cases h
  unfold fFmtW
  rw [bd_ok ha]
  show li (if i.natAbs.log2 < 1920 then some (D.str (padR n (toString i))) else none) e1 = _
  rw [if_pos hz]; rfl
end
/-! ### replace, and statements that want a token -/
section
variable {X : Cx} {W : WX} {st : Stmt} {sts : List Stmt} {g : M Fl}
theorem psdt_wk (js : List Nat) (h : PSDT X W st g) : PSDT X W st (fWk js g) := by
  obtain ⟨ts, p, e⟩ := h
  exact ⟨ts, p, ev_wk e⟩
theorem pssdt_wk (js : List Nat) (h : PSsDT X W sts g) : PSsDT X W sts (fWk js g) := by
  obtain ⟨ts, p, e⟩ := h
  exact ⟨ts, p, ev_wk e⟩
end
def repSP (x y z : Str) : Option Str := if x.length + (x.length + 1) * z.length ≤ 16777216 then some (Txt.replace x y z) else none
theorem x_repl {fo : M D} {e e1 : En} {x y z r : Str} (h : repSP x y z = some r) (ho : fo e = .ok (.str x) e1) : fRepl y z fo e = .ok (.str r) e1 := by
  unfold repSP at h
  split at h
  case isFalse => cases h
  rename_i hz
  cases h
  unfold fRepl
  rw [bd_ok ho]
  show li (if x.length + (x.length + 1) * z.length ≤ 16777216 then some (D.str (Txt.replace x y z)) else none) e1 = _
  rw [if_pos hz]; rfl
end Dl
set_option maxHeartbeats 400000
/-! k53: the walk. -/
namespace Dl.k53
open PySem PySem.Spec PyProof.Rows L2 RZ
def top (i : Nat) : Stmt := PySem.Challenge.pw_rankeffect_k53_effects_as_grids.main.body.getD i (.Pass ⟨0, 0, 0, 0⟩)
section
variable {P : Program} {w : World} {K : PySem.W.Frag} {mg : Str → Option Value} {base : Heap} {f : Addr} {fd : FuncData}
/-! ### _law_pool -/
abbrev s__law_pool : Stmt := top 39
def g__law_pool : M Fl := fSeq (fSetT (fC (.int 0)) (setV 2)) (fSeq (fIf (fB (f2 dLt (fVar 1) (bd (fCons (fVar 0) (fNil)) (d1 oLen)))) (fSetT (bd (fCons (f2 dAt (fVar 0) (fVar 1)) (fNil)) (d1 oAbs)) (setV 2)) (pu .nx)) (fSeq (fSetT (f2 dMod (f2 dMul (f2 dAdd (f2 dAdd (f2 dAdd (f2 dMod (fVar 2) (fC (.int 2147483629))) (f2 dMul (f2 dMul (fC (.int 7919)) (fVar 1)) (fVar 1))) (f2 dMul (fC (.int 31)) (fVar 1))) (fC (.int 17))) (fC (.int 48271))) (fC (.int 2147483647))) (setV 3)) (fRetL (fLst (fCons (f2 dMul (fVar 2) (bd (fCons (f2 dGe (fVar 2) (f2 dPow (fC (.int 10)) (fC (.int 18)))) (fNil)) (d1 oInt))) (fCons (f2 dMod (f2 dMul (fVar 3) (fVar 3)) (fC (.int 2147483629))) (fNil)))))))
def R__law_pool : En → Res (List D) := runN 2 4 g__law_pool
theorem sc__law_pool : FnScope ["_law_script", "_law_k", "_law_cell", "_law_mixed"] ["_law_script", "_law_k"] (defScope s__law_pool) := ⟨rfl, rfl, rfl, by decide +kernel, rfl, by decide +kernel, by decide +kernel⟩
theorem ok__law_pool (F : Fun K "_law_pool" "_law_pool" s__law_pool f fd) (b_len : mg "len" = none) (b_abs : mg "abs" = none) (b_int : mg "int" = none) : FnOk P w K mg base (L2.CX P w) 1 f fd ["_law_script", "_law_k"] (spN K mg R__law_pool) := by
  have S := sc__law_pool
  refine fn_okN (g := g__law_pool) F S (by decide) fun cdv A outer s H E hr => ?_
  exact pssd_cons (psd_set (ped_int) (pgd_name 2 S.nd)) (pssd_cons (psd_if (pbd_cmp op_lt od_lt (ped_var 1) (ped_callB call_len_seq cd_len b_len (by decide +kernel) (pad_cons (ped_var 0) (pad_nil)))) (pssd_one (psd_set (ped_callB call_abs cd_abs b_abs (by decide +kernel) (pad_cons (ped_ix (ped_var 0) (ped_var 1)) (pad_nil))) (pgd_name 2 S.nd))) (pssd_nil)) (pssd_cons (psd_set (ped_op op_mod od_mod (ped_op op_mulU od_mul (ped_op op_add od_add (ped_op op_add od_add (ped_op op_add od_add (ped_op op_mod od_mod (ped_var 2) (ped_int)) (ped_op op_mulU od_mul (ped_op op_mulU od_mul (ped_int) (ped_var 1)) (ped_var 1))) (ped_op op_mulU od_mul (ped_int) (ped_var 1))) (ped_int)) (ped_int)) (ped_int)) (pgd_name 3 S.nd)) (pssd_one (psd_retL (pnd_lst (pad_cons (ped_op op_mulU od_mul (ped_var 2) (ped_callTy call_int1 cd_int b_int (by decide +kernel) (pad_cons (ped_cmp op_ge od_ge (ped_var 2) (ped_op op_pow od_pow (ped_int) (ped_int))) (pad_nil)))) (pad_cons (ped_op op_mod od_mod (ped_op op_mulU od_mul (ped_var 3) (ped_var 3)) (ped_int)) (pad_nil))))))))
/-! ### _law_take -/
abbrev s__law_take : Stmt := top 40
def g__law_take : M Fl := fSeq (fIf (fB (f2 dGt (fGetA 0 (fC (.int 0))) (fC (.int 0)))) (fSeq (fSetT (f2 dMod (fGetA 0 (fC (.int 0))) (fVar 1)) (setV 2)) (fSeq (fPut 0 (f2 dDiv (fGetA 0 (fC (.int 0))) (fVar 1)) (fC (.int 0))) (fRet (fVar 2)))) (pu .nx)) (fSeq (fPut 0 (f2 dMod (f2 dAdd (f2 dMul (fGetA 0 (fC (.int 1))) (fC (.int 48271))) (fC (.int 12345))) (fC (.int 2147483647))) (fC (.int 1))) (fRet (f2 dMod (f2 dDiv (f2 dMod (f2 dMul (fGetA 0 (fC (.int 1))) (fGetA 0 (fC (.int 1)))) (fC (.int 2147483629))) (fC (.int 64))) (fVar 1))))
def R__law_take : En → Res D := runF 2 3 g__law_take
theorem sc__law_take : FnScope ["_law_pool_here", "_law_count", "_law_result"] ["_law_pool_here", "_law_count"] (defScope s__law_take) := ⟨rfl, rfl, rfl, by decide +kernel, rfl, by decide +kernel, by decide +kernel⟩
theorem ok__law_take (F : Fun K "_law_take" "_law_take" s__law_take f fd) : FnOk P w K mg base (L2.CX P w) 1 f fd ["_law_pool_here", "_law_count"] (spD K mg R__law_take) := by
  have S := sc__law_take
  refine fn_ok (g := g__law_take) F S (by decide) fun cdv A outer s H E hr => ?_
  exact pssd_cons (psd_if (pbd_cmp op_gt od_gt (ped_getA 0 (ped_int)) (ped_int)) (pssd_cons (psd_set (ped_op op_mod od_mod (ped_getA 0 (ped_int)) (ped_var 1)) (pgd_name 2 S.nd)) (pssd_cons (psd_put 0 (ped_op op_fdivW od_div (ped_getA 0 (ped_int)) (ped_var 1)) (ped_int)) (pssd_one (psd_ret (ped_var 2))))) (pssd_nil)) (pssd_cons (psd_put 0 (ped_op op_mod od_mod (ped_op op_add od_add (ped_op op_mulU od_mul (ped_getA 0 (ped_int)) (ped_int)) (ped_int)) (ped_int)) (ped_int)) (pssd_one (psd_ret (ped_op op_mod od_mod (ped_op op_fdivW od_div (ped_op op_mod od_mod (ped_op op_mulU od_mul (ped_getA 0 (ped_int)) (ped_getA 0 (ped_int))) (ped_int)) (ped_int)) (ped_var 1)))))
/-! ### _law_step -/
abbrev s__law_step : Stmt := top 41
def g__law_step : M Fl := fSeq (fIf (fB (f2 dLt (bd (rO 0 (rD (fC (.int 5)) (rNil))) (callR R__law_take)) (fC (.int 2)))) (fRet (fTup (fCons (fC (.str ("insert" : Str))) (fCons (f2 dSub (bd (rO 0 (rD (fC (.int 9)) (rNil))) (callR R__law_take)) (fC (.int 3))) (fNil))))) (pu .nx)) (fRet (fTup (fCons (fC (.str ("remove" : Str))) (fCons (f2 dAdd (fC (.int 1)) (bd (rO 0 (rD (fVar 1) (rNil))) (callR R__law_take))) (fNil)))))
def R__law_step : En → Res D := runF 2 2 g__law_step
theorem sc__law_step : FnScope ["_law_pool_here", "_law_most"] ["_law_pool_here", "_law_most"] (defScope s__law_step) := ⟨rfl, rfl, rfl, by decide +kernel, rfl, by decide +kernel, by decide +kernel⟩
theorem ok__law_step (F : Fun K "_law_step" "_law_step" s__law_step f fd) (d_Fn__law_take : FnI P w K mg base 1 "_law_take" R__law_take) : FnOk P w K mg base (L2.CX P w) 2 f fd ["_law_pool_here", "_law_most"] (spD K mg R__law_step) := by
  have S := sc__law_step
  refine fn_ok (g := g__law_step) F S (by decide) fun cdv A outer s H E hr => ?_
  exact pssd_cons (psd_if (pbd_cmp op_lt od_lt (ped_call d_Fn__law_take hr (by decide) (takes_of rfl rfl rfl rfl) (prd_o 0 (prd_d (ped_int) (prd_nil)))) (ped_int)) (pssd_one (psd_ret (ped_tup (pad_cons (ped_str) (pad_cons (ped_op op_sub od_sub (ped_call d_Fn__law_take hr (by decide) (takes_of rfl rfl rfl rfl) (prd_o 0 (prd_d (ped_int) (prd_nil)))) (ped_int)) (pad_nil)))))) (pssd_nil)) (pssd_one (psd_ret (ped_tup (pad_cons (ped_str) (pad_cons (ped_op op_add od_add (ped_int) (ped_call d_Fn__law_take hr (by decide) (takes_of rfl rfl rfl rfl) (prd_o 0 (prd_d (ped_var 1) (prd_nil))))) (pad_nil))))))
/-! ### _law_steps -/
abbrev s__law_steps : Stmt := top 42
def g__law_steps : M Fl := fRet (fL (fLc (bd (fCons (bd (rO 0 (rD (f2 dAdd (fVar 1) (fC (.int 1))) (rNil))) (callR R__law_take)) (fNil)) dRngW1) [3] (setV 3) (pu true) (bd (rO 0 (rD (fVar 2) (rNil))) (callR R__law_step))))
def R__law_steps : En → Res D := runF 3 4 g__law_steps
theorem sc__law_steps : FnScope ["_law_pool_here", "_law_many", "_law_most", "_law_turn"] ["_law_pool_here", "_law_many", "_law_most"] (defScope s__law_steps) := ⟨rfl, rfl, rfl, by decide +kernel, rfl, by decide +kernel, by decide +kernel⟩
theorem ok__law_steps (F : Fun K "_law_steps" "_law_steps" s__law_steps f fd) (d_Fn__law_take : FnI P w K mg base 1 "_law_take" R__law_take) (b_range : mg "range" = none) (d_Fn__law_step : FnI P w K mg base 2 "_law_step" R__law_step) : FnOk P w K mg base (L2.CX P w) 3 f fd ["_law_pool_here", "_law_many", "_law_most"] (spD K mg R__law_steps) := by
  have S := sc__law_steps
  refine fn_ok (g := g__law_steps) F S (by decide) fun cdv A outer s H E hr => ?_
  exact pssd_one (psd_ret (ped_new (pnd_lc (own := [("_law_turn", 3)]) (by rfl) S.nd (pid_rangeW1 (pad_cons (ped_call d_Fn__law_take hr (by decide) (takes_of rfl rfl rfl rfl) (prd_o 0 (prd_d (ped_op op_add od_add (ped_var 1) (ped_int)) (prd_nil)))) (pad_nil)) b_range) (by exact blkOk_by (N := ["_law_pool_here", "_law_many", "_law_most", "_law_turn"]) (sc := defScope s__law_steps) (own := [("_law_turn", 3)]) (by decide +kernel)) (fun _ _ _ _ _ => pgv_name 3 S.nd (by decide)) (fun _ _ _ _ _ => ptsd_nil) (fun _ _ _ _ _ => ped_call d_Fn__law_step hr (by decide) takes0 (prd_o 0 (prd_d (ped_var 2) (prd_nil)))))))
/-! ### Sequence.steps -/
abbrev s_Sequence_steps : Stmt := inClass (top 17) 2
def g_Sequence_steps : M Fl := fRet (bd (fVar 0) (dFld "Sequence" "parts"))
def R_Sequence_steps : En → Res D := runF 1 1 g_Sequence_steps
theorem sc_Sequence_steps : FnScope ["self"] ["self"] (defScope s_Sequence_steps) := ⟨rfl, rfl, rfl, by decide +kernel, rfl, by decide +kernel, by decide +kernel⟩
theorem ok_Sequence_steps (F : Fun K "steps" "Sequence.steps" s_Sequence_steps f fd) (f_Sequence_parts : FlI K mg "Sequence" "parts") : FnOk P w K mg base (L2.CX P w) 1 f fd ["self"] (spD K mg R_Sequence_steps) := by
  have S := sc_Sequence_steps
  refine fn_ok (g := g_Sequence_steps) F S (by decide) fun cdv A outer s H E hr => ?_
  exact pssd_one (psd_ret (ped_fld f_Sequence_parts (ped_var 0)))
/-! ### least_reaching -/
abbrev s_least_reaching : Stmt := top 22
def g_least_reaching : M Fl := fSeq (fSetT (fIf (fB (f2 dGt (fVar 2) (fVar 0))) (f2 dSub (fVar 2) (fVar 0)) (fC (.int 0))) (setV 3)) (fSeq (fWk [4] (fFor (bd (fVar 1) dWalk) (setV 4) (fWk [4] (fIf (fB (f2 dLe (fVar 4) (fVar 3))) (fSetT (f2 dAdd (fVar 3) (fC (.int 1))) (setV 3)) (pu .nx))))) (fRet (fVar 3)))
def R_least_reaching : En → Res D := runF 3 5 g_least_reaching
theorem sc_least_reaching : FnScope ["start", "lost", "count", "result", "rank"] ["start", "lost", "count"] (defScope s_least_reaching) := ⟨rfl, rfl, rfl, by decide +kernel, rfl, by decide +kernel, by decide +kernel⟩
theorem ok_least_reaching (F : Fun K "least_reaching" "least_reaching" s_least_reaching f fd) : FnOk P w K mg base (L2.CX P w) 1 f fd ["start", "lost", "count"] (spD K mg R_least_reaching) := by
  have S := sc_least_reaching
  refine fn_ok (g := g_least_reaching) F S (by decide) fun cdv A outer s H E hr => ?_
  exact pssd_cons (psd_set (ped_ifExp (pbd_cmp op_gt od_gt (ped_var 2) (ped_var 0)) (ped_op op_sub od_sub (ped_var 2) (ped_var 0)) (ped_int)) (pgd_name 3 S.nd)) (pssd_cons (psd_wk [4] (psd_for (passes_of rfl) (by rfl) (pid_seq (ped_var 1)) (pgd_name 4 S.nd) (pssd_wk [4] (pssd_one (psd_if (pbd_cmp op_le od_le (ped_var 4) (ped_var 3)) (pssd_one (psd_set (ped_op op_add od_add (ped_var 3) (ped_int)) (pgd_name 3 S.nd))) (pssd_nil)))))) (pssd_one (psd_ret (ped_var 3))))
/-! ### is_integer -/
abbrev s_is_integer : Stmt := top 10
def g_is_integer : M Fl := fRet (fAndV (bd (fVar 0) fun d => li (oIs "int" d)) (fBl (fNot (fB (bd (fVar 0) fun d => li (oIs "bool" d))))))
def R_is_integer : En → Res D := runF 1 1 g_is_integer
theorem sc_is_integer : FnScope ["value"] ["value"] (defScope s_is_integer) := ⟨rfl, rfl, rfl, by decide +kernel, rfl, by decide +kernel, by decide +kernel⟩
theorem ok_is_integer (F : Fun K "is_integer" "is_integer" s_is_integer f fd) (b_isinstance : mg "isinstance" = none) (b_int : mg "int" = none) (b_bool : mg "bool" = none) : FnOk P w K mg base (L2.CX P w) 1 f fd ["value"] (spD K mg R_is_integer) := by
  have S := sc_is_integer
  refine fn_ok (g := g_is_integer) F S (by decide) fun cdv A outer s H E hr => ?_
  exact pssd_one (psd_ret (ped_and (ped_is tab_int (ped_var 0) b_isinstance b_int (by decide +kernel)) (ped_one (ped_not (ped_is tab_bool (ped_var 0) b_isinstance b_bool (by decide +kernel))))))
/-! ### is_count -/
abbrev s_is_count : Stmt := top 11
def g_is_count : M Fl := fRet (fAndV (bd (rD (fVar 0) (rNil)) (callR R_is_integer)) (f2 dGe (fVar 0) (fC (.int 0))))
def R_is_count : En → Res D := runF 1 1 g_is_count
theorem sc_is_count : FnScope ["value"] ["value"] (defScope s_is_count) := ⟨rfl, rfl, rfl, by decide +kernel, rfl, by decide +kernel, by decide +kernel⟩
theorem ok_is_count (F : Fun K "is_count" "is_count" s_is_count f fd) (d_Fn_is_integer : FnI P w K mg base 1 "is_integer" R_is_integer) : FnOk P w K mg base (L2.CX P w) 2 f fd ["value"] (spD K mg R_is_count) := by
  have S := sc_is_count
  refine fn_ok (g := g_is_count) F S (by decide) fun cdv A outer s H E hr => ?_
  exact pssd_one (psd_ret (ped_and (ped_call d_Fn_is_integer hr (by decide) (takes_of rfl rfl rfl rfl) (prd_d (ped_var 0) (prd_nil))) (ped_one (ped_cmp op_ge od_ge (ped_var 0) (ped_int)))))
/-! ### is_rank -/
abbrev s_is_rank : Stmt := top 12
def g_is_rank : M Fl := fRet (fAndV (bd (rD (fVar 0) (rNil)) (callR R_is_integer)) (f2 dGt (fVar 0) (fC (.int 0))))
def R_is_rank : En → Res D := runF 1 1 g_is_rank
theorem sc_is_rank : FnScope ["value"] ["value"] (defScope s_is_rank) := ⟨rfl, rfl, rfl, by decide +kernel, rfl, by decide +kernel, by decide +kernel⟩
theorem ok_is_rank (F : Fun K "is_rank" "is_rank" s_is_rank f fd) (d_Fn_is_integer : FnI P w K mg base 1 "is_integer" R_is_integer) : FnOk P w K mg base (L2.CX P w) 2 f fd ["value"] (spD K mg R_is_rank) := by
  have S := sc_is_rank
  refine fn_ok (g := g_is_rank) F S (by decide) fun cdv A outer s H E hr => ?_
  exact pssd_one (psd_ret (ped_and (ped_call d_Fn_is_integer hr (by decide) (takes_of rfl rfl rfl rfl) (prd_d (ped_var 0) (prd_nil))) (ped_one (ped_cmp op_gt od_gt (ped_var 0) (ped_int)))))
/-! ### are_lost_ranks -/
abbrev s_are_lost_ranks : Stmt := top 20
def g_are_lost_ranks : M Fl := fSeq (fIf (fOr (fNot (fB (bd (fVar 0) fun d => li (oIs2 "list" "tuple" d)))) (fNot (fB (bd (fCons (fL (fLc (bd (fVar 0) dWalk) [3] (setV 3) (pu true) (bd (rD (fVar 3) (rNil)) (callR R_is_rank)))) (fNil)) (d1 oAll))))) (fRet (fC (.bl false))) (pu .nx)) (fRet (bd (fCons (fL (fLc (bd (fCons (fVar 0) (fCons (fSl (fVar 0) (fPart (some (fC (.int 1)))) (fPart none)) (fNil))) dZip) [1, 2] (gTupD 2 (gConsD (setV 1) (gConsD (setV 2) (gNilD)))) (pu true) (f2 dLt (fVar 1) (fVar 2)))) (fNil)) (d1 oAll)))
def R_are_lost_ranks : En → Res D := runF 1 4 g_are_lost_ranks
theorem sc_are_lost_ranks : FnScope ["value", "first", "second", "item"] ["value"] (defScope s_are_lost_ranks) := ⟨rfl, rfl, rfl, by decide +kernel, rfl, by decide +kernel, by decide +kernel⟩
theorem ok_are_lost_ranks (F : Fun K "are_lost_ranks" "are_lost_ranks" s_are_lost_ranks f fd) (b_isinstance : mg "isinstance" = none) (b_list : mg "list" = none) (b_tuple : mg "tuple" = none) (d_Fn_is_rank : FnI P w K mg base 2 "is_rank" R_is_rank) (b_all : mg "all" = none) (b_zip : mg "zip" = none) : FnOk P w K mg base (L2.CX P w) 3 f fd ["value"] (spD K mg R_are_lost_ranks) := by
  have S := sc_are_lost_ranks
  refine fn_ok (g := g_are_lost_ranks) F S (by decide) fun cdv A outer s H E hr => ?_
  exact pssd_cons (psd_if ((pwd_or (pbd_not (pbd_val (ped_is2 tab_list tab_tuple (ped_var 0) b_isinstance b_list (by decide +kernel) b_tuple (by decide +kernel)))) (pwd_or1 (pbd_not (pbd_val (ped_callB (cr_all (by rfl)) cd_all b_all (by decide +kernel) (pad_cons (ped_new (pnd_lc (own := [("item", 3)]) (by rfl) S.nd (pid_seq (ped_var 0)) (by exact blkOk_by (N := ["value", "first", "second", "item"]) (sc := defScope s_are_lost_ranks) (own := [("item", 3)]) (by decide +kernel)) (fun _ _ _ _ _ => pgv_name 3 S.nd (by decide)) (fun _ _ _ _ _ => ptsd_nil) (fun _ _ _ _ _ => ped_call d_Fn_is_rank hr (by decide) takes0 (prd_d (ped_var 3) (prd_nil))))) (pad_nil))))))).pt) (pssd_one (psd_ret (ped_bl))) (pssd_nil)) (pssd_one (psd_ret (ped_callB (cr_all (by rfl)) cd_all b_all (by decide +kernel) (pad_cons (ped_new (pnd_lc (own := [("first", 1), ("second", 2)]) (by rfl) S.nd (pid_zip (pad_cons (ped_var 0) (pad_cons (ped_slice (ped_var 0) (pod_some (ped_int)) pod_none) (pad_nil))) b_zip) (by exact blkOk_by (N := ["value", "first", "second", "item"]) (sc := defScope s_are_lost_ranks) (own := [("first", 1), ("second", 2)]) (by decide +kernel)) (fun _ _ _ _ _ => pgv_tup (by rfl) (pgvs_cons (pgv_name 1 S.nd (by decide)) (pgvs_cons (pgv_name 2 S.nd (by decide)) (pgvs_nil)))) (fun _ _ _ _ _ => ptsd_nil) (fun _ _ _ _ _ => ped_cmp op_lt od_lt (ped_var 1) (ped_var 2)))) (pad_nil)))))
/-! ### Table.__init__ -/
abbrev s_Table___init__ : Stmt := inClass (top 23) 0
def g_Table___init__ : M Fl := fSeq (fIf (fOr (fNot (fB (bd (rD (fVar 1) (rNil)) (callR R_is_count)))) (fNot (fB (bd (rD (fVar 2) (rNil)) (callR R_are_lost_ranks))))) ((fun _ => .bad)) (pu .nx)) (fSeq (fFldS 0 "Table" "base" (fVar 1)) (fFldS 0 "Table" "gone" (bd (fCons (fVar 2) (fNil)) (d1 oTuple))))
def R_Table___init__ : En → Res D := runF 3 3 g_Table___init__
theorem sc_Table___init__ : FnScope ["self", "start", "lost"] ["self", "start", "lost"] (defScope s_Table___init__) := ⟨rfl, rfl, rfl, by decide +kernel, rfl, by decide +kernel, by decide +kernel⟩
theorem ok_Table___init__ (F : Fun K "__init__" "Table.__init__" s_Table___init__ f fd) (d_Fn_is_count : FnI P w K mg base 2 "is_count" R_is_count) (d_Fn_are_lost_ranks : FnI P w K mg base 3 "are_lost_ranks" R_are_lost_ranks) (f_Table_base : FlI K mg "Table" "base") (f_Table_gone : FlI K mg "Table" "gone") (b_tuple : mg "tuple" = none) : FnOk P w K mg base (L2.CX P w) 4 f fd ["self", "start", "lost"] (spD K mg R_Table___init__) := by
  have S := sc_Table___init__
  refine fn_ok (g := g_Table___init__) F S (by decide) fun cdv A outer s H E hr => ?_
  exact pssd_cons (psd_if ((pwd_or (pbd_not (pbd_val (ped_call d_Fn_is_count hr (by decide) (takes_of rfl rfl rfl rfl) (prd_d (ped_var 1) (prd_nil))))) (pwd_or1 (pbd_not (pbd_val (ped_call d_Fn_are_lost_ranks hr (by decide) (takes_of rfl rfl rfl rfl) (prd_d (ped_var 2) (prd_nil))))))).pt) (pssd_one (psd_never)) (pssd_nil)) (pssd_cons (psd_fld 0 f_Table_base (ped_var 1)) (pssd_one (psd_fld 0 f_Table_gone (ped_callTy call_tuple_of cd_tuple b_tuple (by decide +kernel) (pad_cons (ped_var 2) (pad_nil))))))
/-! ### table_at -/
abbrev s_table_at : Stmt := top 25
def g_table_at : M Fl := fSeq (fPar 2 3 (fCons (fC (.int 0)) (fCons (fL (fLst (fNil))) (fNil)))) (fSeq (fWk [4, 5] (fFor (bd (fVar 0) dWalk) (gTupD 2 (gConsD (setV 4) (gConsD (setV 5) (gNilD)))) (fWk [4, 5] (fIf (fAnd (fB (f2 dEq (fVar 4) (fC (.str ("remove" : Str))))) (fB (f2 dGt (fVar 5) (fVar 2)))) (fSetT (fL (bd (fCons (fL (fLst (fStar (bd (fVar 3) dItems) (fCons (bd (rD (fVar 2) (rD (fVar 3) (rD (fVar 5) (rNil)))) (callR R_least_reaching)) (fNil))))) (fNil)) nSort)) (setV 3)) (fIf (fB (f2 dEq (fVar 4) (fC (.str ("remove" : Str))))) (fAug 2 dSub (fC (.int 1))) (fIf (fB (f2 dLe (fVar 5) (fVar 1))) (fAug 2 dAdd (fC (.int 1))) (pu .nx))))))) (fRet (fMake "Table" R_Table___init__ (fCons (fVar 2) (fCons (fVar 3) (fNil))))))
def R_table_at : En → Res D := runF 2 6 g_table_at
theorem sc_table_at : FnScope ["steps", "threshold", "start", "lost", "word", "number"] ["steps", "threshold"] (defScope s_table_at) := ⟨rfl, rfl, rfl, by decide +kernel, rfl, by decide +kernel, by decide +kernel⟩
theorem ok_table_at (F : Fun K "table_at" "table_at" s_table_at f fd) (d_Fn_least_reaching : FnI P w K mg base 1 "least_reaching" R_least_reaching) (b_sorted : mg "sorted" = none) (d_Mk_Table___init__ : MkI P w K mg base 4 "Table" R_Table___init__) : FnOk P w K mg base (L2.CX P w) 6 f fd ["steps", "threshold"] (spD K mg R_table_at) := by
  have S := sc_table_at
  refine fn_ok (g := g_table_at) F S (by decide) fun cdv A outer s H E hr => ?_
  exact pssd_cons (psd_par 2 3 (by rfl) S.nd (pad_cons (ped_int) (pad_cons (ped_new (pnd_lst (pad_nil))) (pad_nil))) (by decide)) (pssd_cons (psd_wk [4, 5] (psd_for (passes_of rfl) (by rfl) (pid_seq (ped_var 0)) (pgd_tup (by rfl) (pgsd_cons (pgd_name 4 S.nd) (pgsd_cons (pgd_name 5 S.nd) (pgsd_nil)))) (pssd_wk [4, 5] (pssd_one (psd_if ((pwd_and (pbd_cmp (op_eqD hr.units) od_eq (ped_var 4) (ped_str)) (pwd_and1 (pbd_cmp op_gt od_gt (ped_var 5) (ped_var 2)))).pt) (pssd_one (psd_set (ped_new (pnd_callB cr_sortedI cn_sort b_sorted (by decide +kernel) (pad_cons (ped_new (pnd_lst (pad_star (ped_var 3) (pad_cons (ped_call d_Fn_least_reaching hr (by decide) (takes_of rfl rfl rfl rfl) (prd_d (ped_var 2) (prd_d (ped_var 3) (prd_d (ped_var 5) (prd_nil))))) (pad_nil))))) (pad_nil)))) (pgd_name 3 S.nd))) (pssd_one (psd_if (pbd_cmp (op_eqD hr.units) od_eq (ped_var 4) (ped_str)) (pssd_one (psd_aug 2 ip_sub (ped_int) S.nd)) (pssd_one (psd_if (pbd_cmp op_le od_le (ped_var 5) (ped_var 1)) (pssd_one (psd_aug 2 ip_add (ped_int) S.nd)) (pssd_nil)))))))))) (pssd_one (psd_ret (ped_make d_Mk_Table___init__ hr (by decide) (takes_of rfl rfl rfl rfl) (pad_cons (ped_var 2) (pad_cons (ped_var 3) (pad_nil)))))))
/-! ### Table.__eq__ -/
abbrev s_Table___eq__ : Stmt := inClass (top 23) 6
def g_Table___eq__ : M Fl := fRet (fAndV (bd (fVar 1) fun d => li (oIsO ["Table"] ["Sequence", "Effect"] d)) (fAndV (f2 dEq (bd (fVar 0) (dFld "Table" "base")) (bd (fVar 1) (dFld "Table" "base"))) (f2 dEq (bd (fVar 0) (dFld "Table" "gone")) (bd (fVar 1) (dFld "Table" "gone")))))
def R_Table___eq__ : En → Res D := runF 2 2 g_Table___eq__
theorem sc_Table___eq__ : FnScope ["self", "other"] ["self", "other"] (defScope s_Table___eq__) := ⟨rfl, rfl, rfl, by decide +kernel, rfl, by decide +kernel, by decide +kernel⟩
theorem ok_Table___eq__ (F : Fun K "__eq__" "Table.__eq__" s_Table___eq__ f fd) (b_isinstance : mg "isinstance" = none) (ko_Table : KoI K mg "Table" ["Table"] ["Sequence", "Effect"]) (f_Table_base : FlI K mg "Table" "base") (f_Table_gone : FlI K mg "Table" "gone") : FnOk P w K mg base (L2.CX P w) 1 f fd ["self", "other"] (spD K mg R_Table___eq__) := by
  have S := sc_Table___eq__
  refine fn_ok (g := g_Table___eq__) F S (by decide) fun cdv A outer s H E hr => ?_
  exact pssd_one (psd_ret (ped_and (ped_isO ko_Table (ped_var 1) b_isinstance) (ped_and (ped_cmp (op_eqD hr.units) od_eq (ped_fld f_Table_base (ped_var 0)) (ped_fld f_Table_base (ped_var 1))) (ped_one (ped_cmp (op_eqD hr.units) od_eq (ped_fld f_Table_gone (ped_var 0)) (ped_fld f_Table_gone (ped_var 1)))))))
/-! ### merged -/
abbrev s_merged : Stmt := top 27
def g_merged : M Fl := fSeq (fSetN 2 (fLst (fNil))) (fSeq (fSetN 3 (fLst (fCons (f2 dAt (fVar 1) (fC (.int 0))) (fNil)))) (fSeq (fWk [4, 5] (fFor (bd (fCons (fVar 0) (fCons (fSl (fVar 1) (fPart (some (fC (.int 1)))) (fPart none)) (fNil))) dZip) (gTupD 2 (gConsD (setV 4) (gConsD (setV 5) (gNilD)))) (fWk [4, 5] (fIf (fNot (fB (f2 (d2m R_Table___eq__ "Table") (fVar 5) (fGetA 3 (bd (fC (.int 1)) dNeg))))) (fSeq (fApp 2 (fVar 4)) (fApp 3 (fVar 5))) (pu .nx))))) (fRet (fTup (fCons (fAny 2) (fCons (fAny 3) (fNil)))))))
def R_merged : En → Res D := runF 2 6 g_merged
theorem sc_merged : FnScope ["breaks", "tables", "kept", "result", "number", "table"] ["breaks", "tables"] (defScope s_merged) := ⟨rfl, rfl, rfl, by decide +kernel, rfl, by decide +kernel, by decide +kernel⟩
theorem ok_merged (F : Fun K "merged" "merged" s_merged f fd) (b_zip : mg "zip" = none) (d_Op_Table___eq___Table : OpI P w K mg base 1 "Table" "__eq__" R_Table___eq__) : FnOk P w K mg base (L2.CX P w) 2 f fd ["breaks", "tables"] (spD K mg R_merged) := by
  have S := sc_merged
  refine fn_ok (g := g_merged) F S (by decide) fun cdv A outer s H E hr => ?_
  exact pssd_cons (psd_setN 2 (pnd_lst (pad_nil)) S.nd) (pssd_cons (psd_setN 3 (pnd_lst (pad_cons (ped_ix (ped_var 1) (ped_int)) (pad_nil))) S.nd) (pssd_cons (psd_wk [4, 5] (psd_for (passes_of rfl) (by rfl) (pid_zip (pad_cons (ped_var 0) (pad_cons (ped_slice (ped_var 1) (pod_some (ped_int)) pod_none) (pad_nil))) b_zip) (pgd_tup (by rfl) (pgsd_cons (pgd_name 4 S.nd) (pgsd_cons (pgd_name 5 S.nd) (pgsd_nil)))) (pssd_wk [4, 5] (pssd_one (psd_if (pbd_not (pbd_ownEq d_Op_Table___eq___Table hr (by decide) (ped_var 5) (ped_getA 3 (ped_neg (ped_int))))) (pssd_cons (psd_app 2 (ped_var 4)) (pssd_one (psd_app 3 (ped_var 5)))) (pssd_nil)))))) (pssd_one (psd_ret (ped_tup (pad_cons (ped_any 2) (pad_cons (ped_any 3) (pad_nil))))))))
/-! ### are_breaks -/
abbrev s_are_breaks : Stmt := top 28
def g_are_breaks : M Fl := fSeq (fIf (fOr (fNot (fB (bd (fVar 0) fun d => li (oIs2 "list" "tuple" d)))) (fNot (fB (bd (fCons (fL (fLc (bd (fVar 0) dWalk) [3] (setV 3) (pu true) (bd (rD (fVar 3) (rNil)) (callR R_is_integer)))) (fNil)) (d1 oAll))))) (fRet (fC (.bl false))) (pu .nx)) (fRet (bd (fCons (fL (fLc (bd (fCons (fVar 0) (fCons (fSl (fVar 0) (fPart (some (fC (.int 1)))) (fPart none)) (fNil))) dZip) [1, 2] (gTupD 2 (gConsD (setV 1) (gConsD (setV 2) (gNilD)))) (pu true) (f2 dLt (fVar 1) (fVar 2)))) (fNil)) (d1 oAll)))
def R_are_breaks : En → Res D := runF 1 4 g_are_breaks
theorem sc_are_breaks : FnScope ["value", "first", "second", "item"] ["value"] (defScope s_are_breaks) := ⟨rfl, rfl, rfl, by decide +kernel, rfl, by decide +kernel, by decide +kernel⟩
theorem ok_are_breaks (F : Fun K "are_breaks" "are_breaks" s_are_breaks f fd) (b_isinstance : mg "isinstance" = none) (b_list : mg "list" = none) (b_tuple : mg "tuple" = none) (d_Fn_is_integer : FnI P w K mg base 1 "is_integer" R_is_integer) (b_all : mg "all" = none) (b_zip : mg "zip" = none) : FnOk P w K mg base (L2.CX P w) 2 f fd ["value"] (spD K mg R_are_breaks) := by
  have S := sc_are_breaks
  refine fn_ok (g := g_are_breaks) F S (by decide) fun cdv A outer s H E hr => ?_
  exact pssd_cons (psd_if ((pwd_or (pbd_not (pbd_val (ped_is2 tab_list tab_tuple (ped_var 0) b_isinstance b_list (by decide +kernel) b_tuple (by decide +kernel)))) (pwd_or1 (pbd_not (pbd_val (ped_callB (cr_all (by rfl)) cd_all b_all (by decide +kernel) (pad_cons (ped_new (pnd_lc (own := [("item", 3)]) (by rfl) S.nd (pid_seq (ped_var 0)) (by exact blkOk_by (N := ["value", "first", "second", "item"]) (sc := defScope s_are_breaks) (own := [("item", 3)]) (by decide +kernel)) (fun _ _ _ _ _ => pgv_name 3 S.nd (by decide)) (fun _ _ _ _ _ => ptsd_nil) (fun _ _ _ _ _ => ped_call d_Fn_is_integer hr (by decide) takes0 (prd_d (ped_var 3) (prd_nil))))) (pad_nil))))))).pt) (pssd_one (psd_ret (ped_bl))) (pssd_nil)) (pssd_one (psd_ret (ped_callB (cr_all (by rfl)) cd_all b_all (by decide +kernel) (pad_cons (ped_new (pnd_lc (own := [("first", 1), ("second", 2)]) (by rfl) S.nd (pid_zip (pad_cons (ped_var 0) (pad_cons (ped_slice (ped_var 0) (pod_some (ped_int)) pod_none) (pad_nil))) b_zip) (by exact blkOk_by (N := ["value", "first", "second", "item"]) (sc := defScope s_are_breaks) (own := [("first", 1), ("second", 2)]) (by decide +kernel)) (fun _ _ _ _ _ => pgv_tup (by rfl) (pgvs_cons (pgv_name 1 S.nd (by decide)) (pgvs_cons (pgv_name 2 S.nd (by decide)) (pgvs_nil)))) (fun _ _ _ _ _ => ptsd_nil) (fun _ _ _ _ _ => ped_cmp op_lt od_lt (ped_var 1) (ped_var 2)))) (pad_nil)))))
/-! ### are_tables -/
abbrev s_are_tables : Stmt := top 29
def g_are_tables : M Fl := fSeq (fIf (fOr (fNot (fB (bd (fVar 0) fun d => li (oIs2 "list" "tuple" d)))) (fB (f2 dNe (bd (fCons (fVar 0) (fNil)) (d1 oLen)) (fVar 1)))) (fRet (fC (.bl false))) (pu .nx)) (fSeq (fIf (fNot (fB (bd (fCons (fL (fLc (bd (fVar 0) dWalk) [4] (setV 4) (pu true) (bd (fVar 4) fun d => li (oIsO ["Table"] ["Sequence", "Effect"] d)))) (fNil)) (d1 oAll)))) (fRet (fC (.bl false))) (pu .nx)) (fRet (bd (fCons (fL (fLc (bd (fCons (fVar 0) (fCons (fSl (fVar 0) (fPart (some (fC (.int 1)))) (fPart none)) (fNil))) dZip) [2, 3] (gTupD 2 (gConsD (setV 2) (gConsD (setV 3) (gNilD)))) (pu true) (fBl (fNot (fB (f2 (d2m R_Table___eq__ "Table") (fVar 2) (fVar 3))))))) (fNil)) (d1 oAll))))
def R_are_tables : En → Res D := runF 2 5 g_are_tables
theorem sc_are_tables : FnScope ["value", "size", "first", "second", "item"] ["value", "size"] (defScope s_are_tables) := ⟨rfl, rfl, rfl, by decide +kernel, rfl, by decide +kernel, by decide +kernel⟩
theorem ok_are_tables (F : Fun K "are_tables" "are_tables" s_are_tables f fd) (b_isinstance : mg "isinstance" = none) (b_list : mg "list" = none) (b_tuple : mg "tuple" = none) (b_len : mg "len" = none) (ko_Table : KoI K mg "Table" ["Table"] ["Sequence", "Effect"]) (b_all : mg "all" = none) (b_zip : mg "zip" = none) (d_Op_Table___eq___Table : OpI P w K mg base 1 "Table" "__eq__" R_Table___eq__) : FnOk P w K mg base (L2.CX P w) 2 f fd ["value", "size"] (spD K mg R_are_tables) := by
  have S := sc_are_tables
  refine fn_ok (g := g_are_tables) F S (by decide) fun cdv A outer s H E hr => ?_
  exact pssd_cons (psd_if ((pwd_or (pbd_not (pbd_val (ped_is2 tab_list tab_tuple (ped_var 0) b_isinstance b_list (by decide +kernel) b_tuple (by decide +kernel)))) (pwd_or1 (pbd_cmp (op_neD hr.units) od_ne (ped_callB call_len_seq cd_len b_len (by decide +kernel) (pad_cons (ped_var 0) (pad_nil))) (ped_var 1)))).pt) (pssd_one (psd_ret (ped_bl))) (pssd_nil)) (pssd_cons (psd_if (pbd_not (pbd_val (ped_callB (cr_all (by rfl)) cd_all b_all (by decide +kernel) (pad_cons (ped_new (pnd_lc (own := [("item", 4)]) (by rfl) S.nd (pid_seq (ped_var 0)) (by exact blkOk_by (N := ["value", "size", "first", "second", "item"]) (sc := defScope s_are_tables) (own := [("item", 4)]) (by decide +kernel)) (fun _ _ _ _ _ => pgv_name 4 S.nd (by decide)) (fun _ _ _ _ _ => ptsd_nil) (fun _ _ _ _ _ => ped_isO ko_Table (ped_var 4) b_isinstance))) (pad_nil))))) (pssd_one (psd_ret (ped_bl))) (pssd_nil)) (pssd_one (psd_ret (ped_callB (cr_all (by rfl)) cd_all b_all (by decide +kernel) (pad_cons (ped_new (pnd_lc (own := [("first", 2), ("second", 3)]) (by rfl) S.nd (pid_zip (pad_cons (ped_var 0) (pad_cons (ped_slice (ped_var 0) (pod_some (ped_int)) pod_none) (pad_nil))) b_zip) (by exact blkOk_by (N := ["value", "size", "first", "second", "item"]) (sc := defScope s_are_tables) (own := [("first", 2), ("second", 3)]) (by decide +kernel)) (fun _ _ _ _ _ => pgv_tup (by rfl) (pgvs_cons (pgv_name 2 S.nd (by decide)) (pgvs_cons (pgv_name 3 S.nd (by decide)) (pgvs_nil)))) (fun _ _ _ _ _ => ptsd_nil) (fun _ _ _ _ _ => ped_not (ped_ownEq d_Op_Table___eq___Table hr (by decide) (ped_var 2) (ped_var 3))))) (pad_nil))))))
/-! ### Effect.__init__ -/
abbrev s_Effect___init__ : Stmt := inClass (top 30) 0
def g_Effect___init__ : M Fl := fSeq (fIf (fOr (fNot (fB (bd (rD (fVar 1) (rNil)) (callR R_are_breaks)))) (fNot (fB (bd (rD (fVar 2) (rD (f2 dAdd (bd (fCons (fVar 1) (fNil)) (d1 oLen)) (fC (.int 1))) (rNil))) (callR R_are_tables))))) ((fun _ => .bad)) (pu .nx)) (fSeq (fFldS 0 "Effect" "cuts" (bd (fCons (fVar 1) (fNil)) (d1 oTuple))) (fFldS 0 "Effect" "maps" (bd (fCons (fVar 2) (fNil)) (d1 oTuple))))
def R_Effect___init__ : En → Res D := runF 3 3 g_Effect___init__
theorem sc_Effect___init__ : FnScope ["self", "breaks", "tables"] ["self", "breaks", "tables"] (defScope s_Effect___init__) := ⟨rfl, rfl, rfl, by decide +kernel, rfl, by decide +kernel, by decide +kernel⟩
theorem ok_Effect___init__ (F : Fun K "__init__" "Effect.__init__" s_Effect___init__ f fd) (d_Fn_are_breaks : FnI P w K mg base 2 "are_breaks" R_are_breaks) (b_len : mg "len" = none) (d_Fn_are_tables : FnI P w K mg base 2 "are_tables" R_are_tables) (f_Effect_cuts : FlI K mg "Effect" "cuts") (b_tuple : mg "tuple" = none) (f_Effect_maps : FlI K mg "Effect" "maps") : FnOk P w K mg base (L2.CX P w) 3 f fd ["self", "breaks", "tables"] (spD K mg R_Effect___init__) := by
  have S := sc_Effect___init__
  refine fn_ok (g := g_Effect___init__) F S (by decide) fun cdv A outer s H E hr => ?_
  exact pssd_cons (psd_if ((pwd_or (pbd_not (pbd_val (ped_call d_Fn_are_breaks hr (by decide) (takes_of rfl rfl rfl rfl) (prd_d (ped_var 1) (prd_nil))))) (pwd_or1 (pbd_not (pbd_val (ped_call d_Fn_are_tables hr (by decide) (takes_of rfl rfl rfl rfl) (prd_d (ped_var 2) (prd_d (ped_op op_add od_add (ped_callB call_len_seq cd_len b_len (by decide +kernel) (pad_cons (ped_var 1) (pad_nil))) (ped_int)) (prd_nil)))))))).pt) (pssd_one (psd_never)) (pssd_nil)) (pssd_cons (psd_fld 0 f_Effect_cuts (ped_callTy call_tuple_of cd_tuple b_tuple (by decide +kernel) (pad_cons (ped_var 1) (pad_nil)))) (pssd_one (psd_fld 0 f_Effect_maps (ped_callTy call_tuple_of cd_tuple b_tuple (by decide +kernel) (pad_cons (ped_var 2) (pad_nil))))))
/-! ### Effect.of -/
abbrev s_Effect_of : Stmt := inClass (top 30) 1
def g_Effect_of : M Fl := fSeq (fSetT (fL (fSortQ (fSc (bd (fProp "Sequence" R_Sequence_steps (fVar 1)) dWalk) [7, 8] (gTupD 2 (gConsD (setV 7) (gConsD (setV 8) (gNilD)))) (fB (f2 dEq (fVar 7) (fC (.str ("insert" : Str))))) (fVar 8)))) (setV 2)) (fSeq (fSetT (fIf (fB (f2 dNe (fVar 2) (fL (fLst (fNil))))) (f2 dSub (f2 dAt (fVar 2) (fC (.int 0))) (fC (.int 1))) (fC (.int 0))) (setV 3)) (fSeq (fSetT (fL (fLc (bd (fL (fLst (fCons (fVar 3) (fStar (bd (fVar 2) dItems) (fNil))))) dWalk) [6] (setV 6) (pu true) (bd (rD (fProp "Sequence" R_Sequence_steps (fVar 1)) (rD (fVar 6) (rNil))) (callR R_table_at)))) (setV 4)) (fSeq (fSetT (bd (rD (fVar 2) (rD (fVar 4) (rNil))) (callR R_merged)) (gTupD 2 (gConsD (setV 5) (gConsD (setV 4) (gNilD))))) (fRet (bd (isCls 0 "Effect") fun _ => fMake "Effect" R_Effect___init__ (fCons (fVar 5) (fCons (fVar 4) (fNil))))))))
def R_Effect_of : En → Res D := runF 2 9 g_Effect_of
theorem sc_Effect_of : FnScope ["cls", "sequence", "numbers", "below", "tables", "breaks", "threshold", "word", "number"] ["cls", "sequence"] (defScope s_Effect_of) := ⟨rfl, rfl, rfl, by decide +kernel, rfl, by decide +kernel, by decide +kernel⟩
theorem ok_Effect_of (F : Fun K "of" "Effect.of" s_Effect_of f fd) (d_Pr_Sequence_steps_Sequence : PrI P w K mg base 1 "Sequence" "steps" R_Sequence_steps) (b_sorted : mg "sorted" = none) (d_Fn_table_at : FnI P w K mg base 6 "table_at" R_table_at) (d_Fn_merged : FnI P w K mg base 2 "merged" R_merged) (d_Mk_Effect___init__ : MkI P w K mg base 3 "Effect" R_Effect___init__) : FnOk P w K mg base (L2.CX P w) 7 f fd ["cls", "sequence"] (spD K mg R_Effect_of) := by
  have S := sc_Effect_of
  refine fn_ok (g := g_Effect_of) F S (by decide) fun cdv A outer s H E hr => ?_
  exact pssd_cons (psd_set (ped_new (pnd_sortQ (by rfl) b_sorted (pqd_sc (own := [("word", 7), ("number", 8)]) (by rfl) S.nd (pid_seq (ped_prop d_Pr_Sequence_steps_Sequence hr (by decide) (ped_var 1))) (by exact blkOk_by (N := ["cls", "sequence", "numbers", "below", "tables", "breaks", "threshold", "word", "number"]) (sc := defScope s_Effect_of) (own := [("word", 7), ("number", 8)]) (by decide +kernel)) (fun _ _ _ _ _ => pgv_tup (by rfl) (pgvs_cons (pgv_name 7 S.nd (by decide)) (pgvs_cons (pgv_name 8 S.nd (by decide)) (pgvs_nil)))) (fun _ _ _ _ _ => ptsd_one (pbd_cmp (op_eqD hr.units) od_eq (ped_var 7) (ped_str))) (fun _ _ _ _ _ => ped_var 8)))) (pgd_name 2 S.nd)) (pssd_cons (psd_set (ped_ifExp (pbd_cmp (op_neD hr.units) od_ne (ped_var 2) (ped_new (pnd_lst (pad_nil)))) (ped_op op_sub od_sub (ped_ix (ped_var 2) (ped_int)) (ped_int)) (ped_int)) (pgd_name 3 S.nd)) (pssd_cons (psd_setLc (setLc_ps (own := [("threshold", 6)]) (by rfl) S.nd (by rfl) (by rfl) (sw_true rfl rfl rfl (by decide +kernel)) (pid_seq (ped_new (pnd_lst (pad_cons (ped_var 3) (pad_star (ped_var 2) (pad_nil)))))) (by exact blkOk_by (N := ["cls", "sequence", "numbers", "below", "tables", "breaks", "threshold", "word", "number"]) (sc := defScope s_Effect_of) (own := [("threshold", 6)]) (by decide +kernel)) (fun _ _ _ _ _ => pgv_name 6 S.nd (by decide)) (fun _ _ _ _ _ => ptsd_nil) (fun _ _ _ _ _ => ped_call d_Fn_table_at hr (by decide) takes0 (prd_d (ped_prop d_Pr_Sequence_steps_Sequence hr (by decide) (ped_var 1)) (prd_d (ped_var 6) (prd_nil)))))) (pssd_cons (psd_set (ped_call d_Fn_merged hr (by decide) (takes_of rfl rfl rfl rfl) (prd_d (ped_var 2) (prd_d (ped_var 4) (prd_nil)))) (pgd_tup (by rfl) (pgsd_cons (pgd_name 5 S.nd) (pgsd_cons (pgd_name 4 S.nd) (pgsd_nil))))) (pssd_one (psd_ret (ped_makeV 0 d_Mk_Effect___init__ hr (by decide) (takes_of rfl rfl rfl rfl) (pad_cons (ped_var 5) (pad_cons (ped_var 4) (pad_nil)))))))))
/-! ### Sequence.is_step -/
abbrev s_Sequence_is_step : Stmt := inClass (top 17) 1
def g_Sequence_is_step : M Fl := fSeq (fIf (fOr (fNot (fB (bd (fVar 0) fun d => li (oIs "tuple" d)))) (fOr (fB (f2 dNe (bd (fCons (fVar 0) (fNil)) (d1 oLen)) (fC (.int 2)))) (fNot (fB (bd (f2 dAt (fVar 0) (fC (.int 0))) fun d => li (oIs "str" d)))))) (fRet (fC (.bl false))) (pu .nx)) (fSeq (fIf (fB (f2 dEq (f2 dAt (fVar 0) (fC (.int 0))) (fC (.str ("insert" : Str))))) (fRet (bd (rD (f2 dAt (fVar 0) (fC (.int 1))) (rNil)) (callR R_is_integer))) (pu .nx)) (fRet (fAndV (f2 dEq (f2 dAt (fVar 0) (fC (.int 0))) (fC (.str ("remove" : Str)))) (bd (rD (f2 dAt (fVar 0) (fC (.int 1))) (rNil)) (callR R_is_rank)))))
def R_Sequence_is_step : En → Res D := runF 1 1 g_Sequence_is_step
theorem sc_Sequence_is_step : FnScope ["value"] ["value"] (defScope s_Sequence_is_step) := ⟨rfl, rfl, rfl, by decide +kernel, rfl, by decide +kernel, by decide +kernel⟩
theorem ok_Sequence_is_step (F : Fun K "is_step" "Sequence.is_step" s_Sequence_is_step f fd) (b_isinstance : mg "isinstance" = none) (b_tuple : mg "tuple" = none) (b_len : mg "len" = none) (b_str : mg "str" = none) (d_Fn_is_integer : FnI P w K mg base 1 "is_integer" R_is_integer) (d_Fn_is_rank : FnI P w K mg base 2 "is_rank" R_is_rank) : FnOk P w K mg base (L2.CX P w) 3 f fd ["value"] (spD K mg R_Sequence_is_step) := by
  have S := sc_Sequence_is_step
  refine fn_ok (g := g_Sequence_is_step) F S (by decide) fun cdv A outer s H E hr => ?_
  exact pssd_cons (psd_if ((pwd_or (pbd_not (pbd_val (ped_is tab_tuple (ped_var 0) b_isinstance b_tuple (by decide +kernel)))) (pwd_or (pbd_cmp (op_neD hr.units) od_ne (ped_callB call_len_seq cd_len b_len (by decide +kernel) (pad_cons (ped_var 0) (pad_nil))) (ped_int)) (pwd_or1 (pbd_not (pbd_val (ped_is tab_str (ped_ix (ped_var 0) (ped_int)) b_isinstance b_str (by decide +kernel))))))).pt) (pssd_one (psd_ret (ped_bl))) (pssd_nil)) (pssd_cons (psd_if (pbd_cmp (op_eqD hr.units) od_eq (ped_ix (ped_var 0) (ped_int)) (ped_str)) (pssd_one (psd_ret (ped_call d_Fn_is_integer hr (by decide) (takes_of rfl rfl rfl rfl) (prd_d (ped_ix (ped_var 0) (ped_int)) (prd_nil))))) (pssd_nil)) (pssd_one (psd_ret (ped_and (ped_cmp (op_eqD hr.units) od_eq (ped_ix (ped_var 0) (ped_int)) (ped_str)) (ped_one (ped_call d_Fn_is_rank hr (by decide) (takes_of rfl rfl rfl rfl) (prd_d (ped_ix (ped_var 0) (ped_int)) (prd_nil))))))))
/-! ### check_steps -/
abbrev s_check_steps : Stmt := top 15
def g_check_steps : M Fl := fWk [1] (fFor (bd (fVar 0) dWalk) (setV 1) (fWk [1] (fIf (fNot (fB (bd (rD (fVar 1) (rNil)) (callR R_Sequence_is_step)))) ((fun _ => .bad)) (pu .nx))))
def R_check_steps : En → Res D := runF 1 2 g_check_steps
theorem sc_check_steps : FnScope ["steps", "step"] ["steps"] (defScope s_check_steps) := ⟨rfl, rfl, rfl, by decide +kernel, rfl, by decide +kernel, by decide +kernel⟩
theorem ok_check_steps (F : Fun K "check_steps" "check_steps" s_check_steps f fd) (d_Sm_Sequence_is_step_Sequence : SmI P w K mg base 3 "Sequence" "is_step" R_Sequence_is_step) : FnOk P w K mg base (L2.CX P w) 4 f fd ["steps"] (spD K mg R_check_steps) := by
  have S := sc_check_steps
  refine fn_ok (g := g_check_steps) F S (by decide) fun cdv A outer s H E hr => ?_
  exact pssd_one (psd_wk [1] (psd_for (passes_of rfl) (by rfl) (pid_seq (ped_var 0)) (pgd_name 1 S.nd) (pssd_wk [1] (pssd_one (psd_if (pbd_not (pbd_val (ped_smeth d_Sm_Sequence_is_step_Sequence hr (by decide) (takes_of rfl rfl rfl rfl) (prd_d (ped_var 1) (prd_nil))))) (pssd_one (psd_never)) (pssd_nil))))))
/-! ### Sequence.__init__ -/
abbrev s_Sequence___init__ : Stmt := inClass (top 17) 0
def g_Sequence___init__ : M Fl := fSeq (fDrop (bd (rD (fVar 1) (rNil)) (callR R_check_steps))) (fFldS 0 "Sequence" "parts" (fVar 1))
def R_Sequence___init__ : En → Res D := runS 1 2 g_Sequence___init__
theorem sc_Sequence___init__ : FnScope ["self", "steps"] ["self", "steps"] (defScope s_Sequence___init__) := ⟨rfl, rfl, rfl, by decide +kernel, rfl, by decide +kernel, by decide +kernel⟩
theorem ok_Sequence___init__ {oc : Value} {od an : Option Addr} {kV doc pm cdv ct : Value} {osl : Array (Option Value)} (lk : K.lookup f = some ⟨oc, od, .func (PySem.W.fnOf "__init__" "Sequence.__init__" (defArgs s_Sequence___init__) (defBody s_Sequence___init__) (defScope s_Sequence___init__) .none kV doc pm an cdv ct), osl⟩) (cd : PySem.W.codeIn K cdv "Sequence.__init__" = true) (d_Fn_check_steps : FnI P w K mg base 4 "check_steps" R_check_steps) (f_Sequence_parts : FlI K mg "Sequence" "parts") :
    FnR P w K mg base (L2.CX P w) 5 f (spD K mg R_Sequence___init__) := by
  have S := sc_Sequence___init__
  refine fn_okS (N := ["self", "steps"]) (ps := ["self"]) (pv := "steps") (g := g_Sequence___init__) lk cd S (by decide) (StX.bind_star1 (B := fun l => bindArgs (PySem.W.fnOf "__init__" "Sequence.__init__" (defArgs s_Sequence___init__) (defBody s_Sequence___init__) (defScope s_Sequence___init__) .none kV doc pm an cdv ct) ⟨l, []⟩) (fun _ => rfl) fun _ _ _ => rfl) fun A outer s H E hr => ?_
  exact pssd_cons (psd_expr (ped_call d_Fn_check_steps hr (by decide) (takes_of rfl rfl rfl rfl) (prd_d (ped_var 1) (prd_nil)))) (pssd_one (psd_fld 0 f_Sequence_parts (ped_var 1)))
/-! ### Sequence.__add__ -/
abbrev s_Sequence___add__ : Stmt := inClass (top 17) 5
def g_Sequence___add__ : M Fl := fRet (fMake "Sequence" R_Sequence___init__ (fStar (bd (bd (fVar 0) (dFld "Sequence" "parts")) dItems) (fStar (bd (bd (fVar 1) (dFld "Sequence" "parts")) dItems) (fNil))))
def R_Sequence___add__ : En → Res D := runF 2 2 g_Sequence___add__
theorem sc_Sequence___add__ : FnScope ["self", "other"] ["self", "other"] (defScope s_Sequence___add__) := ⟨rfl, rfl, rfl, by decide +kernel, rfl, by decide +kernel, by decide +kernel⟩
theorem ok_Sequence___add__ (F : Fun K "__add__" "Sequence.__add__" s_Sequence___add__ f fd) (d_Mk_Sequence___init__ : MkI P w K mg base 5 "Sequence" R_Sequence___init__) (f_Sequence_parts : FlI K mg "Sequence" "parts") : FnOk P w K mg base (L2.CX P w) 7 f fd ["self", "other"] (spD K mg R_Sequence___add__) := by
  have S := sc_Sequence___add__
  refine fn_ok (g := g_Sequence___add__) F S (by decide) fun cdv A outer s H E hr => ?_
  exact pssd_one (psd_ret (ped_makeS2 d_Mk_Sequence___init__ hr (by decide) (takes_of rfl rfl rfl rfl) (pad_star (ped_fld f_Sequence_parts (ped_var 0)) (pad_star (ped_fld f_Sequence_parts (ped_var 1)) (pad_nil)))))
/-! ### _law_sequence -/
abbrev s__law_sequence : Stmt := top 43
def g__law_sequence : M Fl := fSeq (fSetT (fMake "Sequence" R_Sequence___init__ (fNil)) (setV 1)) (fSeq (fWk [2] (fFor (bd (fVar 0) dWalk) (setV 2) (fWk [2] (fSetT (f2 (d2m R_Sequence___add__ "Sequence") (fVar 1) (fMake "Sequence" R_Sequence___init__ (fCons (fVar 2) (fNil)))) (setV 1))))) (fRet (fVar 1)))
def R__law_sequence : En → Res D := runF 1 3 g__law_sequence
theorem sc__law_sequence : FnScope ["_law_steps_here", "_law_result", "_law_step_here"] ["_law_steps_here"] (defScope s__law_sequence) := ⟨rfl, rfl, rfl, by decide +kernel, rfl, by decide +kernel, by decide +kernel⟩
theorem ok__law_sequence (F : Fun K "_law_sequence" "_law_sequence" s__law_sequence f fd) (d_Mk_Sequence___init__ : MkI P w K mg base 5 "Sequence" R_Sequence___init__) (d_Op_Sequence___add___Sequence : OpI P w K mg base 7 "Sequence" "__add__" R_Sequence___add__) : FnOk P w K mg base (L2.CX P w) 8 f fd ["_law_steps_here"] (spD K mg R__law_sequence) := by
  have S := sc__law_sequence
  refine fn_ok (g := g__law_sequence) F S (by decide) fun cdv A outer s H E hr => ?_
  exact pssd_cons (psd_set (ped_make0 d_Mk_Sequence___init__ hr (by decide) (takes_of rfl rfl rfl rfl)) (pgd_name 1 S.nd)) (pssd_cons (psd_wk [2] (psd_for (passes_of rfl) (by rfl) (pid_seq (ped_var 0)) (pgd_name 2 S.nd) (pssd_wk [2] (pssd_one (psd_set (ped_own d_Op_Sequence___add___Sequence hr (by decide) (ped_var 1) (ped_make d_Mk_Sequence___init__ hr (by decide) (takes_of rfl rfl rfl rfl) (pad_cons (ped_var 2) (pad_nil)))) (pgd_name 1 S.nd)))))) (pssd_one (psd_ret (ped_var 1))))
/-! ### Effect.tables -/
abbrev s_Effect_tables : Stmt := inClass (top 30) 4
def g_Effect_tables : M Fl := fRet (bd (fVar 0) (dFld "Effect" "maps"))
def R_Effect_tables : En → Res D := runF 1 1 g_Effect_tables
theorem sc_Effect_tables : FnScope ["self"] ["self"] (defScope s_Effect_tables) := ⟨rfl, rfl, rfl, by decide +kernel, rfl, by decide +kernel, by decide +kernel⟩
theorem ok_Effect_tables (F : Fun K "tables" "Effect.tables" s_Effect_tables f fd) (f_Effect_maps : FlI K mg "Effect" "maps") : FnOk P w K mg base (L2.CX P w) 1 f fd ["self"] (spD K mg R_Effect_tables) := by
  have S := sc_Effect_tables
  refine fn_ok (g := g_Effect_tables) F S (by decide) fun cdv A outer s H E hr => ?_
  exact pssd_one (psd_ret (ped_fld f_Effect_maps (ped_var 0)))
/-! ### Effect.breaks -/
abbrev s_Effect_breaks : Stmt := inClass (top 30) 3
def g_Effect_breaks : M Fl := fRet (bd (fVar 0) (dFld "Effect" "cuts"))
def R_Effect_breaks : En → Res D := runF 1 1 g_Effect_breaks
theorem sc_Effect_breaks : FnScope ["self"] ["self"] (defScope s_Effect_breaks) := ⟨rfl, rfl, rfl, by decide +kernel, rfl, by decide +kernel, by decide +kernel⟩
theorem ok_Effect_breaks (F : Fun K "breaks" "Effect.breaks" s_Effect_breaks f fd) (f_Effect_cuts : FlI K mg "Effect" "cuts") : FnOk P w K mg base (L2.CX P w) 1 f fd ["self"] (spD K mg R_Effect_breaks) := by
  have S := sc_Effect_breaks
  refine fn_ok (g := g_Effect_breaks) F S (by decide) fun cdv A outer s H E hr => ?_
  exact pssd_one (psd_ret (ped_fld f_Effect_cuts (ped_var 0)))
/-! ### starts_of -/
abbrev s_starts_of : Stmt := top 35
def g_starts_of : M Fl := fRet (fL (fLst (fCons (fC (.str ("*" : Str))) (fStar (bd (fL (fLc (bd (fProp "Effect" R_Effect_breaks (fVar 0)) dWalk) [1] (setV 1) (pu true) (bd (fCons (fVar 1) (fNil)) (d1 oStrI)))) dItems) (fNil)))))
def R_starts_of : En → Res D := runF 1 2 g_starts_of
theorem sc_starts_of : FnScope ["effect", "number"] ["effect"] (defScope s_starts_of) := ⟨rfl, rfl, rfl, by decide +kernel, rfl, by decide +kernel, by decide +kernel⟩
theorem ok_starts_of (F : Fun K "starts_of" "starts_of" s_starts_of f fd) (d_Pr_Effect_breaks_Effect : PrI P w K mg base 1 "Effect" "breaks" R_Effect_breaks) (b_str : mg "str" = none) (g_FIRST : ∃ t, mg "FIRST" = some (.str ("*" : Str) t)) : FnOk P w K mg base (L2.CX P w) 3 f fd ["effect"] (spD K mg R_starts_of) := by
  have S := sc_starts_of
  refine fn_ok (g := g_starts_of) F S (by decide) fun cdv A outer s H E hr => ?_
  exact pssd_one (psd_ret (ped_new (pnd_lst (pad_cons (ped_gstr g_FIRST) (pad_star (ped_new (pnd_lc (own := [("number", 1)]) (by rfl) S.nd (pid_seq (ped_prop d_Pr_Effect_breaks_Effect hr (by decide) (ped_var 0))) (by exact blkOk_by (N := ["effect", "number"]) (sc := defScope s_starts_of) (own := [("number", 1)]) (by decide +kernel)) (fun _ _ _ _ _ => pgv_name 1 S.nd (by decide)) (fun _ _ _ _ _ => ptsd_nil) (fun _ _ _ _ _ => ped_callTy call_str_int cd_strI b_str (by decide +kernel) (pad_cons (ped_var 1) (pad_nil))))) (pad_nil))))))
/-! ### Table.start -/
abbrev s_Table_start : Stmt := inClass (top 23) 1
def g_Table_start : M Fl := fRet (bd (fVar 0) (dFld "Table" "base"))
def R_Table_start : En → Res D := runF 1 1 g_Table_start
theorem sc_Table_start : FnScope ["self"] ["self"] (defScope s_Table_start) := ⟨rfl, rfl, rfl, by decide +kernel, rfl, by decide +kernel, by decide +kernel⟩
theorem ok_Table_start (F : Fun K "start" "Table.start" s_Table_start f fd) (f_Table_base : FlI K mg "Table" "base") : FnOk P w K mg base (L2.CX P w) 1 f fd ["self"] (spD K mg R_Table_start) := by
  have S := sc_Table_start
  refine fn_ok (g := g_Table_start) F S (by decide) fun cdv A outer s H E hr => ?_
  exact pssd_one (psd_ret (ped_fld f_Table_base (ped_var 0)))
/-! ### format_numbers -/
abbrev s_format_numbers : Stmt := top 34
def g_format_numbers : M Fl := fRet (fOrS (fM1 oJoin (fVar 1) (fL (fLc (bd (fVar 0) dWalk) [2] (setV 2) (pu true) (bd (fCons (fVar 2) (fNil)) (d1 oStrI))))) (fC (.str ("." : Str))))
def R_format_numbers : En → Res D := runF 2 3 g_format_numbers
theorem sc_format_numbers : FnScope ["numbers", "separator", "number"] ["numbers", "separator"] (defScope s_format_numbers) := ⟨rfl, rfl, rfl, by decide +kernel, rfl, by decide +kernel, by decide +kernel⟩
theorem ok_format_numbers (F : Fun K "format_numbers" "format_numbers" s_format_numbers f fd) (b_str : mg "str" = none) (g_EMPTY : ∃ t, mg "EMPTY" = some (.str ("." : Str) t)) : FnOk P w K mg base (L2.CX P w) 1 f fd ["numbers", "separator"] (spD K mg R_format_numbers) := by
  have S := sc_format_numbers
  refine fn_ok (g := g_format_numbers) F S (by decide) fun cdv A outer s H E hr => ?_
  exact pssd_one (psd_ret (ped_orS (ped_join (ped_var 1) (ped_new (pnd_lc (own := [("number", 2)]) (by rfl) S.nd (pid_seq (ped_var 0)) (by exact blkOk_by (N := ["numbers", "separator", "number"]) (sc := defScope s_format_numbers) (own := [("number", 2)]) (by decide +kernel)) (fun _ _ _ _ _ => pgv_name 2 S.nd (by decide)) (fun _ _ _ _ _ => ptsd_nil) (fun _ _ _ _ _ => ped_callTy call_str_int cd_strI b_str (by decide +kernel) (pad_cons (ped_var 2) (pad_nil)))))) (ped_one (ped_gstr g_EMPTY))))
/-! ### Table.lost -/
abbrev s_Table_lost : Stmt := inClass (top 23) 2
def g_Table_lost : M Fl := fRet (bd (fVar 0) (dFld "Table" "gone"))
def R_Table_lost : En → Res D := runF 1 1 g_Table_lost
theorem sc_Table_lost : FnScope ["self"] ["self"] (defScope s_Table_lost) := ⟨rfl, rfl, rfl, by decide +kernel, rfl, by decide +kernel, by decide +kernel⟩
theorem ok_Table_lost (F : Fun K "lost" "Table.lost" s_Table_lost f fd) (f_Table_gone : FlI K mg "Table" "gone") : FnOk P w K mg base (L2.CX P w) 1 f fd ["self"] (spD K mg R_Table_lost) := by
  have S := sc_Table_lost
  refine fn_ok (g := g_Table_lost) F S (by decide) fun cdv A outer s H E hr => ?_
  exact pssd_one (psd_ret (ped_fld f_Table_gone (ped_var 0)))
/-! ### effect_grid -/
abbrev s_effect_grid : Stmt := top 37
def g_effect_grid : M Fl := fRet (fM1 oJoin (fC (.str ("\n" : Str))) (fL (fLc (bd (fCons (bd (rD (fVar 0) (rNil)) (callR R_starts_of)) (fCons (fProp "Effect" R_Effect_tables (fVar 0)) (fNil))) dZipQ) [1, 2] (gTupD 2 (gConsD (setV 1) (gConsD (setV 2) (gNilD)))) (pu true) (fJoin [fFmtW 8 (fVar 1), fFmtW 6 (fProp "Table" R_Table_start (fVar 2)), fC (.str ("  " : Str)), fFmt (bd (rD (fProp "Table" R_Table_lost (fVar 2)) (rD (fC (.str (" " : Str))) (rNil))) (callR R_format_numbers))] Str.empty))))
def R_effect_grid : En → Res D := runF 1 3 g_effect_grid
theorem sc_effect_grid : FnScope ["effect", "first", "table"] ["effect"] (defScope s_effect_grid) := ⟨rfl, rfl, rfl, by decide +kernel, rfl, by decide +kernel, by decide +kernel⟩
theorem ok_effect_grid (F : Fun K "effect_grid" "effect_grid" s_effect_grid f fd) (d_Pr_Effect_tables_Effect : PrI P w K mg base 1 "Effect" "tables" R_Effect_tables) (d_Fn_starts_of : FnI P w K mg base 3 "starts_of" R_starts_of) (b_zip : mg "zip" = none) (d_Pr_Table_start_Table : PrI P w K mg base 1 "Table" "start" R_Table_start) (d_Pr_Table_lost_Table : PrI P w K mg base 1 "Table" "lost" R_Table_lost) (d_Fn_format_numbers : FnI P w K mg base 1 "format_numbers" R_format_numbers) : FnOk P w K mg base (L2.CX P w) 4 f fd ["effect"] (spD K mg R_effect_grid) := by
  have S := sc_effect_grid
  refine fn_ok (g := g_effect_grid) F S (by decide) fun cdv A outer s H E hr => ?_
  exact pssd_one (psd_ret (ped_join (ped_str) (ped_new (pnd_lc (own := [("first", 1), ("table", 2)]) (by rfl) S.nd (pid_zipQ (pad_cons (ped_call d_Fn_starts_of hr (by decide) (takes_of rfl rfl rfl rfl) (prd_d (ped_var 0) (prd_nil))) (pad_cons (ped_prop d_Pr_Effect_tables_Effect hr (by decide) (ped_var 0)) (pad_nil))) b_zip) (by exact blkOk_by (N := ["effect", "first", "table"]) (sc := defScope s_effect_grid) (own := [("first", 1), ("table", 2)]) (by decide +kernel)) (fun _ _ _ _ _ => pgv_tup (by rfl) (pgvs_cons (pgv_name 1 S.nd (by decide)) (pgvs_cons (pgv_name 2 S.nd (by decide)) (pgvs_nil)))) (fun _ _ _ _ _ => ptsd_nil) (fun _ _ _ _ _ => ped_joined (pjd_cons (ped_fmtW fw8 (ped_var 1)) (pjd_cons (ped_fmtW fw6 (ped_prop d_Pr_Table_start_Table hr (by decide) (ped_var 2))) (pjd_cons (ped_str) (pjd_cons (ped_fmt (ped_call d_Fn_format_numbers hr (by decide) takes0 (prd_d (ped_prop d_Pr_Table_lost_Table hr (by decide) (ped_var 2)) (prd_d (ped_str) (prd_nil))))) (pjd_nil))))))))))
/-! ### _law_padded -/
abbrev s__law_padded : Stmt := top 44
def g__law_padded : M Fl := fRet (f2 dCatS (f2 dMulS (fC (.str (" " : Str))) (bd (fCons (fC (.int 0)) (fCons (f2 dSub (fVar 1) (bd (fCons (fVar 0) (fNil)) (d1 oLenS))) (fNil))) (d2 oMax))) (fVar 0))
def R__law_padded : En → Res D := runF 2 2 g__law_padded
theorem sc__law_padded : FnScope ["_law_text", "_law_width"] ["_law_text", "_law_width"] (defScope s__law_padded) := ⟨rfl, rfl, rfl, by decide +kernel, rfl, by decide +kernel, by decide +kernel⟩
theorem ok__law_padded (F : Fun K "_law_padded" "_law_padded" s__law_padded f fd) (b_len : mg "len" = none) (b_max : mg "max" = none) : FnOk P w K mg base (L2.CX P w) 1 f fd ["_law_text", "_law_width"] (spD K mg R__law_padded) := by
  have S := sc__law_padded
  refine fn_ok (g := g__law_padded) F S (by decide) fun cdv A outer s H E hr => ?_
  exact pssd_one (psd_ret (ped_op op_add_str od_catS (ped_op op_mul_str od_mulS (ped_str) (ped_callB (call_max2 (by rfl)) cd_max b_max (by decide +kernel) (pad_cons (ped_int) (pad_cons (ped_op op_sub od_sub (ped_var 1) (ped_callB call_len_str cd_lenS b_len (by decide +kernel) (pad_cons (ped_var 0) (pad_nil)))) (pad_nil))))) (ped_var 0)))
/-! ### _law_line -/
abbrev s__law_line : Stmt := top 45
def g__law_line : M Fl := fSeq (fSetT (fIf (fB (f2 dGt (bd (fCons (fProp "Table" R_Table_lost (fVar 1)) (fNil)) (d1 oLen)) (fC (.int 0)))) (fM1 oJoin (fC (.str (" " : Str))) (fL (fLc (bd (fProp "Table" R_Table_lost (fVar 1)) dWalk) [3] (setV 3) (pu true) (bd (fCons (fVar 3) (fNil)) (d1 oStrI))))) (fC (.str ("." : Str)))) (setV 2)) (fRet (f2 dCatS (f2 dCatS (f2 dCatS (bd (rD (fVar 0) (rD (fC (.int 8)) (rNil))) (callR R__law_padded)) (bd (rD (bd (fCons (fProp "Table" R_Table_start (fVar 1)) (fNil)) (d1 oStrI)) (rD (fC (.int 6)) (rNil))) (callR R__law_padded))) (fC (.str ("  " : Str)))) (fVar 2)))
def R__law_line : En → Res D := runF 2 4 g__law_line
theorem sc__law_line : FnScope ["_law_first", "_law_table", "_law_lost", "_law_rank"] ["_law_first", "_law_table"] (defScope s__law_line) := ⟨rfl, rfl, rfl, by decide +kernel, rfl, by decide +kernel, by decide +kernel⟩
theorem ok__law_line (F : Fun K "_law_line" "_law_line" s__law_line f fd) (d_Pr_Table_lost_Table : PrI P w K mg base 1 "Table" "lost" R_Table_lost) (b_len : mg "len" = none) (b_str : mg "str" = none) (d_Fn__law_padded : FnI P w K mg base 1 "_law_padded" R__law_padded) (d_Pr_Table_start_Table : PrI P w K mg base 1 "Table" "start" R_Table_start) : FnOk P w K mg base (L2.CX P w) 3 f fd ["_law_first", "_law_table"] (spD K mg R__law_line) := by
  have S := sc__law_line
  refine fn_ok (g := g__law_line) F S (by decide) fun cdv A outer s H E hr => ?_
  exact pssd_cons (psd_set (ped_ifExp (pbd_cmp op_gt od_gt (ped_callB call_len_seq cd_len b_len (by decide +kernel) (pad_cons (ped_prop d_Pr_Table_lost_Table hr (by decide) (ped_var 1)) (pad_nil))) (ped_int)) (ped_join (ped_str) (ped_new (pnd_lc (own := [("_law_rank", 3)]) (by rfl) S.nd (pid_seq (ped_prop d_Pr_Table_lost_Table hr (by decide) (ped_var 1))) (by exact blkOk_by (N := ["_law_first", "_law_table", "_law_lost", "_law_rank"]) (sc := defScope s__law_line) (own := [("_law_rank", 3)]) (by decide +kernel)) (fun _ _ _ _ _ => pgv_name 3 S.nd (by decide)) (fun _ _ _ _ _ => ptsd_nil) (fun _ _ _ _ _ => ped_callTy call_str_int cd_strI b_str (by decide +kernel) (pad_cons (ped_var 3) (pad_nil)))))) (ped_str)) (pgd_name 2 S.nd)) (pssd_one (psd_ret (ped_op op_add_str od_catS (ped_op op_add_str od_catS (ped_op op_add_str od_catS (ped_call d_Fn__law_padded hr (by decide) (takes_of rfl rfl rfl rfl) (prd_d (ped_var 0) (prd_d (ped_int) (prd_nil)))) (ped_call d_Fn__law_padded hr (by decide) (takes_of rfl rfl rfl rfl) (prd_d (ped_callTy call_str_int cd_strI b_str (by decide +kernel) (pad_cons (ped_prop d_Pr_Table_start_Table hr (by decide) (ped_var 1)) (pad_nil))) (prd_d (ped_int) (prd_nil))))) (ped_str)) (ped_var 2))))
/-! ### _law_drawn -/
abbrev s__law_drawn : Stmt := top 46
def g__law_drawn : M Fl := fSeq (fSetT (f2 dCatL (fL (fLst (fCons (fC (.str ("*" : Str))) (fNil)))) (fL (fLc (bd (fProp "Effect" R_Effect_breaks (fVar 0)) dWalk) [2] (setV 2) (pu true) (bd (fCons (fVar 2) (fNil)) (d1 oStrI))))) (setV 1)) (fRet (fM1 oJoin (fC (.str ("\n" : Str))) (fL (fLc (bd (fCons (fVar 1) (fCons (fProp "Effect" R_Effect_tables (fVar 0)) (fNil))) dZipQ) [3, 4] (gTupD 2 (gConsD (setV 3) (gConsD (setV 4) (gNilD)))) (pu true) (bd (rD (fVar 3) (rD (fVar 4) (rNil))) (callR R__law_line))))))
def R__law_drawn : En → Res D := runF 1 5 g__law_drawn
theorem sc__law_drawn : FnScope ["_law_effect", "_law_starts", "_law_number", "_law_first", "_law_table"] ["_law_effect"] (defScope s__law_drawn) := ⟨rfl, rfl, rfl, by decide +kernel, rfl, by decide +kernel, by decide +kernel⟩
theorem ok__law_drawn (F : Fun K "_law_drawn" "_law_drawn" s__law_drawn f fd) (d_Pr_Effect_breaks_Effect : PrI P w K mg base 1 "Effect" "breaks" R_Effect_breaks) (b_str : mg "str" = none) (d_Pr_Effect_tables_Effect : PrI P w K mg base 1 "Effect" "tables" R_Effect_tables) (b_zip : mg "zip" = none) (d_Fn__law_line : FnI P w K mg base 3 "_law_line" R__law_line) : FnOk P w K mg base (L2.CX P w) 4 f fd ["_law_effect"] (spD K mg R__law_drawn) := by
  have S := sc__law_drawn
  refine fn_ok (g := g__law_drawn) F S (by decide) fun cdv A outer s H E hr => ?_
  exact pssd_cons (psd_set (ped_op op_cat od_catL (ped_new (pnd_lst (pad_cons (ped_str) (pad_nil)))) (ped_new (pnd_lc (own := [("_law_number", 2)]) (by rfl) S.nd (pid_seq (ped_prop d_Pr_Effect_breaks_Effect hr (by decide) (ped_var 0))) (by exact blkOk_by (N := ["_law_effect", "_law_starts", "_law_number", "_law_first", "_law_table"]) (sc := defScope s__law_drawn) (own := [("_law_number", 2)]) (by decide +kernel)) (fun _ _ _ _ _ => pgv_name 2 S.nd (by decide)) (fun _ _ _ _ _ => ptsd_nil) (fun _ _ _ _ _ => ped_callTy call_str_int cd_strI b_str (by decide +kernel) (pad_cons (ped_var 2) (pad_nil)))))) (pgd_name 1 S.nd)) (pssd_one (psd_ret (ped_join (ped_str) (ped_new (pnd_lc (own := [("_law_first", 3), ("_law_table", 4)]) (by rfl) S.nd (pid_zipQ (pad_cons (ped_var 1) (pad_cons (ped_prop d_Pr_Effect_tables_Effect hr (by decide) (ped_var 0)) (pad_nil))) b_zip) (by exact blkOk_by (N := ["_law_effect", "_law_starts", "_law_number", "_law_first", "_law_table"]) (sc := defScope s__law_drawn) (own := [("_law_first", 3), ("_law_table", 4)]) (by decide +kernel)) (fun _ _ _ _ _ => pgv_tup (by rfl) (pgvs_cons (pgv_name 3 S.nd (by decide)) (pgvs_cons (pgv_name 4 S.nd (by decide)) (pgvs_nil)))) (fun _ _ _ _ _ => ptsd_nil) (fun _ _ _ _ _ => ped_call d_Fn__law_line hr (by decide) takes0 (prd_d (ped_var 3) (prd_d (ped_var 4) (prd_nil)))))))))
/-! ### format_effect -/
abbrev s_format_effect : Stmt := top 36
def g_format_effect : M Fl := fRet (fM1 oJoin (fC (.str ("\n" : Str))) (fL (fLc (bd (fCons (bd (rD (fVar 0) (rNil)) (callR R_starts_of)) (fCons (fProp "Effect" R_Effect_tables (fVar 0)) (fNil))) dZipQ) [1, 2] (gTupD 2 (gConsD (setV 1) (gConsD (setV 2) (gNilD)))) (pu true) (fJoin [fFmt (fVar 1), fC (.str (" " : Str)), fFmt (fProp "Table" R_Table_start (fVar 2)), fC (.str (" " : Str)), fFmt (bd (rD (fProp "Table" R_Table_lost (fVar 2)) (rD (fC (.str ("," : Str))) (rNil))) (callR R_format_numbers))] Str.empty))))
def R_format_effect : En → Res D := runF 1 3 g_format_effect
theorem sc_format_effect : FnScope ["effect", "first", "table"] ["effect"] (defScope s_format_effect) := ⟨rfl, rfl, rfl, by decide +kernel, rfl, by decide +kernel, by decide +kernel⟩
theorem ok_format_effect (F : Fun K "format_effect" "format_effect" s_format_effect f fd) (d_Pr_Effect_tables_Effect : PrI P w K mg base 1 "Effect" "tables" R_Effect_tables) (d_Fn_starts_of : FnI P w K mg base 3 "starts_of" R_starts_of) (b_zip : mg "zip" = none) (d_Pr_Table_start_Table : PrI P w K mg base 1 "Table" "start" R_Table_start) (d_Pr_Table_lost_Table : PrI P w K mg base 1 "Table" "lost" R_Table_lost) (d_Fn_format_numbers : FnI P w K mg base 1 "format_numbers" R_format_numbers) : FnOk P w K mg base (L2.CX P w) 4 f fd ["effect"] (spD K mg R_format_effect) := by
  have S := sc_format_effect
  refine fn_ok (g := g_format_effect) F S (by decide) fun cdv A outer s H E hr => ?_
  exact pssd_one (psd_ret (ped_join (ped_str) (ped_new (pnd_lc (own := [("first", 1), ("table", 2)]) (by rfl) S.nd (pid_zipQ (pad_cons (ped_call d_Fn_starts_of hr (by decide) (takes_of rfl rfl rfl rfl) (prd_d (ped_var 0) (prd_nil))) (pad_cons (ped_prop d_Pr_Effect_tables_Effect hr (by decide) (ped_var 0)) (pad_nil))) b_zip) (by exact blkOk_by (N := ["effect", "first", "table"]) (sc := defScope s_format_effect) (own := [("first", 1), ("table", 2)]) (by decide +kernel)) (fun _ _ _ _ _ => pgv_tup (by rfl) (pgvs_cons (pgv_name 1 S.nd (by decide)) (pgvs_cons (pgv_name 2 S.nd (by decide)) (pgvs_nil)))) (fun _ _ _ _ _ => ptsd_nil) (fun _ _ _ _ _ => ped_joined (pjd_cons (ped_fmt (ped_var 1)) (pjd_cons (ped_str) (pjd_cons (ped_fmt (ped_prop d_Pr_Table_start_Table hr (by decide) (ped_var 2))) (pjd_cons (ped_str) (pjd_cons (ped_fmt (ped_call d_Fn_format_numbers hr (by decide) takes0 (prd_d (ped_prop d_Pr_Table_lost_Table hr (by decide) (ped_var 2)) (prd_d (ped_str) (prd_nil))))) (pjd_nil)))))))))))
/-! ### _law_check -/
abbrev s__law_check : Stmt := top 47
def g__law_check : M Fl := fSeq (fIf (fB (f2 dNeS (bd (rD (fVar 0) (rNil)) (callR R_effect_grid)) (bd (rD (fVar 0) (rNil)) (callR R__law_drawn)))) (fRet (fC (.bl false))) (pu .nx)) (fSeq (fWk [1, 2, 3] (fFor (bd (fCons (fL (fSplit (bd (rD (fVar 0) (rNil)) (callR R_effect_grid)) (fC (.str ("\n" : Str))))) (fCons (fL (fSplit (bd (rD (fVar 0) (rNil)) (callR R_format_effect)) (fC (.str ("\n" : Str))))) (fNil))) dZip) (gTupD 2 (gConsD (setV 1) (gConsD (setV 2) (gNilD)))) (fWk [1, 2, 3] (fSeq (fSetT (fL (fLc (bd (fL (fSplit (fVar 1) (fC (.str (" " : Str))))) dWalk) [4] (setV 4) (fB (f2 dNeS (fVar 4) (fC (.str ("" : Str))))) (fVar 4))) (setV 3)) (fIf (fB (f2 dNeS (fRepl ("," : Str) (" " : Str) (fVar 2)) (fM1 oJoin (fC (.str (" " : Str))) (fVar 3)))) (fRet (fC (.bl false))) (pu .nx)))))) (fRet (fC (.bl true))))
def R__law_check : En → Res D := runF 1 5 g__law_check
theorem sc__law_check : FnScope ["_law_effect", "_law_one", "_law_other", "_law_parts", "_law_part"] ["_law_effect"] (defScope s__law_check) := ⟨rfl, rfl, rfl, by decide +kernel, rfl, by decide +kernel, by decide +kernel⟩
theorem ok__law_check (F : Fun K "_law_check" "_law_check" s__law_check f fd) (d_Fn_effect_grid : FnI P w K mg base 4 "effect_grid" R_effect_grid) (d_Fn__law_drawn : FnI P w K mg base 4 "_law_drawn" R__law_drawn) (d_Fn_format_effect : FnI P w K mg base 4 "format_effect" R_format_effect) (b_zip : mg "zip" = none) : FnOk P w K mg base (L2.CX P w) 5 f fd ["_law_effect"] (spD K mg R__law_check) := by
  have S := sc__law_check
  refine fn_okT (g := g__law_check) F S (by decide) (by decide +kernel) (by decide) fun cdv A outer s H E hr => ?_
  exact pssdt_cons (PSDT.of (psd_if (pbd_cmp L2.op_ne od_neS (ped_call d_Fn_effect_grid hr (by decide) (takes_of rfl rfl rfl rfl) (prd_d (ped_var 0) (prd_nil))) (ped_call d_Fn__law_drawn hr (by decide) (takes_of rfl rfl rfl rfl) (prd_d (ped_var 0) (prd_nil)))) (pssd_one (psd_ret (ped_bl))) (pssd_nil))) (pssdt_cons (psdt_wk [1, 2, 3] (psdt_for (passes_of rfl) (by rfl) (pid_zip (pad_cons (ped_new (pnd_split (ped_call d_Fn_effect_grid hr (by decide) (takes_of rfl rfl rfl rfl) (prd_d (ped_var 0) (prd_nil))) (ped_str))) (pad_cons (ped_new (pnd_split (ped_call d_Fn_format_effect hr (by decide) (takes_of rfl rfl rfl rfl) (prd_d (ped_var 0) (prd_nil))) (ped_str))) (pad_nil))) b_zip) (pgd_tup (by rfl) (pgsd_cons (pgd_name 1 S.nd) (pgsd_cons (pgd_name 2 S.nd) (pgsd_nil)))) (pssdt_wk [1, 2, 3] (pssdt_cons (PSDT.of (psd_setLc (setLc_ps (own := [("_law_part", 4)]) (by rfl) S.nd (by rfl) (by rfl) (sw_true rfl rfl rfl (by decide +kernel)) (pid_seq (ped_new (pnd_split (ped_var 1) (ped_str)))) (by exact blkOk_by (N := ["_law_effect", "_law_one", "_law_other", "_law_parts", "_law_part"]) (sc := defScope s__law_check) (own := [("_law_part", 4)]) (by decide +kernel)) (fun _ _ _ _ _ => pgv_name 4 S.nd (by decide)) (fun _ _ _ _ _ => ptsd_one (pbd_cmp L2.op_ne od_neS (ped_var 4) (ped_str))) (fun _ _ _ _ _ => ped_var 4)))) (pssdt_one (psdt_if (pbdt_cmp L2.op_ne od_neS (ped_repl (ped_var 2)) (ped_join (ped_str) (ped_var 3))) (PSsDT.of (pssd_one (psd_ret (ped_bl)))) (PSsDT.of (pssd_nil)))))))) (PSsDT.of (pssd_one (psd_ret (ped_bl)))))
/-! ### Effect.shifted -/
abbrev s_Effect_shifted : Stmt := inClass (top 30) 8
def g_Effect_shifted : M Fl := fSeq (fIf (fNot (fB (bd (rD (fVar 1) (rNil)) (callR R_is_integer)))) ((fun _ => .bad)) (pu .nx)) (fRet (fMake "Effect" R_Effect___init__ (fCons (fL (fLc (bd (bd (fVar 0) (dFld "Effect" "cuts")) dWalk) [2] (setV 2) (pu true) (f2 dAdd (fVar 2) (fVar 1)))) (fCons (bd (fVar 0) (dFld "Effect" "maps")) (fNil)))))
def R_Effect_shifted : En → Res D := runF 2 3 g_Effect_shifted
theorem sc_Effect_shifted : FnScope ["self", "offset", "number"] ["self", "offset"] (defScope s_Effect_shifted) := ⟨rfl, rfl, rfl, by decide +kernel, rfl, by decide +kernel, by decide +kernel⟩
theorem ok_Effect_shifted (F : Fun K "shifted" "Effect.shifted" s_Effect_shifted f fd) (d_Fn_is_integer : FnI P w K mg base 1 "is_integer" R_is_integer) (d_Mk_Effect___init__ : MkI P w K mg base 3 "Effect" R_Effect___init__) (f_Effect_maps : FlI K mg "Effect" "maps") (f_Effect_cuts : FlI K mg "Effect" "cuts") : FnOk P w K mg base (L2.CX P w) 5 f fd ["self", "offset"] (spD K mg R_Effect_shifted) := by
  have S := sc_Effect_shifted
  refine fn_ok (g := g_Effect_shifted) F S (by decide) fun cdv A outer s H E hr => ?_
  exact pssd_cons (psd_if (pbd_not (pbd_val (ped_call d_Fn_is_integer hr (by decide) (takes_of rfl rfl rfl rfl) (prd_d (ped_var 1) (prd_nil))))) (pssd_one (psd_never)) (pssd_nil)) (pssd_one (psd_ret (ped_make d_Mk_Effect___init__ hr (by decide) (takes_of rfl rfl rfl rfl) (pad_cons (ped_new (pnd_lc (own := [("number", 2)]) (by rfl) S.nd (pid_seq (ped_fld f_Effect_cuts (ped_var 0))) (by exact blkOk_by (N := ["self", "offset", "number"]) (sc := defScope s_Effect_shifted) (own := [("number", 2)]) (by decide +kernel)) (fun _ _ _ _ _ => pgv_name 2 S.nd (by decide)) (fun _ _ _ _ _ => ptsd_nil) (fun _ _ _ _ _ => ped_op op_add od_add (ped_var 2) (ped_var 1)))) (pad_cons (ped_fld f_Effect_maps (ped_var 0)) (pad_nil))))))
/-! ### Effect.nothing -/
abbrev s_Effect_nothing : Stmt := inClass (top 30) 2
def g_Effect_nothing : M Fl := fRet (bd (isCls 0 "Effect") fun _ => fMake "Effect" R_Effect___init__ (fCons (fTup (fNil)) (fCons (fTup (fCons (fMake "Table" R_Table___init__ (fCons (fC (.int 0)) (fCons (fTup (fNil)) (fNil)))) (fNil))) (fNil))))
def R_Effect_nothing : En → Res D := runF 1 1 g_Effect_nothing
theorem sc_Effect_nothing : FnScope ["cls"] ["cls"] (defScope s_Effect_nothing) := ⟨rfl, rfl, rfl, by decide +kernel, rfl, by decide +kernel, by decide +kernel⟩
theorem ok_Effect_nothing (F : Fun K "nothing" "Effect.nothing" s_Effect_nothing f fd) (d_Mk_Table___init__ : MkI P w K mg base 4 "Table" R_Table___init__) (d_Mk_Effect___init__ : MkI P w K mg base 3 "Effect" R_Effect___init__) : FnOk P w K mg base (L2.CX P w) 6 f fd ["cls"] (spD K mg R_Effect_nothing) := by
  have S := sc_Effect_nothing
  refine fn_ok (g := g_Effect_nothing) F S (by decide) fun cdv A outer s H E hr => ?_
  exact pssd_one (psd_ret (ped_makeV 0 d_Mk_Effect___init__ hr (by decide) (takes_of rfl rfl rfl rfl) (pad_cons (ped_tup (pad_nil)) (pad_cons (ped_tup (pad_cons (ped_make d_Mk_Table___init__ hr (by decide) (takes_of rfl rfl rfl rfl) (pad_cons (ped_int) (pad_cons (ped_tup (pad_nil)) (pad_nil)))) (pad_nil))) (pad_nil)))))
/-! ### Sequence.__mul__ -/
abbrev s_Sequence___mul__ : Stmt := inClass (top 17) 6
def g_Sequence___mul__ : M Fl := fSeq (fSetT (fIf (fB (f2 dGt (bd (fCons (bd (fVar 0) (dFld "Sequence" "parts")) (fNil)) (d1 oLen)) (fC (.int 0)))) (f2 dRepT (bd (fVar 0) (dFld "Sequence" "parts")) (fVar 1)) (fTup (fNil))) (setV 2)) (fRet (fMake "Sequence" R_Sequence___init__ (bd (fVar 2) dItems)))
def R_Sequence___mul__ : En → Res D := runF 2 3 g_Sequence___mul__
theorem sc_Sequence___mul__ : FnScope ["self", "times", "steps"] ["self", "times"] (defScope s_Sequence___mul__) := ⟨rfl, rfl, rfl, by decide +kernel, rfl, by decide +kernel, by decide +kernel⟩
theorem ok_Sequence___mul__ (F : Fun K "__mul__" "Sequence.__mul__" s_Sequence___mul__ f fd) (f_Sequence_parts : FlI K mg "Sequence" "parts") (b_len : mg "len" = none) (d_Mk_Sequence___init__ : MkI P w K mg base 5 "Sequence" R_Sequence___init__) : FnOk P w K mg base (L2.CX P w) 7 f fd ["self", "times"] (spD K mg R_Sequence___mul__) := by
  have S := sc_Sequence___mul__
  refine fn_ok (g := g_Sequence___mul__) F S (by decide) fun cdv A outer s H E hr => ?_
  exact pssd_cons (psd_set (ped_ifExp (pbd_cmp op_gt od_gt (ped_callB call_len_seq cd_len b_len (by decide +kernel) (pad_cons (ped_fld f_Sequence_parts (ped_var 0)) (pad_nil))) (ped_int)) (ped_op op_repA od_repT (ped_fld f_Sequence_parts (ped_var 0)) (ped_var 1)) (ped_tup (pad_nil))) (pgd_name 2 S.nd)) (pssd_one (psd_ret (ped_makeS1 d_Mk_Sequence___init__ hr (by decide) (takes_of rfl rfl rfl rfl) (ped_var 2))))
/-! ### law -/
abbrev s_law : Stmt := top 48
def g_law : M Fl := fSeq (fWk [1, 2, 3, 4, 5, 6, 7] (fFor (bd (fCons (bd (fCons (fC (.int 1)) (fCons (bd (fCons (fC (.int 10)) (fCons (bd (fCons (fVar 0) (fNil)) (d1 oLen)) (fNil))) (d2 oMin)) (fNil))) (d2 oMax)) (fNil)) dRngW1) (setV 1) (fWk [1, 2, 3, 4, 5, 6, 7] (fSeq (fSetN 2 (bd (rD (fVar 0) (rD (fVar 1) (rNil))) (callN R__law_pool))) (fSeq (fSetT (bd (rO 2 (rD (fC (.int 10)) (rD (fC (.int 9)) (rNil)))) (callR R__law_steps)) (setV 3)) (fSeq (fSetT (fCMeth "Effect" R_Effect_of (rD (bd (rD (fVar 3) (rNil)) (callR R__law_sequence)) (rNil))) (setV 4)) (fSeq (fSetT (f2 dAt (fL (fLst (fCons (fC (.int 0)) (fCons (bd (rO 2 (rD (f2 dPow (fC (.int 10)) (fC (.int 12))) (rNil))) (callR R__law_take)) (fCons (f2 dSub (fC (.int 0)) (bd (rO 2 (rD (f2 dPow (fC (.int 10)) (fC (.int 12))) (rNil))) (callR R__law_take))) (fCons (fC (.int 99999999)) (fNil))))))) (bd (rO 2 (rD (fC (.int 4)) (rNil))) (callR R__law_take))) (setV 5)) (fSeq (fIf (fOr (fNot (fB (bd (rD (fVar 4) (rNil)) (callR R__law_check)))) (fNot (fB (bd (rD (fMeth "Effect" "shifted" R_Effect_shifted (fVar 4) (rD (fVar 5) (rNil))) (rNil)) (callR R__law_check))))) (fRet (fC (.bl false))) (pu .nx)) (fSeq (fSetT (fMake "Table" R_Table___init__ (fCons (f2 dAdd (f2 dAt (fL (fLst (fCons (f2 dPow (fC (.int 10)) (fC (.int 5))) (fCons (f2 dPow (fC (.int 10)) (fC (.int 6))) (fCons (f2 dPow (fC (.int 10)) (fC (.int 40))) (fNil)))))) (bd (rO 2 (rD (fC (.int 3)) (rNil))) (callR R__law_take))) (bd (rO 2 (rD (f2 dPow (fC (.int 10)) (fC (.int 5))) (rNil))) (callR R__law_take))) (fCons (fTup (fNil)) (fNil)))) (setV 6)) (fSeq (fSetT (fMake "Effect" R_Effect___init__ (fCons (fTup (fCons (fC (.int 5)) (fCons (f2 dPow (fC (.int 10)) (fC (.int 30))) (fNil)))) (fCons (fTup (fCons (fMake "Table" R_Table___init__ (fCons (fC (.int 0)) (fCons (fTup (fNil)) (fNil)))) (fCons (fMake "Table" R_Table___init__ (fCons (fC (.int 99999)) (fCons (fTup (fNil)) (fNil)))) (fCons (fVar 6) (fNil))))) (fNil)))) (setV 7)) (fIf (fB (f2 dNeS (bd (rD (fVar 7) (rNil)) (callR R_effect_grid)) (bd (rD (fVar 7) (rNil)) (callR R__law_drawn)))) (fRet (fC (.bl false))) (pu .nx)))))))))))) (fRet (fAndV (bd (rD (fCMeth "Effect" R_Effect_nothing (rNil)) (rNil)) (callR R__law_check)) (bd (rD (fCMeth "Effect" R_Effect_of (rD (f2 (d2i R_Sequence___mul__ "Sequence") (fMake "Sequence" R_Sequence___init__ (fCons (fTup (fCons (fC (.str ("insert" : Str))) (fCons (bd (fC (.int 1234567)) dNeg) (fNil)))) (fNil))) (fC (.int 200))) (rNil))) (rNil)) (callR R__law_check))))
def R_law : En → Res D := runF 1 8 g_law
theorem sc_law : FnScope ["_law_script", "_law_k", "_law_pool_here", "_law_steps_here", "_law_effect", "_law_offset", "_law_great", "_law_wide"] ["_law_script"] (defScope s_law) := ⟨rfl, rfl, rfl, by decide +kernel, rfl, by decide +kernel, by decide +kernel⟩
theorem ok_law (F : Fun K "law" "law" s_law f fd) (b_len : mg "len" = none) (b_min : mg "min" = none) (b_max : mg "max" = none) (b_range : mg "range" = none) (d_FnN__law_pool : FnN P w K mg base 1 "_law_pool" R__law_pool) (d_Fn__law_steps : FnI P w K mg base 3 "_law_steps" R__law_steps) (d_Fn__law_sequence : FnI P w K mg base 8 "_law_sequence" R__law_sequence) (d_Cm_Effect_of_Effect : CmI P w K mg base 7 "Effect" "of" R_Effect_of) (d_Fn__law_take : FnI P w K mg base 1 "_law_take" R__law_take) (d_Fn__law_check : FnI P w K mg base 5 "_law_check" R__law_check) (d_Mt_Effect_shifted_Effect : MtI P w K mg base 5 "Effect" "shifted" R_Effect_shifted) (d_Mk_Table___init__ : MkI P w K mg base 4 "Table" R_Table___init__) (d_Mk_Effect___init__ : MkI P w K mg base 3 "Effect" R_Effect___init__) (d_Fn_effect_grid : FnI P w K mg base 4 "effect_grid" R_effect_grid) (d_Fn__law_drawn : FnI P w K mg base 4 "_law_drawn" R__law_drawn) (d_Cm_Effect_nothing_Effect : CmI P w K mg base 6 "Effect" "nothing" R_Effect_nothing) (d_Mk_Sequence___init__ : MkI P w K mg base 5 "Sequence" R_Sequence___init__) (d_Op_Sequence___mul___Sequence : OpI P w K mg base 7 "Sequence" "__mul__" R_Sequence___mul__) (bi_Sequence : BiI K mg "Sequence" .Mult) : FnOk P w K mg base (L2.CX P w) 9 f fd ["_law_script"] (spD K mg R_law) := by
  have S := sc_law
  refine fn_ok (g := g_law) F S (by decide) fun cdv A outer s H E hr => ?_
  exact pssd_cons (psd_wk [1, 2, 3, 4, 5, 6, 7] (psd_for (passes_of rfl) (by rfl) (pid_rangeW1 (pad_cons (ped_callB (call_max2 (by rfl)) cd_max b_max (by decide +kernel) (pad_cons (ped_int) (pad_cons (ped_callB (call_min2 (by rfl)) cd_min b_min (by decide +kernel) (pad_cons (ped_int) (pad_cons (ped_callB call_len_seq cd_len b_len (by decide +kernel) (pad_cons (ped_var 0) (pad_nil))) (pad_nil)))) (pad_nil)))) (pad_nil)) b_range) (pgd_name 1 S.nd) (pssd_wk [1, 2, 3, 4, 5, 6, 7] (pssd_cons (psd_setN 2 (pnd_call d_FnN__law_pool hr (by decide) (takes_of rfl rfl rfl rfl) (prd_d (ped_var 0) (prd_d (ped_var 1) (prd_nil)))) S.nd) (pssd_cons (psd_set (ped_call d_Fn__law_steps hr (by decide) (takes_of rfl rfl rfl rfl) (prd_o 2 (prd_d (ped_int) (prd_d (ped_int) (prd_nil))))) (pgd_name 3 S.nd)) (pssd_cons (psd_set (ped_cmeth d_Cm_Effect_of_Effect hr (by decide) (takes_of rfl rfl rfl rfl) (prd_d (ped_call d_Fn__law_sequence hr (by decide) (takes_of rfl rfl rfl rfl) (prd_d (ped_var 3) (prd_nil))) (prd_nil))) (pgd_name 4 S.nd)) (pssd_cons (psd_set (ped_ix (ped_new (pnd_lst (pad_cons (ped_int) (pad_cons (ped_call d_Fn__law_take hr (by decide) (takes_of rfl rfl rfl rfl) (prd_o 2 (prd_d (ped_op op_pow od_pow (ped_int) (ped_int)) (prd_nil)))) (pad_cons (ped_op op_sub od_sub (ped_int) (ped_call d_Fn__law_take hr (by decide) (takes_of rfl rfl rfl rfl) (prd_o 2 (prd_d (ped_op op_pow od_pow (ped_int) (ped_int)) (prd_nil))))) (pad_cons (ped_int) (pad_nil))))))) (ped_call d_Fn__law_take hr (by decide) (takes_of rfl rfl rfl rfl) (prd_o 2 (prd_d (ped_int) (prd_nil))))) (pgd_name 5 S.nd)) (pssd_cons (psd_if ((pwd_or (pbd_not (pbd_val (ped_call d_Fn__law_check hr (by decide) (takes_of rfl rfl rfl rfl) (prd_d (ped_var 4) (prd_nil))))) (pwd_or1 (pbd_not (pbd_val (ped_call d_Fn__law_check hr (by decide) (takes_of rfl rfl rfl rfl) (prd_d (ped_meth d_Mt_Effect_shifted_Effect hr (by decide) (takes_of rfl rfl rfl rfl) (ped_var 4) (prd_d (ped_var 5) (prd_nil))) (prd_nil))))))).pt) (pssd_one (psd_ret (ped_bl))) (pssd_nil)) (pssd_cons (psd_set (ped_make d_Mk_Table___init__ hr (by decide) (takes_of rfl rfl rfl rfl) (pad_cons (ped_op op_add od_add (ped_ix (ped_new (pnd_lst (pad_cons (ped_op op_pow od_pow (ped_int) (ped_int)) (pad_cons (ped_op op_pow od_pow (ped_int) (ped_int)) (pad_cons (ped_op op_pow od_pow (ped_int) (ped_int)) (pad_nil)))))) (ped_call d_Fn__law_take hr (by decide) (takes_of rfl rfl rfl rfl) (prd_o 2 (prd_d (ped_int) (prd_nil))))) (ped_call d_Fn__law_take hr (by decide) (takes_of rfl rfl rfl rfl) (prd_o 2 (prd_d (ped_op op_pow od_pow (ped_int) (ped_int)) (prd_nil))))) (pad_cons (ped_tup (pad_nil)) (pad_nil)))) (pgd_name 6 S.nd)) (pssd_cons (psd_set (ped_make d_Mk_Effect___init__ hr (by decide) (takes_of rfl rfl rfl rfl) (pad_cons (ped_tup (pad_cons (ped_int) (pad_cons (ped_op op_pow od_pow (ped_int) (ped_int)) (pad_nil)))) (pad_cons (ped_tup (pad_cons (ped_make d_Mk_Table___init__ hr (by decide) (takes_of rfl rfl rfl rfl) (pad_cons (ped_int) (pad_cons (ped_tup (pad_nil)) (pad_nil)))) (pad_cons (ped_make d_Mk_Table___init__ hr (by decide) (takes_of rfl rfl rfl rfl) (pad_cons (ped_int) (pad_cons (ped_tup (pad_nil)) (pad_nil)))) (pad_cons (ped_var 6) (pad_nil))))) (pad_nil)))) (pgd_name 7 S.nd)) (pssd_one (psd_if (pbd_cmp L2.op_ne od_neS (ped_call d_Fn_effect_grid hr (by decide) (takes_of rfl rfl rfl rfl) (prd_d (ped_var 7) (prd_nil))) (ped_call d_Fn__law_drawn hr (by decide) (takes_of rfl rfl rfl rfl) (prd_d (ped_var 7) (prd_nil)))) (pssd_one (psd_ret (ped_bl))) (pssd_nil))))))))))))) (pssd_one (psd_ret (ped_and (ped_call d_Fn__law_check hr (by decide) (takes_of rfl rfl rfl rfl) (prd_d (ped_cmeth0 d_Cm_Effect_nothing_Effect hr (by decide) (takes_of rfl rfl rfl rfl)) (prd_nil))) (ped_one (ped_call d_Fn__law_check hr (by decide) (takes_of rfl rfl rfl rfl) (prd_d (ped_cmeth d_Cm_Effect_of_Effect hr (by decide) (takes_of rfl rfl rfl rfl) (prd_d (ped_ownI d_Op_Sequence___mul___Sequence bi_Sequence hr (by decide) (ped_make d_Mk_Sequence___init__ hr (by decide) (takes_of rfl rfl rfl rfl) (pad_cons (ped_tup (pad_cons (ped_str) (pad_cons (ped_neg (ped_int)) (pad_nil)))) (pad_nil))) (ped_int)) (prd_nil))) (prd_nil)))))))
end
end Dl.k53
set_option maxHeartbeats 400000
/-! The library, and the defs that many laws share, typed (printed by tgen.py). -/
namespace Dl.lib
open PySem
noncomputable def p__law_pool (script_ : (List Int)) (k_ : Int) : Option (List Int) := ((if (decide (k_ < (script_.length : Int))) = true then (L2.atI script_ k_).bind fun x2 => some (if x2 < 0 then -x2 else x2) else some 0)).bind fun s4 => (mulP (7919 * k_) k_).bind fun x6 => (mulP s4 (if (decide ((10 ^ (18 : Int).toNat) ≤ s4)) = true then 1 else 0)).bind fun x8 => (mulP ((((((s4 % 2147483629) + x6) + (31 * k_)) + 17) * 48271) % 2147483647) ((((((s4 % 2147483629) + x6) + (31 * k_)) + 17) * 48271) % 2147483647)).bind fun x10 => some [x8, x10 % 2147483629]
noncomputable def p__law_take (pool_here_ : (List Int)) (many_ : Int) : Option (Int × (List Int)) := (L2.atI pool_here_ 0).bind fun x1 => (if (decide (0 < x1)) = true then (L2.atI pool_here_ 0).bind fun x4 => (modP x4 many_).bind fun x6 => (L2.atI pool_here_ 0).bind fun x8 => (divP x8 many_).bind fun x10 => (putP pool_here_ 0 x10).bind fun x12 => some (x6, x12) else (L2.atI pool_here_ 1).bind fun x14 => (putP pool_here_ 1 (((x14 * 48271) + 12345) % 2147483647)).bind fun x16 => (L2.atI x16 1).bind fun x18 => (L2.atI x16 1).bind fun x20 => (mulP x18 x20).bind fun x22 => (modP ((x22 % 2147483629) / 64) many_).bind fun x24 => some (x24, x16))
noncomputable def p__law_steps (pool_here_ : (List Int)) (most_ : Int) : Option ((List Stp) × (List Int)) := (p__law_take pool_here_ 4).bind fun x2 => (p__law_take x2.2 (most_ + 1)).bind fun x5 => (forS (fun y7 (s8 : (List Int) × (List Stp)) => (L2.atI [2, 3, 2, 4] x2.1).bind fun x11 => (p__law_take s8.1 x11).bind fun x14 => (if (decide (x14.1 = 0)) = true then (L2.atI [3, 5, 2, 9] x2.1).bind fun x17 => (p__law_take x14.2 x17).bind fun x20 => (appP s8.2 (false, 1 + x20.1)).bind fun x22 => some (x20.2, x22) else (L2.atI [2, 1, 2, 1] x2.1).bind fun x24 => (L2.atI [3, 9, 1, 5] x2.1).bind fun x26 => (p__law_take x14.2 x26).bind fun x29 => (mulP x24 x29.1).bind fun x31 => (appP s8.2 (true, x31 - 2)).bind fun x33 => some (x29.2, x33))) (rngP 0 x5.1) (x5.2, [])).bind fun s9 => some (s9.2, s9.1)
noncomputable def p_is_integer (value_ : Int) : Option Bool := some (true && (!false))
noncomputable def p_is_rank (value_ : Int) : Option Bool := (p_is_integer value_).bind fun x2 => some (x2 && (decide (0 < value_)))
noncomputable def p_Sequence_is_step (value_ : Stp) : Option Bool := (if ((!true) || ((!decide (2 = 2)) || (!true))) = true then some false else (if value_.1 = true then (p_is_integer value_.2).bind fun x4 => some x4 else (if (!value_.1) = true then (p_is_rank value_.2).bind fun x7 => some x7 else some false).bind fun x10 => some x10))
noncomputable def p_check_steps (steps_ : (List Stp)) : Option Unit := (forS (fun y1 (s2 : Unit) => (p_Sequence_is_step y1).bind fun x6 => (if (!x6) = true then none else some ())) steps_ ()).bind fun s3 => some ()
noncomputable def p_Sequence___init__ (steps_ : (List Stp)) : Option (List Stp) := (lstP steps_).bind fun steps_ => (p_check_steps steps_).bind fun x2 => some steps_
noncomputable def p_Sequence___add__ (self_ : (List Stp)) (other_ : (List Stp)) : Option (List Stp) := (p_Sequence___init__ (self_ ++ other_)).bind fun x2 => some x2
noncomputable def p__law_made (steps_here_ : (List Stp)) : Option (List Stp) := (p_Sequence___init__ ([] : List Stp)).bind fun x2 => (forS (fun y4 (s5 : (List Stp)) => (p_Sequence___init__ (y4 :: ([] : List Stp))).bind fun x9 => (p_Sequence___add__ s5 x9).bind fun x12 => some x12) steps_here_ x2).bind fun s6 => some s6
noncomputable def p_Sequence_steps (self_ : (List Stp)) : Option (List Stp) := some self_
noncomputable def p_least_reaching (start_ : Int) (lost_ : (Bool × List Int)) (count_ : Int) : Option Int := (forS (fun y2 (s3 : Int) => (if (decide (y2 ≤ s3)) = true then some (s3 + 1) else some s3)) lost_.2 (if (decide (start_ < count_)) = true then count_ - start_ else 0)).bind fun s4 => some s4
noncomputable def p_is_count (value_ : Int) : Option Bool := (p_is_integer value_).bind fun x2 => some (x2 && (decide (0 ≤ value_)))
noncomputable def p_are_lost_ranks (value_ : (Bool × List Int)) : Option Bool := (if (!true) = true then some true else (lcG (fun y1 => (p_is_rank y1).bind fun x3 => some (some x3)) value_.2).bind fun x6 => some (!(x6.all id))).bind fun x9 => (if x9 = true then some false else (lcT (List.zip value_.2 (value_.1, cutP value_.2 (some 1) none).2) (fun y12 => true) (fun y12 => decide (y12.1 < y12.2))).bind fun x13 => some (x13.all id))
noncomputable def p_Table___init__ (start_ : Int) (lost_ : (Bool × List Int)) : Option (Int × List Int) := (p_is_count start_).bind fun x2 => (if (!x2) = true then some true else (p_are_lost_ranks lost_).bind fun x5 => some (!x5)).bind fun x8 => (if x8 = true then none else some (start_, lost_.2))
noncomputable def p_table_at (steps_ : (List Stp)) (threshold_ : Int) : Option (Int × List Int) := (forS (fun y1 (s2 : Int × (List Int)) => (if ((!y1.1) && (decide (s2.1 < y1.2))) = true then (p_least_reaching s2.1 (false, s2.2) y1.2).bind fun x7 => (lstP (s2.2 ++ (x7 :: ([] : List Int)))).bind fun x9 => some (s2.1, isort x9) else (if (!y1.1) = true then some (s2.1 - 1, s2.2) else (if (decide (y1.2 ≤ threshold_)) = true then some (s2.1 + 1, s2.2) else some (s2.1, s2.2))))) steps_ (0, [])).bind fun s3 => (p_Table___init__ s3.1 (false, s3.2)).bind fun x15 => some x15
noncomputable def p_Table___eq__ (self_ : (Int × List Int)) (other_ : (Int × List Int)) : Option Bool := some (true && ((decide (self_.1 = other_.1)) && (decide (self_.2 = other_.2))))
noncomputable def p_merged (breaks_ : (List Int)) (tables_ : (List (Int × List Int))) : Option ((List Int) × (List (Int × List Int))) := (L2.atI tables_ 0).bind fun x1 => (forS (fun y3 (s4 : (List Int) × (List (Int × List Int))) => (L2.atI s4.2 (-1)).bind fun x7 => (p_Table___eq__ y3.2 x7).bind fun x10 => (if (!x10) = true then (appP s4.1 y3.1).bind fun x13 => (appP s4.2 y3.2).bind fun x15 => some (x13, x15) else some (s4.1, s4.2))) (List.zip breaks_ (cutP tables_ (some 1) none)) ([], [x1])).bind fun s5 => some (s5.1, s5.2)
noncomputable def p_are_breaks (value_ : (Bool × List Int)) : Option Bool := (if (!true) = true then some true else (lcG (fun y1 => (p_is_integer y1).bind fun x3 => some (some x3)) value_.2).bind fun x6 => some (!(x6.all id))).bind fun x9 => (if x9 = true then some false else (lcT (List.zip value_.2 (value_.1, cutP value_.2 (some 1) none).2) (fun y12 => true) (fun y12 => decide (y12.1 < y12.2))).bind fun x13 => some (x13.all id))
noncomputable def p_are_tables (value_ : (Bool × List (Int × List Int))) (size_ : Int) : Option Bool := (if ((!true) || (!decide ((value_.2.length : Int) = size_))) = true then some false else (lcT value_.2 (fun y2 => true) (fun y2 => true)).bind fun x3 => (if (!(x3.all id)) = true then some false else (lcG (fun y6 => (p_Table___eq__ y6.1 y6.2).bind fun x8 => some (some (!x8))) (List.zip value_.2 (value_.1, cutP value_.2 (some 1) none).2)).bind fun x11 => some (x11.all id)))
noncomputable def p_Effect___init__ (breaks_ : (Bool × List Int)) (tables_ : (Bool × List (Int × List Int))) : Option Eff := (p_are_breaks breaks_).bind fun x2 => (if (!x2) = true then some true else (p_are_tables tables_ ((breaks_.2.length : Int) + 1)).bind fun x5 => some (!x5)).bind fun x8 => (if x8 = true then none else some (breaks_.2, tables_.2))
noncomputable def p_Effect_of (sequence_ : (List Stp)) : Option Eff := (p_Sequence_steps sequence_).bind fun x2 => (lcT x2 (fun y4 => y4.1) (fun y4 => y4.2)).bind fun x5 => (setP x5).bind fun x7 => (srtP x7).bind fun x9 => (if (!decide (x9 = [])) = true then (L2.atI x9 0).bind fun x11 => some (x11 - 1) else some 0).bind fun x13 => (lstP (x13 :: x9)).bind fun x16 => (lcG (fun y18 => (p_Sequence_steps sequence_).bind fun x20 => (p_table_at x20 y18).bind fun x23 => some (some x23)) x16).bind fun x26 => (p_merged x9 x26).bind fun x29 => (p_Effect___init__ (false, x29.1) (false, x29.2)).bind fun x32 => some x32
end Dl.lib
set_option maxHeartbeats 400000
/-! The library, typed: sums and repetitions (printed by tgen.py). -/
namespace Dl.lib
open PySem
noncomputable def p_Effect_nothing  : Option Eff := (p_Table___init__ 0 (true, [])).bind fun x2 => (p_Effect___init__ (true, []) (true, [(x2)])).bind fun x5 => some x5
noncomputable def p_Sequence___mul__ (self_ : (List Stp)) (times_ : Int) : Option (List Stp) := (if (decide (0 < (self_.length : Int))) = true then (repT self_ times_).bind fun x1 => some x1 else some []).bind fun x3 => (p_Sequence___init__ x3).bind fun x7 => some x7
end Dl.lib
set_option maxHeartbeats 400000
/-! The library, typed: repetitions of many (printed by tgen.py). -/
namespace Dl.lib
open PySem
noncomputable def p_Effect_tables (self_ : Eff) : Option (List (Int × List Int)) := some self_.2
noncomputable def p_Table_lost (self_ : (Int × List Int)) : Option (List Int) := some self_.2
noncomputable def p_Table_start (self_ : (Int × List Int)) : Option Int := some self_.1
noncomputable def p_Effect_breaks (self_ : Eff) : Option (List Int) := some self_.1
end Dl.lib
set_option maxHeartbeats 400000
/-! The library, typed: removals (printed by tgen.py). -/
namespace Dl.lib
open PySem
end Dl.lib
set_option maxHeartbeats 400000
/-! The library, typed: sequences called, steps from the top (printed by tgen.py). -/
namespace Dl.lib
open PySem
end Dl.lib
set_option maxHeartbeats 400000
/-! The library, typed: comparing effects (printed by tgen.py). -/
namespace Dl.lib
open PySem
end Dl.lib
set_option maxHeartbeats 400000
/-! The library, typed: normal forms (printed by tgen.py). -/
namespace Dl.lib
open PySem
end Dl.lib
set_option maxHeartbeats 400000
/-! The typed library: texts. -/
namespace Dl.lib
open PySem L2
noncomputable def p__law_sequence (steps_here_ : (List Stp)) : Option (List Stp) := (p_Sequence___init__ ([] : List Stp)).bind fun x2 => (forS (fun y4 (s5 : (List Stp)) => (p_Sequence___init__ (y4 :: ([] : List Stp))).bind fun x9 => (p_Sequence___add__ s5 x9).bind fun x12 => some x12) steps_here_ x2).bind fun s6 => some s6
end Dl.lib
set_option maxHeartbeats 400000
/-! The typed library: effects as texts. -/
namespace Dl.lib
open PySem L2
noncomputable def p_starts_of (effect_ : Eff) : Option (List Str) := (p_Effect_breaks effect_).bind fun x2 => (lcG (fun y4 => (strIP y4).bind fun x5 => some (some x5)) x2).bind fun x8 => (lstP (("*" : Str) :: x8)).bind fun x10 => some x10
noncomputable def p_format_numbers (numbers_ : (List Int)) (separator_ : Str) : Option Str := (lcG (fun y1 => (strIP y1).bind fun x2 => some (some x2)) numbers_).bind fun x5 => (joinSP separator_ x5).bind fun x7 => (orSP x7 (some ("." : Str))).bind fun x9 => some x9
noncomputable def p_format_effect (effect_ : Eff) : Option Str := (p_starts_of effect_).bind fun x2 => (p_Effect_tables effect_).bind fun x5 => (lcG (fun y7 => (fmtSP y7.1).bind fun x8 => (p_Table_start y7.2).bind fun x11 => (strIP x11).bind fun x13 => (p_Table_lost y7.2).bind fun x16 => (p_format_numbers x16 ("," : Str)).bind fun x19 => (fmtSP x19).bind fun x21 => (jnSP [x8, (" " : Str), x13, (" " : Str), x21] Str.empty).bind fun x23 => some (some x23)) (List.zip x2 x5)).bind fun x31 => (joinSP ("\n" : Str) x31).bind fun x33 => some x33
end Dl.lib
set_option maxHeartbeats 400000
/-! k53: typed. -/
namespace Dl.k53
open PySem Dl.lib
theorem t__law_pool (script_ : (List Int)) (k_ : Int) {r : (List Int)} (h : p__law_pool script_ k_ = some r) : R__law_pool [.val (D.scr script_), .val (D.int k_)] = .ok (List.map D.int r) [.no, .no] := by
  unfold p__law_pool at h
  refine runN_Ot (n := 2) (m := 4) (P := fun _ _ => False) (dD := fun (r : (List Int)) => List.map D.int r) (os := fun (r : (List Int)) => [.no, .no]) (r := r) ?_ rfl (by decide)
  change Ot g__law_pool [.val (D.scr script_), .val (D.int k_), .no, .no] (fun (_ : Unit) _ => False) (fun (r : (List Int)) => Fl.rn (List.map D.int r)) (Fin 2 4 (fun (r : (List Int)) => [.no, .no])) (.rt r)
  unfold g__law_pool
  refine ot_seq (e1 := [.val (D.scr script_), .val (D.int k_), .val (D.int 0), .no]) (fSetT_ok (x := D.int 0) (u := ()) (e1 := [.val (D.scr script_), .val (D.int k_), .no, .no]) rfl rfl) ?_
  obtain ⟨s4, h5, h⟩ := bsome h
  refine ot_seq (e1 := [.val (D.scr script_), .val (D.int k_), .val (D.int s4), .no]) (nx_of (E := fun (s4 : Int) => [.val (D.scr script_), .val (D.int k_), .val (D.int s4), .no]) ?_) ?_
  · have h := h5
    by_cases c1 : (decide (k_ < (script_.length : Int))) = true
    · rw [if_pos c1] at h
      refine ot_if_t (fB_ok (x_op (p := D.int k_) (q := D.int (script_.length : Int)) (e1 := [.val (D.scr script_), .val (D.int k_), .val (D.int 0), .no]) (e2 := [.val (D.scr script_), .val (D.int k_), .val (D.int 0), .no]) rfl (x_d1 (p := D.scr script_) rfl rfl) rfl)) c1 ?_
      obtain ⟨x2, h3, h⟩ := bsome h
      have hE := Option.some.inj h; subst hE
      refine ⟨[.val (D.scr script_), .val (D.int k_), .val (D.int (if x2 < 0 then -x2 else x2)), .no], ?_, rfl⟩
      exact fSetT_ok (x := D.int (if x2 < 0 then -x2 else x2)) (u := ()) (e1 := [.val (D.scr script_), .val (D.int k_), .val (D.int 0), .no]) (x_d1 (p := D.int x2) (x_op (p := D.scr script_) (q := D.int k_) (e1 := [.val (D.scr script_), .val (D.int k_), .val (D.int 0), .no]) (e2 := [.val (D.scr script_), .val (D.int k_), .val (D.int 0), .no]) rfl rfl (o_atS h3)) rfl) rfl
    · rw [if_neg c1] at h
      refine ot_if_f (fB_ok (x_op (p := D.int k_) (q := D.int (script_.length : Int)) (e1 := [.val (D.scr script_), .val (D.int k_), .val (D.int 0), .no]) (e2 := [.val (D.scr script_), .val (D.int k_), .val (D.int 0), .no]) rfl (x_d1 (p := D.scr script_) rfl rfl) rfl)) c1 ?_
      have hE := Option.some.inj h; subst hE
      exact ⟨_, rfl, rfl⟩
  · obtain ⟨x6, h7, h⟩ := bsome h
    refine ot_seq (e1 := [.val (D.scr script_), .val (D.int k_), .val (D.int s4), .val (D.int ((((((s4 % 2147483629) + x6) + (31 * k_)) + 17) * 48271) % 2147483647))]) (fSetT_ok (x := D.int ((((((s4 % 2147483629) + x6) + (31 * k_)) + 17) * 48271) % 2147483647)) (u := ()) (e1 := [.val (D.scr script_), .val (D.int k_), .val (D.int s4), .no]) (x_op (p := D.int (((((s4 % 2147483629) + x6) + (31 * k_)) + 17) * 48271)) (q := D.int 2147483647) (e1 := [.val (D.scr script_), .val (D.int k_), .val (D.int s4), .no]) (e2 := [.val (D.scr script_), .val (D.int k_), .val (D.int s4), .no]) (x_op (p := D.int ((((s4 % 2147483629) + x6) + (31 * k_)) + 17)) (q := D.int 48271) (e1 := [.val (D.scr script_), .val (D.int k_), .val (D.int s4), .no]) (e2 := [.val (D.scr script_), .val (D.int k_), .val (D.int s4), .no]) (x_op (p := D.int (((s4 % 2147483629) + x6) + (31 * k_))) (q := D.int 17) (e1 := [.val (D.scr script_), .val (D.int k_), .val (D.int s4), .no]) (e2 := [.val (D.scr script_), .val (D.int k_), .val (D.int s4), .no]) (x_op (p := D.int ((s4 % 2147483629) + x6)) (q := D.int (31 * k_)) (e1 := [.val (D.scr script_), .val (D.int k_), .val (D.int s4), .no]) (e2 := [.val (D.scr script_), .val (D.int k_), .val (D.int s4), .no]) (x_op (p := D.int (s4 % 2147483629)) (q := D.int x6) (e1 := [.val (D.scr script_), .val (D.int k_), .val (D.int s4), .no]) (e2 := [.val (D.scr script_), .val (D.int k_), .val (D.int s4), .no]) (x_op (p := D.int s4) (q := D.int 2147483629) (e1 := [.val (D.scr script_), .val (D.int k_), .val (D.int s4), .no]) (e2 := [.val (D.scr script_), .val (D.int k_), .val (D.int s4), .no]) rfl rfl (dMod_eq (by decide))) (x_op (p := D.int (7919 * k_)) (q := D.int k_) (e1 := [.val (D.scr script_), .val (D.int k_), .val (D.int s4), .no]) (e2 := [.val (D.scr script_), .val (D.int k_), .val (D.int s4), .no]) (x_op (p := D.int 7919) (q := D.int k_) (e1 := [.val (D.scr script_), .val (D.int k_), .val (D.int s4), .no]) (e2 := [.val (D.scr script_), .val (D.int k_), .val (D.int s4), .no]) rfl rfl (dMul_l (by decide))) rfl (o_mul h7)) rfl) (x_op (p := D.int 31) (q := D.int k_) (e1 := [.val (D.scr script_), .val (D.int k_), .val (D.int s4), .no]) (e2 := [.val (D.scr script_), .val (D.int k_), .val (D.int s4), .no]) rfl rfl (dMul_l (by decide))) rfl) rfl rfl) rfl (dMul_r (by decide))) rfl (dMod_eq (by decide))) rfl) ?_
    obtain ⟨x8, h9, h⟩ := bsome h
    obtain ⟨x10, h11, h⟩ := bsome h
    have hE := Option.some.inj h; subst hE
    exact ot_rt (e2 := [.val (D.scr script_), .val (D.int k_), .val (D.int s4), .val (D.int ((((((s4 % 2147483629) + x6) + (31 * k_)) + 17) * 48271) % 2147483647))]) (fRetL_ok (fLst_ok (fCons_ok (x := D.int x8) (e1 := [.val (D.scr script_), .val (D.int k_), .val (D.int s4), .val (D.int ((((((s4 % 2147483629) + x6) + (31 * k_)) + 17) * 48271) % 2147483647))]) (x_op (p := D.int s4) (q := D.int (if (decide ((10 ^ (18 : Int).toNat) ≤ s4)) = true then 1 else 0)) (e1 := [.val (D.scr script_), .val (D.int k_), .val (D.int s4), .val (D.int ((((((s4 % 2147483629) + x6) + (31 * k_)) + 17) * 48271) % 2147483647))]) (e2 := [.val (D.scr script_), .val (D.int k_), .val (D.int s4), .val (D.int ((((((s4 % 2147483629) + x6) + (31 * k_)) + 17) * 48271) % 2147483647))]) rfl (x_d1 (p := D.bl (decide ((10 ^ (18 : Int).toNat) ≤ s4))) (x_op (p := D.int s4) (q := D.int (10 ^ (18 : Int).toNat)) (e1 := [.val (D.scr script_), .val (D.int k_), .val (D.int s4), .val (D.int ((((((s4 % 2147483629) + x6) + (31 * k_)) + 17) * 48271) % 2147483647))]) (e2 := [.val (D.scr script_), .val (D.int k_), .val (D.int s4), .val (D.int ((((((s4 % 2147483629) + x6) + (31 * k_)) + 17) * 48271) % 2147483647))]) rfl (x_op (p := D.int 10) (q := D.int 18) (e1 := [.val (D.scr script_), .val (D.int k_), .val (D.int s4), .val (D.int ((((((s4 % 2147483629) + x6) + (31 * k_)) + 17) * 48271) % 2147483647))]) (e2 := [.val (D.scr script_), .val (D.int k_), .val (D.int s4), .val (D.int ((((((s4 % 2147483629) + x6) + (31 * k_)) + 17) * 48271) % 2147483647))]) rfl rfl (dPow_eq (by decide))) rfl) rfl) (o_mul h9)) (fCons_ok (x := D.int (x10 % 2147483629)) (e1 := [.val (D.scr script_), .val (D.int k_), .val (D.int s4), .val (D.int ((((((s4 % 2147483629) + x6) + (31 * k_)) + 17) * 48271) % 2147483647))]) (x_op (p := D.int x10) (q := D.int 2147483629) (e1 := [.val (D.scr script_), .val (D.int k_), .val (D.int s4), .val (D.int ((((((s4 % 2147483629) + x6) + (31 * k_)) + 17) * 48271) % 2147483647))]) (e2 := [.val (D.scr script_), .val (D.int k_), .val (D.int s4), .val (D.int ((((((s4 % 2147483629) + x6) + (31 * k_)) + 17) * 48271) % 2147483647))]) (x_op (p := D.int ((((((s4 % 2147483629) + x6) + (31 * k_)) + 17) * 48271) % 2147483647)) (q := D.int ((((((s4 % 2147483629) + x6) + (31 * k_)) + 17) * 48271) % 2147483647)) (e1 := [.val (D.scr script_), .val (D.int k_), .val (D.int s4), .val (D.int ((((((s4 % 2147483629) + x6) + (31 * k_)) + 17) * 48271) % 2147483647))]) (e2 := [.val (D.scr script_), .val (D.int k_), .val (D.int s4), .val (D.int ((((((s4 % 2147483629) + x6) + (31 * k_)) + 17) * 48271) % 2147483647))]) rfl rfl (o_mul h11)) rfl (dMod_eq (by decide))) fNil_eq)) (by show (2 : Nat) ≤ 16777216; decide))) ⟨rfl, rfl⟩
noncomputable def p__law_take (pool_here_ : (List Int)) (count_ : Int) : Option (Int × (List Int)) := (L2.atI pool_here_ 0).bind fun x1 => (if (decide (0 < x1)) = true then (L2.atI pool_here_ 0).bind fun x4 => (modP x4 count_).bind fun x6 => (L2.atI pool_here_ 0).bind fun x8 => (divP x8 count_).bind fun x10 => (putP pool_here_ 0 x10).bind fun x12 => some (x6, x12) else (L2.atI pool_here_ 1).bind fun x14 => (putP pool_here_ 1 (((x14 * 48271) + 12345) % 2147483647)).bind fun x16 => (L2.atI x16 1).bind fun x18 => (L2.atI x16 1).bind fun x20 => (mulP x18 x20).bind fun x22 => (modP ((x22 % 2147483629) / 64) count_).bind fun x24 => some (x24, x16))
theorem t__law_take (pool_here_ : (List Int)) (count_ : Int) {r : (Int × (List Int))} (h : p__law_take pool_here_ count_ = some r) : R__law_take [.own true (List.map D.int pool_here_), .val (D.int count_)] = .ok (D.int r.1) [.own true (List.map D.int r.2), .no] := by
  unfold p__law_take at h
  refine run_Ot (n := 2) (m := 3) (P := fun _ _ => False) (dD := fun (r : (Int × (List Int))) => D.int r.1) (os := fun (r : (Int × (List Int))) => [.own true (List.map D.int r.2), .no]) (r := r) ?_ rfl (by decide)
  change Ot g__law_take [.own true (List.map D.int pool_here_), .val (D.int count_), .no] (fun (_ : Unit) _ => False) (fun (r : (Int × (List Int))) => Fl.rt (D.int r.1)) (Fin 2 3 (fun (r : (Int × (List Int))) => [.own true (List.map D.int r.2), .no])) (.rt r)
  unfold g__law_take
  obtain ⟨x1, h2, h⟩ := bsome h
  by_cases c3 : (decide (0 < x1)) = true
  · rw [if_pos c3] at h
    refine ot_seq_rt (P' := fun (_ : Unit) _ => False) (.inl ⟨_, rfl⟩) (ot_if_t (fB_ok (x_op (p := D.int x1) (q := D.int 0) (e1 := [.own true (List.map D.int pool_here_), .val (D.int count_), .no]) (e2 := [.own true (List.map D.int pool_here_), .val (D.int count_), .no]) (x_getA (r := true) (xs := pool_here_) (F := D.int) rfl rfl h2) rfl rfl)) c3 ?_)
    obtain ⟨x4, h5, h⟩ := bsome h
    obtain ⟨x6, h7, h⟩ := bsome h
    refine ot_seq (e1 := [.own true (List.map D.int pool_here_), .val (D.int count_), .val (D.int x6)]) (fSetT_ok (x := D.int x6) (u := ()) (e1 := [.own true (List.map D.int pool_here_), .val (D.int count_), .no]) (x_op (p := D.int x4) (q := D.int count_) (e1 := [.own true (List.map D.int pool_here_), .val (D.int count_), .no]) (e2 := [.own true (List.map D.int pool_here_), .val (D.int count_), .no]) (x_getA (r := true) (xs := pool_here_) (F := D.int) rfl rfl h5) rfl (o_mod h7)) rfl) ?_
    obtain ⟨x8, h9, h⟩ := bsome h
    obtain ⟨x10, h11, h⟩ := bsome h
    obtain ⟨x12, h13, h⟩ := bsome h
    refine ot_seq (e1 := [.own true (List.map D.int x12), .val (D.int count_), .val (D.int x6)]) (x_put (F := D.int) (xs := pool_here_) (x := x10) (e1 := [.own true (List.map D.int pool_here_), .val (D.int count_), .val (D.int x6)]) (e2 := [.own true (List.map D.int pool_here_), .val (D.int count_), .val (D.int x6)]) (x_op (p := D.int x8) (q := D.int count_) (e1 := [.own true (List.map D.int pool_here_), .val (D.int count_), .val (D.int x6)]) (e2 := [.own true (List.map D.int pool_here_), .val (D.int count_), .val (D.int x6)]) (x_getA (r := true) (xs := pool_here_) (F := D.int) rfl rfl h9) rfl (o_div h11)) ⟨_, _, rfl⟩ rfl rfl h13) ?_
    have hE := Option.some.inj h; subst hE
    exact ot_rt (e2 := [.own true (List.map D.int x12), .val (D.int count_), .val (D.int x6)]) (fRet_ok rfl) ⟨rfl, rfl⟩
  · rw [if_neg c3] at h
    refine ot_seq (e1 := [.own true (List.map D.int pool_here_), .val (D.int count_), .no]) (fIf_n (fB_ok (x_op (p := D.int x1) (q := D.int 0) (e1 := [.own true (List.map D.int pool_here_), .val (D.int count_), .no]) (e2 := [.own true (List.map D.int pool_here_), .val (D.int count_), .no]) (x_getA (r := true) (xs := pool_here_) (F := D.int) rfl rfl h2) rfl rfl)) c3 rfl) ?_
    obtain ⟨x14, h15, h⟩ := bsome h
    obtain ⟨x16, h17, h⟩ := bsome h
    refine ot_seq (e1 := [.own true (List.map D.int x16), .val (D.int count_), .no]) (x_put (F := D.int) (xs := pool_here_) (x := (((x14 * 48271) + 12345) % 2147483647)) (e1 := [.own true (List.map D.int pool_here_), .val (D.int count_), .no]) (e2 := [.own true (List.map D.int pool_here_), .val (D.int count_), .no]) (x_op (p := D.int ((x14 * 48271) + 12345)) (q := D.int 2147483647) (e1 := [.own true (List.map D.int pool_here_), .val (D.int count_), .no]) (e2 := [.own true (List.map D.int pool_here_), .val (D.int count_), .no]) (x_op (p := D.int (x14 * 48271)) (q := D.int 12345) (e1 := [.own true (List.map D.int pool_here_), .val (D.int count_), .no]) (e2 := [.own true (List.map D.int pool_here_), .val (D.int count_), .no]) (x_op (p := D.int x14) (q := D.int 48271) (e1 := [.own true (List.map D.int pool_here_), .val (D.int count_), .no]) (e2 := [.own true (List.map D.int pool_here_), .val (D.int count_), .no]) (x_getA (r := true) (xs := pool_here_) (F := D.int) rfl rfl h15) rfl (dMul_r (by decide))) rfl rfl) rfl (dMod_eq (by decide))) ⟨_, _, rfl⟩ rfl rfl h17) ?_
    obtain ⟨x18, h19, h⟩ := bsome h
    obtain ⟨x20, h21, h⟩ := bsome h
    obtain ⟨x22, h23, h⟩ := bsome h
    obtain ⟨x24, h25, h⟩ := bsome h
    have hE := Option.some.inj h; subst hE
    exact ot_rt (e2 := [.own true (List.map D.int x16), .val (D.int count_), .no]) (fRet_ok (x_op (p := D.int ((x22 % 2147483629) / 64)) (q := D.int count_) (e1 := [.own true (List.map D.int x16), .val (D.int count_), .no]) (e2 := [.own true (List.map D.int x16), .val (D.int count_), .no]) (x_op (p := D.int (x22 % 2147483629)) (q := D.int 64) (e1 := [.own true (List.map D.int x16), .val (D.int count_), .no]) (e2 := [.own true (List.map D.int x16), .val (D.int count_), .no]) (x_op (p := D.int x22) (q := D.int 2147483629) (e1 := [.own true (List.map D.int x16), .val (D.int count_), .no]) (e2 := [.own true (List.map D.int x16), .val (D.int count_), .no]) (x_op (p := D.int x18) (q := D.int x20) (e1 := [.own true (List.map D.int x16), .val (D.int count_), .no]) (e2 := [.own true (List.map D.int x16), .val (D.int count_), .no]) (x_getA (r := true) (xs := x16) (F := D.int) rfl rfl h19) (x_getA (r := true) (xs := x16) (F := D.int) rfl rfl h21) (o_mul h23)) rfl (dMod_eq (by decide))) rfl (dDiv_eq (by decide) (by decide))) rfl (o_mod h25))) ⟨rfl, rfl⟩
noncomputable def p__law_step (pool_here_ : (List Int)) (most_ : Int) : Option (Stp × (List Int)) := (p__law_take pool_here_ 5).bind fun x2 => (if (decide (x2.1 < 2)) = true then (p__law_take x2.2 9).bind fun x6 => some ((true, x6.1 - 3), x6.2) else (p__law_take x2.2 most_).bind fun x9 => some ((false, 1 + x9.1), x9.2))
theorem t__law_step (pool_here_ : (List Int)) (most_ : Int) {r : (Stp × (List Int))} (h : p__law_step pool_here_ most_ = some r) : R__law_step [.own true (List.map D.int pool_here_), .val (D.int most_)] = .ok (stD r.1) [.own true (List.map D.int r.2), .no] := by
  unfold p__law_step at h
  refine run_Ot (n := 2) (m := 2) (P := fun _ _ => False) (dD := fun (r : (Stp × (List Int))) => stD r.1) (os := fun (r : (Stp × (List Int))) => [.own true (List.map D.int r.2), .no]) (r := r) ?_ rfl (by decide)
  change Ot g__law_step [.own true (List.map D.int pool_here_), .val (D.int most_)] (fun (_ : Unit) _ => False) (fun (r : (Stp × (List Int))) => Fl.rt (stD r.1)) (Fin 2 2 (fun (r : (Stp × (List Int))) => [.own true (List.map D.int r.2), .no])) (.rt r)
  unfold g__law_step
  obtain ⟨x2, h3, h⟩ := bsome h
  have k1 := t__law_take pool_here_ 5 h3
  by_cases c4 : (decide (x2.1 < 2)) = true
  · rw [if_pos c4] at h
    refine ot_seq_rt (P' := fun (_ : Unit) _ => False) (.inl ⟨_, rfl⟩) (ot_if_t (fB_ok (x_op (p := D.int x2.1) (q := D.int 2) (e1 := [.own true (List.map D.int x2.2), .val (D.int most_)]) (e2 := [.own true (List.map D.int x2.2), .val (D.int most_)]) (x_call (e2 := [.own true (List.map D.int x2.2), .val (D.int most_)]) (rO_ok rfl (rD_ok (x := D.int 5) (e1 := [.own true (List.map D.int pool_here_), .val (D.int most_)]) rfl rNil_eq) ⟨_, _, rfl⟩) rfl k1 rfl) rfl rfl)) c4 ?_)
    obtain ⟨x6, h7, h⟩ := bsome h
    have k5 := t__law_take x2.2 9 h7
    have hE := Option.some.inj h; subst hE
    exact ot_rt (e2 := [.own true (List.map D.int x6.2), .val (D.int most_)]) (fRet_ok (fTup_ok (fCons_ok (x := D.str ("insert" : Str)) (e1 := [.own true (List.map D.int x2.2), .val (D.int most_)]) rfl (fCons_ok (x := D.int (x6.1 - 3)) (e1 := [.own true (List.map D.int x6.2), .val (D.int most_)]) (x_op (p := D.int x6.1) (q := D.int 3) (e1 := [.own true (List.map D.int x6.2), .val (D.int most_)]) (e2 := [.own true (List.map D.int x6.2), .val (D.int most_)]) (x_call (e2 := [.own true (List.map D.int x6.2), .val (D.int most_)]) (rO_ok rfl (rD_ok (x := D.int 9) (e1 := [.own true (List.map D.int x2.2), .val (D.int most_)]) rfl rNil_eq) ⟨_, _, rfl⟩) rfl k5 rfl) rfl rfl) fNil_eq)) (by show (2 : Nat) ≤ 16777216; decide))) ⟨rfl, rfl⟩
  · rw [if_neg c4] at h
    refine ot_seq (e1 := [.own true (List.map D.int x2.2), .val (D.int most_)]) (fIf_n (fB_ok (x_op (p := D.int x2.1) (q := D.int 2) (e1 := [.own true (List.map D.int x2.2), .val (D.int most_)]) (e2 := [.own true (List.map D.int x2.2), .val (D.int most_)]) (x_call (e2 := [.own true (List.map D.int x2.2), .val (D.int most_)]) (rO_ok rfl (rD_ok (x := D.int 5) (e1 := [.own true (List.map D.int pool_here_), .val (D.int most_)]) rfl rNil_eq) ⟨_, _, rfl⟩) rfl k1 rfl) rfl rfl)) c4 rfl) ?_
    obtain ⟨x9, h10, h⟩ := bsome h
    have k8 := t__law_take x2.2 most_ h10
    have hE := Option.some.inj h; subst hE
    exact ot_rt (e2 := [.own true (List.map D.int x9.2), .val (D.int most_)]) (fRet_ok (fTup_ok (fCons_ok (x := D.str ("remove" : Str)) (e1 := [.own true (List.map D.int x2.2), .val (D.int most_)]) rfl (fCons_ok (x := D.int (1 + x9.1)) (e1 := [.own true (List.map D.int x9.2), .val (D.int most_)]) (x_op (p := D.int 1) (q := D.int x9.1) (e1 := [.own true (List.map D.int x2.2), .val (D.int most_)]) (e2 := [.own true (List.map D.int x9.2), .val (D.int most_)]) rfl (x_call (e2 := [.own true (List.map D.int x9.2), .val (D.int most_)]) (rO_ok rfl (rD_ok (x := D.int most_) (e1 := [.own true (List.map D.int x2.2), .val (D.int most_)]) rfl rNil_eq) ⟨_, _, rfl⟩) rfl k8 rfl) rfl) fNil_eq)) (by show (2 : Nat) ≤ 16777216; decide))) ⟨rfl, rfl⟩
noncomputable def p__law_steps (pool_here_ : (List Int)) (many_ : Int) (most_ : Int) : Option ((List Stp) × (List Int)) := (p__law_take pool_here_ (many_ + 1)).bind fun x2 => (lcH (fun y4 (s8 : (List Int)) => (p__law_step s8 most_).bind fun x10 => some (x10.1, x10.2)) (rngP 0 x2.1) x2.2).bind fun x12 => some (x12.1, x12.2)
theorem t__law_steps (pool_here_ : (List Int)) (many_ : Int) (most_ : Int) {r : ((List Stp) × (List Int))} (h : p__law_steps pool_here_ many_ most_ = some r) : R__law_steps [.own true (List.map D.int pool_here_), .val (D.int many_), .val (D.int most_)] = .ok (D.lst (List.map stD r.1)) [.own true (List.map D.int r.2), .no, .no] := by
  unfold p__law_steps at h
  refine run_Ot (n := 3) (m := 4) (P := fun _ _ => False) (dD := fun (r : ((List Stp) × (List Int))) => D.lst (List.map stD r.1)) (os := fun (r : ((List Stp) × (List Int))) => [.own true (List.map D.int r.2), .no, .no]) (r := r) ?_ rfl (by decide)
  change Ot g__law_steps [.own true (List.map D.int pool_here_), .val (D.int many_), .val (D.int most_), .no] (fun (_ : Unit) _ => False) (fun (r : ((List Stp) × (List Int))) => Fl.rt (D.lst (List.map stD r.1))) (Fin 3 4 (fun (r : ((List Stp) × (List Int))) => [.own true (List.map D.int r.2), .no, .no])) (.rt r)
  unfold g__law_steps
  obtain ⟨x2, h3, h⟩ := bsome h
  have k1 := t__law_take pool_here_ (many_ + 1) h3
  obtain ⟨x12, h13, h⟩ := bsome h
  have hE := Option.some.inj h; subst hE
  exact ot_rt (e2 := [.own true (List.map D.int x12.2), .val (D.int many_), .val (D.int most_), .no]) (fRet_ok (fL_ok (fLc_S (enc := D.int) (encB := stD) (E := fun s8 => [.own true (List.map D.int s8), .val (D.int many_), .val (D.int most_), .no]) h13 (x_rng1 (x_call (e2 := [.own true (List.map D.int x2.2), .val (D.int many_), .val (D.int most_), .no]) (rO_ok rfl (rD_ok (x := D.int (many_ + 1)) (e1 := [.own true (List.map D.int pool_here_), .val (D.int many_), .val (D.int most_), .no]) rfl rNil_eq) ⟨_, _, rfl⟩) rfl k1 rfl)) rfl rfl (fun y4 s8 r14 h => by (obtain ⟨x10, h11, h⟩ := bsome h; have k9 := t__law_step s8 most_ h11; have hE := Option.some.inj h; subst hE; exact ⟨[.own true (List.map D.int s8), .val (D.int many_), .val (D.int most_), .val (D.int y4)], [.own true (List.map D.int x10.2), .val (D.int many_), .val (D.int most_), .val (D.int y4)], rfl, rfl, x_call (e2 := [.own true (List.map D.int x10.2), .val (D.int many_), .val (D.int most_), .val (D.int y4)]) (rO_ok rfl (rD_ok (x := D.int most_) (e1 := [.own true (List.map D.int s8), .val (D.int many_), .val (D.int most_), .val (D.int y4)]) rfl rNil_eq) ⟨_, _, rfl⟩) rfl k9 rfl, rfl, rfl⟩))))) ⟨rfl, rfl⟩
theorem t_is_integer (value_ : Int) {r : Bool} (h : p_is_integer value_ = some r) : R_is_integer [.val (D.int value_)] = .ok (D.bl r) [.no] := by
  unfold p_is_integer at h
  refine run_Ot (n := 1) (m := 1) (P := fun _ _ => False) (dD := fun (r : Bool) => D.bl r) (os := fun (r : Bool) => [.no]) (r := r) ?_ rfl (by decide)
  change Ot g_is_integer [.val (D.int value_)] (fun (_ : Unit) _ => False) (fun (r : Bool) => Fl.rt (D.bl r)) (Fin 1 1 (fun (r : Bool) => [.no])) (.rt r)
  unfold g_is_integer
  have hE := Option.some.inj h; subst hE
  exact ot_rt (e2 := [.val (D.int value_)]) (fRet_ok (fAndV_ok rfl rfl)) ⟨rfl, rfl⟩
theorem t_is_rank (value_ : Int) {r : Bool} (h : p_is_rank value_ = some r) : R_is_rank [.val (D.int value_)] = .ok (D.bl r) [.no] := by
  unfold p_is_rank at h
  refine run_Ot (n := 1) (m := 1) (P := fun _ _ => False) (dD := fun (r : Bool) => D.bl r) (os := fun (r : Bool) => [.no]) (r := r) ?_ rfl (by decide)
  change Ot g_is_rank [.val (D.int value_)] (fun (_ : Unit) _ => False) (fun (r : Bool) => Fl.rt (D.bl r)) (Fin 1 1 (fun (r : Bool) => [.no])) (.rt r)
  unfold g_is_rank
  obtain ⟨x2, h3, h⟩ := bsome h
  have k1 := t_is_integer value_ h3
  have hE := Option.some.inj h; subst hE
  exact ot_rt (e2 := [.val (D.int value_)]) (fRet_ok (fAndV_ok (x_call (e2 := [.val (D.int value_)]) (rD_ok (x := D.int value_) (e1 := [.val (D.int value_)]) rfl rNil_eq) rfl k1 (putO_id rfl)) rfl)) ⟨rfl, rfl⟩
theorem t_Sequence_is_step (value_ : Stp) {r : Bool} (h : p_Sequence_is_step value_ = some r) : R_Sequence_is_step [.val (stD value_)] = .ok (D.bl r) [.no] := by
  unfold p_Sequence_is_step at h
  refine run_Ot (n := 1) (m := 1) (P := fun _ _ => False) (dD := fun (r : Bool) => D.bl r) (os := fun (r : Bool) => [.no]) (r := r) ?_ rfl (by decide)
  change Ot g_Sequence_is_step [.val (stD value_)] (fun (_ : Unit) _ => False) (fun (r : Bool) => Fl.rt (D.bl r)) (Fin 1 1 (fun (r : Bool) => [.no])) (.rt r)
  unfold g_Sequence_is_step
  by_cases c1 : ((!true) || ((!decide (2 = 2)) || (!true))) = true
  · rw [if_pos c1] at h
    refine ot_seq_rt (P' := fun (_ : Unit) _ => False) (.inl ⟨_, rfl⟩) (ot_if_t (fOr_ok rfl (fOr_ok (fB_ok (x_op (p := D.int 2) (q := D.int 2) (e1 := [.val (stD value_)]) (e2 := [.val (stD value_)]) (x_d1 (p := stD value_) rfl rfl) rfl (o_ne (F := D.int) PE.int (a := 2) (b := 2)))) rfl)) c1 ?_)
    have hE := Option.some.inj h; subst hE
    exact ot_rt (e2 := [.val (stD value_)]) (fRet_ok rfl) ⟨rfl, rfl⟩
  · rw [if_neg c1] at h
    refine ot_seq (e1 := [.val (stD value_)]) (fIf_n (fOr_ok rfl (fOr_ok (fB_ok (x_op (p := D.int 2) (q := D.int 2) (e1 := [.val (stD value_)]) (e2 := [.val (stD value_)]) (x_d1 (p := stD value_) rfl rfl) rfl (o_ne (F := D.int) PE.int (a := 2) (b := 2)))) rfl)) c1 rfl) ?_
    by_cases c2 : value_.1 = true
    · rw [if_pos c2] at h
      refine ot_seq_rt (P' := fun (_ : Unit) _ => False) (.inl ⟨_, rfl⟩) (ot_if_t (fB_ok (x_op (p := D.str (wd value_.1)) (q := D.str ("insert" : Str)) (e1 := [.val (stD value_)]) (e2 := [.val (stD value_)]) rfl rfl o_wdI)) c2 ?_)
      obtain ⟨x4, h5, h⟩ := bsome h
      have k3 := t_is_integer value_.2 h5
      have hE := Option.some.inj h; subst hE
      exact ot_rt (e2 := [.val (stD value_)]) (fRet_ok (x_call (e2 := [.val (stD value_)]) (rD_ok (x := D.int value_.2) (e1 := [.val (stD value_)]) rfl rNil_eq) rfl k3 (putO_id rfl))) ⟨rfl, rfl⟩
    · rw [if_neg c2] at h
      refine ot_seq (e1 := [.val (stD value_)]) (fIf_n (fB_ok (x_op (p := D.str (wd value_.1)) (q := D.str ("insert" : Str)) (e1 := [.val (stD value_)]) (e2 := [.val (stD value_)]) rfl rfl o_wdI)) c2 rfl) ?_
      obtain ⟨x10, h11, h⟩ := bsome h
      have hE := Option.some.inj h; subst hE
      exact ot_rt (e2 := [.val (stD value_)]) (fRet_ok (x_andV (p := (!value_.1)) (x_op (p := D.str (wd value_.1)) (q := D.str ("remove" : Str)) (e1 := [.val (stD value_)]) (e2 := [.val (stD value_)]) rfl rfl o_wdR) (fun c9 => by (have h := h11; rw [if_pos c9] at h; obtain ⟨x7, h8, h⟩ := bsome h; have k6 := t_is_rank value_.2 h8; have hE := Option.some.inj h; subst hE; exact x_call (e2 := [.val (stD value_)]) (rD_ok (x := D.int value_.2) (e1 := [.val (stD value_)]) rfl rNil_eq) rfl k6 (putO_id rfl))) (fun c9 => by (have h := h11; rw [if_neg (show ¬ ((!value_.1) = true) from fun z => Bool.false_ne_true (Eq.trans (Eq.symm c9) z))] at h; exact (Option.some.inj h).symm)))) ⟨rfl, rfl⟩
theorem t_check_steps (steps_ : (List Stp)) {r : Unit} (h : p_check_steps steps_ = some r) : R_check_steps [.val (D.tup (List.map stD steps_))] = .ok .non [.no] := by
  unfold p_check_steps at h
  refine runX_Ot (n := 1) (m := 2) (os := fun (r : Unit) => [.no]) (s := r) ?_ rfl (by decide)
  change Ot (R := Unit) g_check_steps [.val (D.tup (List.map stD steps_)), .no] (fun (r : Unit) e => Fin 1 2 (fun (r : Unit) => [.no]) r e) (fun _ => .rt .non) (fun _ _ => True) (.nx r)
  unfold g_check_steps
  obtain ⟨s3, h4, h⟩ := bsome h
  have hE := Option.some.inj h; subst hE
  refine ⟨[.val (D.tup (List.map stD steps_)), .no], ?_, ⟨rfl, rfl⟩⟩
  refine fWk_ok (e1 := [.val (D.tup (List.map stD steps_)), .no]) (fFor_S (enc := stD) (E := fun (s2 : Unit) => [.val (D.tup (List.map stD steps_)), .no]) h4 (x_wT (F := stD) rfl) (fun y1 s2 s9 h => ?_)) rfl
  refine ⟨[.val (D.tup (List.map stD steps_)), .val (stD y1)], rfl, nx_wk ?_⟩
  obtain ⟨x6, h7, h⟩ := bsome h
  have k5 := t_Sequence_is_step y1 h7
  by_cases c8 : (!x6) = true
  · rw [if_pos c8] at h
    refine ot_if_t (fNot_ok (fB_ok (x_call (e2 := [.val (D.tup (List.map stD steps_)), .val (stD y1)]) (rD_ok (x := stD y1) (e1 := [.val (D.tup (List.map stD steps_)), .val (stD y1)]) rfl rNil_eq) rfl k5 (putO_id rfl)))) c8 ?_
    cases h
  · rw [if_neg c8] at h
    refine ot_if_f (fNot_ok (fB_ok (x_call (e2 := [.val (D.tup (List.map stD steps_)), .val (stD y1)]) (rD_ok (x := stD y1) (e1 := [.val (D.tup (List.map stD steps_)), .val (stD y1)]) rfl rNil_eq) rfl k5 (putO_id rfl)))) c8 ?_
    have hE := Option.some.inj h; subst hE
    exact ⟨_, rfl, rfl⟩
theorem t_Sequence___init__ (steps_ : (List Stp)) {r : (List Stp)} (h : p_Sequence___init__ steps_ = some r) : R_Sequence___init__ (.oin true "Sequence" [] [] :: (List.map stD steps_).map Sl.val) = .ok .non (.oin true "Sequence" ["parts"] [D.tup (List.map stD r)] :: List.replicate (List.map stD steps_).length .no) := by
  unfold p_Sequence___init__ at h
  obtain ⟨z, hz, h⟩ := bsome h
  unfold lstP at hz
  split at hz
  case isFalse => cases hz
  rename_i hl
  cases hz
  refine runS_ini (by rw [List.length_map]; exact hl) ?_
  refine runX_Ot (n := 2) (m := 2) (os := fun (r : (List Stp)) => [.oin true "Sequence" ["parts"] [D.tup (List.map stD r)], .no]) (s := r) ?_ rfl (by decide)
  change Ot (R := Unit) g_Sequence___init__ [.oin true "Sequence" [] [], .val (D.tup (List.map stD steps_))] (fun (r : (List Stp)) e => Fin 2 2 (fun (r : (List Stp)) => [.oin true "Sequence" ["parts"] [D.tup (List.map stD r)], .no]) r e) (fun _ => .rt .non) (fun _ _ => True) (.nx r)
  unfold g_Sequence___init__
  obtain ⟨x2, h3, h⟩ := bsome h
  have k1 := t_check_steps steps_ h3
  refine ot_seq (e1 := [.oin true "Sequence" [] [], .val (D.tup (List.map stD steps_))]) (fDrop_ok (x_call (e2 := [.oin true "Sequence" [] [], .val (D.tup (List.map stD steps_))]) (rD_ok (x := D.tup (List.map stD steps_)) (e1 := [.oin true "Sequence" [] [], .val (D.tup (List.map stD steps_))]) rfl rNil_eq) rfl k1 (putO_id rfl))) ?_
  have hE := Option.some.inj h; subst hE
  refine ⟨[.oin true "Sequence" ["parts"] [D.tup (List.map stD steps_)], .val (D.tup (List.map stD steps_))], ?_, ⟨rfl, rfl⟩⟩
  exact x_fldS (d := D.tup (List.map stD steps_)) (e1 := [.oin true "Sequence" [] [], .val (D.tup (List.map stD steps_))]) rfl rfl
theorem t_Sequence___add__ (self_ : (List Stp)) (other_ : (List Stp)) {r : (List Stp)} (h : p_Sequence___add__ self_ other_ = some r) : R_Sequence___add__ [.val (sqD self_), .val (sqD other_)] = .ok (sqD r) [.no, .no] := by
  unfold p_Sequence___add__ at h
  refine run_Ot (n := 2) (m := 2) (P := fun _ _ => False) (dD := fun (r : (List Stp)) => sqD r) (os := fun (r : (List Stp)) => [.no, .no]) (r := r) ?_ rfl (by decide)
  change Ot g_Sequence___add__ [.val (sqD self_), .val (sqD other_)] (fun (_ : Unit) _ => False) (fun (r : (List Stp)) => Fl.rt (sqD r)) (Fin 2 2 (fun (r : (List Stp)) => [.no, .no])) (.rt r)
  unfold g_Sequence___add__
  obtain ⟨x2, h3, h⟩ := bsome h
  have k1 := t_Sequence___init__ (self_ ++ other_) h3
  have hE := Option.some.inj h; subst hE
  exact ot_rt (e2 := [.val (sqD self_), .val (sqD other_)]) (fRet_ok (x_make (x_star (F := stD) (xs := self_) (e1 := [.val (sqD self_), .val (sqD other_)]) (x_iT rfl) (x_star0 (F := stD) (xs := other_) (e1 := [.val (sqD self_), .val (sqD other_)]) (x_iT rfl) fNil_eq)) ⟨_, _, _, _, rfl, k1⟩)) ⟨rfl, rfl⟩
theorem t__law_sequence (steps_here_ : (List Stp)) {r : (List Stp)} (h : p__law_sequence steps_here_ = some r) : R__law_sequence [.val (D.lst (List.map stD steps_here_))] = .ok (sqD r) [.no] := by
  unfold p__law_sequence at h
  refine run_Ot (n := 1) (m := 3) (P := fun _ _ => False) (dD := fun (r : (List Stp)) => sqD r) (os := fun (r : (List Stp)) => [.no]) (r := r) ?_ rfl (by decide)
  change Ot g__law_sequence [.val (D.lst (List.map stD steps_here_)), .no, .no] (fun (_ : Unit) _ => False) (fun (r : (List Stp)) => Fl.rt (sqD r)) (Fin 1 3 (fun (r : (List Stp)) => [.no])) (.rt r)
  unfold g__law_sequence
  obtain ⟨x2, h3, h⟩ := bsome h
  have k1 := t_Sequence___init__ ([] : List Stp) h3
  refine ot_seq (e1 := [.val (D.lst (List.map stD steps_here_)), .val (sqD x2), .no]) (fSetT_ok (x := sqD x2) (u := ()) (e1 := [.val (D.lst (List.map stD steps_here_)), .no, .no]) (x_make x_nil ⟨_, _, _, _, rfl, k1⟩) rfl) ?_
  obtain ⟨s6, h7, h⟩ := bsome h
  refine ot_seq (e1 := [.val (D.lst (List.map stD steps_here_)), .val (sqD s6), .no]) ?_ ?_
  · refine fWk_ok (e1 := [.val (D.lst (List.map stD steps_here_)), .val (sqD s6), .no]) (fFor_S (enc := stD) (E := fun (s5 : (List Stp)) => [.val (D.lst (List.map stD steps_here_)), .val (sqD s5), .no]) h7 (x_wL (F := stD) rfl) (fun y4 s5 s14 h => ?_)) rfl
    refine ⟨[.val (D.lst (List.map stD steps_here_)), .val (sqD s5), .val (stD y4)], rfl, nx_wk ?_⟩
    obtain ⟨x9, h10, h⟩ := bsome h
    have k8 := t_Sequence___init__ (y4 :: ([] : List Stp)) h10
    obtain ⟨x12, h13, h⟩ := bsome h
    have k11 := t_Sequence___add__ s5 x9 h13
    have hE := Option.some.inj h; subst hE
    refine ⟨[.val (D.lst (List.map stD steps_here_)), .val (sqD x12), .val (stD y4)], ?_, rfl⟩
    exact fSetT_ok (x := sqD x12) (u := ()) (e1 := [.val (D.lst (List.map stD steps_here_)), .val (sqD s5), .val (stD y4)]) (x_own rfl (x_make (x_cons (F := stD) (x := y4) (e1 := [.val (D.lst (List.map stD steps_here_)), .val (sqD s5), .val (stD y4)]) rfl (x_nil (F := stD))) ⟨_, _, _, _, rfl, k8⟩) k11) rfl
  · have hE := Option.some.inj h; subst hE
    exact ot_rt (e2 := [.val (D.lst (List.map stD steps_here_)), .val (sqD s6), .no]) (fRet_ok rfl) ⟨rfl, rfl⟩
theorem t_Sequence_steps (self_ : (List Stp)) {r : (List Stp)} (h : p_Sequence_steps self_ = some r) : R_Sequence_steps [.val (sqD self_)] = .ok (D.tup (List.map stD r)) [.no] := by
  unfold p_Sequence_steps at h
  refine run_Ot (n := 1) (m := 1) (P := fun _ _ => False) (dD := fun (r : (List Stp)) => D.tup (List.map stD r)) (os := fun (r : (List Stp)) => [.no]) (r := r) ?_ rfl (by decide)
  change Ot g_Sequence_steps [.val (sqD self_)] (fun (_ : Unit) _ => False) (fun (r : (List Stp)) => Fl.rt (D.tup (List.map stD r))) (Fin 1 1 (fun (r : (List Stp)) => [.no])) (.rt r)
  unfold g_Sequence_steps
  have hE := Option.some.inj h; subst hE
  exact ot_rt (e2 := [.val (sqD self_)]) (fRet_ok rfl) ⟨rfl, rfl⟩
theorem t_least_reaching (start_ : Int) (lost_ : (Bool × List Int)) (count_ : Int) {r : Int} (h : p_least_reaching start_ lost_ count_ = some r) : R_least_reaching [.val (D.int start_), .val ((sqG D.int) lost_), .val (D.int count_)] = .ok (D.int r) [.no, .no, .no] := by
  unfold p_least_reaching at h
  refine run_Ot (n := 3) (m := 5) (P := fun _ _ => False) (dD := fun (r : Int) => D.int r) (os := fun (r : Int) => [.no, .no, .no]) (r := r) ?_ rfl (by decide)
  change Ot g_least_reaching [.val (D.int start_), .val ((sqG D.int) lost_), .val (D.int count_), .no, .no] (fun (_ : Unit) _ => False) (fun (r : Int) => Fl.rt (D.int r)) (Fin 3 5 (fun (r : Int) => [.no, .no, .no])) (.rt r)
  unfold g_least_reaching
  refine ot_seq (e1 := [.val (D.int start_), .val ((sqG D.int) lost_), .val (D.int count_), .val (D.int (if (decide (start_ < count_)) = true then count_ - start_ else 0)), .no]) (fSetT_ok (x := D.int (if (decide (start_ < count_)) = true then count_ - start_ else 0)) (u := ()) (e1 := [.val (D.int start_), .val ((sqG D.int) lost_), .val (D.int count_), .no, .no]) (x_if (p := (decide (start_ < count_))) (r := .ok (D.int (if (decide (start_ < count_)) = true then count_ - start_ else 0)) [.val (D.int start_), .val ((sqG D.int) lost_), .val (D.int count_), .no, .no]) rfl (fun c1 => by rw [if_pos c1]; exact rfl) (fun c1 => by rw [if_neg (show ¬ ((decide (start_ < count_)) = true) from fun z => Bool.false_ne_true (Eq.trans (Eq.symm c1) z))]; exact rfl)) rfl) ?_
  obtain ⟨s4, h5, h⟩ := bsome h
  refine ot_seq (e1 := [.val (D.int start_), .val ((sqG D.int) lost_), .val (D.int count_), .val (D.int s4), .no]) ?_ ?_
  · refine fWk_ok (e1 := [.val (D.int start_), .val ((sqG D.int) lost_), .val (D.int count_), .val (D.int s4), .no]) (fFor_S (enc := D.int) (E := fun (s3 : Int) => [.val (D.int start_), .val ((sqG D.int) lost_), .val (D.int count_), .val (D.int s3), .no]) h5 (x_wG (F := D.int) rfl) (fun y2 s3 s7 h => ?_)) rfl
    refine ⟨[.val (D.int start_), .val ((sqG D.int) lost_), .val (D.int count_), .val (D.int s3), .val (D.int y2)], rfl, nx_wk ?_⟩
    by_cases c6 : (decide (y2 ≤ s3)) = true
    · rw [if_pos c6] at h
      refine ot_if_t rfl c6 ?_
      have hE := Option.some.inj h; subst hE
      refine ⟨[.val (D.int start_), .val ((sqG D.int) lost_), .val (D.int count_), .val (D.int (s3 + 1)), .val (D.int y2)], ?_, rfl⟩
      exact fSetT_ok (x := D.int (s3 + 1)) (u := ()) (e1 := [.val (D.int start_), .val ((sqG D.int) lost_), .val (D.int count_), .val (D.int s3), .val (D.int y2)]) rfl rfl
    · rw [if_neg c6] at h
      refine ot_if_f rfl c6 ?_
      have hE := Option.some.inj h; subst hE
      exact ⟨_, rfl, rfl⟩
  · have hE := Option.some.inj h; subst hE
    exact ot_rt (e2 := [.val (D.int start_), .val ((sqG D.int) lost_), .val (D.int count_), .val (D.int s4), .no]) (fRet_ok rfl) ⟨rfl, rfl⟩
theorem t_is_count (value_ : Int) {r : Bool} (h : p_is_count value_ = some r) : R_is_count [.val (D.int value_)] = .ok (D.bl r) [.no] := by
  unfold p_is_count at h
  refine run_Ot (n := 1) (m := 1) (P := fun _ _ => False) (dD := fun (r : Bool) => D.bl r) (os := fun (r : Bool) => [.no]) (r := r) ?_ rfl (by decide)
  change Ot g_is_count [.val (D.int value_)] (fun (_ : Unit) _ => False) (fun (r : Bool) => Fl.rt (D.bl r)) (Fin 1 1 (fun (r : Bool) => [.no])) (.rt r)
  unfold g_is_count
  obtain ⟨x2, h3, h⟩ := bsome h
  have k1 := t_is_integer value_ h3
  have hE := Option.some.inj h; subst hE
  exact ot_rt (e2 := [.val (D.int value_)]) (fRet_ok (fAndV_ok (x_call (e2 := [.val (D.int value_)]) (rD_ok (x := D.int value_) (e1 := [.val (D.int value_)]) rfl rNil_eq) rfl k1 (putO_id rfl)) rfl)) ⟨rfl, rfl⟩
theorem t_are_lost_ranks (value_ : (Bool × List Int)) {r : Bool} (h : p_are_lost_ranks value_ = some r) : R_are_lost_ranks [.val ((sqG D.int) value_)] = .ok (D.bl r) [.no] := by
  unfold p_are_lost_ranks at h
  refine run_Ot (n := 1) (m := 4) (P := fun _ _ => False) (dD := fun (r : Bool) => D.bl r) (os := fun (r : Bool) => [.no]) (r := r) ?_ rfl (by decide)
  change Ot g_are_lost_ranks [.val ((sqG D.int) value_), .no, .no, .no] (fun (_ : Unit) _ => False) (fun (r : Bool) => Fl.rt (D.bl r)) (Fin 1 4 (fun (r : Bool) => [.no])) (.rt r)
  unfold g_are_lost_ranks
  obtain ⟨x9, h10, h⟩ := bsome h
  by_cases c11 : x9 = true
  · rw [if_pos c11] at h
    refine ot_seq_rt (P' := fun (_ : Unit) _ => False) (.inl ⟨_, rfl⟩) (ot_if_t (x_or (q := true) (p := (!true)) (fNot_ok (fB_ok (bdli rfl is2_seq))) (fun c8 => by (have h := h10; rw [if_neg (show ¬ ((!true) = true) from fun z => Bool.false_ne_true (Eq.trans (Eq.symm c8) z))] at h; obtain ⟨x6, h7, h⟩ := bsome h; have hE := Option.some.inj h; subst hE; exact fNot_ok (fB_ok (x_d1 (p := D.lst (List.map D.bl x6)) (fL_ok (fLc_O (enc := D.int) (encB := D.bl) h7 (x_wG (F := D.int) rfl) rfl rfl (fun y1 o5 h => by (obtain ⟨x3, h4, h⟩ := bsome h; have k2 := t_is_rank y1 h4; have hE := Option.some.inj h; subst hE; exact ⟨[.val ((sqG D.int) value_), .no, .no, .val (D.int y1)], rfl, ⟨rfl, x_call (e2 := [.val ((sqG D.int) value_), .no, .no, .val (D.int y1)]) (rD_ok (x := D.int y1) (e1 := [.val ((sqG D.int) value_), .no, .no, .val (D.int y1)]) rfl rNil_eq) rfl k2 (putO_id rfl)⟩, rfl, rfl⟩)))) l_all)))) (fun c8 => by (have h := h10; rw [if_pos c8] at h; exact (Option.some.inj h).symm))) c11 ?_)
    have hE := Option.some.inj h; subst hE
    exact ot_rt (e2 := [.val ((sqG D.int) value_), .no, .no, .no]) (fRet_ok rfl) ⟨rfl, rfl⟩
  · rw [if_neg c11] at h
    refine ot_seq (e1 := [.val ((sqG D.int) value_), .no, .no, .no]) (fIf_n (x_or (q := true) (p := (!true)) (fNot_ok (fB_ok (bdli rfl is2_seq))) (fun c8 => by (have h := h10; rw [if_neg (show ¬ ((!true) = true) from fun z => Bool.false_ne_true (Eq.trans (Eq.symm c8) z))] at h; obtain ⟨x6, h7, h⟩ := bsome h; have hE := Option.some.inj h; subst hE; exact fNot_ok (fB_ok (x_d1 (p := D.lst (List.map D.bl x6)) (fL_ok (fLc_O (enc := D.int) (encB := D.bl) h7 (x_wG (F := D.int) rfl) rfl rfl (fun y1 o5 h => by (obtain ⟨x3, h4, h⟩ := bsome h; have k2 := t_is_rank y1 h4; have hE := Option.some.inj h; subst hE; exact ⟨[.val ((sqG D.int) value_), .no, .no, .val (D.int y1)], rfl, ⟨rfl, x_call (e2 := [.val ((sqG D.int) value_), .no, .no, .val (D.int y1)]) (rD_ok (x := D.int y1) (e1 := [.val ((sqG D.int) value_), .no, .no, .val (D.int y1)]) rfl rNil_eq) rfl k2 (putO_id rfl)⟩, rfl, rfl⟩)))) l_all)))) (fun c8 => by (have h := h10; rw [if_pos c8] at h; exact (Option.some.inj h).symm))) c11 rfl) ?_
    obtain ⟨x13, h14, h⟩ := bsome h
    have hE := Option.some.inj h; subst hE
    exact ot_rt (e2 := [.val ((sqG D.int) value_), .no, .no, .no]) (fRet_ok (x_d1 (p := D.lst (List.map D.bl x13)) (fL_ok (fLc_T (enc := (eP D.int D.int)) (encB := D.bl) h14 (x_zipG (F := D.int) (G := D.int) (e1 := [.val ((sqG D.int) value_), .no, .no, .no]) rfl (x_slG rfl (x_part rfl) rfl) rfl) rfl rfl (fun y12 => ⟨[.val ((sqG D.int) value_), .val (D.int y12.1), .val (D.int y12.2), .no], rfl, rfl, fun _ => rfl, rfl, rfl⟩))) l_all)) ⟨rfl, rfl⟩
theorem t_Table___init__ (start_ : Int) (lost_ : (Bool × List Int)) {r : (Int × List Int)} (h : p_Table___init__ start_ lost_ = some r) : R_Table___init__ [.oin true "Table" [] [], .val (D.int start_), .val ((sqG D.int) lost_)] = .ok .non [.oin true "Table" ["base", "gone"] [D.int r.1, D.tup (List.map D.int r.2)], .no, .no] := by
  unfold p_Table___init__ at h
  refine runX_Ot (n := 3) (m := 3) (os := fun (r : (Int × List Int)) => [.oin true "Table" ["base", "gone"] [D.int r.1, D.tup (List.map D.int r.2)], .no, .no]) (s := r) ?_ rfl (by decide)
  change Ot (R := Unit) g_Table___init__ [.oin true "Table" [] [], .val (D.int start_), .val ((sqG D.int) lost_)] (fun (r : (Int × List Int)) e => Fin 3 3 (fun (r : (Int × List Int)) => [.oin true "Table" ["base", "gone"] [D.int r.1, D.tup (List.map D.int r.2)], .no, .no]) r e) (fun _ => .rt .non) (fun _ _ => True) (.nx r)
  unfold g_Table___init__
  obtain ⟨x2, h3, h⟩ := bsome h
  have k1 := t_is_count start_ h3
  obtain ⟨x8, h9, h⟩ := bsome h
  by_cases c10 : x8 = true
  · rw [if_pos c10] at h
    cases h
  · rw [if_neg c10] at h
    refine ot_seq (e1 := [.oin true "Table" [] [], .val (D.int start_), .val ((sqG D.int) lost_)]) (fIf_n (x_or (q := true) (p := (!x2)) (fNot_ok (fB_ok (x_call (e2 := [.oin true "Table" [] [], .val (D.int start_), .val ((sqG D.int) lost_)]) (rD_ok (x := D.int start_) (e1 := [.oin true "Table" [] [], .val (D.int start_), .val ((sqG D.int) lost_)]) rfl rNil_eq) rfl k1 (putO_id rfl)))) (fun c7 => by (have h := h9; rw [if_neg (show ¬ ((!x2) = true) from fun z => Bool.false_ne_true (Eq.trans (Eq.symm c7) z))] at h; obtain ⟨x5, h6, h⟩ := bsome h; have k4 := t_are_lost_ranks lost_ h6; have hE := Option.some.inj h; subst hE; exact fNot_ok (fB_ok (x_call (e2 := [.oin true "Table" [] [], .val (D.int start_), .val ((sqG D.int) lost_)]) (rD_ok (x := (sqG D.int) lost_) (e1 := [.oin true "Table" [] [], .val (D.int start_), .val ((sqG D.int) lost_)]) rfl rNil_eq) rfl k4 (putO_id rfl))))) (fun c7 => by (have h := h9; rw [if_pos c7] at h; exact (Option.some.inj h).symm))) c10 rfl) ?_
    refine ot_seq (e1 := [.oin true "Table" ["base"] [D.int start_], .val (D.int start_), .val ((sqG D.int) lost_)]) (x_fldS (d := D.int start_) (e1 := [.oin true "Table" [] [], .val (D.int start_), .val ((sqG D.int) lost_)]) rfl rfl) ?_
    have hE := Option.some.inj h; subst hE
    refine ⟨[.oin true "Table" ["base", "gone"] [D.int start_, D.tup (List.map D.int lost_.2)], .val (D.int start_), .val ((sqG D.int) lost_)], ?_, ⟨rfl, rfl⟩⟩
    exact x_fldS (d := D.tup (List.map D.int lost_.2)) (e1 := [.oin true "Table" ["base"] [D.int start_], .val (D.int start_), .val ((sqG D.int) lost_)]) (x_d1 (p := (sqG D.int) lost_) rfl l_tuplG) rfl
theorem t_table_at (steps_ : (List Stp)) (threshold_ : Int) {r : (Int × List Int)} (h : p_table_at steps_ threshold_ = some r) : R_table_at [.val (D.tup (List.map stD steps_)), .val (D.int threshold_)] = .ok (tD r) [.no, .no] := by
  unfold p_table_at at h
  refine run_Ot (n := 2) (m := 6) (P := fun _ _ => False) (dD := fun (r : (Int × List Int)) => tD r) (os := fun (r : (Int × List Int)) => [.no, .no]) (r := r) ?_ rfl (by decide)
  change Ot g_table_at [.val (D.tup (List.map stD steps_)), .val (D.int threshold_), .no, .no, .no, .no] (fun (_ : Unit) _ => False) (fun (r : (Int × List Int)) => Fl.rt (tD r)) (Fin 2 6 (fun (r : (Int × List Int)) => [.no, .no])) (.rt r)
  unfold g_table_at
  refine ot_seq (e1 := [.val (D.tup (List.map stD steps_)), .val (D.int threshold_), .val (D.int 0), .val (D.lst (List.map D.int [])), .no, .no]) (x_par (p := D.int 0) (q := D.lst (List.map D.int [])) (e1 := [.val (D.tup (List.map stD steps_)), .val (D.int threshold_), .no, .no, .no, .no]) (fCons_ok (x := D.int 0) (e1 := [.val (D.tup (List.map stD steps_)), .val (D.int threshold_), .no, .no, .no, .no]) rfl (fCons_ok (x := D.lst (List.map D.int [])) (e1 := [.val (D.tup (List.map stD steps_)), .val (D.int threshold_), .no, .no, .no, .no]) rfl fNil_eq)) rfl) ?_
  obtain ⟨s3, h4, h⟩ := bsome h
  refine ot_seq (e1 := [.val (D.tup (List.map stD steps_)), .val (D.int threshold_), .val (D.int s3.1), .val (D.lst (List.map D.int s3.2)), .no, .no]) ?_ ?_
  · refine fWk_ok (e1 := [.val (D.tup (List.map stD steps_)), .val (D.int threshold_), .val (D.int s3.1), .val (D.lst (List.map D.int s3.2)), .no, .no]) (fFor_S (enc := stD) (E := fun (s2 : Int × (List Int)) => [.val (D.tup (List.map stD steps_)), .val (D.int threshold_), .val (D.int s2.1), .val (D.lst (List.map D.int s2.2)), .no, .no]) h4 (x_wT (F := stD) rfl) (fun y1 s2 s13 h => ?_)) rfl
    refine ⟨[.val (D.tup (List.map stD steps_)), .val (D.int threshold_), .val (D.int s2.1), .val (D.lst (List.map D.int s2.2)), .val (D.str (wd y1.1)), .val (D.int y1.2)], rfl, nx_wk ?_⟩
    by_cases c5 : ((!y1.1) && (decide (s2.1 < y1.2))) = true
    · rw [if_pos c5] at h
      refine ot_if_t (fAnd_ok (fB_ok (x_op (p := D.str (wd y1.1)) (q := D.str ("remove" : Str)) (e1 := [.val (D.tup (List.map stD steps_)), .val (D.int threshold_), .val (D.int s2.1), .val (D.lst (List.map D.int s2.2)), .val (D.str (wd y1.1)), .val (D.int y1.2)]) (e2 := [.val (D.tup (List.map stD steps_)), .val (D.int threshold_), .val (D.int s2.1), .val (D.lst (List.map D.int s2.2)), .val (D.str (wd y1.1)), .val (D.int y1.2)]) rfl rfl o_wdR)) rfl) c5 ?_
      obtain ⟨x7, h8, h⟩ := bsome h
      have k6 := t_least_reaching s2.1 (false, s2.2) y1.2 h8
      obtain ⟨x9, h10, h⟩ := bsome h
      have hE := Option.some.inj h; subst hE
      refine ⟨[.val (D.tup (List.map stD steps_)), .val (D.int threshold_), .val (D.int s2.1), .val (D.lst (List.map D.int (isort x9))), .val (D.str (wd y1.1)), .val (D.int y1.2)], ?_, rfl⟩
      exact fSetT_ok (x := D.lst (List.map D.int (isort x9))) (u := ()) (e1 := [.val (D.tup (List.map stD steps_)), .val (D.int threshold_), .val (D.int s2.1), .val (D.lst (List.map D.int s2.2)), .val (D.str (wd y1.1)), .val (D.int y1.2)]) (fL_ok (x_sort (fL_ok (x_lstP (F := D.int) h10 (x_star (F := D.int) (xs := s2.2) (e1 := [.val (D.tup (List.map stD steps_)), .val (D.int threshold_), .val (D.int s2.1), .val (D.lst (List.map D.int s2.2)), .val (D.str (wd y1.1)), .val (D.int y1.2)]) (x_iL rfl) (x_cons (F := D.int) (x := x7) (e1 := [.val (D.tup (List.map stD steps_)), .val (D.int threshold_), .val (D.int s2.1), .val (D.lst (List.map D.int s2.2)), .val (D.str (wd y1.1)), .val (D.int y1.2)]) (x_call (e2 := [.val (D.tup (List.map stD steps_)), .val (D.int threshold_), .val (D.int s2.1), .val (D.lst (List.map D.int s2.2)), .val (D.str (wd y1.1)), .val (D.int y1.2)]) (rD_ok (x := D.int s2.1) (e1 := [.val (D.tup (List.map stD steps_)), .val (D.int threshold_), .val (D.int s2.1), .val (D.lst (List.map D.int s2.2)), .val (D.str (wd y1.1)), .val (D.int y1.2)]) rfl (rD_ok (x := D.lst (List.map D.int s2.2)) (e1 := [.val (D.tup (List.map stD steps_)), .val (D.int threshold_), .val (D.int s2.1), .val (D.lst (List.map D.int s2.2)), .val (D.str (wd y1.1)), .val (D.int y1.2)]) rfl (rD_ok (x := D.int y1.2) (e1 := [.val (D.tup (List.map stD steps_)), .val (D.int threshold_), .val (D.int s2.1), .val (D.lst (List.map D.int s2.2)), .val (D.str (wd y1.1)), .val (D.int y1.2)]) rfl rNil_eq))) rfl k6 (putO_id rfl)) (x_nil (F := D.int)))))))) rfl
    · rw [if_neg c5] at h
      refine ot_if_f (fAnd_ok (fB_ok (x_op (p := D.str (wd y1.1)) (q := D.str ("remove" : Str)) (e1 := [.val (D.tup (List.map stD steps_)), .val (D.int threshold_), .val (D.int s2.1), .val (D.lst (List.map D.int s2.2)), .val (D.str (wd y1.1)), .val (D.int y1.2)]) (e2 := [.val (D.tup (List.map stD steps_)), .val (D.int threshold_), .val (D.int s2.1), .val (D.lst (List.map D.int s2.2)), .val (D.str (wd y1.1)), .val (D.int y1.2)]) rfl rfl o_wdR)) rfl) c5 ?_
      by_cases c11 : (!y1.1) = true
      · rw [if_pos c11] at h
        refine ot_if_t (fB_ok (x_op (p := D.str (wd y1.1)) (q := D.str ("remove" : Str)) (e1 := [.val (D.tup (List.map stD steps_)), .val (D.int threshold_), .val (D.int s2.1), .val (D.lst (List.map D.int s2.2)), .val (D.str (wd y1.1)), .val (D.int y1.2)]) (e2 := [.val (D.tup (List.map stD steps_)), .val (D.int threshold_), .val (D.int s2.1), .val (D.lst (List.map D.int s2.2)), .val (D.str (wd y1.1)), .val (D.int y1.2)]) rfl rfl o_wdR)) c11 ?_
        have hE := Option.some.inj h; subst hE
        refine ⟨[.val (D.tup (List.map stD steps_)), .val (D.int threshold_), .val (D.int (s2.1 - 1)), .val (D.lst (List.map D.int s2.2)), .val (D.str (wd y1.1)), .val (D.int y1.2)], ?_, rfl⟩
        exact x_aug (p := D.int s2.1) (q := D.int 1) (e1 := [.val (D.tup (List.map stD steps_)), .val (D.int threshold_), .val (D.int s2.1), .val (D.lst (List.map D.int s2.2)), .val (D.str (wd y1.1)), .val (D.int y1.2)]) rfl rfl rfl rfl
      · rw [if_neg c11] at h
        refine ot_if_f (fB_ok (x_op (p := D.str (wd y1.1)) (q := D.str ("remove" : Str)) (e1 := [.val (D.tup (List.map stD steps_)), .val (D.int threshold_), .val (D.int s2.1), .val (D.lst (List.map D.int s2.2)), .val (D.str (wd y1.1)), .val (D.int y1.2)]) (e2 := [.val (D.tup (List.map stD steps_)), .val (D.int threshold_), .val (D.int s2.1), .val (D.lst (List.map D.int s2.2)), .val (D.str (wd y1.1)), .val (D.int y1.2)]) rfl rfl o_wdR)) c11 ?_
        by_cases c12 : (decide (y1.2 ≤ threshold_)) = true
        · rw [if_pos c12] at h
          refine ot_if_t rfl c12 ?_
          have hE := Option.some.inj h; subst hE
          refine ⟨[.val (D.tup (List.map stD steps_)), .val (D.int threshold_), .val (D.int (s2.1 + 1)), .val (D.lst (List.map D.int s2.2)), .val (D.str (wd y1.1)), .val (D.int y1.2)], ?_, rfl⟩
          exact x_aug (p := D.int s2.1) (q := D.int 1) (e1 := [.val (D.tup (List.map stD steps_)), .val (D.int threshold_), .val (D.int s2.1), .val (D.lst (List.map D.int s2.2)), .val (D.str (wd y1.1)), .val (D.int y1.2)]) rfl rfl rfl rfl
        · rw [if_neg c12] at h
          refine ot_if_f rfl c12 ?_
          have hE := Option.some.inj h; subst hE
          exact ⟨_, rfl, rfl⟩
  · obtain ⟨x15, h16, h⟩ := bsome h
    have k14 := t_Table___init__ s3.1 (false, s3.2) h16
    have hE := Option.some.inj h; subst hE
    exact ot_rt (e2 := [.val (D.tup (List.map stD steps_)), .val (D.int threshold_), .val (D.int s3.1), .val (D.lst (List.map D.int s3.2)), .no, .no]) (fRet_ok (x_make (fCons_ok (x := D.int s3.1) (e1 := [.val (D.tup (List.map stD steps_)), .val (D.int threshold_), .val (D.int s3.1), .val (D.lst (List.map D.int s3.2)), .no, .no]) rfl (fCons_ok (x := D.lst (List.map D.int s3.2)) (e1 := [.val (D.tup (List.map stD steps_)), .val (D.int threshold_), .val (D.int s3.1), .val (D.lst (List.map D.int s3.2)), .no, .no]) rfl fNil_eq)) ⟨_, _, _, _, rfl, k14⟩)) ⟨rfl, rfl⟩
theorem t_Table___eq__ (self_ : (Int × List Int)) (other_ : (Int × List Int)) {r : Bool} (h : p_Table___eq__ self_ other_ = some r) : R_Table___eq__ [.val (tD self_), .val (tD other_)] = .ok (D.bl r) [.no, .no] := by
  unfold p_Table___eq__ at h
  refine run_Ot (n := 2) (m := 2) (P := fun _ _ => False) (dD := fun (r : Bool) => D.bl r) (os := fun (r : Bool) => [.no, .no]) (r := r) ?_ rfl (by decide)
  change Ot g_Table___eq__ [.val (tD self_), .val (tD other_)] (fun (_ : Unit) _ => False) (fun (r : Bool) => Fl.rt (D.bl r)) (Fin 2 2 (fun (r : Bool) => [.no, .no])) (.rt r)
  unfold g_Table___eq__
  have hE := Option.some.inj h; subst hE
  exact ot_rt (e2 := [.val (tD self_), .val (tD other_)]) (fRet_ok (fAndV_ok rfl (fAndV_ok (x_op (p := D.int self_.1) (q := D.int other_.1) (e1 := [.val (tD self_), .val (tD other_)]) (e2 := [.val (tD self_), .val (tD other_)]) rfl rfl (o_eq (F := D.int) PE.int (a := self_.1) (b := other_.1))) (x_op (p := D.tup (List.map D.int self_.2)) (q := D.tup (List.map D.int other_.2)) (e1 := [.val (tD self_), .val (tD other_)]) (e2 := [.val (tD self_), .val (tD other_)]) rfl rfl (o_eq (F := (eT D.int)) (PE.tupl PE.int) (a := self_.2) (b := other_.2)))))) ⟨rfl, rfl⟩
theorem t_merged (breaks_ : (List Int)) (tables_ : (List (Int × List Int))) {r : ((List Int) × (List (Int × List Int)))} (h : p_merged breaks_ tables_ = some r) : R_merged [.val (D.lst (List.map D.int breaks_)), .val (D.lst (List.map tD tables_))] = .ok ((eP (eL D.int) (eL tD)) r) [.no, .no] := by
  unfold p_merged at h
  refine run_Ot (n := 2) (m := 6) (P := fun _ _ => False) (dD := fun (r : ((List Int) × (List (Int × List Int)))) => (eP (eL D.int) (eL tD)) r) (os := fun (r : ((List Int) × (List (Int × List Int)))) => [.no, .no]) (r := r) ?_ rfl (by decide)
  change Ot g_merged [.val (D.lst (List.map D.int breaks_)), .val (D.lst (List.map tD tables_)), .no, .no, .no, .no] (fun (_ : Unit) _ => False) (fun (r : ((List Int) × (List (Int × List Int)))) => Fl.rt ((eP (eL D.int) (eL tD)) r)) (Fin 2 6 (fun (r : ((List Int) × (List (Int × List Int)))) => [.no, .no])) (.rt r)
  unfold g_merged
  refine ot_seq (e1 := [.val (D.lst (List.map D.int breaks_)), .val (D.lst (List.map tD tables_)), .own false (List.map D.int []), .no, .no, .no]) (x_setN (F := D.int) (xs := []) (e1 := [.val (D.lst (List.map D.int breaks_)), .val (D.lst (List.map tD tables_)), .no, .no, .no, .no]) rfl rfl) ?_
  obtain ⟨x1, h2, h⟩ := bsome h
  refine ot_seq (e1 := [.val (D.lst (List.map D.int breaks_)), .val (D.lst (List.map tD tables_)), .own false (List.map D.int []), .own false (List.map tD [x1]), .no, .no]) (x_setN (F := tD) (xs := [x1]) (e1 := [.val (D.lst (List.map D.int breaks_)), .val (D.lst (List.map tD tables_)), .own false (List.map D.int []), .no, .no, .no]) (fLst_ok (fCons_ok (x := tD x1) (e1 := [.val (D.lst (List.map D.int breaks_)), .val (D.lst (List.map tD tables_)), .own false (List.map D.int []), .no, .no, .no]) (x_op (p := D.lst (List.map tD tables_)) (q := D.int 0) (e1 := [.val (D.lst (List.map D.int breaks_)), .val (D.lst (List.map tD tables_)), .own false (List.map D.int []), .no, .no, .no]) (e2 := [.val (D.lst (List.map D.int breaks_)), .val (D.lst (List.map tD tables_)), .own false (List.map D.int []), .no, .no, .no]) rfl rfl (o_at (F := tD) h2)) fNil_eq) (by show (1 : Nat) ≤ 16777216; decide)) rfl) ?_
  obtain ⟨s5, h6, h⟩ := bsome h
  refine ot_seq (e1 := [.val (D.lst (List.map D.int breaks_)), .val (D.lst (List.map tD tables_)), .own false (List.map D.int s5.1), .own false (List.map tD s5.2), .no, .no]) ?_ ?_
  · refine fWk_ok (e1 := [.val (D.lst (List.map D.int breaks_)), .val (D.lst (List.map tD tables_)), .own false (List.map D.int s5.1), .own false (List.map tD s5.2), .no, .no]) (fFor_S (enc := (eP D.int tD)) (E := fun (s4 : (List Int) × (List (Int × List Int))) => [.val (D.lst (List.map D.int breaks_)), .val (D.lst (List.map tD tables_)), .own false (List.map D.int s4.1), .own false (List.map tD s4.2), .no, .no]) h6 (x_zip (F := D.int) (G := tD) (e1 := [.val (D.lst (List.map D.int breaks_)), .val (D.lst (List.map tD tables_)), .own false (List.map D.int []), .own false (List.map tD [x1]), .no, .no]) rfl (x_slL rfl (x_part rfl) rfl)) (fun y3 s4 s17 h => ?_)) rfl
    refine ⟨[.val (D.lst (List.map D.int breaks_)), .val (D.lst (List.map tD tables_)), .own false (List.map D.int s4.1), .own false (List.map tD s4.2), .val (D.int y3.1), .val (tD y3.2)], rfl, nx_wk ?_⟩
    obtain ⟨x7, h8, h⟩ := bsome h
    obtain ⟨x10, h11, h⟩ := bsome h
    have k9 := t_Table___eq__ y3.2 x7 h11
    by_cases c12 : (!x10) = true
    · rw [if_pos c12] at h
      refine ot_if_t (fNot_ok (fB_ok (x_own rfl (x_getA (r := false) (xs := s4.2) (F := tD) rfl rfl h8) k9))) c12 ?_
      obtain ⟨x13, h14, h⟩ := bsome h
      refine ot_seq (e1 := [.val (D.lst (List.map D.int breaks_)), .val (D.lst (List.map tD tables_)), .own false (List.map D.int x13), .own false (List.map tD s4.2), .val (D.int y3.1), .val (tD y3.2)]) (x_app (F := D.int) (xs := s4.1) (x := y3.1) (e1 := [.val (D.lst (List.map D.int breaks_)), .val (D.lst (List.map tD tables_)), .own false (List.map D.int s4.1), .own false (List.map tD s4.2), .val (D.int y3.1), .val (tD y3.2)]) rfl rfl rfl h14) ?_
      obtain ⟨x15, h16, h⟩ := bsome h
      have hE := Option.some.inj h; subst hE
      refine ⟨[.val (D.lst (List.map D.int breaks_)), .val (D.lst (List.map tD tables_)), .own false (List.map D.int x13), .own false (List.map tD x15), .val (D.int y3.1), .val (tD y3.2)], ?_, rfl⟩
      exact x_app (F := tD) (xs := s4.2) (x := y3.2) (e1 := [.val (D.lst (List.map D.int breaks_)), .val (D.lst (List.map tD tables_)), .own false (List.map D.int x13), .own false (List.map tD s4.2), .val (D.int y3.1), .val (tD y3.2)]) rfl rfl rfl h16
    · rw [if_neg c12] at h
      refine ot_if_f (fNot_ok (fB_ok (x_own rfl (x_getA (r := false) (xs := s4.2) (F := tD) rfl rfl h8) k9))) c12 ?_
      have hE := Option.some.inj h; subst hE
      exact ⟨_, rfl, rfl⟩
  · have hE := Option.some.inj h; subst hE
    exact ot_rt (e2 := [.val (D.lst (List.map D.int breaks_)), .val (D.lst (List.map tD tables_)), .val (D.lst (List.map D.int s5.1)), .val (D.lst (List.map tD s5.2)), .no, .no]) (fRet_ok rfl) ⟨rfl, rfl⟩
theorem t_are_breaks (value_ : (Bool × List Int)) {r : Bool} (h : p_are_breaks value_ = some r) : R_are_breaks [.val ((sqG D.int) value_)] = .ok (D.bl r) [.no] := by
  unfold p_are_breaks at h
  refine run_Ot (n := 1) (m := 4) (P := fun _ _ => False) (dD := fun (r : Bool) => D.bl r) (os := fun (r : Bool) => [.no]) (r := r) ?_ rfl (by decide)
  change Ot g_are_breaks [.val ((sqG D.int) value_), .no, .no, .no] (fun (_ : Unit) _ => False) (fun (r : Bool) => Fl.rt (D.bl r)) (Fin 1 4 (fun (r : Bool) => [.no])) (.rt r)
  unfold g_are_breaks
  obtain ⟨x9, h10, h⟩ := bsome h
  by_cases c11 : x9 = true
  · rw [if_pos c11] at h
    refine ot_seq_rt (P' := fun (_ : Unit) _ => False) (.inl ⟨_, rfl⟩) (ot_if_t (x_or (q := true) (p := (!true)) (fNot_ok (fB_ok (bdli rfl is2_seq))) (fun c8 => by (have h := h10; rw [if_neg (show ¬ ((!true) = true) from fun z => Bool.false_ne_true (Eq.trans (Eq.symm c8) z))] at h; obtain ⟨x6, h7, h⟩ := bsome h; have hE := Option.some.inj h; subst hE; exact fNot_ok (fB_ok (x_d1 (p := D.lst (List.map D.bl x6)) (fL_ok (fLc_O (enc := D.int) (encB := D.bl) h7 (x_wG (F := D.int) rfl) rfl rfl (fun y1 o5 h => by (obtain ⟨x3, h4, h⟩ := bsome h; have k2 := t_is_integer y1 h4; have hE := Option.some.inj h; subst hE; exact ⟨[.val ((sqG D.int) value_), .no, .no, .val (D.int y1)], rfl, ⟨rfl, x_call (e2 := [.val ((sqG D.int) value_), .no, .no, .val (D.int y1)]) (rD_ok (x := D.int y1) (e1 := [.val ((sqG D.int) value_), .no, .no, .val (D.int y1)]) rfl rNil_eq) rfl k2 (putO_id rfl)⟩, rfl, rfl⟩)))) l_all)))) (fun c8 => by (have h := h10; rw [if_pos c8] at h; exact (Option.some.inj h).symm))) c11 ?_)
    have hE := Option.some.inj h; subst hE
    exact ot_rt (e2 := [.val ((sqG D.int) value_), .no, .no, .no]) (fRet_ok rfl) ⟨rfl, rfl⟩
  · rw [if_neg c11] at h
    refine ot_seq (e1 := [.val ((sqG D.int) value_), .no, .no, .no]) (fIf_n (x_or (q := true) (p := (!true)) (fNot_ok (fB_ok (bdli rfl is2_seq))) (fun c8 => by (have h := h10; rw [if_neg (show ¬ ((!true) = true) from fun z => Bool.false_ne_true (Eq.trans (Eq.symm c8) z))] at h; obtain ⟨x6, h7, h⟩ := bsome h; have hE := Option.some.inj h; subst hE; exact fNot_ok (fB_ok (x_d1 (p := D.lst (List.map D.bl x6)) (fL_ok (fLc_O (enc := D.int) (encB := D.bl) h7 (x_wG (F := D.int) rfl) rfl rfl (fun y1 o5 h => by (obtain ⟨x3, h4, h⟩ := bsome h; have k2 := t_is_integer y1 h4; have hE := Option.some.inj h; subst hE; exact ⟨[.val ((sqG D.int) value_), .no, .no, .val (D.int y1)], rfl, ⟨rfl, x_call (e2 := [.val ((sqG D.int) value_), .no, .no, .val (D.int y1)]) (rD_ok (x := D.int y1) (e1 := [.val ((sqG D.int) value_), .no, .no, .val (D.int y1)]) rfl rNil_eq) rfl k2 (putO_id rfl)⟩, rfl, rfl⟩)))) l_all)))) (fun c8 => by (have h := h10; rw [if_pos c8] at h; exact (Option.some.inj h).symm))) c11 rfl) ?_
    obtain ⟨x13, h14, h⟩ := bsome h
    have hE := Option.some.inj h; subst hE
    exact ot_rt (e2 := [.val ((sqG D.int) value_), .no, .no, .no]) (fRet_ok (x_d1 (p := D.lst (List.map D.bl x13)) (fL_ok (fLc_T (enc := (eP D.int D.int)) (encB := D.bl) h14 (x_zipG (F := D.int) (G := D.int) (e1 := [.val ((sqG D.int) value_), .no, .no, .no]) rfl (x_slG rfl (x_part rfl) rfl) rfl) rfl rfl (fun y12 => ⟨[.val ((sqG D.int) value_), .val (D.int y12.1), .val (D.int y12.2), .no], rfl, rfl, fun _ => rfl, rfl, rfl⟩))) l_all)) ⟨rfl, rfl⟩
theorem t_are_tables (value_ : (Bool × List (Int × List Int))) (size_ : Int) {r : Bool} (h : p_are_tables value_ size_ = some r) : R_are_tables [.val ((sqG tD) value_), .val (D.int size_)] = .ok (D.bl r) [.no, .no] := by
  unfold p_are_tables at h
  refine run_Ot (n := 2) (m := 5) (P := fun _ _ => False) (dD := fun (r : Bool) => D.bl r) (os := fun (r : Bool) => [.no, .no]) (r := r) ?_ rfl (by decide)
  change Ot g_are_tables [.val ((sqG tD) value_), .val (D.int size_), .no, .no, .no] (fun (_ : Unit) _ => False) (fun (r : Bool) => Fl.rt (D.bl r)) (Fin 2 5 (fun (r : Bool) => [.no, .no])) (.rt r)
  unfold g_are_tables
  by_cases c1 : ((!true) || (!decide ((value_.2.length : Int) = size_))) = true
  · rw [if_pos c1] at h
    refine ot_seq_rt (P' := fun (_ : Unit) _ => False) (.inl ⟨_, rfl⟩) (ot_if_t (fOr_ok (fNot_ok (fB_ok (bdli rfl is2_seq))) (fB_ok (x_op (p := D.int (value_.2.length : Int)) (q := D.int size_) (e1 := [.val ((sqG tD) value_), .val (D.int size_), .no, .no, .no]) (e2 := [.val ((sqG tD) value_), .val (D.int size_), .no, .no, .no]) (x_d1 (p := (sqG tD) value_) rfl l_seq) rfl (o_ne (F := D.int) PE.int (a := (value_.2.length : Int)) (b := size_))))) c1 ?_)
    have hE := Option.some.inj h; subst hE
    exact ot_rt (e2 := [.val ((sqG tD) value_), .val (D.int size_), .no, .no, .no]) (fRet_ok rfl) ⟨rfl, rfl⟩
  · rw [if_neg c1] at h
    refine ot_seq (e1 := [.val ((sqG tD) value_), .val (D.int size_), .no, .no, .no]) (fIf_n (fOr_ok (fNot_ok (fB_ok (bdli rfl is2_seq))) (fB_ok (x_op (p := D.int (value_.2.length : Int)) (q := D.int size_) (e1 := [.val ((sqG tD) value_), .val (D.int size_), .no, .no, .no]) (e2 := [.val ((sqG tD) value_), .val (D.int size_), .no, .no, .no]) (x_d1 (p := (sqG tD) value_) rfl l_seq) rfl (o_ne (F := D.int) PE.int (a := (value_.2.length : Int)) (b := size_))))) c1 rfl) ?_
    obtain ⟨x3, h4, h⟩ := bsome h
    by_cases c5 : (!(x3.all id)) = true
    · rw [if_pos c5] at h
      refine ot_seq_rt (P' := fun (_ : Unit) _ => False) (.inl ⟨_, rfl⟩) (ot_if_t (fNot_ok (fB_ok (x_d1 (p := D.lst (List.map D.bl x3)) (fL_ok (fLc_T (enc := tD) (encB := D.bl) h4 (x_wG (F := tD) rfl) rfl rfl (fun y2 => ⟨[.val ((sqG tD) value_), .val (D.int size_), .no, .no, .val (tD y2)], rfl, rfl, fun _ => rfl, rfl, rfl⟩))) l_all))) c5 ?_)
      have hE := Option.some.inj h; subst hE
      exact ot_rt (e2 := [.val ((sqG tD) value_), .val (D.int size_), .no, .no, .no]) (fRet_ok rfl) ⟨rfl, rfl⟩
    · rw [if_neg c5] at h
      refine ot_seq (e1 := [.val ((sqG tD) value_), .val (D.int size_), .no, .no, .no]) (fIf_n (fNot_ok (fB_ok (x_d1 (p := D.lst (List.map D.bl x3)) (fL_ok (fLc_T (enc := tD) (encB := D.bl) h4 (x_wG (F := tD) rfl) rfl rfl (fun y2 => ⟨[.val ((sqG tD) value_), .val (D.int size_), .no, .no, .val (tD y2)], rfl, rfl, fun _ => rfl, rfl, rfl⟩))) l_all))) c5 rfl) ?_
      obtain ⟨x11, h12, h⟩ := bsome h
      have hE := Option.some.inj h; subst hE
      exact ot_rt (e2 := [.val ((sqG tD) value_), .val (D.int size_), .no, .no, .no]) (fRet_ok (x_d1 (p := D.lst (List.map D.bl x11)) (fL_ok (fLc_O (enc := (eP tD tD)) (encB := D.bl) h12 (x_zipG (F := tD) (G := tD) (e1 := [.val ((sqG tD) value_), .val (D.int size_), .no, .no, .no]) rfl (x_slG rfl (x_part rfl) rfl) rfl) rfl rfl (fun y6 o10 h => by (obtain ⟨x8, h9, h⟩ := bsome h; have k7 := t_Table___eq__ y6.1 y6.2 h9; have hE := Option.some.inj h; subst hE; exact ⟨[.val ((sqG tD) value_), .val (D.int size_), .val (tD y6.1), .val (tD y6.2), .no], rfl, ⟨rfl, x_not (fB_ok (x_own rfl rfl k7))⟩, rfl, rfl⟩)))) l_all)) ⟨rfl, rfl⟩
theorem t_Effect___init__ (breaks_ : (Bool × List Int)) (tables_ : (Bool × List (Int × List Int))) {r : Eff} (h : p_Effect___init__ breaks_ tables_ = some r) : R_Effect___init__ [.oin true "Effect" [] [], .val ((sqG D.int) breaks_), .val ((sqG tD) tables_)] = .ok .non [.oin true "Effect" ["cuts", "maps"] [D.tup (List.map D.int r.1), D.tup (List.map tD r.2)], .no, .no] := by
  unfold p_Effect___init__ at h
  refine runX_Ot (n := 3) (m := 3) (os := fun (r : Eff) => [.oin true "Effect" ["cuts", "maps"] [D.tup (List.map D.int r.1), D.tup (List.map tD r.2)], .no, .no]) (s := r) ?_ rfl (by decide)
  change Ot (R := Unit) g_Effect___init__ [.oin true "Effect" [] [], .val ((sqG D.int) breaks_), .val ((sqG tD) tables_)] (fun (r : Eff) e => Fin 3 3 (fun (r : Eff) => [.oin true "Effect" ["cuts", "maps"] [D.tup (List.map D.int r.1), D.tup (List.map tD r.2)], .no, .no]) r e) (fun _ => .rt .non) (fun _ _ => True) (.nx r)
  unfold g_Effect___init__
  obtain ⟨x2, h3, h⟩ := bsome h
  have k1 := t_are_breaks breaks_ h3
  obtain ⟨x8, h9, h⟩ := bsome h
  by_cases c10 : x8 = true
  · rw [if_pos c10] at h
    cases h
  · rw [if_neg c10] at h
    refine ot_seq (e1 := [.oin true "Effect" [] [], .val ((sqG D.int) breaks_), .val ((sqG tD) tables_)]) (fIf_n (x_or (q := true) (p := (!x2)) (fNot_ok (fB_ok (x_call (e2 := [.oin true "Effect" [] [], .val ((sqG D.int) breaks_), .val ((sqG tD) tables_)]) (rD_ok (x := (sqG D.int) breaks_) (e1 := [.oin true "Effect" [] [], .val ((sqG D.int) breaks_), .val ((sqG tD) tables_)]) rfl rNil_eq) rfl k1 (putO_id rfl)))) (fun c7 => by (have h := h9; rw [if_neg (show ¬ ((!x2) = true) from fun z => Bool.false_ne_true (Eq.trans (Eq.symm c7) z))] at h; obtain ⟨x5, h6, h⟩ := bsome h; have k4 := t_are_tables tables_ ((breaks_.2.length : Int) + 1) h6; have hE := Option.some.inj h; subst hE; exact fNot_ok (fB_ok (x_call (e2 := [.oin true "Effect" [] [], .val ((sqG D.int) breaks_), .val ((sqG tD) tables_)]) (rD_ok (x := (sqG tD) tables_) (e1 := [.oin true "Effect" [] [], .val ((sqG D.int) breaks_), .val ((sqG tD) tables_)]) rfl (rD_ok (x := D.int ((breaks_.2.length : Int) + 1)) (e1 := [.oin true "Effect" [] [], .val ((sqG D.int) breaks_), .val ((sqG tD) tables_)]) (x_op (p := D.int (breaks_.2.length : Int)) (q := D.int 1) (e1 := [.oin true "Effect" [] [], .val ((sqG D.int) breaks_), .val ((sqG tD) tables_)]) (e2 := [.oin true "Effect" [] [], .val ((sqG D.int) breaks_), .val ((sqG tD) tables_)]) (x_d1 (p := (sqG D.int) breaks_) rfl l_seq) rfl rfl) rNil_eq)) rfl k4 (putO_id rfl))))) (fun c7 => by (have h := h9; rw [if_pos c7] at h; exact (Option.some.inj h).symm))) c10 rfl) ?_
    refine ot_seq (e1 := [.oin true "Effect" ["cuts"] [D.tup (List.map D.int breaks_.2)], .val ((sqG D.int) breaks_), .val ((sqG tD) tables_)]) (x_fldS (d := D.tup (List.map D.int breaks_.2)) (e1 := [.oin true "Effect" [] [], .val ((sqG D.int) breaks_), .val ((sqG tD) tables_)]) (x_d1 (p := (sqG D.int) breaks_) rfl l_tuplG) rfl) ?_
    have hE := Option.some.inj h; subst hE
    refine ⟨[.oin true "Effect" ["cuts", "maps"] [D.tup (List.map D.int breaks_.2), D.tup (List.map tD tables_.2)], .val ((sqG D.int) breaks_), .val ((sqG tD) tables_)], ?_, ⟨rfl, rfl⟩⟩
    exact x_fldS (d := D.tup (List.map tD tables_.2)) (e1 := [.oin true "Effect" ["cuts"] [D.tup (List.map D.int breaks_.2)], .val ((sqG D.int) breaks_), .val ((sqG tD) tables_)]) (x_d1 (p := (sqG tD) tables_) rfl l_tuplG) rfl
theorem t_Effect_of (sequence_ : (List Stp)) {r : Eff} (h : p_Effect_of sequence_ = some r) : R_Effect_of [.val ((D.cls "Effect")), .val (sqD sequence_)] = .ok (eF r) [.no, .no] := by
  unfold p_Effect_of at h
  refine run_Ot (n := 2) (m := 9) (P := fun _ _ => False) (dD := fun (r : Eff) => eF r) (os := fun (r : Eff) => [.no, .no]) (r := r) ?_ rfl (by decide)
  change Ot g_Effect_of [.val ((D.cls "Effect")), .val (sqD sequence_), .no, .no, .no, .no, .no, .no, .no] (fun (_ : Unit) _ => False) (fun (r : Eff) => Fl.rt (eF r)) (Fin 2 9 (fun (r : Eff) => [.no, .no])) (.rt r)
  unfold g_Effect_of
  obtain ⟨x2, h3, h⟩ := bsome h
  have k1 := t_Sequence_steps sequence_ h3
  obtain ⟨x5, h6, h⟩ := bsome h
  obtain ⟨x7, h8, h⟩ := bsome h
  obtain ⟨x9, h10, h⟩ := bsome h
  refine ot_seq (e1 := [.val ((D.cls "Effect")), .val (sqD sequence_), .val (D.lst (List.map D.int x9)), .no, .no, .no, .no, .no, .no]) (fSetT_ok (x := D.lst (List.map D.int x9)) (u := ()) (e1 := [.val ((D.cls "Effect")), .val (sqD sequence_), .no, .no, .no, .no, .no, .no, .no]) (fL_ok (x_sortSc h8 h10 (fLc_T (enc := stD) (encB := D.int) h6 (x_wT (F := stD) (x_prop rfl k1)) rfl rfl (fun y4 => ⟨[.val ((D.cls "Effect")), .val (sqD sequence_), .no, .no, .no, .no, .no, .val (D.str (wd y4.1)), .val (D.int y4.2)], rfl, fB_ok (x_op (p := D.str (wd y4.1)) (q := D.str ("insert" : Str)) (e1 := [.val ((D.cls "Effect")), .val (sqD sequence_), .no, .no, .no, .no, .no, .val (D.str (wd y4.1)), .val (D.int y4.2)]) (e2 := [.val ((D.cls "Effect")), .val (sqD sequence_), .no, .no, .no, .no, .no, .val (D.str (wd y4.1)), .val (D.int y4.2)]) rfl rfl o_wdI), fun _ => rfl, rfl, rfl⟩)))) rfl) ?_
  obtain ⟨x13, h14, h⟩ := bsome h
  refine ot_seq (e1 := [.val ((D.cls "Effect")), .val (sqD sequence_), .val (D.lst (List.map D.int x9)), .val (D.int x13), .no, .no, .no, .no, .no]) (fSetT_ok (x := D.int x13) (u := ()) (e1 := [.val ((D.cls "Effect")), .val (sqD sequence_), .val (D.lst (List.map D.int x9)), .no, .no, .no, .no, .no, .no]) (x_if (p := (!decide (x9 = []))) (r := .ok (D.int x13) [.val ((D.cls "Effect")), .val (sqD sequence_), .val (D.lst (List.map D.int x9)), .no, .no, .no, .no, .no, .no]) (fB_ok (x_op (p := D.lst (List.map D.int x9)) (q := D.lst (List.map D.int [])) (e1 := [.val ((D.cls "Effect")), .val (sqD sequence_), .val (D.lst (List.map D.int x9)), .no, .no, .no, .no, .no, .no]) (e2 := [.val ((D.cls "Effect")), .val (sqD sequence_), .val (D.lst (List.map D.int x9)), .no, .no, .no, .no, .no, .no]) rfl rfl (o_ne (F := (eL D.int)) (PE.list PE.int) (a := x9) (b := [])))) (fun c15 => by (have h := h14; rw [if_pos c15] at h; obtain ⟨x11, h12, h⟩ := bsome h; have hE := Option.some.inj h; subst hE; exact x_op (p := D.int x11) (q := D.int 1) (e1 := [.val ((D.cls "Effect")), .val (sqD sequence_), .val (D.lst (List.map D.int x9)), .no, .no, .no, .no, .no, .no]) (e2 := [.val ((D.cls "Effect")), .val (sqD sequence_), .val (D.lst (List.map D.int x9)), .no, .no, .no, .no, .no, .no]) (x_op (p := D.lst (List.map D.int x9)) (q := D.int 0) (e1 := [.val ((D.cls "Effect")), .val (sqD sequence_), .val (D.lst (List.map D.int x9)), .no, .no, .no, .no, .no, .no]) (e2 := [.val ((D.cls "Effect")), .val (sqD sequence_), .val (D.lst (List.map D.int x9)), .no, .no, .no, .no, .no, .no]) rfl rfl (o_at (F := D.int) h12)) rfl rfl)) (fun c15 => by (have h := h14; rw [if_neg (show ¬ ((!decide (x9 = [])) = true) from fun z => Bool.false_ne_true (Eq.trans (Eq.symm c15) z))] at h; skip; have hE := Option.some.inj h; subst hE; exact rfl))) rfl) ?_
  obtain ⟨x16, h17, h⟩ := bsome h
  obtain ⟨x26, h27, h⟩ := bsome h
  refine ot_seq (e1 := [.val ((D.cls "Effect")), .val (sqD sequence_), .val (D.lst (List.map D.int x9)), .val (D.int x13), .val (D.lst (List.map tD x26)), .no, .no, .no, .no]) (fSetT_ok (x := D.lst (List.map tD x26)) (u := ()) (e1 := [.val ((D.cls "Effect")), .val (sqD sequence_), .val (D.lst (List.map D.int x9)), .val (D.int x13), .no, .no, .no, .no, .no]) (fL_ok (fLc_O (enc := D.int) (encB := tD) h27 (x_wL (F := D.int) (fL_ok (x_lstP (F := D.int) h17 (x_cons (F := D.int) (x := x13) (e1 := [.val ((D.cls "Effect")), .val (sqD sequence_), .val (D.lst (List.map D.int x9)), .val (D.int x13), .no, .no, .no, .no, .no]) rfl (x_star0 (F := D.int) (xs := x9) (e1 := [.val ((D.cls "Effect")), .val (sqD sequence_), .val (D.lst (List.map D.int x9)), .val (D.int x13), .no, .no, .no, .no, .no]) (x_iL rfl) fNil_eq))))) rfl rfl (fun y18 o25 h => by (obtain ⟨x20, h21, h⟩ := bsome h; have k19 := t_Sequence_steps sequence_ h21; obtain ⟨x23, h24, h⟩ := bsome h; have k22 := t_table_at x20 y18 h24; have hE := Option.some.inj h; subst hE; exact ⟨[.val ((D.cls "Effect")), .val (sqD sequence_), .val (D.lst (List.map D.int x9)), .val (D.int x13), .no, .no, .val (D.int y18), .no, .no], rfl, ⟨rfl, x_call (e2 := [.val ((D.cls "Effect")), .val (sqD sequence_), .val (D.lst (List.map D.int x9)), .val (D.int x13), .no, .no, .val (D.int y18), .no, .no]) (rD_ok (x := D.tup (List.map stD x20)) (e1 := [.val ((D.cls "Effect")), .val (sqD sequence_), .val (D.lst (List.map D.int x9)), .val (D.int x13), .no, .no, .val (D.int y18), .no, .no]) (x_prop rfl k19) (rD_ok (x := D.int y18) (e1 := [.val ((D.cls "Effect")), .val (sqD sequence_), .val (D.lst (List.map D.int x9)), .val (D.int x13), .no, .no, .val (D.int y18), .no, .no]) rfl rNil_eq)) rfl k22 (putO_id rfl)⟩, rfl, rfl⟩)))) rfl) ?_
  obtain ⟨x29, h30, h⟩ := bsome h
  have k28 := t_merged x9 x26 h30
  refine ot_seq (e1 := [.val ((D.cls "Effect")), .val (sqD sequence_), .val (D.lst (List.map D.int x9)), .val (D.int x13), .val (D.lst (List.map tD x29.2)), .val (D.lst (List.map D.int x29.1)), .no, .no, .no]) (fSetT_ok (x := (eP (eL D.int) (eL tD)) x29) (u := ()) (e1 := [.val ((D.cls "Effect")), .val (sqD sequence_), .val (D.lst (List.map D.int x9)), .val (D.int x13), .val (D.lst (List.map tD x26)), .no, .no, .no, .no]) (x_call (e2 := [.val ((D.cls "Effect")), .val (sqD sequence_), .val (D.lst (List.map D.int x9)), .val (D.int x13), .val (D.lst (List.map tD x26)), .no, .no, .no, .no]) (rD_ok (x := D.lst (List.map D.int x9)) (e1 := [.val ((D.cls "Effect")), .val (sqD sequence_), .val (D.lst (List.map D.int x9)), .val (D.int x13), .val (D.lst (List.map tD x26)), .no, .no, .no, .no]) rfl (rD_ok (x := D.lst (List.map tD x26)) (e1 := [.val ((D.cls "Effect")), .val (sqD sequence_), .val (D.lst (List.map D.int x9)), .val (D.int x13), .val (D.lst (List.map tD x26)), .no, .no, .no, .no]) rfl rNil_eq)) rfl k28 (putO_id rfl)) rfl) ?_
  obtain ⟨x32, h33, h⟩ := bsome h
  have k31 := t_Effect___init__ (false, x29.1) (false, x29.2) h33
  have hE := Option.some.inj h; subst hE
  exact ot_rt (e2 := [.val ((D.cls "Effect")), .val (sqD sequence_), .val (D.lst (List.map D.int x9)), .val (D.int x13), .val (D.lst (List.map tD x29.2)), .val (D.lst (List.map D.int x29.1)), .no, .no, .no]) (fRet_ok (x_makeV rfl (x_make (fCons_ok (x := D.lst (List.map D.int x29.1)) (e1 := [.val ((D.cls "Effect")), .val (sqD sequence_), .val (D.lst (List.map D.int x9)), .val (D.int x13), .val (D.lst (List.map tD x29.2)), .val (D.lst (List.map D.int x29.1)), .no, .no, .no]) rfl (fCons_ok (x := D.lst (List.map tD x29.2)) (e1 := [.val ((D.cls "Effect")), .val (sqD sequence_), .val (D.lst (List.map D.int x9)), .val (D.int x13), .val (D.lst (List.map tD x29.2)), .val (D.lst (List.map D.int x29.1)), .no, .no, .no]) rfl fNil_eq)) ⟨_, _, _, _, rfl, k31⟩))) ⟨rfl, rfl⟩
theorem t_Effect_breaks (self_ : Eff) {r : (List Int)} (h : p_Effect_breaks self_ = some r) : R_Effect_breaks [.val (eF self_)] = .ok (D.tup (List.map D.int r)) [.no] := by
  unfold p_Effect_breaks at h
  refine run_Ot (n := 1) (m := 1) (P := fun _ _ => False) (dD := fun (r : (List Int)) => D.tup (List.map D.int r)) (os := fun (r : (List Int)) => [.no]) (r := r) ?_ rfl (by decide)
  change Ot g_Effect_breaks [.val (eF self_)] (fun (_ : Unit) _ => False) (fun (r : (List Int)) => Fl.rt (D.tup (List.map D.int r))) (Fin 1 1 (fun (r : (List Int)) => [.no])) (.rt r)
  unfold g_Effect_breaks
  have hE := Option.some.inj h; subst hE
  exact ot_rt (e2 := [.val (eF self_)]) (fRet_ok rfl) ⟨rfl, rfl⟩
theorem t_starts_of (effect_ : Eff) {r : (List Str)} (h : p_starts_of effect_ = some r) : R_starts_of [.val (eF effect_)] = .ok (D.lst (List.map D.str r)) [.no] := by
  unfold p_starts_of at h
  refine run_Ot (n := 1) (m := 2) (P := fun _ _ => False) (dD := fun (r : (List Str)) => D.lst (List.map D.str r)) (os := fun (r : (List Str)) => [.no]) (r := r) ?_ rfl (by decide)
  change Ot g_starts_of [.val (eF effect_), .no] (fun (_ : Unit) _ => False) (fun (r : (List Str)) => Fl.rt (D.lst (List.map D.str r))) (Fin 1 2 (fun (r : (List Str)) => [.no])) (.rt r)
  unfold g_starts_of
  obtain ⟨x2, h3, h⟩ := bsome h
  have k1 := t_Effect_breaks effect_ h3
  obtain ⟨x8, h9, h⟩ := bsome h
  obtain ⟨x10, h11, h⟩ := bsome h
  have hE := Option.some.inj h; subst hE
  exact ot_rt (e2 := [.val (eF effect_), .no]) (fRet_ok (fL_ok (x_lstP (F := D.str) h11 (x_cons (F := D.str) (x := ("*" : Str)) (e1 := [.val (eF effect_), .no]) rfl (x_star0 (F := D.str) (xs := x8) (e1 := [.val (eF effect_), .no]) (x_iL (fL_ok (fLc_O (enc := D.int) (encB := D.str) h9 (x_wT (F := D.int) (x_prop rfl k1)) rfl rfl (fun y4 o7 h => by (obtain ⟨x5, h6, h⟩ := bsome h; have hE := Option.some.inj h; subst hE; exact ⟨[.val (eF effect_), .val (D.int y4)], rfl, ⟨rfl, x_d1 (p := D.int y4) rfl (l_strI h6)⟩, rfl, rfl⟩))))) fNil_eq))))) ⟨rfl, rfl⟩
theorem t_Effect_tables (self_ : Eff) {r : (List (Int × List Int))} (h : p_Effect_tables self_ = some r) : R_Effect_tables [.val (eF self_)] = .ok (D.tup (List.map tD r)) [.no] := by
  unfold p_Effect_tables at h
  refine run_Ot (n := 1) (m := 1) (P := fun _ _ => False) (dD := fun (r : (List (Int × List Int))) => D.tup (List.map tD r)) (os := fun (r : (List (Int × List Int))) => [.no]) (r := r) ?_ rfl (by decide)
  change Ot g_Effect_tables [.val (eF self_)] (fun (_ : Unit) _ => False) (fun (r : (List (Int × List Int))) => Fl.rt (D.tup (List.map tD r))) (Fin 1 1 (fun (r : (List (Int × List Int))) => [.no])) (.rt r)
  unfold g_Effect_tables
  have hE := Option.some.inj h; subst hE
  exact ot_rt (e2 := [.val (eF self_)]) (fRet_ok rfl) ⟨rfl, rfl⟩
theorem t_Table_start (self_ : (Int × List Int)) {r : Int} (h : p_Table_start self_ = some r) : R_Table_start [.val (tD self_)] = .ok (D.int r) [.no] := by
  unfold p_Table_start at h
  refine run_Ot (n := 1) (m := 1) (P := fun _ _ => False) (dD := fun (r : Int) => D.int r) (os := fun (r : Int) => [.no]) (r := r) ?_ rfl (by decide)
  change Ot g_Table_start [.val (tD self_)] (fun (_ : Unit) _ => False) (fun (r : Int) => Fl.rt (D.int r)) (Fin 1 1 (fun (r : Int) => [.no])) (.rt r)
  unfold g_Table_start
  have hE := Option.some.inj h; subst hE
  exact ot_rt (e2 := [.val (tD self_)]) (fRet_ok rfl) ⟨rfl, rfl⟩
theorem t_Table_lost (self_ : (Int × List Int)) {r : (List Int)} (h : p_Table_lost self_ = some r) : R_Table_lost [.val (tD self_)] = .ok (D.tup (List.map D.int r)) [.no] := by
  unfold p_Table_lost at h
  refine run_Ot (n := 1) (m := 1) (P := fun _ _ => False) (dD := fun (r : (List Int)) => D.tup (List.map D.int r)) (os := fun (r : (List Int)) => [.no]) (r := r) ?_ rfl (by decide)
  change Ot g_Table_lost [.val (tD self_)] (fun (_ : Unit) _ => False) (fun (r : (List Int)) => Fl.rt (D.tup (List.map D.int r))) (Fin 1 1 (fun (r : (List Int)) => [.no])) (.rt r)
  unfold g_Table_lost
  have hE := Option.some.inj h; subst hE
  exact ot_rt (e2 := [.val (tD self_)]) (fRet_ok rfl) ⟨rfl, rfl⟩
theorem t_format_numbers (numbers_ : (List Int)) (separator_ : Str) {r : Str} (h : p_format_numbers numbers_ separator_ = some r) : R_format_numbers [.val (D.tup (List.map D.int numbers_)), .val (D.str separator_)] = .ok (D.str r) [.no, .no] := by
  unfold p_format_numbers at h
  refine run_Ot (n := 2) (m := 3) (P := fun _ _ => False) (dD := fun (r : Str) => D.str r) (os := fun (r : Str) => [.no, .no]) (r := r) ?_ rfl (by decide)
  change Ot g_format_numbers [.val (D.tup (List.map D.int numbers_)), .val (D.str separator_), .no] (fun (_ : Unit) _ => False) (fun (r : Str) => Fl.rt (D.str r)) (Fin 2 3 (fun (r : Str) => [.no, .no])) (.rt r)
  unfold g_format_numbers
  obtain ⟨x5, h6, h⟩ := bsome h
  obtain ⟨x7, h8, h⟩ := bsome h
  obtain ⟨x9, h10, h⟩ := bsome h
  have hE := Option.some.inj h; subst hE
  exact ot_rt (e2 := [.val (D.tup (List.map D.int numbers_)), .val (D.str separator_), .no]) (fRet_ok (x_orStr h10 (x_join (ys := x5) h8 rfl (fL_ok (fLc_O (enc := D.int) (encB := D.str) h6 (x_wT (F := D.int) rfl) rfl rfl (fun y1 o4 h => by (obtain ⟨x2, h3, h⟩ := bsome h; have hE := Option.some.inj h; subst hE; exact ⟨[.val (D.tup (List.map D.int numbers_)), .val (D.str separator_), .val (D.int y1)], rfl, ⟨rfl, x_d1 (p := D.int y1) rfl (l_strI h3)⟩, rfl, rfl⟩))))) (fun s hs => by (cases hs; rfl)))) ⟨rfl, rfl⟩
noncomputable def p_effect_grid (effect_ : Eff) : Option Str := (p_starts_of effect_).bind fun x2 => (p_Effect_tables effect_).bind fun x5 => (lcG (fun y7 => (fmtWSP 8 y7.1).bind fun x8 => (p_Table_start y7.2).bind fun x11 => (fmtWIP 6 x11).bind fun x13 => (p_Table_lost y7.2).bind fun x16 => (p_format_numbers x16 (" " : Str)).bind fun x19 => (fmtSP x19).bind fun x21 => (jnSP [x8, x13, ("  " : Str), x21] Str.empty).bind fun x23 => some (some x23)) (List.zip x2 x5)).bind fun x30 => (joinSP ("\n" : Str) x30).bind fun x32 => some x32
theorem t_effect_grid (effect_ : Eff) {r : Str} (h : p_effect_grid effect_ = some r) : R_effect_grid [.val (eF effect_)] = .ok (D.str r) [.no] := by
  unfold p_effect_grid at h
  refine run_Ot (n := 1) (m := 3) (P := fun _ _ => False) (dD := fun (r : Str) => D.str r) (os := fun (r : Str) => [.no]) (r := r) ?_ rfl (by decide)
  change Ot g_effect_grid [.val (eF effect_), .no, .no] (fun (_ : Unit) _ => False) (fun (r : Str) => Fl.rt (D.str r)) (Fin 1 3 (fun (r : Str) => [.no])) (.rt r)
  unfold g_effect_grid
  obtain ⟨x2, h3, h⟩ := bsome h
  have k1 := t_starts_of effect_ h3
  obtain ⟨x5, h6, h⟩ := bsome h
  have k4 := t_Effect_tables effect_ h6
  obtain ⟨x30, h31, h⟩ := bsome h
  obtain ⟨x32, h33, h⟩ := bsome h
  have hE := Option.some.inj h; subst hE
  exact ot_rt (e2 := [.val (eF effect_), .no, .no]) (fRet_ok (x_join (ys := x30) h33 rfl (fL_ok (fLc_O (enc := (eP D.str tD)) (encB := D.str) h31 (x_zipQ (F := D.str) (G := tD) (e1 := [.val (eF effect_), .no, .no]) (x_call (e2 := [.val (eF effect_), .no, .no]) (rD_ok (x := eF effect_) (e1 := [.val (eF effect_), .no, .no]) rfl rNil_eq) rfl k1 (putO_id rfl)) (x_prop rfl k4)) rfl rfl (fun y7 o29 h => by (obtain ⟨x8, h9, h⟩ := bsome h; obtain ⟨x11, h12, h⟩ := bsome h; have k10 := t_Table_start y7.2 h12; obtain ⟨x13, h14, h⟩ := bsome h; obtain ⟨x16, h17, h⟩ := bsome h; have k15 := t_Table_lost y7.2 h17; obtain ⟨x19, h20, h⟩ := bsome h; have k18 := t_format_numbers x16 (" " : Str) h20; obtain ⟨x21, h22, h⟩ := bsome h; obtain ⟨x23, h24, h⟩ := bsome h; have hE := Option.some.inj h; subst hE; exact ⟨[.val (eF effect_), .val (D.str y7.1), .val (tD y7.2)], rfl, ⟨rfl, x_jnCons h24 (x_fmtWS h9 rfl) (fun _ j25 => x_jnCons j25 (x_fmtWI h14 (x_prop rfl k10)) (fun _ j26 => x_jnCons j26 rfl (fun _ j27 => x_jnCons j27 (x_fmtS h22 (x_call (e2 := [.val (eF effect_), .val (D.str y7.1), .val (tD y7.2)]) (rD_ok (x := D.tup (List.map D.int x16)) (e1 := [.val (eF effect_), .val (D.str y7.1), .val (tD y7.2)]) (x_prop rfl k15) (rD_ok (x := D.str (" " : Str)) (e1 := [.val (eF effect_), .val (D.str y7.1), .val (tD y7.2)]) rfl rNil_eq)) rfl k18 (putO_id rfl))) (fun _ j28 => x_jnEnd j28))))⟩, rfl, rfl⟩)))))) ⟨rfl, rfl⟩
noncomputable def p__law_padded (text_ : Str) (width_ : Int) : Option Str := (lenSP text_).bind fun x1 => (mulSP (" " : Str) (if (width_ - x1) > 0 then width_ - x1 else 0)).bind fun x3 => (catSP x3 text_).bind fun x5 => some x5
theorem t__law_padded (text_ : Str) (width_ : Int) {r : Str} (h : p__law_padded text_ width_ = some r) : R__law_padded [.val (D.str text_), .val (D.int width_)] = .ok (D.str r) [.no, .no] := by
  unfold p__law_padded at h
  refine run_Ot (n := 2) (m := 2) (P := fun _ _ => False) (dD := fun (r : Str) => D.str r) (os := fun (r : Str) => [.no, .no]) (r := r) ?_ rfl (by decide)
  change Ot g__law_padded [.val (D.str text_), .val (D.int width_)] (fun (_ : Unit) _ => False) (fun (r : Str) => Fl.rt (D.str r)) (Fin 2 2 (fun (r : Str) => [.no, .no])) (.rt r)
  unfold g__law_padded
  obtain ⟨x1, h2, h⟩ := bsome h
  obtain ⟨x3, h4, h⟩ := bsome h
  obtain ⟨x5, h6, h⟩ := bsome h
  have hE := Option.some.inj h; subst hE
  exact ot_rt (e2 := [.val (D.str text_), .val (D.int width_)]) (fRet_ok (x_op (p := D.str x3) (q := D.str text_) (e1 := [.val (D.str text_), .val (D.int width_)]) (e2 := [.val (D.str text_), .val (D.int width_)]) (x_op (p := D.str (" " : Str)) (q := D.int (if (width_ - x1) > 0 then width_ - x1 else 0)) (e1 := [.val (D.str text_), .val (D.int width_)]) (e2 := [.val (D.str text_), .val (D.int width_)]) rfl (x_d2 (p := D.int 0) (q := D.int (width_ - x1)) (e1 := [.val (D.str text_), .val (D.int width_)]) rfl (x_op (p := D.int width_) (q := D.int x1) (e1 := [.val (D.str text_), .val (D.int width_)]) (e2 := [.val (D.str text_), .val (D.int width_)]) rfl (x_d1 (p := D.str text_) rfl (l_lenS h2)) rfl) rfl) (o_mulS h4)) rfl (o_catS h6))) ⟨rfl, rfl⟩
noncomputable def p__law_line (first_ : Str) (table_ : (Int × List Int)) : Option Str := (p_Table_lost table_).bind fun x2 => (if (decide (0 < (x2.length : Int))) = true then (p_Table_lost table_).bind fun x5 => (lcG (fun y7 => (strIP y7).bind fun x8 => some (some x8)) x5).bind fun x11 => (joinSP (" " : Str) x11).bind fun x13 => some x13 else some ("." : Str)).bind fun x15 => (p__law_padded first_ 8).bind fun x19 => (p_Table_start table_).bind fun x22 => (strIP x22).bind fun x24 => (p__law_padded x24 6).bind fun x27 => (catSP x19 x27).bind fun x29 => (catSP x29 ("  " : Str)).bind fun x31 => (catSP x31 x15).bind fun x33 => some x33
theorem t__law_line (first_ : Str) (table_ : (Int × List Int)) {r : Str} (h : p__law_line first_ table_ = some r) : R__law_line [.val (D.str first_), .val (tD table_)] = .ok (D.str r) [.no, .no] := by
  unfold p__law_line at h
  refine run_Ot (n := 2) (m := 4) (P := fun _ _ => False) (dD := fun (r : Str) => D.str r) (os := fun (r : Str) => [.no, .no]) (r := r) ?_ rfl (by decide)
  change Ot g__law_line [.val (D.str first_), .val (tD table_), .no, .no] (fun (_ : Unit) _ => False) (fun (r : Str) => Fl.rt (D.str r)) (Fin 2 4 (fun (r : Str) => [.no, .no])) (.rt r)
  unfold g__law_line
  obtain ⟨x2, h3, h⟩ := bsome h
  have k1 := t_Table_lost table_ h3
  obtain ⟨x15, h16, h⟩ := bsome h
  refine ot_seq (e1 := [.val (D.str first_), .val (tD table_), .val (D.str x15), .no]) (fSetT_ok (x := D.str x15) (u := ()) (e1 := [.val (D.str first_), .val (tD table_), .no, .no]) (x_if (p := (decide (0 < (x2.length : Int)))) (r := .ok (D.str x15) [.val (D.str first_), .val (tD table_), .no, .no]) (fB_ok (x_op (p := D.int (x2.length : Int)) (q := D.int 0) (e1 := [.val (D.str first_), .val (tD table_), .no, .no]) (e2 := [.val (D.str first_), .val (tD table_), .no, .no]) (x_d1 (p := D.tup (List.map D.int x2)) (x_prop rfl k1) l_tup) rfl rfl)) (fun c17 => by (have h := h16; rw [if_pos c17] at h; obtain ⟨x5, h6, h⟩ := bsome h; have k4 := t_Table_lost table_ h6; obtain ⟨x11, h12, h⟩ := bsome h; obtain ⟨x13, h14, h⟩ := bsome h; have hE := Option.some.inj h; subst hE; exact x_join (ys := x11) h14 rfl (fL_ok (fLc_O (enc := D.int) (encB := D.str) h12 (x_wT (F := D.int) (x_prop rfl k4)) rfl rfl (fun y7 o10 h => by (obtain ⟨x8, h9, h⟩ := bsome h; have hE := Option.some.inj h; subst hE; exact ⟨[.val (D.str first_), .val (tD table_), .no, .val (D.int y7)], rfl, ⟨rfl, x_d1 (p := D.int y7) rfl (l_strI h9)⟩, rfl, rfl⟩)))))) (fun c17 => by (have h := h16; rw [if_neg (show ¬ ((decide (0 < (x2.length : Int))) = true) from fun z => Bool.false_ne_true (Eq.trans (Eq.symm c17) z))] at h; skip; have hE := Option.some.inj h; subst hE; exact rfl))) rfl) ?_
  obtain ⟨x19, h20, h⟩ := bsome h
  have k18 := t__law_padded first_ 8 h20
  obtain ⟨x22, h23, h⟩ := bsome h
  have k21 := t_Table_start table_ h23
  obtain ⟨x24, h25, h⟩ := bsome h
  obtain ⟨x27, h28, h⟩ := bsome h
  have k26 := t__law_padded x24 6 h28
  obtain ⟨x29, h30, h⟩ := bsome h
  obtain ⟨x31, h32, h⟩ := bsome h
  obtain ⟨x33, h34, h⟩ := bsome h
  have hE := Option.some.inj h; subst hE
  exact ot_rt (e2 := [.val (D.str first_), .val (tD table_), .val (D.str x15), .no]) (fRet_ok (x_op (p := D.str x31) (q := D.str x15) (e1 := [.val (D.str first_), .val (tD table_), .val (D.str x15), .no]) (e2 := [.val (D.str first_), .val (tD table_), .val (D.str x15), .no]) (x_op (p := D.str x29) (q := D.str ("  " : Str)) (e1 := [.val (D.str first_), .val (tD table_), .val (D.str x15), .no]) (e2 := [.val (D.str first_), .val (tD table_), .val (D.str x15), .no]) (x_op (p := D.str x19) (q := D.str x27) (e1 := [.val (D.str first_), .val (tD table_), .val (D.str x15), .no]) (e2 := [.val (D.str first_), .val (tD table_), .val (D.str x15), .no]) (x_call (e2 := [.val (D.str first_), .val (tD table_), .val (D.str x15), .no]) (rD_ok (x := D.str first_) (e1 := [.val (D.str first_), .val (tD table_), .val (D.str x15), .no]) rfl (rD_ok (x := D.int 8) (e1 := [.val (D.str first_), .val (tD table_), .val (D.str x15), .no]) rfl rNil_eq)) rfl k18 (putO_id rfl)) (x_call (e2 := [.val (D.str first_), .val (tD table_), .val (D.str x15), .no]) (rD_ok (x := D.str x24) (e1 := [.val (D.str first_), .val (tD table_), .val (D.str x15), .no]) (x_d1 (p := D.int x22) (x_prop rfl k21) (l_strI h25)) (rD_ok (x := D.int 6) (e1 := [.val (D.str first_), .val (tD table_), .val (D.str x15), .no]) rfl rNil_eq)) rfl k26 (putO_id rfl)) (o_catS h30)) rfl (o_catS h32)) rfl (o_catS h34))) ⟨rfl, rfl⟩
noncomputable def p__law_drawn (effect_ : Eff) : Option Str := (p_Effect_breaks effect_).bind fun x2 => (lcG (fun y4 => (strIP y4).bind fun x5 => some (some x5)) x2).bind fun x8 => (catP [("*" : Str)] x8).bind fun x10 => (p_Effect_tables effect_).bind fun x13 => (lcG (fun y15 => (p__law_line y15.1 y15.2).bind fun x17 => some (some x17)) (List.zip x10 x13)).bind fun x20 => (joinSP ("\n" : Str) x20).bind fun x22 => some x22
theorem t__law_drawn (effect_ : Eff) {r : Str} (h : p__law_drawn effect_ = some r) : R__law_drawn [.val (eF effect_)] = .ok (D.str r) [.no] := by
  unfold p__law_drawn at h
  refine run_Ot (n := 1) (m := 5) (P := fun _ _ => False) (dD := fun (r : Str) => D.str r) (os := fun (r : Str) => [.no]) (r := r) ?_ rfl (by decide)
  change Ot g__law_drawn [.val (eF effect_), .no, .no, .no, .no] (fun (_ : Unit) _ => False) (fun (r : Str) => Fl.rt (D.str r)) (Fin 1 5 (fun (r : Str) => [.no])) (.rt r)
  unfold g__law_drawn
  obtain ⟨x2, h3, h⟩ := bsome h
  have k1 := t_Effect_breaks effect_ h3
  obtain ⟨x8, h9, h⟩ := bsome h
  obtain ⟨x10, h11, h⟩ := bsome h
  refine ot_seq (e1 := [.val (eF effect_), .val (D.lst (List.map D.str x10)), .no, .no, .no]) (fSetT_ok (x := D.lst (List.map D.str x10)) (u := ()) (e1 := [.val (eF effect_), .no, .no, .no, .no]) (x_op (p := D.lst (List.map D.str [("*" : Str)])) (q := D.lst (List.map D.str x8)) (e1 := [.val (eF effect_), .no, .no, .no, .no]) (e2 := [.val (eF effect_), .no, .no, .no, .no]) rfl (fL_ok (fLc_O (enc := D.int) (encB := D.str) h9 (x_wT (F := D.int) (x_prop rfl k1)) rfl rfl (fun y4 o7 h => by (obtain ⟨x5, h6, h⟩ := bsome h; have hE := Option.some.inj h; subst hE; exact ⟨[.val (eF effect_), .no, .val (D.int y4), .no, .no], rfl, ⟨rfl, x_d1 (p := D.int y4) rfl (l_strI h6)⟩, rfl, rfl⟩)))) (o_cat h11)) rfl) ?_
  obtain ⟨x13, h14, h⟩ := bsome h
  have k12 := t_Effect_tables effect_ h14
  obtain ⟨x20, h21, h⟩ := bsome h
  obtain ⟨x22, h23, h⟩ := bsome h
  have hE := Option.some.inj h; subst hE
  exact ot_rt (e2 := [.val (eF effect_), .val (D.lst (List.map D.str x10)), .no, .no, .no]) (fRet_ok (x_join (ys := x20) h23 rfl (fL_ok (fLc_O (enc := (eP D.str tD)) (encB := D.str) h21 (x_zipQ (F := D.str) (G := tD) (e1 := [.val (eF effect_), .val (D.lst (List.map D.str x10)), .no, .no, .no]) rfl (x_prop rfl k12)) rfl rfl (fun y15 o19 h => by (obtain ⟨x17, h18, h⟩ := bsome h; have k16 := t__law_line y15.1 y15.2 h18; have hE := Option.some.inj h; subst hE; exact ⟨[.val (eF effect_), .val (D.lst (List.map D.str x10)), .no, .val (D.str y15.1), .val (tD y15.2)], rfl, ⟨rfl, x_call (e2 := [.val (eF effect_), .val (D.lst (List.map D.str x10)), .no, .val (D.str y15.1), .val (tD y15.2)]) (rD_ok (x := D.str y15.1) (e1 := [.val (eF effect_), .val (D.lst (List.map D.str x10)), .no, .val (D.str y15.1), .val (tD y15.2)]) rfl (rD_ok (x := tD y15.2) (e1 := [.val (eF effect_), .val (D.lst (List.map D.str x10)), .no, .val (D.str y15.1), .val (tD y15.2)]) rfl rNil_eq)) rfl k16 (putO_id rfl)⟩, rfl, rfl⟩)))))) ⟨rfl, rfl⟩
theorem t_format_effect (effect_ : Eff) {r : Str} (h : p_format_effect effect_ = some r) : R_format_effect [.val (eF effect_)] = .ok (D.str r) [.no] := by
  unfold p_format_effect at h
  refine run_Ot (n := 1) (m := 3) (P := fun _ _ => False) (dD := fun (r : Str) => D.str r) (os := fun (r : Str) => [.no]) (r := r) ?_ rfl (by decide)
  change Ot g_format_effect [.val (eF effect_), .no, .no] (fun (_ : Unit) _ => False) (fun (r : Str) => Fl.rt (D.str r)) (Fin 1 3 (fun (r : Str) => [.no])) (.rt r)
  unfold g_format_effect
  obtain ⟨x2, h3, h⟩ := bsome h
  have k1 := t_starts_of effect_ h3
  obtain ⟨x5, h6, h⟩ := bsome h
  have k4 := t_Effect_tables effect_ h6
  obtain ⟨x31, h32, h⟩ := bsome h
  obtain ⟨x33, h34, h⟩ := bsome h
  have hE := Option.some.inj h; subst hE
  exact ot_rt (e2 := [.val (eF effect_), .no, .no]) (fRet_ok (x_join (ys := x31) h34 rfl (fL_ok (fLc_O (enc := (eP D.str tD)) (encB := D.str) h32 (x_zipQ (F := D.str) (G := tD) (e1 := [.val (eF effect_), .no, .no]) (x_call (e2 := [.val (eF effect_), .no, .no]) (rD_ok (x := eF effect_) (e1 := [.val (eF effect_), .no, .no]) rfl rNil_eq) rfl k1 (putO_id rfl)) (x_prop rfl k4)) rfl rfl (fun y7 o30 h => by (obtain ⟨x8, h9, h⟩ := bsome h; obtain ⟨x11, h12, h⟩ := bsome h; have k10 := t_Table_start y7.2 h12; obtain ⟨x13, h14, h⟩ := bsome h; obtain ⟨x16, h17, h⟩ := bsome h; have k15 := t_Table_lost y7.2 h17; obtain ⟨x19, h20, h⟩ := bsome h; have k18 := t_format_numbers x16 ("," : Str) h20; obtain ⟨x21, h22, h⟩ := bsome h; obtain ⟨x23, h24, h⟩ := bsome h; have hE := Option.some.inj h; subst hE; exact ⟨[.val (eF effect_), .val (D.str y7.1), .val (tD y7.2)], rfl, ⟨rfl, x_jnCons h24 (x_fmtS h9 rfl) (fun _ j25 => x_jnCons j25 rfl (fun _ j26 => x_jnCons j26 (x_fmtI h14 (x_prop rfl k10)) (fun _ j27 => x_jnCons j27 rfl (fun _ j28 => x_jnCons j28 (x_fmtS h22 (x_call (e2 := [.val (eF effect_), .val (D.str y7.1), .val (tD y7.2)]) (rD_ok (x := D.tup (List.map D.int x16)) (e1 := [.val (eF effect_), .val (D.str y7.1), .val (tD y7.2)]) (x_prop rfl k15) (rD_ok (x := D.str ("," : Str)) (e1 := [.val (eF effect_), .val (D.str y7.1), .val (tD y7.2)]) rfl rNil_eq)) rfl k18 (putO_id rfl))) (fun _ j29 => x_jnEnd j29)))))⟩, rfl, rfl⟩)))))) ⟨rfl, rfl⟩
noncomputable def p__law_check (effect_ : Eff) : Option Bool := (p_effect_grid effect_).bind fun x2 => (p__law_drawn effect_).bind fun x5 => (if (!decide (x2 = x5)) = true then some false else (p_effect_grid effect_).bind fun x9 => (splitSP x9 ("\n" : Str)).bind fun x11 => (p_format_effect effect_).bind fun x14 => (splitSP x14 ("\n" : Str)).bind fun x16 => ((forF (R := Bool) (fun y18 (s19 : Unit) => (splitSP y18.1 (" " : Str)).bind fun x22 => (lcT x22 (fun y24 => !decide (y24 = ("" : Str))) (fun y24 => y24)).bind fun x25 => (repSP y18.2 ("," : Str) (" " : Str)).bind fun x27 => (joinSP (" " : Str) x25).bind fun x29 => (if (!decide (x27 = x29)) = true then some (Fw.rt false) else some (Fw.nx ()))) (List.zip x11 x16) ()).bind fun w32 => match w32 with | .nx s20 => some true | .rt r35 => some r35 | .bk _ => none))
theorem t__law_check (effect_ : Eff) {r : Bool} (h : p__law_check effect_ = some r) : R__law_check [.val (eF effect_)] = .ok (D.bl r) [.no] := by
  unfold p__law_check at h
  refine run_Ot (n := 1) (m := 5) (P := fun _ _ => False) (dD := fun (r : Bool) => D.bl r) (os := fun (r : Bool) => [.no]) (r := r) ?_ rfl (by decide)
  change Ot g__law_check [.val (eF effect_), .no, .no, .no, .no] (fun (_ : Unit) _ => False) (fun (r : Bool) => Fl.rt (D.bl r)) (Fin 1 5 (fun (r : Bool) => [.no])) (.rt r)
  unfold g__law_check
  obtain ⟨x2, h3, h⟩ := bsome h
  have k1 := t_effect_grid effect_ h3
  obtain ⟨x5, h6, h⟩ := bsome h
  have k4 := t__law_drawn effect_ h6
  by_cases c7 : (!decide (x2 = x5)) = true
  · rw [if_pos c7] at h
    refine ot_seq_rt (P' := fun (_ : Unit) _ => False) (.inl ⟨_, rfl⟩) (ot_if_t (fB_ok (x_op (p := D.str x2) (q := D.str x5) (e1 := [.val (eF effect_), .no, .no, .no, .no]) (e2 := [.val (eF effect_), .no, .no, .no, .no]) (x_call (e2 := [.val (eF effect_), .no, .no, .no, .no]) (rD_ok (x := eF effect_) (e1 := [.val (eF effect_), .no, .no, .no, .no]) rfl rNil_eq) rfl k1 (putO_id rfl)) (x_call (e2 := [.val (eF effect_), .no, .no, .no, .no]) (rD_ok (x := eF effect_) (e1 := [.val (eF effect_), .no, .no, .no, .no]) rfl rNil_eq) rfl k4 (putO_id rfl)) (o_neSt (a := x2) (b := x5)))) c7 ?_)
    have hE := Option.some.inj h; subst hE
    exact ot_rt (e2 := [.val (eF effect_), .no, .no, .no, .no]) (fRet_ok rfl) ⟨rfl, rfl⟩
  · rw [if_neg c7] at h
    refine ot_seq (e1 := [.val (eF effect_), .no, .no, .no, .no]) (fIf_n (fB_ok (x_op (p := D.str x2) (q := D.str x5) (e1 := [.val (eF effect_), .no, .no, .no, .no]) (e2 := [.val (eF effect_), .no, .no, .no, .no]) (x_call (e2 := [.val (eF effect_), .no, .no, .no, .no]) (rD_ok (x := eF effect_) (e1 := [.val (eF effect_), .no, .no, .no, .no]) rfl rNil_eq) rfl k1 (putO_id rfl)) (x_call (e2 := [.val (eF effect_), .no, .no, .no, .no]) (rD_ok (x := eF effect_) (e1 := [.val (eF effect_), .no, .no, .no, .no]) rfl rNil_eq) rfl k4 (putO_id rfl)) (o_neSt (a := x2) (b := x5)))) c7 rfl) ?_
    obtain ⟨x9, h10, h⟩ := bsome h
    have k8 := t_effect_grid effect_ h10
    obtain ⟨x11, h12, h⟩ := bsome h
    obtain ⟨x14, h15, h⟩ := bsome h
    have k13 := t_format_effect effect_ h15
    obtain ⟨x16, h17, h⟩ := bsome h
    obtain ⟨w32, h33, h⟩ := bsome h
    refine ot_seq_w (E' := fun (s19 : Unit) => [.val (eF effect_), .no, .no, .no, .no]) (w' := w32) (fun _ => .inl ⟨_, rfl⟩) ?_ (fun s20 hw => ?_) (fun _ hw => ?_) (fun _ hw => ?_)
    · refine ot_wk (P := fun s e1 => e1 = (fun (s19 : Unit) => [.val (eF effect_), .no, .no, .no, .no]) s) (fFor_F (enc := (eP D.str D.str)) (E := fun (s19 : Unit) => [.val (eF effect_), .no, .no, .no, .no]) h33 (x_zip (F := D.str) (G := D.str) (e1 := [.val (eF effect_), .no, .no, .no, .no]) (fL_ok (x_split h12 (x_call (e2 := [.val (eF effect_), .no, .no, .no, .no]) (rD_ok (x := eF effect_) (e1 := [.val (eF effect_), .no, .no, .no, .no]) rfl rNil_eq) rfl k8 (putO_id rfl)) rfl)) (fL_ok (x_split h17 (x_call (e2 := [.val (eF effect_), .no, .no, .no, .no]) (rD_ok (x := eF effect_) (e1 := [.val (eF effect_), .no, .no, .no, .no]) rfl rNil_eq) rfl k13 (putO_id rfl)) rfl))) (fun _ => .inl ⟨_, rfl⟩) (fun y18 s19 w34 h => ?_)) (fun _ _ hq => by rw [hq]; rfl) (fun _ => all_lt rfl)
      refine ⟨[.val (eF effect_), .val (D.str y18.1), .val (D.str y18.2), .no, .no], rfl, ot_wkQ ?_ (by first | exact fun _ _ _ => trivial | exact fun _ _ h => h.wk (all_lt rfl))⟩
      obtain ⟨x22, h23, h⟩ := bsome h
      obtain ⟨x25, h26, h⟩ := bsome h
      refine ot_seq (e1 := [.val (eF effect_), .val (D.str y18.1), .val (D.str y18.2), .val (D.lst (List.map D.str x25)), .no]) (fSetT_ok (x := D.lst (List.map D.str x25)) (u := ()) (e1 := [.val (eF effect_), .val (D.str y18.1), .val (D.str y18.2), .no, .no]) (fL_ok (fLc_T (enc := D.str) (encB := D.str) h26 (x_wL (F := D.str) (fL_ok (x_split h23 rfl rfl))) rfl rfl (fun y24 => ⟨[.val (eF effect_), .val (D.str y18.1), .val (D.str y18.2), .no, .val (D.str y24)], rfl, fB_ok (x_op (p := D.str y24) (q := D.str ("" : Str)) (e1 := [.val (eF effect_), .val (D.str y18.1), .val (D.str y18.2), .no, .val (D.str y24)]) (e2 := [.val (eF effect_), .val (D.str y18.1), .val (D.str y18.2), .no, .val (D.str y24)]) rfl rfl (o_neSt (a := y24) (b := ("" : Str)))), fun _ => rfl, rfl, rfl⟩))) rfl) ?_
      obtain ⟨x27, h28, h⟩ := bsome h
      obtain ⟨x29, h30, h⟩ := bsome h
      by_cases c31 : (!decide (x27 = x29)) = true
      · rw [if_pos c31] at h
        refine ot_if_t (fB_ok (x_op (p := D.str x27) (q := D.str x29) (e1 := [.val (eF effect_), .val (D.str y18.1), .val (D.str y18.2), .val (D.lst (List.map D.str x25)), .no]) (e2 := [.val (eF effect_), .val (D.str y18.1), .val (D.str y18.2), .val (D.lst (List.map D.str x25)), .no]) (x_repl h28 rfl) (x_join (ys := x25) h30 rfl rfl) (o_neSt (a := x27) (b := x29)))) c31 ?_
        have hE := Option.some.inj h; subst hE
        exact ot_rt (e2 := [.val (eF effect_), .val (D.str y18.1), .val (D.str y18.2), .val (D.lst (List.map D.str x25)), .no]) (fRet_ok rfl) ⟨rfl, rfl⟩
      · rw [if_neg c31] at h
        refine ot_if_f (fB_ok (x_op (p := D.str x27) (q := D.str x29) (e1 := [.val (eF effect_), .val (D.str y18.1), .val (D.str y18.2), .val (D.lst (List.map D.str x25)), .no]) (e2 := [.val (eF effect_), .val (D.str y18.1), .val (D.str y18.2), .val (D.lst (List.map D.str x25)), .no]) (x_repl h28 rfl) (x_join (ys := x25) h30 rfl rfl) (o_neSt (a := x27) (b := x29)))) c31 ?_
        have hE := Option.some.inj h; subst hE
        exact ⟨_, rfl, rfl⟩
    · subst hw
      show Ot _ [.val (eF effect_), .no, .no, .no, .no] _ _ _ _
      have hE := Option.some.inj h; subst hE
      exact ot_rt (e2 := [.val (eF effect_), .no, .no, .no, .no]) (fRet_ok rfl) ⟨rfl, rfl⟩
    · subst hw
      have hE := Option.some.inj h; subst hE
      rfl
    · subst hw
      cases h
noncomputable def p_Effect_shifted (self_ : Eff) (offset_ : Int) : Option Eff := (p_is_integer offset_).bind fun x2 => (if (!x2) = true then none else (lcT self_.1 (fun y5 => true) (fun y5 => y5 + offset_)).bind fun x6 => (p_Effect___init__ (false, x6) (true, self_.2)).bind fun x9 => some x9)
theorem t_Effect_shifted (self_ : Eff) (offset_ : Int) {r : Eff} (h : p_Effect_shifted self_ offset_ = some r) : R_Effect_shifted [.val (eF self_), .val (D.int offset_)] = .ok (eF r) [.no, .no] := by
  unfold p_Effect_shifted at h
  refine run_Ot (n := 2) (m := 3) (P := fun _ _ => False) (dD := fun (r : Eff) => eF r) (os := fun (r : Eff) => [.no, .no]) (r := r) ?_ rfl (by decide)
  change Ot g_Effect_shifted [.val (eF self_), .val (D.int offset_), .no] (fun (_ : Unit) _ => False) (fun (r : Eff) => Fl.rt (eF r)) (Fin 2 3 (fun (r : Eff) => [.no, .no])) (.rt r)
  unfold g_Effect_shifted
  obtain ⟨x2, h3, h⟩ := bsome h
  have k1 := t_is_integer offset_ h3
  by_cases c4 : (!x2) = true
  · rw [if_pos c4] at h
    cases h
  · rw [if_neg c4] at h
    refine ot_seq (e1 := [.val (eF self_), .val (D.int offset_), .no]) (fIf_n (fNot_ok (fB_ok (x_call (e2 := [.val (eF self_), .val (D.int offset_), .no]) (rD_ok (x := D.int offset_) (e1 := [.val (eF self_), .val (D.int offset_), .no]) rfl rNil_eq) rfl k1 (putO_id rfl)))) c4 rfl) ?_
    obtain ⟨x6, h7, h⟩ := bsome h
    obtain ⟨x9, h10, h⟩ := bsome h
    have k8 := t_Effect___init__ (false, x6) (true, self_.2) h10
    have hE := Option.some.inj h; subst hE
    exact ot_rt (e2 := [.val (eF self_), .val (D.int offset_), .no]) (fRet_ok (x_make (fCons_ok (x := D.lst (List.map D.int x6)) (e1 := [.val (eF self_), .val (D.int offset_), .no]) (fL_ok (fLc_T (enc := D.int) (encB := D.int) h7 (x_wT (F := D.int) rfl) rfl rfl (fun y5 => ⟨[.val (eF self_), .val (D.int offset_), .val (D.int y5)], rfl, rfl, fun _ => rfl, rfl, rfl⟩))) (fCons_ok (x := D.tup (List.map tD self_.2)) (e1 := [.val (eF self_), .val (D.int offset_), .no]) rfl fNil_eq)) ⟨_, _, _, _, rfl, k8⟩)) ⟨rfl, rfl⟩
theorem t_Effect_nothing  {r : Eff} (h : p_Effect_nothing  = some r) : R_Effect_nothing [.val ((D.cls "Effect"))] = .ok (eF r) [.no] := by
  unfold p_Effect_nothing at h
  refine run_Ot (n := 1) (m := 1) (P := fun _ _ => False) (dD := fun (r : Eff) => eF r) (os := fun (r : Eff) => [.no]) (r := r) ?_ rfl (by decide)
  change Ot g_Effect_nothing [.val ((D.cls "Effect"))] (fun (_ : Unit) _ => False) (fun (r : Eff) => Fl.rt (eF r)) (Fin 1 1 (fun (r : Eff) => [.no])) (.rt r)
  unfold g_Effect_nothing
  obtain ⟨x2, h3, h⟩ := bsome h
  have k1 := t_Table___init__ 0 (true, []) h3
  obtain ⟨x5, h6, h⟩ := bsome h
  have k4 := t_Effect___init__ (true, []) (true, [(x2)]) h6
  have hE := Option.some.inj h; subst hE
  exact ot_rt (e2 := [.val ((D.cls "Effect"))]) (fRet_ok (x_makeV rfl (x_make (fCons_ok (x := D.tup (List.map D.int [])) (e1 := [.val ((D.cls "Effect"))]) rfl (fCons_ok (x := (eP1 tD) (x2)) (e1 := [.val ((D.cls "Effect"))]) (fTup_ok (fCons_ok (x := tD x2) (e1 := [.val ((D.cls "Effect"))]) (x_make (fCons_ok (x := D.int 0) (e1 := [.val ((D.cls "Effect"))]) rfl (fCons_ok (x := D.tup (List.map D.int [])) (e1 := [.val ((D.cls "Effect"))]) rfl fNil_eq)) ⟨_, _, _, _, rfl, k1⟩) fNil_eq) (by show (1 : Nat) ≤ 16777216; decide)) fNil_eq)) ⟨_, _, _, _, rfl, k4⟩))) ⟨rfl, rfl⟩
theorem t_Sequence___mul__ (self_ : (List Stp)) (times_ : Int) {r : (List Stp)} (h : p_Sequence___mul__ self_ times_ = some r) : R_Sequence___mul__ [.val (sqD self_), .val (D.int times_)] = .ok (sqD r) [.no, .no] := by
  unfold p_Sequence___mul__ at h
  refine run_Ot (n := 2) (m := 3) (P := fun _ _ => False) (dD := fun (r : (List Stp)) => sqD r) (os := fun (r : (List Stp)) => [.no, .no]) (r := r) ?_ rfl (by decide)
  change Ot g_Sequence___mul__ [.val (sqD self_), .val (D.int times_), .no] (fun (_ : Unit) _ => False) (fun (r : (List Stp)) => Fl.rt (sqD r)) (Fin 2 3 (fun (r : (List Stp)) => [.no, .no])) (.rt r)
  unfold g_Sequence___mul__
  obtain ⟨x3, h4, h⟩ := bsome h
  refine ot_seq (e1 := [.val (sqD self_), .val (D.int times_), .val (D.tup (List.map stD x3))]) (fSetT_ok (x := D.tup (List.map stD x3)) (u := ()) (e1 := [.val (sqD self_), .val (D.int times_), .no]) (x_if (p := (decide (0 < (self_.length : Int)))) (r := .ok (D.tup (List.map stD x3)) [.val (sqD self_), .val (D.int times_), .no]) (fB_ok (x_op (p := D.int (self_.length : Int)) (q := D.int 0) (e1 := [.val (sqD self_), .val (D.int times_), .no]) (e2 := [.val (sqD self_), .val (D.int times_), .no]) (x_d1 (p := D.tup (List.map stD self_)) rfl l_tup) rfl rfl)) (fun c5 => by (have h := h4; rw [if_pos c5] at h; obtain ⟨x1, h2, h⟩ := bsome h; have hE := Option.some.inj h; subst hE; exact x_op (p := D.tup (List.map stD self_)) (q := D.int times_) (e1 := [.val (sqD self_), .val (D.int times_), .no]) (e2 := [.val (sqD self_), .val (D.int times_), .no]) rfl rfl (o_repT h2))) (fun c5 => by (have h := h4; rw [if_neg (show ¬ ((decide (0 < (self_.length : Int))) = true) from fun z => Bool.false_ne_true (Eq.trans (Eq.symm c5) z))] at h; skip; have hE := Option.some.inj h; subst hE; exact rfl))) rfl) ?_
  obtain ⟨x7, h8, h⟩ := bsome h
  have k6 := t_Sequence___init__ x3 h8
  have hE := Option.some.inj h; subst hE
  exact ot_rt (e2 := [.val (sqD self_), .val (D.int times_), .val (D.tup (List.map stD x3))]) (fRet_ok (x_make (x_iT (F := stD) rfl) ⟨_, _, _, _, rfl, k6⟩)) ⟨rfl, rfl⟩
noncomputable def p_law (script_ : (List Int)) : Option Bool := ((forF (R := Bool) (fun y1 (s2 : Unit) => (p__law_pool script_ y1).bind fun x6 => (p__law_steps x6 10 9).bind fun x9 => (p__law_sequence x9.1).bind fun x12 => (p_Effect_of x12).bind fun x15 => (p__law_take x9.2 (10 ^ (12 : Int).toNat)).bind fun x18 => (p__law_take x18.2 (10 ^ (12 : Int).toNat)).bind fun x21 => (p__law_take x21.2 4).bind fun x24 => (L2.atI [0, x18.1, 0 - x21.1, 99999999] x24.1).bind fun x26 => (p__law_check x15).bind fun x29 => (if (!x29) = true then some true else (p_Effect_shifted x15 x26).bind fun x32 => (p__law_check x32).bind fun x35 => some (!x35)).bind fun x38 => (if x38 = true then (some false).bind fun q41 => some (Fw.rt q41) else (p__law_take x24.2 3).bind fun x44 => (L2.atI [10 ^ (5 : Int).toNat, 10 ^ (6 : Int).toNat, 10 ^ (40 : Int).toNat] x44.1).bind fun x46 => (p__law_take x44.2 (10 ^ (5 : Int).toNat)).bind fun x49 => (p_Table___init__ (x46 + x49.1) (true, [])).bind fun x52 => (p_Table___init__ 0 (true, [])).bind fun x55 => (p_Table___init__ 99999 (true, [])).bind fun x58 => (p_Effect___init__ (true, [(5, 10 ^ (30 : Int).toNat).1, (5, 10 ^ (30 : Int).toNat).2]) (true, [(x55, x58, x52).1, (x55, x58, x52).2.1, (x55, x58, x52).2.2])).bind fun x61 => (p_effect_grid x61).bind fun x64 => (p__law_drawn x61).bind fun x67 => (if (!decide (x64 = x67)) = true then some (Fw.rt false) else some (Fw.nx ())))) (rngP 0 (if (if (script_.length : Int) < 10 then (script_.length : Int) else 10) > 1 then (if (script_.length : Int) < 10 then (script_.length : Int) else 10) else 1)) ()).bind fun w70 => match w70 with | .nx s3 => (p_Effect_nothing ).bind fun x74 => (p__law_check x74).bind fun x77 => (if x77 = true then (p_Sequence___init__ ((true, -1234567) :: ([] : List Stp))).bind fun x80 => (p_Sequence___mul__ x80 200).bind fun x83 => (p_Effect_of x83).bind fun x86 => (p__law_check x86).bind fun x89 => some x89 else some false).bind fun x92 => some x92 | .rt r94 => some r94 | .bk _ => none)
theorem t_law (script_ : (List Int)) {r : Bool} (h : p_law script_ = some r) : R_law [.val (D.scr script_)] = .ok (D.bl r) [.no] := by
  unfold p_law at h
  refine run_Ot (n := 1) (m := 8) (P := fun _ _ => False) (dD := fun (r : Bool) => D.bl r) (os := fun (r : Bool) => [.no]) (r := r) ?_ rfl (by decide)
  change Ot g_law [.val (D.scr script_), .no, .no, .no, .no, .no, .no, .no] (fun (_ : Unit) _ => False) (fun (r : Bool) => Fl.rt (D.bl r)) (Fin 1 8 (fun (r : Bool) => [.no])) (.rt r)
  unfold g_law
  obtain ⟨w70, h71, h⟩ := bsome h
  refine ot_seq_w (E' := fun (s2 : Unit) => [.val (D.scr script_), .no, .no, .no, .no, .no, .no, .no]) (w' := w70) (fun _ => .inl ⟨_, rfl⟩) ?_ (fun s3 hw => ?_) (fun _ hw => ?_) (fun _ hw => ?_)
  · refine ot_wk (P := fun s e1 => e1 = (fun (s2 : Unit) => [.val (D.scr script_), .no, .no, .no, .no, .no, .no, .no]) s) (fFor_F (enc := D.int) (E := fun (s2 : Unit) => [.val (D.scr script_), .no, .no, .no, .no, .no, .no, .no]) h71 (x_rng1 (x_d2 (p := D.int 1) (q := D.int (if (script_.length : Int) < 10 then (script_.length : Int) else 10)) (e1 := [.val (D.scr script_), .no, .no, .no, .no, .no, .no, .no]) rfl (x_d2 (p := D.int 10) (q := D.int (script_.length : Int)) (e1 := [.val (D.scr script_), .no, .no, .no, .no, .no, .no, .no]) rfl (x_d1 (p := D.scr script_) rfl rfl) rfl) rfl)) (fun _ => .inl ⟨_, rfl⟩) (fun y1 s2 w72 h => ?_)) (fun _ _ hq => by rw [hq]; rfl) (fun _ => all_lt rfl)
    refine ⟨[.val (D.scr script_), .val (D.int y1), .no, .no, .no, .no, .no, .no], rfl, ot_wkQ ?_ (by first | exact fun _ _ _ => trivial | exact fun _ _ h => h.wk (all_lt rfl))⟩
    obtain ⟨x6, h7, h⟩ := bsome h
    have k5 := t__law_pool script_ y1 h7
    refine ot_seq (e1 := [.val (D.scr script_), .val (D.int y1), .own false (List.map D.int x6), .no, .no, .no, .no, .no]) (x_setN (F := D.int) (xs := x6) (e1 := [.val (D.scr script_), .val (D.int y1), .no, .no, .no, .no, .no, .no]) (x_callN (e2 := [.val (D.scr script_), .val (D.int y1), .no, .no, .no, .no, .no, .no]) (rD_ok (x := D.scr script_) (e1 := [.val (D.scr script_), .val (D.int y1), .no, .no, .no, .no, .no, .no]) rfl (rD_ok (x := D.int y1) (e1 := [.val (D.scr script_), .val (D.int y1), .no, .no, .no, .no, .no, .no]) rfl rNil_eq)) rfl k5 (putO_id rfl)) rfl) ?_
    obtain ⟨x9, h10, h⟩ := bsome h
    have k8 := t__law_steps x6 10 9 h10
    refine ot_seq (e1 := [.val (D.scr script_), .val (D.int y1), .own false (List.map D.int x9.2), .val (D.lst (List.map stD x9.1)), .no, .no, .no, .no]) (fSetT_ok (x := D.lst (List.map stD x9.1)) (u := ()) (e1 := [.val (D.scr script_), .val (D.int y1), .own false (List.map D.int x9.2), .no, .no, .no, .no, .no]) (x_call (e2 := [.val (D.scr script_), .val (D.int y1), .own false (List.map D.int x9.2), .no, .no, .no, .no, .no]) (rO_ok rfl (rD_ok (x := D.int 10) (e1 := [.val (D.scr script_), .val (D.int y1), .own false (List.map D.int x6), .no, .no, .no, .no, .no]) rfl (rD_ok (x := D.int 9) (e1 := [.val (D.scr script_), .val (D.int y1), .own false (List.map D.int x6), .no, .no, .no, .no, .no]) rfl rNil_eq)) ⟨_, _, rfl⟩) rfl k8 rfl) rfl) ?_
    obtain ⟨x12, h13, h⟩ := bsome h
    have k11 := t__law_sequence x9.1 h13
    obtain ⟨x15, h16, h⟩ := bsome h
    have k14 := t_Effect_of x12 h16
    refine ot_seq (e1 := [.val (D.scr script_), .val (D.int y1), .own false (List.map D.int x9.2), .val (D.lst (List.map stD x9.1)), .val (eF x15), .no, .no, .no]) (fSetT_ok (x := eF x15) (u := ()) (e1 := [.val (D.scr script_), .val (D.int y1), .own false (List.map D.int x9.2), .val (D.lst (List.map stD x9.1)), .no, .no, .no, .no]) (x_cmeth (e2 := [.val (D.scr script_), .val (D.int y1), .own false (List.map D.int x9.2), .val (D.lst (List.map stD x9.1)), .no, .no, .no, .no]) (rD_ok (x := sqD x12) (e1 := [.val (D.scr script_), .val (D.int y1), .own false (List.map D.int x9.2), .val (D.lst (List.map stD x9.1)), .no, .no, .no, .no]) (x_call (e2 := [.val (D.scr script_), .val (D.int y1), .own false (List.map D.int x9.2), .val (D.lst (List.map stD x9.1)), .no, .no, .no, .no]) (rD_ok (x := D.lst (List.map stD x9.1)) (e1 := [.val (D.scr script_), .val (D.int y1), .own false (List.map D.int x9.2), .val (D.lst (List.map stD x9.1)), .no, .no, .no, .no]) rfl rNil_eq) rfl k11 (putO_id rfl)) rNil_eq) rfl k14 (putO_id rfl)) rfl) ?_
    obtain ⟨x18, h19, h⟩ := bsome h
    have k17 := t__law_take x9.2 (10 ^ (12 : Int).toNat) h19
    obtain ⟨x21, h22, h⟩ := bsome h
    have k20 := t__law_take x18.2 (10 ^ (12 : Int).toNat) h22
    obtain ⟨x24, h25, h⟩ := bsome h
    have k23 := t__law_take x21.2 4 h25
    obtain ⟨x26, h27, h⟩ := bsome h
    refine ot_seq (e1 := [.val (D.scr script_), .val (D.int y1), .own false (List.map D.int x24.2), .val (D.lst (List.map stD x9.1)), .val (eF x15), .val (D.int x26), .no, .no]) (fSetT_ok (x := D.int x26) (u := ()) (e1 := [.val (D.scr script_), .val (D.int y1), .own false (List.map D.int x24.2), .val (D.lst (List.map stD x9.1)), .val (eF x15), .no, .no, .no]) (x_op (p := D.lst (List.map D.int [0, x18.1, 0 - x21.1, 99999999])) (q := D.int x24.1) (e1 := [.val (D.scr script_), .val (D.int y1), .own false (List.map D.int x21.2), .val (D.lst (List.map stD x9.1)), .val (eF x15), .no, .no, .no]) (e2 := [.val (D.scr script_), .val (D.int y1), .own false (List.map D.int x24.2), .val (D.lst (List.map stD x9.1)), .val (eF x15), .no, .no, .no]) (fL_ok (fLst_ok (fCons_ok (x := D.int 0) (e1 := [.val (D.scr script_), .val (D.int y1), .own false (List.map D.int x9.2), .val (D.lst (List.map stD x9.1)), .val (eF x15), .no, .no, .no]) rfl (fCons_ok (x := D.int x18.1) (e1 := [.val (D.scr script_), .val (D.int y1), .own false (List.map D.int x18.2), .val (D.lst (List.map stD x9.1)), .val (eF x15), .no, .no, .no]) (x_call (e2 := [.val (D.scr script_), .val (D.int y1), .own false (List.map D.int x18.2), .val (D.lst (List.map stD x9.1)), .val (eF x15), .no, .no, .no]) (rO_ok rfl (rD_ok (x := D.int (10 ^ (12 : Int).toNat)) (e1 := [.val (D.scr script_), .val (D.int y1), .own false (List.map D.int x9.2), .val (D.lst (List.map stD x9.1)), .val (eF x15), .no, .no, .no]) (x_op (p := D.int 10) (q := D.int 12) (e1 := [.val (D.scr script_), .val (D.int y1), .own false (List.map D.int x9.2), .val (D.lst (List.map stD x9.1)), .val (eF x15), .no, .no, .no]) (e2 := [.val (D.scr script_), .val (D.int y1), .own false (List.map D.int x9.2), .val (D.lst (List.map stD x9.1)), .val (eF x15), .no, .no, .no]) rfl rfl (dPow_eq (by decide))) rNil_eq) ⟨_, _, rfl⟩) rfl k17 rfl) (fCons_ok (x := D.int (0 - x21.1)) (e1 := [.val (D.scr script_), .val (D.int y1), .own false (List.map D.int x21.2), .val (D.lst (List.map stD x9.1)), .val (eF x15), .no, .no, .no]) (x_op (p := D.int 0) (q := D.int x21.1) (e1 := [.val (D.scr script_), .val (D.int y1), .own false (List.map D.int x18.2), .val (D.lst (List.map stD x9.1)), .val (eF x15), .no, .no, .no]) (e2 := [.val (D.scr script_), .val (D.int y1), .own false (List.map D.int x21.2), .val (D.lst (List.map stD x9.1)), .val (eF x15), .no, .no, .no]) rfl (x_call (e2 := [.val (D.scr script_), .val (D.int y1), .own false (List.map D.int x21.2), .val (D.lst (List.map stD x9.1)), .val (eF x15), .no, .no, .no]) (rO_ok rfl (rD_ok (x := D.int (10 ^ (12 : Int).toNat)) (e1 := [.val (D.scr script_), .val (D.int y1), .own false (List.map D.int x18.2), .val (D.lst (List.map stD x9.1)), .val (eF x15), .no, .no, .no]) (x_op (p := D.int 10) (q := D.int 12) (e1 := [.val (D.scr script_), .val (D.int y1), .own false (List.map D.int x18.2), .val (D.lst (List.map stD x9.1)), .val (eF x15), .no, .no, .no]) (e2 := [.val (D.scr script_), .val (D.int y1), .own false (List.map D.int x18.2), .val (D.lst (List.map stD x9.1)), .val (eF x15), .no, .no, .no]) rfl rfl (dPow_eq (by decide))) rNil_eq) ⟨_, _, rfl⟩) rfl k20 rfl) rfl) (fCons_ok (x := D.int 99999999) (e1 := [.val (D.scr script_), .val (D.int y1), .own false (List.map D.int x21.2), .val (D.lst (List.map stD x9.1)), .val (eF x15), .no, .no, .no]) rfl fNil_eq)))) (by show (4 : Nat) ≤ 16777216; decide))) (x_call (e2 := [.val (D.scr script_), .val (D.int y1), .own false (List.map D.int x24.2), .val (D.lst (List.map stD x9.1)), .val (eF x15), .no, .no, .no]) (rO_ok rfl (rD_ok (x := D.int 4) (e1 := [.val (D.scr script_), .val (D.int y1), .own false (List.map D.int x21.2), .val (D.lst (List.map stD x9.1)), .val (eF x15), .no, .no, .no]) rfl rNil_eq) ⟨_, _, rfl⟩) rfl k23 rfl) (o_at (F := D.int) h27)) rfl) ?_
    obtain ⟨x29, h30, h⟩ := bsome h
    have k28 := t__law_check x15 h30
    obtain ⟨x38, h39, h⟩ := bsome h
    by_cases c40 : x38 = true
    · rw [if_pos c40] at h
      obtain ⟨q41, h42, h⟩ := bsome h
      have hE := Option.some.inj h; subst hE
      have h := h42
      refine ot_seq_rt (P' := fun (_ : Unit) _ => False) (.inl ⟨_, rfl⟩) (ot_if_t (x_or (q := true) (p := (!x29)) (fNot_ok (fB_ok (x_call (e2 := [.val (D.scr script_), .val (D.int y1), .own false (List.map D.int x24.2), .val (D.lst (List.map stD x9.1)), .val (eF x15), .val (D.int x26), .no, .no]) (rD_ok (x := eF x15) (e1 := [.val (D.scr script_), .val (D.int y1), .own false (List.map D.int x24.2), .val (D.lst (List.map stD x9.1)), .val (eF x15), .val (D.int x26), .no, .no]) rfl rNil_eq) rfl k28 (putO_id rfl)))) (fun c37 => by (have h := h39; rw [if_neg (show ¬ ((!x29) = true) from fun z => Bool.false_ne_true (Eq.trans (Eq.symm c37) z))] at h; obtain ⟨x32, h33, h⟩ := bsome h; have k31 := t_Effect_shifted x15 x26 h33; obtain ⟨x35, h36, h⟩ := bsome h; have k34 := t__law_check x32 h36; have hE := Option.some.inj h; subst hE; exact fNot_ok (fB_ok (x_call (e2 := [.val (D.scr script_), .val (D.int y1), .own false (List.map D.int x24.2), .val (D.lst (List.map stD x9.1)), .val (eF x15), .val (D.int x26), .no, .no]) (rD_ok (x := eF x32) (e1 := [.val (D.scr script_), .val (D.int y1), .own false (List.map D.int x24.2), .val (D.lst (List.map stD x9.1)), .val (eF x15), .val (D.int x26), .no, .no]) (x_meth (e3 := [.val (D.scr script_), .val (D.int y1), .own false (List.map D.int x24.2), .val (D.lst (List.map stD x9.1)), .val (eF x15), .val (D.int x26), .no, .no]) rfl rfl (rD_ok (x := D.int x26) (e1 := [.val (D.scr script_), .val (D.int y1), .own false (List.map D.int x24.2), .val (D.lst (List.map stD x9.1)), .val (eF x15), .val (D.int x26), .no, .no]) rfl rNil_eq) rfl k31 (putO_id rfl)) rNil_eq) rfl k34 (putO_id rfl))))) (fun c37 => by (have h := h39; rw [if_pos c37] at h; exact (Option.some.inj h).symm))) c40 ?_)
      have hE := Option.some.inj h; subst hE
      exact ot_rt (e2 := [.val (D.scr script_), .val (D.int y1), .own false (List.map D.int x24.2), .val (D.lst (List.map stD x9.1)), .val (eF x15), .val (D.int x26), .no, .no]) (fRet_ok rfl) ⟨rfl, rfl⟩
    · rw [if_neg c40] at h
      refine ot_seq (e1 := [.val (D.scr script_), .val (D.int y1), .own false (List.map D.int x24.2), .val (D.lst (List.map stD x9.1)), .val (eF x15), .val (D.int x26), .no, .no]) (fIf_n (x_or (q := true) (p := (!x29)) (fNot_ok (fB_ok (x_call (e2 := [.val (D.scr script_), .val (D.int y1), .own false (List.map D.int x24.2), .val (D.lst (List.map stD x9.1)), .val (eF x15), .val (D.int x26), .no, .no]) (rD_ok (x := eF x15) (e1 := [.val (D.scr script_), .val (D.int y1), .own false (List.map D.int x24.2), .val (D.lst (List.map stD x9.1)), .val (eF x15), .val (D.int x26), .no, .no]) rfl rNil_eq) rfl k28 (putO_id rfl)))) (fun c37 => by (have h := h39; rw [if_neg (show ¬ ((!x29) = true) from fun z => Bool.false_ne_true (Eq.trans (Eq.symm c37) z))] at h; obtain ⟨x32, h33, h⟩ := bsome h; have k31 := t_Effect_shifted x15 x26 h33; obtain ⟨x35, h36, h⟩ := bsome h; have k34 := t__law_check x32 h36; have hE := Option.some.inj h; subst hE; exact fNot_ok (fB_ok (x_call (e2 := [.val (D.scr script_), .val (D.int y1), .own false (List.map D.int x24.2), .val (D.lst (List.map stD x9.1)), .val (eF x15), .val (D.int x26), .no, .no]) (rD_ok (x := eF x32) (e1 := [.val (D.scr script_), .val (D.int y1), .own false (List.map D.int x24.2), .val (D.lst (List.map stD x9.1)), .val (eF x15), .val (D.int x26), .no, .no]) (x_meth (e3 := [.val (D.scr script_), .val (D.int y1), .own false (List.map D.int x24.2), .val (D.lst (List.map stD x9.1)), .val (eF x15), .val (D.int x26), .no, .no]) rfl rfl (rD_ok (x := D.int x26) (e1 := [.val (D.scr script_), .val (D.int y1), .own false (List.map D.int x24.2), .val (D.lst (List.map stD x9.1)), .val (eF x15), .val (D.int x26), .no, .no]) rfl rNil_eq) rfl k31 (putO_id rfl)) rNil_eq) rfl k34 (putO_id rfl))))) (fun c37 => by (have h := h39; rw [if_pos c37] at h; exact (Option.some.inj h).symm))) c40 rfl) ?_
      obtain ⟨x44, h45, h⟩ := bsome h
      have k43 := t__law_take x24.2 3 h45
      obtain ⟨x46, h47, h⟩ := bsome h
      obtain ⟨x49, h50, h⟩ := bsome h
      have k48 := t__law_take x44.2 (10 ^ (5 : Int).toNat) h50
      obtain ⟨x52, h53, h⟩ := bsome h
      have k51 := t_Table___init__ (x46 + x49.1) (true, []) h53
      refine ot_seq (e1 := [.val (D.scr script_), .val (D.int y1), .own false (List.map D.int x49.2), .val (D.lst (List.map stD x9.1)), .val (eF x15), .val (D.int x26), .val (tD x52), .no]) (fSetT_ok (x := tD x52) (u := ()) (e1 := [.val (D.scr script_), .val (D.int y1), .own false (List.map D.int x49.2), .val (D.lst (List.map stD x9.1)), .val (eF x15), .val (D.int x26), .no, .no]) (x_make (fCons_ok (x := D.int (x46 + x49.1)) (e1 := [.val (D.scr script_), .val (D.int y1), .own false (List.map D.int x49.2), .val (D.lst (List.map stD x9.1)), .val (eF x15), .val (D.int x26), .no, .no]) (x_op (p := D.int x46) (q := D.int x49.1) (e1 := [.val (D.scr script_), .val (D.int y1), .own false (List.map D.int x44.2), .val (D.lst (List.map stD x9.1)), .val (eF x15), .val (D.int x26), .no, .no]) (e2 := [.val (D.scr script_), .val (D.int y1), .own false (List.map D.int x49.2), .val (D.lst (List.map stD x9.1)), .val (eF x15), .val (D.int x26), .no, .no]) (x_op (p := D.lst (List.map D.int [10 ^ (5 : Int).toNat, 10 ^ (6 : Int).toNat, 10 ^ (40 : Int).toNat])) (q := D.int x44.1) (e1 := [.val (D.scr script_), .val (D.int y1), .own false (List.map D.int x24.2), .val (D.lst (List.map stD x9.1)), .val (eF x15), .val (D.int x26), .no, .no]) (e2 := [.val (D.scr script_), .val (D.int y1), .own false (List.map D.int x44.2), .val (D.lst (List.map stD x9.1)), .val (eF x15), .val (D.int x26), .no, .no]) (fL_ok (fLst_ok (fCons_ok (x := D.int (10 ^ (5 : Int).toNat)) (e1 := [.val (D.scr script_), .val (D.int y1), .own false (List.map D.int x24.2), .val (D.lst (List.map stD x9.1)), .val (eF x15), .val (D.int x26), .no, .no]) (x_op (p := D.int 10) (q := D.int 5) (e1 := [.val (D.scr script_), .val (D.int y1), .own false (List.map D.int x24.2), .val (D.lst (List.map stD x9.1)), .val (eF x15), .val (D.int x26), .no, .no]) (e2 := [.val (D.scr script_), .val (D.int y1), .own false (List.map D.int x24.2), .val (D.lst (List.map stD x9.1)), .val (eF x15), .val (D.int x26), .no, .no]) rfl rfl (dPow_eq (by decide))) (fCons_ok (x := D.int (10 ^ (6 : Int).toNat)) (e1 := [.val (D.scr script_), .val (D.int y1), .own false (List.map D.int x24.2), .val (D.lst (List.map stD x9.1)), .val (eF x15), .val (D.int x26), .no, .no]) (x_op (p := D.int 10) (q := D.int 6) (e1 := [.val (D.scr script_), .val (D.int y1), .own false (List.map D.int x24.2), .val (D.lst (List.map stD x9.1)), .val (eF x15), .val (D.int x26), .no, .no]) (e2 := [.val (D.scr script_), .val (D.int y1), .own false (List.map D.int x24.2), .val (D.lst (List.map stD x9.1)), .val (eF x15), .val (D.int x26), .no, .no]) rfl rfl (dPow_eq (by decide))) (fCons_ok (x := D.int (10 ^ (40 : Int).toNat)) (e1 := [.val (D.scr script_), .val (D.int y1), .own false (List.map D.int x24.2), .val (D.lst (List.map stD x9.1)), .val (eF x15), .val (D.int x26), .no, .no]) (x_op (p := D.int 10) (q := D.int 40) (e1 := [.val (D.scr script_), .val (D.int y1), .own false (List.map D.int x24.2), .val (D.lst (List.map stD x9.1)), .val (eF x15), .val (D.int x26), .no, .no]) (e2 := [.val (D.scr script_), .val (D.int y1), .own false (List.map D.int x24.2), .val (D.lst (List.map stD x9.1)), .val (eF x15), .val (D.int x26), .no, .no]) rfl rfl (dPow_eq (by decide))) fNil_eq))) (by show (3 : Nat) ≤ 16777216; decide))) (x_call (e2 := [.val (D.scr script_), .val (D.int y1), .own false (List.map D.int x44.2), .val (D.lst (List.map stD x9.1)), .val (eF x15), .val (D.int x26), .no, .no]) (rO_ok rfl (rD_ok (x := D.int 3) (e1 := [.val (D.scr script_), .val (D.int y1), .own false (List.map D.int x24.2), .val (D.lst (List.map stD x9.1)), .val (eF x15), .val (D.int x26), .no, .no]) rfl rNil_eq) ⟨_, _, rfl⟩) rfl k43 rfl) (o_at (F := D.int) h47)) (x_call (e2 := [.val (D.scr script_), .val (D.int y1), .own false (List.map D.int x49.2), .val (D.lst (List.map stD x9.1)), .val (eF x15), .val (D.int x26), .no, .no]) (rO_ok rfl (rD_ok (x := D.int (10 ^ (5 : Int).toNat)) (e1 := [.val (D.scr script_), .val (D.int y1), .own false (List.map D.int x44.2), .val (D.lst (List.map stD x9.1)), .val (eF x15), .val (D.int x26), .no, .no]) (x_op (p := D.int 10) (q := D.int 5) (e1 := [.val (D.scr script_), .val (D.int y1), .own false (List.map D.int x44.2), .val (D.lst (List.map stD x9.1)), .val (eF x15), .val (D.int x26), .no, .no]) (e2 := [.val (D.scr script_), .val (D.int y1), .own false (List.map D.int x44.2), .val (D.lst (List.map stD x9.1)), .val (eF x15), .val (D.int x26), .no, .no]) rfl rfl (dPow_eq (by decide))) rNil_eq) ⟨_, _, rfl⟩) rfl k48 rfl) rfl) (fCons_ok (x := D.tup (List.map D.int [])) (e1 := [.val (D.scr script_), .val (D.int y1), .own false (List.map D.int x49.2), .val (D.lst (List.map stD x9.1)), .val (eF x15), .val (D.int x26), .no, .no]) rfl fNil_eq)) ⟨_, _, _, _, rfl, k51⟩) rfl) ?_
      obtain ⟨x55, h56, h⟩ := bsome h
      have k54 := t_Table___init__ 0 (true, []) h56
      obtain ⟨x58, h59, h⟩ := bsome h
      have k57 := t_Table___init__ 99999 (true, []) h59
      obtain ⟨x61, h62, h⟩ := bsome h
      have k60 := t_Effect___init__ (true, [(5, 10 ^ (30 : Int).toNat).1, (5, 10 ^ (30 : Int).toNat).2]) (true, [(x55, x58, x52).1, (x55, x58, x52).2.1, (x55, x58, x52).2.2]) h62
      refine ot_seq (e1 := [.val (D.scr script_), .val (D.int y1), .own false (List.map D.int x49.2), .val (D.lst (List.map stD x9.1)), .val (eF x15), .val (D.int x26), .val (tD x52), .val (eF x61)]) (fSetT_ok (x := eF x61) (u := ()) (e1 := [.val (D.scr script_), .val (D.int y1), .own false (List.map D.int x49.2), .val (D.lst (List.map stD x9.1)), .val (eF x15), .val (D.int x26), .val (tD x52), .no]) (x_make (fCons_ok (x := (eP D.int D.int) (5, 10 ^ (30 : Int).toNat)) (e1 := [.val (D.scr script_), .val (D.int y1), .own false (List.map D.int x49.2), .val (D.lst (List.map stD x9.1)), .val (eF x15), .val (D.int x26), .val (tD x52), .no]) (fTup_ok (fCons_ok (x := D.int 5) (e1 := [.val (D.scr script_), .val (D.int y1), .own false (List.map D.int x49.2), .val (D.lst (List.map stD x9.1)), .val (eF x15), .val (D.int x26), .val (tD x52), .no]) rfl (fCons_ok (x := D.int (10 ^ (30 : Int).toNat)) (e1 := [.val (D.scr script_), .val (D.int y1), .own false (List.map D.int x49.2), .val (D.lst (List.map stD x9.1)), .val (eF x15), .val (D.int x26), .val (tD x52), .no]) (x_op (p := D.int 10) (q := D.int 30) (e1 := [.val (D.scr script_), .val (D.int y1), .own false (List.map D.int x49.2), .val (D.lst (List.map stD x9.1)), .val (eF x15), .val (D.int x26), .val (tD x52), .no]) (e2 := [.val (D.scr script_), .val (D.int y1), .own false (List.map D.int x49.2), .val (D.lst (List.map stD x9.1)), .val (eF x15), .val (D.int x26), .val (tD x52), .no]) rfl rfl (dPow_eq (by decide))) fNil_eq)) (by show (2 : Nat) ≤ 16777216; decide)) (fCons_ok (x := (eP3 tD tD tD) (x55, x58, x52)) (e1 := [.val (D.scr script_), .val (D.int y1), .own false (List.map D.int x49.2), .val (D.lst (List.map stD x9.1)), .val (eF x15), .val (D.int x26), .val (tD x52), .no]) (fTup_ok (fCons_ok (x := tD x55) (e1 := [.val (D.scr script_), .val (D.int y1), .own false (List.map D.int x49.2), .val (D.lst (List.map stD x9.1)), .val (eF x15), .val (D.int x26), .val (tD x52), .no]) (x_make (fCons_ok (x := D.int 0) (e1 := [.val (D.scr script_), .val (D.int y1), .own false (List.map D.int x49.2), .val (D.lst (List.map stD x9.1)), .val (eF x15), .val (D.int x26), .val (tD x52), .no]) rfl (fCons_ok (x := D.tup (List.map D.int [])) (e1 := [.val (D.scr script_), .val (D.int y1), .own false (List.map D.int x49.2), .val (D.lst (List.map stD x9.1)), .val (eF x15), .val (D.int x26), .val (tD x52), .no]) rfl fNil_eq)) ⟨_, _, _, _, rfl, k54⟩) (fCons_ok (x := tD x58) (e1 := [.val (D.scr script_), .val (D.int y1), .own false (List.map D.int x49.2), .val (D.lst (List.map stD x9.1)), .val (eF x15), .val (D.int x26), .val (tD x52), .no]) (x_make (fCons_ok (x := D.int 99999) (e1 := [.val (D.scr script_), .val (D.int y1), .own false (List.map D.int x49.2), .val (D.lst (List.map stD x9.1)), .val (eF x15), .val (D.int x26), .val (tD x52), .no]) rfl (fCons_ok (x := D.tup (List.map D.int [])) (e1 := [.val (D.scr script_), .val (D.int y1), .own false (List.map D.int x49.2), .val (D.lst (List.map stD x9.1)), .val (eF x15), .val (D.int x26), .val (tD x52), .no]) rfl fNil_eq)) ⟨_, _, _, _, rfl, k57⟩) (fCons_ok (x := tD x52) (e1 := [.val (D.scr script_), .val (D.int y1), .own false (List.map D.int x49.2), .val (D.lst (List.map stD x9.1)), .val (eF x15), .val (D.int x26), .val (tD x52), .no]) rfl fNil_eq))) (by show (3 : Nat) ≤ 16777216; decide)) fNil_eq)) ⟨_, _, _, _, rfl, k60⟩) rfl) ?_
      obtain ⟨x64, h65, h⟩ := bsome h
      have k63 := t_effect_grid x61 h65
      obtain ⟨x67, h68, h⟩ := bsome h
      have k66 := t__law_drawn x61 h68
      by_cases c69 : (!decide (x64 = x67)) = true
      · rw [if_pos c69] at h
        refine ot_if_t (fB_ok (x_op (p := D.str x64) (q := D.str x67) (e1 := [.val (D.scr script_), .val (D.int y1), .own false (List.map D.int x49.2), .val (D.lst (List.map stD x9.1)), .val (eF x15), .val (D.int x26), .val (tD x52), .val (eF x61)]) (e2 := [.val (D.scr script_), .val (D.int y1), .own false (List.map D.int x49.2), .val (D.lst (List.map stD x9.1)), .val (eF x15), .val (D.int x26), .val (tD x52), .val (eF x61)]) (x_call (e2 := [.val (D.scr script_), .val (D.int y1), .own false (List.map D.int x49.2), .val (D.lst (List.map stD x9.1)), .val (eF x15), .val (D.int x26), .val (tD x52), .val (eF x61)]) (rD_ok (x := eF x61) (e1 := [.val (D.scr script_), .val (D.int y1), .own false (List.map D.int x49.2), .val (D.lst (List.map stD x9.1)), .val (eF x15), .val (D.int x26), .val (tD x52), .val (eF x61)]) rfl rNil_eq) rfl k63 (putO_id rfl)) (x_call (e2 := [.val (D.scr script_), .val (D.int y1), .own false (List.map D.int x49.2), .val (D.lst (List.map stD x9.1)), .val (eF x15), .val (D.int x26), .val (tD x52), .val (eF x61)]) (rD_ok (x := eF x61) (e1 := [.val (D.scr script_), .val (D.int y1), .own false (List.map D.int x49.2), .val (D.lst (List.map stD x9.1)), .val (eF x15), .val (D.int x26), .val (tD x52), .val (eF x61)]) rfl rNil_eq) rfl k66 (putO_id rfl)) (o_neSt (a := x64) (b := x67)))) c69 ?_
        have hE := Option.some.inj h; subst hE
        exact ot_rt (e2 := [.val (D.scr script_), .val (D.int y1), .own false (List.map D.int x49.2), .val (D.lst (List.map stD x9.1)), .val (eF x15), .val (D.int x26), .val (tD x52), .val (eF x61)]) (fRet_ok rfl) ⟨rfl, rfl⟩
      · rw [if_neg c69] at h
        refine ot_if_f (fB_ok (x_op (p := D.str x64) (q := D.str x67) (e1 := [.val (D.scr script_), .val (D.int y1), .own false (List.map D.int x49.2), .val (D.lst (List.map stD x9.1)), .val (eF x15), .val (D.int x26), .val (tD x52), .val (eF x61)]) (e2 := [.val (D.scr script_), .val (D.int y1), .own false (List.map D.int x49.2), .val (D.lst (List.map stD x9.1)), .val (eF x15), .val (D.int x26), .val (tD x52), .val (eF x61)]) (x_call (e2 := [.val (D.scr script_), .val (D.int y1), .own false (List.map D.int x49.2), .val (D.lst (List.map stD x9.1)), .val (eF x15), .val (D.int x26), .val (tD x52), .val (eF x61)]) (rD_ok (x := eF x61) (e1 := [.val (D.scr script_), .val (D.int y1), .own false (List.map D.int x49.2), .val (D.lst (List.map stD x9.1)), .val (eF x15), .val (D.int x26), .val (tD x52), .val (eF x61)]) rfl rNil_eq) rfl k63 (putO_id rfl)) (x_call (e2 := [.val (D.scr script_), .val (D.int y1), .own false (List.map D.int x49.2), .val (D.lst (List.map stD x9.1)), .val (eF x15), .val (D.int x26), .val (tD x52), .val (eF x61)]) (rD_ok (x := eF x61) (e1 := [.val (D.scr script_), .val (D.int y1), .own false (List.map D.int x49.2), .val (D.lst (List.map stD x9.1)), .val (eF x15), .val (D.int x26), .val (tD x52), .val (eF x61)]) rfl rNil_eq) rfl k66 (putO_id rfl)) (o_neSt (a := x64) (b := x67)))) c69 ?_
        have hE := Option.some.inj h; subst hE
        exact ⟨_, rfl, rfl⟩
  · subst hw
    show Ot _ [.val (D.scr script_), .no, .no, .no, .no, .no, .no, .no] _ _ _ _
    obtain ⟨x74, h75, h⟩ := bsome h
    have k73 := t_Effect_nothing  h75
    obtain ⟨x77, h78, h⟩ := bsome h
    have k76 := t__law_check x74 h78
    obtain ⟨x92, h93, h⟩ := bsome h
    have hE := Option.some.inj h; subst hE
    exact ot_rt (e2 := [.val (D.scr script_), .no, .no, .no, .no, .no, .no, .no]) (fRet_ok (x_andV (p := x77) (x_call (e2 := [.val (D.scr script_), .no, .no, .no, .no, .no, .no, .no]) (rD_ok (x := eF x74) (e1 := [.val (D.scr script_), .no, .no, .no, .no, .no, .no, .no]) (x_cmeth (e2 := [.val (D.scr script_), .no, .no, .no, .no, .no, .no, .no]) rNil_eq rfl k73 (putO_id rfl)) rNil_eq) rfl k76 (putO_id rfl)) (fun c91 => by (have h := h93; rw [if_pos c91] at h; obtain ⟨x80, h81, h⟩ := bsome h; have k79 := t_Sequence___init__ ((true, -1234567) :: ([] : List Stp)) h81; obtain ⟨x83, h84, h⟩ := bsome h; have k82 := t_Sequence___mul__ x80 200 h84; obtain ⟨x86, h87, h⟩ := bsome h; have k85 := t_Effect_of x83 h87; obtain ⟨x89, h90, h⟩ := bsome h; have k88 := t__law_check x86 h90; have hE := Option.some.inj h; subst hE; exact x_call (e2 := [.val (D.scr script_), .no, .no, .no, .no, .no, .no, .no]) (rD_ok (x := eF x86) (e1 := [.val (D.scr script_), .no, .no, .no, .no, .no, .no, .no]) (x_cmeth (e2 := [.val (D.scr script_), .no, .no, .no, .no, .no, .no, .no]) (rD_ok (x := sqD x83) (e1 := [.val (D.scr script_), .no, .no, .no, .no, .no, .no, .no]) (x_ownI (x_make (x_cons (F := stD) (x := (true, -1234567)) (e1 := [.val (D.scr script_), .no, .no, .no, .no, .no, .no, .no]) rfl (x_nil (F := stD))) ⟨_, _, _, _, rfl, k79⟩) rfl k82) rNil_eq) rfl k85 (putO_id rfl)) rNil_eq) rfl k88 (putO_id rfl))) (fun c91 => by (have h := h93; rw [if_neg (show ¬ (x77 = true) from fun z => Bool.false_ne_true (Eq.trans (Eq.symm c91) z))] at h; exact (Option.some.inj h).symm)))) ⟨rfl, rfl⟩
  · subst hw
    have hE := Option.some.inj h; subst hE
    rfl
  · subst hw
    cases h
end Dl.k53
set_option maxHeartbeats 400000
/-! Layer P, part 3: plain rules for what typed functions are made of. -/
namespace Dl
open PySem PySem.Spec PyProof.Rows L2 RZ
theorem obind {α β : Type} {o : Option α} {a : α} {f : α → Option β} (h : o = some a) : o.bind f = f a := by rw [h]; rfl
theorem forF_all {α R S : Type} {f : α → S → Option (Fw R S)} {s : S} : ∀ {xs : List α}, (∀ x ∈ xs, f x s = some (.nx s)) → forF f xs s = some (.nx s)
  | [], _ => rfl
  | x :: xs, h => by
    unfold forF
    rw [h x List.mem_cons_self]
    exact forF_all fun y hy => h y (List.mem_cons_of_mem _ hy)
theorem forF_inv {α R S : Type} {f : α → S → Option (Fw R S)} {I : S → Prop} : ∀ {xs : List α} {s : S}, I s → (∀ x ∈ xs, ∀ s, I s → ∃ s', f x s = some (.nx s') ∧ I s') → ∃ s', forF f xs s = some (.nx s') ∧ I s'
  | [], s, hs, _ => ⟨s, rfl, hs⟩
  | x :: xs, s, hs, h => by
    obtain ⟨s1, h1, h2⟩ := h x List.mem_cons_self s hs
    obtain ⟨s2, h3, h4⟩ := forF_inv (xs := xs) h2 fun y hy => h y (List.mem_cons_of_mem _ hy)
    exact ⟨s2, by unfold forF; rw [h1]; exact h3, h4⟩
theorem forS_inv {α S : Type} {f : α → S → Option S} {I : S → Prop} : ∀ {xs : List α} {s : S}, I s → (∀ x ∈ xs, ∀ s, I s → ∃ s', f x s = some s' ∧ I s') → ∃ s', forS f xs s = some s' ∧ I s'
  | [], s, hs, _ => ⟨s, rfl, hs⟩
  | x :: xs, s, hs, h => by
    obtain ⟨s1, h1, h2⟩ := h x List.mem_cons_self s hs
    obtain ⟨s2, h3, h4⟩ := forS_inv (xs := xs) h2 fun y hy => h y (List.mem_cons_of_mem _ hy)
    exact ⟨s2, by unfold forS; rw [h1]; exact h3, h4⟩
theorem forS_fold {α S : Type} {f : α → S → Option S} {g : S → α → S} : ∀ {xs : List α} {s : S}, (∀ x ∈ xs, ∀ s, f x s = some (g s x)) → forS f xs s = some (xs.foldl g s)
  | [], s, _ => rfl
  | x :: xs, s, h => by
    unfold forS
    rw [h x List.mem_cons_self]
    exact forS_fold fun y hy => h y (List.mem_cons_of_mem _ hy)
theorem rngP_len {lo hi : Int} : (rngP lo hi).length = (hi - lo).toNat := by unfold rngP; simp
theorem rngP_mem {lo hi x : Int} : x ∈ rngP lo hi ↔ lo ≤ x ∧ x < hi := by
  unfold rngP
  simp only [List.mem_map, List.mem_range]
  constructor
  · rintro ⟨i, h, rfl⟩; omega
  · rintro ⟨h1, h2⟩; exact ⟨(x - lo).toNat, by omega, by omega⟩
theorem lcT_eq {α β : Type} {xs : List α} {p : α → Bool} {g : α → β} (h : xs.length ≤ 16777216) : lcT xs p g = some ((xs.filter p).map g) := if_pos h
theorem lcO_map {α β : Type} {f : α → Option (Option β)} {g : α → β} : ∀ {xs : List α}, (∀ x ∈ xs, f x = some (some (g x))) → lcO f xs = some (xs.map g)
  | [], _ => rfl
  | x :: xs, h => by
    unfold lcO
    rw [h x List.mem_cons_self, lcO_map fun y hy => h y (List.mem_cons_of_mem _ hy)]
    rfl
theorem lcG_map {α β : Type} {f : α → Option (Option β)} {g : α → β} {xs : List α} (hl : xs.length ≤ 16777216) (h : ∀ x ∈ xs, f x = some (some (g x))) : lcG f xs = some (xs.map g) := (if_pos hl).trans (lcO_map h)
theorem lcH_inv {α β S : Type} {f : α → S → Option (β × S)} {I : S → Prop} {J : β → Prop} {xs : List α} {s : S} (hl : xs.length ≤ 16777216) (hs : I s) (h : ∀ x ∈ xs, ∀ s, I s → ∃ r, f x s = some r ∧ J r.1 ∧ I r.2) : ∃ q, lcH f xs s = some q ∧ q.1.length = xs.length ∧ (∀ y ∈ q.1, J y) ∧ I q.2 := by
  have key : ∀ (xs : List α) (s : S), I s → (∀ x ∈ xs, ∀ s, I s → ∃ r, f x s = some r ∧ J r.1 ∧ I r.2) → ∃ q, lcS f xs s = some q ∧ q.1.length = xs.length ∧ (∀ y ∈ q.1, J y) ∧ I q.2 := by
    intro xs
    induction xs with
    | nil => intro s hs _; exact ⟨([], s), rfl, rfl, fun y hy => (nomatch hy), hs⟩
    | cons x xs ih =>
      intro s hs h
      obtain ⟨r, h1, h2, h3⟩ := h x List.mem_cons_self s hs
      obtain ⟨q, k1, k2, k3, k4⟩ := ih r.2 h3 fun y hy => h y (List.mem_cons_of_mem _ hy)
      refine ⟨(r.1 :: q.1, q.2), by unfold lcS; rw [h1]; show (lcS f xs r.2).bind _ = _; rw [k1]; rfl, by simp [k2], fun y hy => ?_, k4⟩
      rcases List.mem_cons.mp hy with rfl | hy
      · exact h2
      · exact k3 y hy
  obtain ⟨q, h1, h2⟩ := key xs s hs h
  exact ⟨q, (if_pos hl).trans h1, h2⟩
theorem mulP_l {a b : Int} (h : -(2 ^ 64) < a ∧ a < 2 ^ 64) : mulP a b = some (a * b) := if_pos (by unfold cMul; simp only [Bool.or_eq_true, decide_eq_true_eq]; exact .inl (.inl h))
theorem mulP_r {a b : Int} (h : -(2 ^ 64) < b ∧ b < 2 ^ 64) : mulP a b = some (a * b) := if_pos (by unfold cMul; simp only [Bool.or_eq_true, decide_eq_true_eq]; exact .inl (.inr h))
theorem modP_eq {a b : Int} (h : 0 < b) : modP a b = some (a % b) := if_pos h
theorem divP_eq {a b : Int} (h : 0 < b) (h2 : b.natAbs.log2 < 9000) : divP a b = some (a / b) := if_pos ⟨h, h2⟩
theorem setP_eq {xs : List Int} (h : xs.length ≤ 4000) : setP xs = some xs := if_pos h
theorem srtP_eq {xs : List Int} (h : (usort xs).length < 64) : srtP xs = some (usort xs) := if_pos h
theorem catP_eq {α : Type} {xs ys : List α} (h : xs.length + ys.length ≤ 16777216) : catP xs ys = some (xs ++ ys) := if_pos h
theorem appP_eq {α : Type} {xs : List α} {y : α} (h : xs.length < 16777216) : appP xs y = some (xs ++ [y]) := if_pos h
theorem lstP_eq {α : Type} {xs : List α} (h : xs.length ≤ 16777216) : lstP xs = some xs := if_pos h
theorem atI_at {α : Type} {xs : List α} {i : Nat} (h : i < xs.length) : L2.atI xs (i : Int) = some xs[i] := by
  unfold L2.atI L2.ixN
  rw [if_pos (by omega), if_pos (by omega)]
  show xs[((i : Int)).toNat]? = _
  rw [Int.toNat_natCast]
  exact List.getElem?_eq_getElem h
theorem atI_int {α : Type} {xs : List α} {i : Int} (h0 : 0 ≤ i) (h : i < xs.length) : L2.atI xs i = some (xs[i.toNat]'(by omega)) := by
  have := atI_at (xs := xs) (i := i.toNat) (by omega)
  rw [Int.toNat_of_nonneg h0] at this
  exact this
theorem atI_neg1 {α : Type} (xs : List α) (d : α) : L2.atI (xs ++ [d]) (-1) = some d := by
  unfold L2.atI L2.ixN
  rw [if_neg (by omega), List.length_append, List.length_singleton, if_pos (by omega)]
  show (xs ++ [d])[(((xs.length + 1 : Nat) : Int) + -1).toNat]? = _
  rw [show (((xs.length + 1 : Nat) : Int) + -1).toNat = xs.length by omega]
  simp
theorem cutP_lo {α : Type} (xs : List α) (k : Nat) : cutP xs (some (k : Int)) none = xs.drop k := by
  unfold cutP
  rw [HT.sIx_none, HT.sIx_nat]
  rcases Nat.le_total k xs.length with h | h
  · rw [Nat.min_eq_left h, List.take_of_length_le (by simp)]
  · rw [Nat.min_eq_right h, Nat.sub_self, List.drop_eq_nil_of_le h]; simp
/-! ### encodings are told apart -/
end Dl
set_option maxHeartbeats 400000
/-! Sequences of steps and their tables at a threshold, in plain Lean. A step: inserted or removed, and its number. -/
namespace Tab
open Dl
abbrev Tb := Int × List Int
abbrev Sp := Bool × Int
def V (a : Tb) : Prop := Vl a.1 a.2
def af (a : Tb) (c : Int) : Int := aft a.1 a.2 c
def plus (a b : Tb) : Tb := (aft b.1 b.2 a.1, sumL a.1 a.2 b.2)
def stT (x : Sp) (t : Int) : Tb := if x.1 then (if x.2 ≤ t then (1, []) else (0, [])) else (0, [x.2])
def okS (x : Sp) : Prop := x.1 = false → 0 < x.2
def fT (t : Int) (a : Tb) (xs : List Sp) : Tb := xs.foldl (fun a x => plus a (stT x t)) a
def tAt (xs : List Sp) (t : Int) : Tb := fT t (0, []) xs
theorem V0 : V (0, []) := vl0
theorem stT_V {x : Sp} (h : okS x) (t : Int) : V (stT x t) := by
  obtain ⟨b, n⟩ := x
  cases b with
  | true =>
    by_cases q : n ≤ t
    · simp only [stT, q, if_true]; exact ⟨by decide, .nil, fun x h => nomatch h⟩
    · simp only [stT, q, if_true, if_false]; exact V0
  | false => exact ⟨Int.le_refl _, by simp [stT], fun x hx => by simp [stT] at hx; subst hx; exact h rfl⟩
theorem plus_V {a b : Tb} (ha : V a) (hb : V b) : V (plus a b) := sum_vl ha hb
theorem plus_af {a b : Tb} (ha : V a) {c : Int} (hc : 0 ≤ c) : af (plus a b) c = af b (af a c) := comp ha hc
theorem Tb.ext {a b : Tb} (ha : V a) (hb : V b) (h : ∀ c, 0 ≤ c → af a c = af b c) : a = b := by
  obtain ⟨e1, e2⟩ := Tab.ext ha hb h
  exact Prod.ext e1 e2
theorem af0 (c : Int) : af (0, []) c = c := by show 0 + c - 0 = c; omega
theorem plus_0r {a : Tb} (ha : V a) : plus a (0, []) = a := Tb.ext (plus_V ha V0) ha fun c hc => by rw [plus_af ha hc, af0]
theorem fT_V {t : Int} : ∀ {xs : List Sp} {a : Tb}, V a → (∀ x ∈ xs, okS x) → V (fT t a xs)
  | [], _, h, _ => h
  | x :: xs, a, h, hx => fT_V (xs := xs) (plus_V h (stT_V (hx x List.mem_cons_self) t)) fun y hy => hx y (List.mem_cons_of_mem _ hy)
theorem tAt_V {xs : List Sp} (hx : ∀ x ∈ xs, okS x) (t : Int) : V (tAt xs t) := fT_V V0 hx
/-- a step as the code does it -/
theorem stp_rm_gt {s n t : Int} {l : List Int} (h : s < n) : plus (s, l) (stT (false, n) t) = (s, isort (l ++ [lr s l n])) := by
  show (aft 0 [n] s, sumL s l [n]) = _
  unfold aft sumL
  rw [cnt_zero (by simpa using h)]
  simp [h]
theorem stp_rm_le {s n t : Int} {l : List Int} (v : Vl s l) (h : n ≤ s) : plus (s, l) (stT (false, n) t) = (s - 1, l) := by
  have e : sumL s l [n] = sumL s l [] := by unfold sumL; simp [Int.not_lt.mpr h]
  show (aft 0 [n] s, sumL s l [n]) = _
  rw [e, (zero_r v).2]
  have : cnt [n] s = 1 := by rw [cnt_cons, cnt_nil, if_pos h]; rfl
  unfold aft
  rw [this]
  congr 1; omega
theorem stp_in_le {s n t : Int} {l : List Int} (v : Vl s l) (h : n ≤ t) : plus (s, l) (stT (true, n) t) = (s + 1, l) := by
  have e : stT (true, n) t = (1, []) := by simp [stT, h]
  rw [e]
  show (aft 1 [] s, sumL s l []) = _
  rw [(zero_r v).2]
  unfold aft
  rw [cnt_nil]
  congr 1; omega
theorem stp_in_gt {s n t : Int} {l : List Int} (v : Vl s l) (h : ¬ n ≤ t) : plus (s, l) (stT (true, n) t) = (s, l) := by
  have e : stT (true, n) t = (0, []) := by simp [stT, h]
  rw [e]; exact plus_0r (a := (s, l)) v
/-! ### run on a list -/
def stL (x : Sp) (l : List Int) : Option (List Int) := if x.1 then some (isort (l ++ [x.2])) else if (l.length : Int) < x.2 then none else some (l.take (x.2 - 1).toNat ++ l.drop x.2.toNat)
def run : List Int → List Sp → Option (List Int)
  | l, [] => some l
  | l, x :: xs => (stL x l).bind fun l' => run l' xs
end Tab
set_option maxHeartbeats 400000
/-! Effects: breaks and tables, in plain Lean. -/
namespace Tab
open Dl
section
variable {α : Type} [DecidableEq α]
def val (a : α) (ps : List (Int × α)) (t : Int) : α := ps.foldl (fun a p => if p.1 ≤ t then p.2 else a) a
def Inc (ps : List (Int × α)) : Prop := (ps.map (·.1)).Pairwise (· < ·)
/-- neighbours that are equal merged -/
def mg (a : α) : List (Int × α) → List (Int × α)
  | [] => []
  | p :: ps => if p.2 = a then mg a ps else p :: mg p.2 ps
theorem mg_sub : ∀ (ps : List (Int × α)) (a : α), (mg a ps).Sublist ps
  | [], _ => .slnil
  | p :: ps, a => by
    unfold mg
    split
    · exact (mg_sub ps a).cons _
    · exact (mg_sub ps p.2).cons₂ _
theorem mg_inc {ps : List (Int × α)} {a : α} (h : Inc ps) : Inc (mg a ps) := List.Pairwise.sublist ((mg_sub ps a).map _) h
/-- no two neighbours equal -/
def Adj : α → List α → Prop
  | _, [] => True
  | a, x :: l => a ≠ x ∧ Adj x l
theorem mg_adj : ∀ (ps : List (Int × α)) (a : α), Adj a ((mg a ps).map (·.2))
  | [], _ => trivial
  | p :: ps, a => by
    unfold mg
    by_cases e : p.2 = a
    · rw [if_pos e]; exact mg_adj ps a
    · rw [if_neg e]; exact ⟨fun z => e z.symm, mg_adj ps p.2⟩
end
/-- the numbers inserted, in order -/
def nums (xs : List Sp) : List Int := usort ((xs.filter (·.1)).map (·.2))
theorem nums_up (xs : List Sp) : (nums xs).Pairwise (· < ·) := usort_up _
theorem nums_mem {xs : List Sp} {n : Int} : n ∈ nums xs ↔ (true, n) ∈ xs := by
  unfold nums
  rw [usort_mem, List.mem_map]
  constructor
  · rintro ⟨⟨b, m⟩, h, rfl⟩
    obtain ⟨h1, h2⟩ := List.mem_filter.mp h
    cases b with
    | true => exact h1
    | false => cases h2
  · exact fun h => ⟨(true, n), List.mem_filter.mpr ⟨h, rfl⟩, rfl⟩
def below : List Int → Int
  | [] => 0
  | n :: _ => n - 1
/-- what Effect.of makes: its first table, and its breaks with their tables -/
def eff0 (xs : List Sp) : Tb := tAt xs (below (nums xs))
def effP (xs : List Sp) : List (Int × Tb) := mg (eff0 xs) ((nums xs).map fun n => (n, tAt xs n))
theorem inc_map (f : Int → Tb) {ns : List Int} (h : ns.Pairwise (· < ·)) : Inc (ns.map fun n => (n, f n)) := by
  unfold Inc
  rw [List.map_map]
  show (ns.map fun n => n).Pairwise _
  rw [List.map_id']
  exact h
theorem eff_inc (xs : List Sp) : Inc (effP xs) := mg_inc (inc_map _ (nums_up xs))
/-! ### a list from its counts -/
def fill (g : Int → Int) (vs : List Int) : List Int := vs.flatMap fun v => List.replicate (g v).toNat v
end Tab
set_option maxHeartbeats 400000
/-! An effect called, in plain Lean. -/
namespace Tab
open Dl
/-! ### the last table -/
/-- the last of the lost ranks -/
def lastR : List Int → Int
  | [] => 0
  | [x] => x
  | _ :: y :: l => lastR (y :: l)
theorem lastR_ge : ∀ {l : List Int}, l.Pairwise (· < ·) → ∀ x ∈ l, x ≤ lastR l
  | [], _, _, h => nomatch h
  | [x], _, y, h => by rw [List.mem_singleton.mp h]; exact Int.le_refl _
  | x :: y :: l, hp, z, h => by
    have h1 := List.pairwise_cons.mp hp
    rcases List.mem_cons.mp h with rfl | h
    · have := h1.1 y List.mem_cons_self
      have := lastR_ge h1.2 y List.mem_cons_self
      show z ≤ lastR (y :: l)
      omega
    · exact lastR_ge h1.2 z h
theorem lastR_mem : ∀ {l : List Int}, l ≠ [] → lastR l ∈ l
  | [], h => absurd rfl h
  | [x], _ => List.mem_cons_self
  | x :: y :: l, _ => List.mem_cons_of_mem _ (lastR_mem (l := y :: l) (by simp))
/-! ### how large the lost ranks are -/
theorem fld_le : ∀ (l : List Int) (m : Int), fld l m ≤ m + l.length
  | [], m => by show m ≤ m + 0; omega
  | x :: l, m => by
    have := fld_le l (if x ≤ m then m + 1 else m)
    rw [fld_cons]
    have : (if x ≤ m then m + 1 else m) ≤ m + 1 := by split <;> omega
    simp only [List.length_cons]
    omega
end Tab
set_option maxHeartbeats 400000
/-! Numbers renamed in their order; runs of joined steps; plain Lean. -/
namespace Tab
open Dl
theorem lastR_le {l : List Int} {B : Int} (h : ∀ r ∈ l, r ≤ B) (hB : 0 ≤ B) : lastR l ≤ B := by
  by_cases hl : l = []
  · rw [hl]; exact hB
  · exact h _ (lastR_mem hl)
theorem lastR_nn {s : Int} {l : List Int} (v : Vl s l) : 0 ≤ lastR l := by
  by_cases hl : l = []
  · rw [hl]; exact Int.le_refl _
  · have := v.pos _ (lastR_mem hl); omega
/-! ### renamed -/
def Up (f : Int → Int) : Prop := ∀ m n : Int, m < n → f m < f n
theorem Up.le {f : Int → Int} (h : Up f) (m n : Int) : f m ≤ f n ↔ m ≤ n := by
  constructor
  · intro h1
    apply Classical.byContradiction
    intro h2
    have := h n m (by omega)
    omega
  · intro h1
    rcases Int.lt_or_eq_of_le h1 with q | q
    · exact Int.le_of_lt (h m n q)
    · rw [q]; exact Int.le_refl _
theorem Up.inj {f : Int → Int} (h : Up f) {m n : Int} (e : f m = f n) : m = n := by
  have h1 := (h.le m n).mp (by omega)
  have h2 := (h.le n m).mp (by omega)
  omega
end Tab
set_option maxHeartbeats 400000
/-! What the typed library answers, plain. -/
namespace Dl.lib
open PySem Tab
/-! ### sizes -/
theorem plus_len (a : Tb) (x : Sp) (t : Int) : (plus a (stT x t)).2.length ≤ a.2.length + 1 := by
  have h := len_sum a.1 a.2 (stT x t).2
  have h2 : (stT x t).2.length ≤ 1 := by
    unfold stT
    split
    · split <;> simp
    · simp
  have := cnt_nn (stT x t).2 a.1
  show (sumL a.1 a.2 (stT x t).2).length ≤ _
  omega
theorem fT_len {t : Int} : ∀ {xs : List Sp} {a : Tb}, (fT t a xs).2.length ≤ a.2.length + xs.length
  | [], a => Nat.le_refl _
  | x :: xs, a => by
    have h1 := fT_len (t := t) (xs := xs) (a := plus a (stT x t))
    have h2 := plus_len a x t
    show (fT t (plus a (stT x t)) xs).2.length ≤ _
    rw [List.length_cons]
    omega
theorem tAt_len (xs : List Sp) (t : Int) : (tAt xs t).2.length ≤ xs.length := by
  have h := fT_len (t := t) (xs := xs) (a := (0, []))
  simp only [List.length_nil, Nat.zero_add] at h
  exact h
theorem uins_len (x : Int) : ∀ l : List Int, (uins x l).length ≤ l.length + 1
  | [] => by simp [uins]
  | y :: r => by
    unfold uins
    split
    · simp
    · split
      · simp
      · have := uins_len x r
        simp only [List.length_cons]
        omega
theorem usort_len : ∀ l : List Int, (usort l).length ≤ l.length
  | [] => Nat.le_refl _
  | x :: l => by
    have := uins_len x (usort l)
    have := usort_len l
    show (uins x (usort l)).length ≤ _
    rw [List.length_cons]
    omega
theorem nums_len (xs : List Sp) : (nums xs).length ≤ xs.length := by
  have h1 := usort_len ((xs.filter (·.1)).map (·.2))
  rw [List.length_map] at h1
  have h2 := List.length_filter_le (fun x : Sp => x.1) xs
  show (usort _).length ≤ _
  omega
theorem effP_len (xs : List Sp) : (effP xs).length ≤ (nums xs).length := by
  have h1 := (mg_sub ((nums xs).map fun n => (n, tAt xs n)) (eff0 xs)).length_le
  rw [List.length_map] at h1
  exact h1
/-! ### numbers, lists -/
theorem q_isint (i : Int) : p_is_integer i = some true := rfl
theorem q_isrank (i : Int) : p_is_rank i = some (decide (0 < i)) := rfl
theorem q_iscount (i : Int) : p_is_count i = some (decide (0 ≤ i)) := rfl
theorem q_least {b : Bool} (l : List Int) (s c : Int) : p_least_reaching s (b, l) c = some (lr s l c) := by
  unfold p_least_reaching
  rw [forS_fold (g := fun r x => if x ≤ r then r + 1 else r) fun x _ r => by by_cases h : x ≤ r <;> simp [h], Option.bind_some]
  unfold lr Tab.fld
  by_cases h : s < c <;> simp [h]
/-! ### steps, sequences -/
theorem q_step {x : Sp} (h : okS x) : p_Sequence_is_step x = some true := by
  unfold p_Sequence_is_step
  rw [if_neg (by decide)]
  obtain ⟨b, n⟩ := x
  cases b with
  | true => rfl
  | false =>
    rw [if_neg Bool.false_ne_true]
    refine Eq.trans (obind (a := true) (Eq.trans (if_pos rfl) ?_)) rfl
    rw [q_isrank]
    exact congrArg some (decide_eq_true (h rfl))
theorem q_steps {xs : List Sp} (h : ∀ x ∈ xs, okS x) : p_check_steps xs = some () := by
  unfold p_check_steps
  obtain ⟨s, e, _⟩ := forS_inv (I := fun _ : Unit => True) (f := fun y1 (s2 : Unit) => (p_Sequence_is_step y1).bind fun x6 => (if (!x6) = true then none else some ())) (xs := xs) (s := ()) trivial fun x hx s _ => ⟨(), by rw [q_step (h x hx)]; rfl, trivial⟩
  rw [e]; rfl
theorem q_seq {xs : List Sp} (h : ∀ x ∈ xs, okS x) (hl : xs.length ≤ 16777216) : p_Sequence___init__ xs = some xs := by
  unfold p_Sequence___init__
  rw [lstP_eq hl, Option.bind_some, q_steps h]
  rfl
theorem q_seqadd {xs ys : List Sp} (hx : ∀ x ∈ xs, okS x) (hy : ∀ x ∈ ys, okS x) (hl : xs.length + ys.length ≤ 16777216) : p_Sequence___add__ xs ys = some (xs ++ ys) := by
  unfold p_Sequence___add__
  rw [q_seq (fun x h => (List.mem_append.mp h).elim (hx x) (hy x)) (by rw [List.length_append]; exact hl)]
  rfl
/-! ### tables -/
theorem zip1 {α : Type} {R : α → α → Prop} : ∀ {l : List α}, l.Pairwise R → ∀ p ∈ List.zip l (l.drop 1), R p.1 p.2
  | [], _, p, h => by simp at h
  | [x], _, p, h => by simp at h
  | x :: y :: l, hp, p, h => by
    have h1 := List.pairwise_cons.mp hp
    have h : p ∈ List.zip (x :: y :: l) (y :: l) := h
    rw [List.zip_cons_cons] at h
    rcases List.mem_cons.mp h with rfl | h
    · exact h1.1 y List.mem_cons_self
    · exact zip1 h1.2 p h
theorem q_ranks {b : Bool} {l : List Int} (h : l.Pairwise (· < ·)) (hp : ∀ x ∈ l, 0 < x) (hl : l.length ≤ 16777216) : p_are_lost_ranks (b, l) = some true := by
  unfold p_are_lost_ranks
  rw [if_neg (by decide), lcG_map (g := fun x => decide (0 < x)) hl (fun y _ => by rw [q_isrank]; rfl), Option.bind_some, Option.bind_some]
  have e : ((l.map fun x => decide (0 < x)).all id) = true := by
    rw [List.all_map, List.all_eq_true]
    exact fun x hx => decide_eq_true (hp x hx)
  rw [if_neg (by simp [e])]
  have c : cutP l (some 1) none = l.drop 1 := cutP_lo l 1
  show (lcT (List.zip l (cutP l (some 1) none)) _ _).bind _ = _
  rw [c, lcT_eq (by rw [List.length_zip]; omega), Option.bind_some]
  congr 1
  rw [List.all_map, List.all_eq_true]
  intro p hp
  exact decide_eq_true (zip1 h p (List.mem_filter.mp hp).1)
theorem q_tab {b : Bool} {s : Int} {l : List Int} (v : Vl s l) (hl : l.length ≤ 16777216) : p_Table___init__ s (b, l) = some (s, l) := by
  unfold p_Table___init__
  rw [q_iscount, Option.bind_some, decide_eq_true v.s0, if_neg (by decide), q_ranks v.up v.pos hl]
  rfl
theorem q_teq (a b : Tb) : p_Table___eq__ a b = some (decide (a = b)) := by
  show some _ = _
  congr 1
  obtain ⟨s, l⟩ := a
  obtain ⟨t, m⟩ := b
  simp [Prod.ext_iff]
theorem at_body {t : Int} {a : Tb} {x : Sp} (va : V a) (ho : okS x) (hl : a.2.length ≤ 16000000) :
    (if ((!x.1) && (decide (a.1 < x.2))) = true then (p_least_reaching a.1 (false, a.2) x.2).bind fun x7 => (lstP (a.2 ++ (x7 :: ([] : List Int)))).bind fun x9 => some (a.1, isort x9) else (if (!x.1) = true then some (a.1 - 1, a.2) else (if (decide (x.2 ≤ t)) = true then some (a.1 + 1, a.2) else some (a.1, a.2)))) = some (plus a (stT x t)) := by
  obtain ⟨s, l⟩ := a
  obtain ⟨b, n⟩ := x
  cases b with
  | false =>
    by_cases h : s < n
    · rw [if_pos (by simp [h]), q_least, Option.bind_some, lstP_eq (by rw [List.length_append]; simp; simp at hl; omega), Option.bind_some]
      rw [stp_rm_gt h]
    · rw [if_neg (by simp [h]), stp_rm_le va (by omega)]
      exact if_pos rfl
  | true =>
    rw [if_neg (by simp), if_neg (by simp)]
    by_cases h : n ≤ t
    · rw [if_pos (decide_eq_true h), stp_in_le va h]
    · rw [if_neg (by simp [h]), stp_in_gt va h]
theorem q_at {xs : List Sp} (hx : ∀ x ∈ xs, okS x) (t : Int) (hl : xs.length ≤ 10000000) : p_table_at xs t = some (tAt xs t) := by
  have key : ∀ (ys : List Sp) (a : Tb), V a → (∀ x ∈ ys, okS x) → a.2.length + ys.length ≤ 10000000 → forS (fun y1 (s2 : Int × (List Int)) => (if ((!y1.1) && (decide (s2.1 < y1.2))) = true then (p_least_reaching s2.1 (false, s2.2) y1.2).bind fun x7 => (lstP (s2.2 ++ (x7 :: ([] : List Int)))).bind fun x9 => some (s2.1, isort x9) else (if (!y1.1) = true then some (s2.1 - 1, s2.2) else (if (decide (y1.2 ≤ t)) = true then some (s2.1 + 1, s2.2) else some (s2.1, s2.2))))) ys a = some (fT t a ys) := by
    intro ys
    induction ys with
    | nil => intro a _ _ _; rfl
    | cons y ys ih =>
      intro a va hy hn
      rw [List.length_cons] at hn
      unfold forS
      rw [at_body (t := t) va (hy y List.mem_cons_self) (by omega), Option.bind_some]
      exact ih _ (plus_V va (stT_V (hy y List.mem_cons_self) t)) (fun x h => hy x (List.mem_cons_of_mem _ h)) (by have := plus_len a y t; omega)
  unfold p_table_at
  refine Eq.trans (obind (key xs (0, []) V0 hx (by simpa using hl))) ?_
  have hv := tAt_V hx t
  have hl2 := tAt_len xs t
  refine Eq.trans (obind (q_tab (s := (tAt xs t).1) (l := (tAt xs t).2) hv (by omega))) rfl
/-! ### effects -/
theorem q_brk {b : Bool} {l : List Int} (h : l.Pairwise (· < ·)) (hl : l.length ≤ 16777216) : p_are_breaks (b, l) = some true := by
  unfold p_are_breaks
  rw [if_neg (by decide), lcG_map (g := fun _ => true) hl (fun y _ => by rw [q_isint]; rfl), Option.bind_some, Option.bind_some]
  have e : ((l.map fun _ => true).all id) = true := by simp
  rw [if_neg (by simp [e])]
  have c : cutP l (some 1) none = l.drop 1 := cutP_lo l 1
  show (lcT (List.zip l (cutP l (some 1) none)) _ _).bind _ = _
  rw [c, lcT_eq (by rw [List.length_zip]; omega), Option.bind_some]
  congr 1
  rw [List.all_map, List.all_eq_true]
  intro p hp
  exact decide_eq_true (zip1 h p (List.mem_filter.mp hp).1)
theorem zip2 {a : Tb} : ∀ {l : List Tb}, Adj a l → ∀ p ∈ List.zip (a :: l) l, p.1 ≠ p.2
  | [], _, p, h => by simp at h
  | b :: l, hj, p, h => by
    rw [List.zip_cons_cons] at h
    rcases List.mem_cons.mp h with rfl | h
    · exact hj.1
    · exact zip2 hj.2 p h
theorem q_tbs {b : Bool} {a : Tb} {l : List Tb} (h : Adj a l) (hl : l.length ≤ 10000000) : p_are_tables (b, a :: l) ((l.length : Int) + 1) = some true := by
  unfold p_are_tables
  rw [if_neg (by simp)]
  rw [lcT_eq (by show l.length + 1 ≤ _; omega), Option.bind_some, if_neg (by simp)]
  have c : cutP (a :: l) (some 1) none = l := cutP_lo (a :: l) 1
  show (lcG _ (List.zip (a :: l) (cutP (a :: l) (some 1) none))).bind _ = _
  rw [c, lcG_map (g := fun _ => true) (by rw [List.length_zip]; omega) (fun p hp => by rw [q_teq, Option.bind_some, decide_eq_false (zip2 h p hp)]; rfl), Option.bind_some]
  simp
theorem q_init {b c : Bool} {bs : List Int} {a : Tb} {l : List Tb} (hb : bs.Pairwise (· < ·)) (hj : Adj a l) (hl : l.length = bs.length) (hs : bs.length ≤ 10000000) : p_Effect___init__ (b, bs) (c, a :: l) = some (bs, a :: l) := by
  unfold p_Effect___init__
  rw [q_brk hb (by omega), Option.bind_some, if_neg (by decide)]
  show ((p_are_tables (c, a :: l) ((bs.length : Int) + 1)).bind _).bind _ = _
  rw [← hl, q_tbs hj (by omega), Option.bind_some, Option.bind_some]
  rfl
theorem q_merged {ps : List (Int × Tb)} {a : Tb} (hl : ps.length ≤ 10000000) : p_merged (ps.map (·.1)) (a :: ps.map (·.2)) = some ((mg a ps).map (·.1), a :: (mg a ps).map (·.2)) := by
  have key : ∀ (ps : List (Int × Tb)) (a : Tb) (ks : List Int) (rs : List Tb), ks.length + ps.length ≤ 10000000 → rs.length + ps.length ≤ 10000000 → forS (fun y3 (s4 : (List Int) × (List (Int × List Int))) => (L2.atI s4.2 (-1)).bind fun x7 => (p_Table___eq__ y3.2 x7).bind fun x10 => (if (!x10) = true then (appP s4.1 y3.1).bind fun x13 => (appP s4.2 y3.2).bind fun x15 => some (x13, x15) else some (s4.1, s4.2))) ps (ks, rs ++ [a]) = some (ks ++ (mg a ps).map (·.1), rs ++ [a] ++ (mg a ps).map (·.2)) := by
    intro ps
    induction ps with
    | nil => intro a ks rs _ _; simp [forS, mg]
    | cons p ps ih =>
      intro a ks rs h1 h2
      rw [List.length_cons] at h1 h2
      unfold forS
      have at1 : L2.atI (rs ++ [a]) (-1) = some a := atI_neg1 rs a
      show (((L2.atI (rs ++ [a]) (-1)).bind fun x7 => (p_Table___eq__ p.2 x7).bind fun x10 => (if (!x10) = true then (appP ks p.1).bind fun x13 => (appP (rs ++ [a]) p.2).bind fun x15 => some (x13, x15) else some (ks, rs ++ [a]))).bind _) = _
      rw [at1, Option.bind_some, q_teq, Option.bind_some]
      by_cases e : p.2 = a
      · rw [if_neg (by simp [e]), Option.bind_some, ih a ks rs (by omega) (by omega)]
        rw [show mg a (p :: ps) = mg a ps from if_pos e]
      · rw [if_pos (by simp [e]), appP_eq (by omega), Option.bind_some, appP_eq (by rw [List.length_append]; simp; omega), Option.bind_some, Option.bind_some, ih p.2 (ks ++ [p.1]) (rs ++ [a]) (by rw [List.length_append]; simp; omega) (by rw [List.length_append]; simp; omega)]
        rw [show mg a (p :: ps) = p :: mg p.2 ps from if_neg e]
        simp
  unfold p_merged
  have at0 : L2.atI (a :: ps.map (·.2)) 0 = some a := by rw [atI_int (by omega) (by simp)]; rfl
  rw [at0, Option.bind_some]
  have c : cutP (a :: ps.map (·.2)) (some 1) none = ps.map (·.2) := cutP_lo (a :: ps.map (·.2)) 1
  rw [c]
  have z : List.zip (ps.map (·.1)) (ps.map (·.2)) = ps := by
    rw [List.zip_map']
    simp
  rw [z]
  refine Eq.trans (obind (key ps a [] [] (by simpa using hl) (by simpa using hl))) ?_
  simp
/-- the effect of steps -/
def EF (xs : List Sp) : Eff := ((effP xs).map (·.1), eff0 xs :: (effP xs).map (·.2))
theorem q_of {xs : List Sp} (hx : ∀ x ∈ xs, okS x) (hl : xs.length ≤ 4000) (hn : (nums xs).length < 64) : p_Effect_of xs = some (EF xs) := by
  unfold p_Effect_of
  refine Eq.trans (obind (a := xs) rfl) ?_
  have fl : (xs.filter fun y => y.1).length ≤ xs.length := List.length_filter_le _ _
  refine Eq.trans (obind (lcT_eq (by omega))) (Eq.trans (obind (setP_eq (by rw [List.length_map]; exact Nat.le_trans fl hl))) (Eq.trans (obind (srtP_eq hn)) ?_))
  show (Option.bind (if (!decide (nums xs = [])) = true then (L2.atI (nums xs) 0).bind fun x11 => some (x11 - 1) else some 0) _) = _
  have hb : (if (!decide (nums xs = [])) = true then (L2.atI (nums xs) 0).bind fun x11 => some (x11 - 1) else some 0) = some (below (nums xs)) := by
    cases q : nums xs with
    | nil => rfl
    | cons n ns =>
      rw [if_pos (by simp), atI_int (by omega) (by simp)]
      rfl
  refine Eq.trans (obind hb) (Eq.trans (obind (lstP_eq (by rw [List.length_cons]; show (nums xs).length + 1 ≤ _; omega))) ?_)
  refine Eq.trans (obind (lcG_map (g := fun t => tAt xs t) (by rw [List.length_cons]; show (nums xs).length + 1 ≤ _; omega) fun t _ => Eq.trans (obind (a := xs) rfl) (Eq.trans (obind (q_at hx t (by omega))) rfl))) ?_
  have m := q_merged (ps := (nums xs).map fun n => (n, tAt xs n)) (a := eff0 xs) (by rw [List.length_map]; omega)
  have e1 : ((nums xs).map fun n => (n, tAt xs n)).map (·.1) = nums xs := by rw [List.map_map]; exact List.map_id' _
  have e2 : ((nums xs).map fun n => (n, tAt xs n)).map (·.2) = (nums xs).map fun t => tAt xs t := by rw [List.map_map]; rfl
  rw [e1, e2] at m
  refine Eq.trans (obind m) (Eq.trans (obind (q_init (eff_inc xs) (mg_adj _ _) (by simp) ?_)) rfl)
  have := effP_len xs
  rw [List.length_map]
  show (effP xs).length ≤ _
  omega
theorem EF_len (xs : List Sp) : (EF xs).1.length ≤ xs.length := by
  have h1 := effP_len xs
  have h2 := nums_len xs
  show ((effP xs).map _).length ≤ _
  rw [List.length_map]
  omega
/-! ### drawn values -/
theorem at0 (a b : Int) : L2.atI [a, b] 0 = some a := rfl
theorem at1 (a b : Int) : L2.atI [a, b] 1 = some b := rfl
theorem put0 (a b x : Int) : putP [a, b] 0 x = some [x, b] := rfl
theorem put1 (a b x : Int) : putP [a, b] 1 x = some [a, x] := rfl
theorem q_take {a b m : Int} (hm : 0 < m) (hs : m.natAbs.log2 < 9000) : ∃ r a' b', 0 ≤ r ∧ r < m ∧ p__law_take [a, b] m = some (r, [a', b']) := by
  unfold p__law_take
  simp only [at0, at1, put0, put1, Option.bind_some, modP_eq hm, divP_eq hm hs]
  by_cases h : (0 : Int) < a
  · simp only [h, decide_true, if_true]
    exact ⟨_, _, _, Int.emod_nonneg _ (by omega), Int.emod_lt_of_pos _ hm, rfl⟩
  · simp only [h, decide_false, Bool.false_eq_true, if_false, at1, Option.bind_some]
    rw [mulP_l (by omega), Option.bind_some]
    exact ⟨_, _, _, Int.emod_nonneg _ (by omega), Int.emod_lt_of_pos _ hm, rfl⟩
def tw2 (p : List Int) : Prop := ∃ a b, p = [a, b]
theorem q_pool (ns : List Int) {k : Int} (h0 : 0 ≤ k) (h1 : k < 64) : ∃ p, p__law_pool ns k = some p ∧ tw2 p := by
  unfold p__law_pool
  have hc : ∃ c, (if decide (k < (ns.length : Int)) = true then (L2.atI ns k).bind fun x2 => some (if x2 < 0 then -x2 else x2) else some 0) = some c := by
    by_cases h : k < (ns.length : Int)
    · simp only [h, decide_true, if_true]
      rw [atI_int h0 h]
      exact ⟨_, rfl⟩
    · simp only [h, decide_false, Bool.false_eq_true, if_false]
      exact ⟨0, rfl⟩
  obtain ⟨c, hc⟩ := hc
  rw [hc, Option.bind_some, mulP_r (by omega), Option.bind_some, mulP_r (by split <;> omega), Option.bind_some, mulP_l (by omega)]
  exact ⟨_, rfl, _, _, rfl⟩
/-- steps as drawn -/
def gS (x : Sp) : Prop := okS x ∧ -2 ≤ x.2 ∧ x.2 ≤ 70 ∧ (x.1 = false → x.2 ≤ 9)
theorem q_made {xs : List Sp} (hx : ∀ x ∈ xs, okS x) (hl : xs.length ≤ 16777216) : p__law_made xs = some xs := by
  have key : ∀ (ys acc : List Sp), (∀ x ∈ acc, okS x) → (∀ x ∈ ys, okS x) → acc.length + ys.length ≤ 16777216 → forS (fun y4 (s5 : (List Stp)) => (p_Sequence___init__ (y4 :: ([] : List Stp))).bind fun x9 => (p_Sequence___add__ s5 x9).bind fun x12 => some x12) ys acc = some (acc ++ ys) := by
    intro ys
    induction ys with
    | nil => intro acc _ _ _; rw [List.append_nil]; rfl
    | cons y ys ih =>
      intro acc ha hy h
      rw [List.length_cons] at h
      have h1 : ∀ x ∈ [y], okS x := fun x hx => by
        obtain rfl := List.mem_singleton.mp hx
        exact hy x List.mem_cons_self
      unfold forS
      refine Eq.trans (obind (Eq.trans (obind (q_seq h1 (by simp))) (Eq.trans (obind (q_seqadd ha h1 (by simp; omega))) rfl))) ?_
      refine Eq.trans (ih _ (fun x hx => (List.mem_append.mp hx).elim (ha x) (h1 x)) (fun x hx => hy x (List.mem_cons_of_mem _ hx)) (by rw [List.length_append, List.length_singleton]; omega)) ?_
      rw [List.append_assoc]; rfl
  unfold p__law_made
  refine Eq.trans (obind (q_seq (fun _ h => nomatch h) (by simp))) (Eq.trans (obind (key xs [] (fun _ h => nomatch h) hx (by simpa using hl))) rfl)
/-! ### how much is needed -/
theorem need_small : ∀ {xs : List Sp} {t : Int} {a : Tb} {n : Nat} {B : Int}, 0 ≤ B → (∀ x ∈ xs, okS x ∧ (x.1 = false → x.2 ≤ B)) → V a → a.2.length ≤ n → (∀ r ∈ a.2, r ≤ B + n) → ∀ r ∈ (fT t a xs).2, r ≤ B + (n + xs.length : Nat)
  | [], t, a, n, B, _, _, _, _, h, r, hr => by have := h r hr; simp; exact this
  | x :: xs, t, a, n, B, hB, hx, v, hl, h, r, hr => by
    have gx := hx x List.mem_cons_self
    have h1 : ∀ r ∈ (plus a (stT x t)).2, r ≤ B + ((n + 1 : Nat) : Int) := fun r hr => by
      have hr := (isort_perm _).mem_iff.mp hr
      rcases List.mem_append.mp hr with hr | hr
      · have := h r hr; omega
      · obtain ⟨k, hk, rfl⟩ := List.mem_map.mp hr
        have hk := (List.mem_filter.mp hk).1
        unfold stT at hk
        by_cases hb : x.1 = true
        · rw [if_pos hb] at hk
          split at hk <;> exact nomatch hk
        · rw [if_neg hb] at hk
          obtain rfl := List.mem_singleton.mp hk
          have h9 := gx.2 (eq_false_of_ne_true hb)
          have h0 := gx.1 (eq_false_of_ne_true hb)
          have hs := v.s0
          unfold lr
          have := fld_le a.2 (if a.1 < x.2 then x.2 - a.1 else 0)
          have : (if a.1 < x.2 then x.2 - a.1 else 0) ≤ B := by split <;> omega
          omega
    have := need_small (xs := xs) (t := t) (a := plus a (stT x t)) (n := n + 1) hB (fun y hy => hx y (List.mem_cons_of_mem _ hy)) (plus_V v (stT_V gx.1 t)) (by have := plus_len a x t; omega) h1 r hr
    rw [List.length_cons, show n + (xs.length + 1) = n + 1 + xs.length by omega]
    exact this
theorem need_leB {xs : List Sp} {B : Int} (hB : 0 ≤ B) (hx : ∀ x ∈ xs, okS x ∧ (x.1 = false → x.2 ≤ B)) (t : Int) : 0 ≤ lastR (tAt xs t).2 ∧ lastR (tAt xs t).2 ≤ B + xs.length := by
  refine ⟨lastR_nn (tAt_V (fun x h => (hx x h).1) t), lastR_le (fun q hq => ?_) (by omega)⟩
  have := need_small (xs := xs) (t := t) (a := (0, [])) (n := 0) hB hx V0 (by simp) (fun _ h => nomatch h) q hq
  omega
end Dl.lib
set_option maxHeartbeats 400000
/-! Layer P, part 4: what an option's answer keeps. -/
namespace Dl.lib
open PySem Tab
def An {β : Type} (o : Option β) (Q : β → Prop) : Prop := ∃ b, o = some b ∧ Q b
theorem An.mk {β : Type} {o : Option β} {b : β} {Q : β → Prop} (h : o = some b) (q : Q b) : An o Q := ⟨b, h, q⟩
theorem An.ok {β : Type} {b : β} {Q : β → Prop} (q : Q b) : An (some b) Q := ⟨b, rfl, q⟩
theorem An.is {β : Type} {o : Option β} {b : β} (h : An o fun x => x = b) : o = some b := by
  obtain ⟨_, h, rfl⟩ := h
  exact h
theorem An.bd {α β : Type} {o : Option α} {a : α} {f : α → Option β} {Q : β → Prop} (h : o = some a) (k : An (f a) Q) : An (o.bind f) Q := by
  subst h
  exact k
theorem An.bq {α β : Type} {o : Option α} {f : α → Option β} {P : α → Prop} {Q : β → Prop} (h : An o P) (k : ∀ a, P a → An (f a) Q) : An (o.bind f) Q := by
  obtain ⟨a, rfl, p⟩ := h
  exact k a p
theorem An.no {β : Type} {c : Prop} [Decidable c] {a b : Option β} {Q : β → Prop} (h : ¬ c) (k : An b Q) : An (if c then a else b) Q := by rw [if_neg h]; exact k
theorem An.ff {β : Type} {c : Bool} {a b : Option β} {Q : β → Prop} (h : c = false) (k : An b Q) : An (if c = true then a else b) Q := by rw [h, if_neg Bool.false_ne_true]; exact k
theorem An.tt {β : Type} {c : Bool} {a b : Option β} {Q : β → Prop} (h : c = true) (k : An a Q) : An (if c = true then a else b) Q := by rw [h, if_pos rfl]; exact k
/-- a turn that goes on -/
def Go {R S : Type} (I : S → Prop) (w : Fw R S) : Prop := ∃ s, w = .nx s ∧ I s
theorem An.go {R S : Type} {s : S} {I : S → Prop} (i : I s) : An (some (Fw.nx s : Fw R S)) (Go I) := ⟨_, rfl, s, rfl, i⟩
theorem An.forF {α R S : Type} {f : α → S → Option (Fw R S)} {I : S → Prop} {xs : List α} {s : S} (i : I s) (h : ∀ x ∈ xs, ∀ s, I s → An (f x s) (Go I)) : An (Dl.forF f xs s) (Go I) := by
  obtain ⟨s', e, j⟩ := forF_inv i fun x hx s hs => by
    obtain ⟨w, e, s', rfl, j⟩ := h x hx s hs
    exact ⟨s', e, j⟩
  exact ⟨_, e, s', rfl, j⟩
theorem An.lcH {α β S : Type} {f : α → S → Option (β × S)} {I : S → Prop} {J : β → Prop} {xs : List α} {s : S} (hl : xs.length ≤ 16777216) (i : I s) (h : ∀ x ∈ xs, ∀ s, I s → An (f x s) fun r => J r.1 ∧ I r.2) : An (Dl.lcH f xs s) fun q => q.1.length = xs.length ∧ (∀ y ∈ q.1, J y) ∧ I q.2 := lcH_inv hl i h
theorem a_pool (ns : List Int) {k : Int} (h0 : 0 ≤ k) (h1 : k < 64) : An (p__law_pool ns k) tw2 := q_pool ns h0 h1
end Dl.lib
set_option maxHeartbeats 400000
/-! What the typed library answers, plain: sums, repetitions, what a list must have. -/
namespace Dl.lib
open PySem Tab
/-! ### a list that is too short -/
/-! ### an effect is told by its tables -/
theorem usort_mem (x : Int) : ∀ l : List Int, x ∈ usort l ↔ x ∈ l := fun l => by
  have key : ∀ (y : Int) (l : List Int), x ∈ uins y l ↔ x = y ∨ x ∈ l := by
    intro y l
    induction l with
    | nil => simp [uins]
    | cons z r ih =>
      unfold uins
      split
      · simp
      · split
        · rename_i h
          subst h
          simp
        · simp only [List.mem_cons, ih]
          constructor
          · rintro (h | h | h)
            · exact .inr (.inl h)
            · exact .inl h
            · exact .inr (.inr h)
          · rintro (h | h | h)
            · exact .inr (.inl h)
            · exact .inl h
            · exact .inr (.inr h)
  induction l with
  | nil => exact Iff.rfl
  | cons y l ih =>
    exact (key y (usort l)).trans ((or_congr Iff.rfl ih).trans List.mem_cons.symm)
/-! ### sums -/
/-! ### repetitions -/
def rp (n : Nat) (xs : List Sp) : List Sp := (List.replicate n xs).flatten
theorem rp_len (n : Nat) (xs : List Sp) : (rp n xs).length = n * xs.length := by unfold rp; simp
theorem rp_mem {n : Nat} {xs : List Sp} {x : Sp} (h : x ∈ rp n xs) : x ∈ xs := by
  obtain ⟨l, h1, h2⟩ := List.mem_flatten.mp h
  rw [(List.mem_replicate.mp h1).2] at h2
  exact h2
theorem q_smul {xs : List Sp} (hx : ∀ x ∈ xs, okS x) (n : Nat) (hn : n ≤ 1000) (hl : xs.length ≤ 1000) : p_Sequence___mul__ xs (n : Int) = some (rp n xs) := by
  have hm : n * xs.length ≤ 1000 * 1000 := Nat.mul_le_mul hn hl
  unfold p_Sequence___mul__
  refine Eq.trans (obind (a := rp n xs) ?_) (Eq.trans (obind (q_seq (fun x h => hx x (rp_mem h)) (by rw [rp_len]; omega))) rfl)
  by_cases h : xs = []
  · subst h
    unfold rp
    rw [if_neg (by simp)]
    simp
  · have h2 := List.length_pos_iff.mpr h
    rw [if_pos (decide_eq_true (by omega))]
    refine Eq.trans (obind (a := rp n xs) ?_) rfl
    unfold repT
    rw [if_pos ⟨by omega, by omega, by omega, by omega⟩]
    rfl
/-! ### growths and needs of sums -/
end Dl.lib
set_option maxHeartbeats 400000
/-! What the typed library answers, plain: repetitions of many. -/
namespace Dl.lib
open PySem Tab
/-! ### loops, by a number that falls -/
/-! ### counts in ascending lists -/
/-! ### a table over and over -/
def it (a : Tb) : Nat → Int → Int
  | 0, c => c
  | n + 1, c => it a n (af a c)
/-! ### repeated -/
/-! ### lost ranks of many repetitions -/
/-! ### a repetition is the effect of the steps over and over -/
theorem tAt_start (xs : List Sp) (t : Int) : (tAt xs t).1 ≤ xs.length := by
  have key : ∀ (xs : List Sp) (a : Tb), (fT t a xs).1 ≤ a.1 + xs.length := by
    intro xs
    induction xs with
    | nil => intro a; show a.1 ≤ _; simp
    | cons x xs ih =>
      intro a
      have h := ih (plus a (stT x t))
      have h2 : (plus a (stT x t)).1 ≤ a.1 + 1 := by
        show aft (stT x t).1 (stT x t).2 a.1 ≤ _
        have := cnt_nn (stT x t).2 a.1
        have : (stT x t).1 ≤ 1 := by
          unfold stT
          split
          · split <;> simp
          · simp
        unfold aft
        omega
      show (fT t (plus a (stT x t)) xs).1 ≤ _
      rw [List.length_cons]
      omega
  have := key xs (0, [])
  have e : tAt xs t = fT t (0, []) xs := rfl
  rw [e]
  simpa using this
end Dl.lib
set_option maxHeartbeats 400000
/-! What the typed library answers, plain: removals of old elements. -/
namespace Dl.lib
open PySem Tab
/-! ### ascending ranks -/
/-! ### removals alone -/
/-! ### the ranks that are removed, in the order of the removals -/
def od (a : Tb) : List Sp → List Int
  | [] => []
  | x :: xs => lr a.1 a.2 x.2 :: od (plus a (stT x 0)) xs
/-! ### what the defs answer -/
end Dl.lib
set_option maxHeartbeats 400000
/-! What the typed library answers, plain: sequences called; steps from the top. -/
namespace Dl.lib
open PySem Tab
/-! ### ascending lists, by their counts -/
/-! ### a sequence called -/
/-! ### popping -/
/-! ### steps from the top -/
end Dl.lib
set_option maxHeartbeats 400000
/-! What is shown of ints and of lists of them; equal data; draws by great numbers. -/
namespace Dl.lib
open PySem Tab L2 PySem.Spec PyProof.Rows
/-! ### texts -/
theorem ok_app {a b : Str} (ha : PyData.strOk a = true) (hb : PyData.strOk b = true) : PyData.strOk (a ++ b) = true := by
  show (a.cps ++ b.cps).all (· < 0x110000) = true
  rw [Array.all_append]
  exact Bool.and_eq_true_iff.mpr ⟨ha, hb⟩
theorem ok_from : ∀ (ts : List Str) (k : Nat) (acc : Str), PyData.strOk acc = true → (∀ t ∈ ts, PyData.strOk t = true) → PyData.strOk (textFrom k acc ts) = true
  | [], _, acc, h, _ => h
  | t :: ts, k, acc, h, ht => by
    show PyData.strOk (textFrom (k + 1) (acc ++ (if k > 0 then ", " else "" : String) ++ t) ts) = true
    refine ok_from ts _ _ (ok_app (ok_app h ?_) (ht t (List.mem_cons_self ..))) fun u hu => ht u (List.mem_cons_of_mem _ hu)
    split
    · decide +kernel
    · decide +kernel
theorem ok_string (x : String) : PyData.strOk (Str.ofString x) = true := by
  show (Str.ofString x).cps.all (fun c => decide (c < 0x110000)) = true
  rw [Str.ofString_eq_toList]
  simp only [List.all_toArray, List.all_map, List.all_eq_true]
  intro c _
  have v := c.valid
  show decide (c.toNat < 0x110000) = true
  refine decide_eq_true ?_
  rcases v with v | v
  · have : c.toNat < 0xd800 := v
    omega
  · have : c.toNat < 0x110000 := v.2
    omega
theorem log_small2 {a : Int} (h : a.natAbs < 2 ^ 256) : a.natAbs.log2 < 1920 := by
  have h1 : a.natAbs.log2 < 256 := by
    by_cases z : a.natAbs = 0
    · rw [z]; decide
    · exact (Nat.log2_lt z).mpr h
  omega
/-- p is shown in at most n signs -/
structure Sh (n : Nat) (p : PyData) : Prop where
  ok : p.showable = true
  nd : p.hasDict = false
  dp : p.depth ≤ 5
  len : p.shown.length ≤ n
  st : PyData.strOk p.shown = true
theorem Sh.int {a : Int} (h : a.natAbs < 2 ^ 256) : Sh 2000 (.int a) :=
  ⟨decide_eq_true (log_small2 h), rfl, by show 0 ≤ 5; omega, int_short (log_small2 h), ok_string _⟩
theorem shAll {l : List Int} (h : ∀ x ∈ l, x.natAbs < 2 ^ 256) : ∀ t ∈ PyData.shownAll (l.map PyData.int), t.length ≤ 2000 ∧ PyData.strOk t = true := by
  induction l with
  | nil => exact fun t ht => nomatch ht
  | cons a l ih =>
    intro t ht
    rcases List.mem_cons.mp ht with rfl | ht
    · have z := Sh.int (h a (List.mem_cons_self ..))
      exact ⟨z.len, z.st⟩
    · exact ih (fun x hx => h x (List.mem_cons_of_mem _ hx)) t ht
theorem shAll_len (l : List PyData) : (PyData.shownAll l).length = l.length := by
  induction l with
  | nil => rfl
  | cons a l ih => show (PyData.shownAll l).length + 1 = l.length + 1; rw [ih]
theorem shAll_ok {l : List Int} (h : ∀ x ∈ l, x.natAbs < 2 ^ 256) : PyData.showableAll (l.map PyData.int) = true ∧ PyData.hasDictAll (l.map PyData.int) = false ∧ PyData.depthAll (l.map PyData.int) = 0 := by
  induction l with
  | nil => exact ⟨rfl, rfl, rfl⟩
  | cons a l ih =>
    obtain ⟨i1, i2, i3⟩ := ih fun x hx => h x (List.mem_cons_of_mem _ hx)
    have z := Sh.int (h a (List.mem_cons_self ..))
    refine ⟨?_, ?_, ?_⟩
    · show (PyData.showable (.int a) && PyData.showableAll (l.map PyData.int)) = true
      rw [z.ok, i1]; rfl
    · show (PyData.hasDict (.int a) || PyData.hasDictAll (l.map PyData.int)) = false
      rw [z.nd, i2]; rfl
    · show max (PyData.depth (.int a)) (PyData.depthAll (l.map PyData.int)) = 0
      rw [i3]; rfl
theorem sum_le : ∀ {ts : List Str} {n : Nat}, (∀ t ∈ ts, t.length ≤ n) → (ts.map (·.length)).sum ≤ n * ts.length
  | [], n, _ => Nat.zero_le _
  | t :: ts, n, h => by
    have h1 := sum_le (ts := ts) (n := n) fun u hu => h u (List.mem_cons_of_mem _ hu)
    have h2 := h t (List.mem_cons_self ..)
    show t.length + (ts.map (·.length)).sum ≤ n * (ts.length + 1)
    rw [Nat.mul_succ]
    omega
theorem Sh.ints {l : List Int} (h : ∀ x ∈ l, x.natAbs < 2 ^ 256) (hl : l.length ≤ 400) : Sh 900000 (.list (l.map PyData.int)) := by
  obtain ⟨i1, i2, i3⟩ := shAll_ok h
  have z := shAll h
  refine ⟨i1, i2, ?_, ?_, ?_⟩
  · show PyData.depthAll (l.map PyData.int) + 1 ≤ 5
    omega
  · show (listText (PyData.shownAll (l.map PyData.int))).length ≤ 900000
    have h1 := listText_len_le (PyData.shownAll (l.map PyData.int))
    have h2 := sum_le (n := 2000) fun t ht => (z t ht).1
    have h3 := shAll_len (l.map PyData.int)
    rw [List.length_map] at h3
    have h4 : 2000 * (PyData.shownAll (l.map PyData.int)).length ≤ 2000 * 400 := Nat.mul_le_mul_left _ (by omega)
    omega
  · show PyData.strOk (textFrom 0 "[" (PyData.shownAll (l.map PyData.int)) ++ "]") = true
    exact ok_app (ok_from _ _ _ (by decide +kernel) fun t ht => (z t ht).2) (by decide +kernel)
end Dl.lib
set_option maxHeartbeats 400000
/-! Texts, plain: numbers written and read. -/
namespace Dl.lib
open PySem Tab L2 TL
/-! ### signs -/
abbrev sg (c : Nat) : Str := ⟨#[c]⟩
def dg (c : Nat) : Bool := decide (48 ≤ c ∧ c ≤ 57)
theorem len_t (s : Str) : s.length = (tl s).length := len_tl s
theorem tl_inj {x y : Str} : x = y ↔ tl x = tl y := ⟨fun h => by rw [h], ext_tl⟩
theorem tl_lit (s : String) : tl (s : Str) = s.toList.map Char.toNat := tl_ofString s
/-! ### cuts -/
/-! ### numbers -/
def pcL (l : List Nat) : Option Int := if l ≠ [] ∧ l.all dg = true ∧ (l = [48] ∨ l.head? ≠ some 48) then some ((NumText.digitsVal l : Nat) : Int) else none
def pnL : List Nat → Option Int
  | 45 :: r => (pcL r).bind fun n => if n = 0 then none else some (-n)
  | l => pcL l
/-! ### numbers by the law -/
def Asc (s : Str) : Prop := ∀ c ∈ tl s, c < 128
theorem Asc.cut {s : Str} {lo hi : Option Int} (h : Asc s) : Asc (cutS s lo hi) := fun c hc => h c (List.mem_of_mem_drop (List.mem_of_mem_take hc))
end Dl.lib
set_option maxHeartbeats 400000
/-! Texts, plain: steps written and read. -/
namespace Dl.lib
open PySem Tab L2 TL
/-! ### numbers written -/
def zL (n : Int) : List Nat := if n < 0 then 45 :: numL n.natAbs else numL n.natAbs
theorem tl_int (n : Int) : tl (toString n : Str) = zL n := by
  unfold zL
  cases n with
  | ofNat m =>
    rw [if_neg (show ¬ (Int.ofNat m < 0) from Int.not_lt.mpr (Int.natCast_nonneg m))]
    exact tl_num m
  | negSucc m =>
    rw [if_pos (Int.negSucc_lt_zero m)]
    have e : (toString (Int.negSucc m) : String) = "-" ++ toString (((m + 1 : Nat) : Int)) := rfl
    show tl (Str.ofString (toString (Int.negSucc m))) = _
    rw [e, tl_ofString, String.toList_append, List.map_append]
    have h := tl_num (m + 1)
    rw [tl_ofString] at h
    rw [h]
    rfl
theorem zL_len {n : Int} {k : Nat} (hk : 0 < k) (h : n.natAbs < 10 ^ k) : (zL n).length ≤ k + 1 := by
  have := numL_len hk h
  unfold zL
  split
  · rw [List.length_cons]; omega
  · omega
theorem log10 {a k : Nat} (h : a < 10 ^ k) (hk : k ≤ 570) : a.log2 < 1920 := by
  by_cases z : a = 0
  · subst z; decide
  · refine (Nat.log2_lt z).mpr (Nat.lt_of_lt_of_le h ?_)
    have h1 : 10 ^ k ≤ 10 ^ 570 := Nat.pow_le_pow_right (by decide) hk
    have h2 : 10 ^ 570 ≤ 2 ^ 1920 := by decide +kernel
    omega
/-! ### sequences written -/
theorem one_sp : (" " : Str).length = 1 := by decide +kernel
def tot (ps : List Str) : Nat := (ps.map (·.length)).sum + ps.length
theorem q_join {ps : List Str} (h : tot ps ≤ 16777216) : joinSP (" " : Str) ps = some (Txt.join (" " : Str) ps) := by
  unfold joinSP
  rw [one_sp, Nat.mul_one]
  exact if_pos h
theorem tot_le {n : Nat} : ∀ {ps : List Str}, (∀ p ∈ ps, p.length ≤ n) → tot ps ≤ (n + 1) * ps.length
  | [], _ => Nat.zero_le _
  | p :: ps, h => by
    have h1 := tot_le (ps := ps) fun q hq => h q (List.mem_cons_of_mem _ hq)
    have h2 := h p List.mem_cons_self
    unfold tot at *
    rw [List.map_cons, List.sum_cons, List.length_cons, Nat.mul_add]
    omega
theorem tl_joined (ps : List Str) : tl (Txt.join (" " : Str) ps) = joinL [32] (ps.map tl) := by
  rw [join_eq, tl_join]
  congr 1
theorem joinL_mem {c : Nat} : ∀ {ps : List (List Nat)}, c ∈ joinL [32] ps → c = 32 ∨ ∃ p ∈ ps, c ∈ p
  | [], h => nomatch h
  | [p], h => .inr ⟨p, List.mem_singleton.mpr rfl, h⟩
  | p :: q :: r, h => by
    have h : c ∈ p ++ ([32] ++ joinL [32] (q :: r)) := h
    rcases List.mem_append.mp h with h | h
    · exact .inr ⟨p, List.mem_cons_self, h⟩
    · rcases List.mem_append.mp h with h | h
      · exact .inl (List.mem_singleton.mp h)
      · rcases joinL_mem h with h | ⟨p', h1, h2⟩
        · exact .inl h
        · exact .inr ⟨p', List.mem_cons_of_mem _ h1, h2⟩
theorem Asc.join {ps : List Str} (h : ∀ p ∈ ps, Asc p) : Asc (Txt.join (" " : Str) ps) := fun c hc => by
  rw [tl_joined] at hc
  rcases joinL_mem hc with e | ⟨p, h1, h2⟩
  · omega
  · obtain ⟨q, hq, rfl⟩ := List.mem_map.mp h1
    exact h q hq c h2
theorem Asc.app {x y : Str} (h : Asc x) (h2 : Asc y) : Asc (x ++ y) := fun c hc => by
  rw [tl_append] at hc
  exact (List.mem_append.mp hc).elim (h c) (h2 c)
/-! ### texts split -/
theorem spl_tot (s : Nat) : ∀ (l acc : List Nat), ((spl [s] 0 acc l).map (·.length)).sum + (spl [s] 0 acc l).length = acc.length + l.length + 1
  | [], acc => by rw [spl_nil]; simp
  | c :: r, acc => by
    by_cases h : c = s
    · subst h
      rw [spl_hit (by unfold pre; simp), List.map_cons, List.sum_cons, List.length_cons, List.length_cons]
      have := spl_tot c r []
      have e : spl [c] (([] : List Nat).length + 1 - 1) [] r = spl [c] 0 [] r := rfl
      rw [e]
      have h1 : (c :: r).length = r.length + 1 := rfl
      have h2 : ([] : List Nat).length = 0 := rfl
      rw [h2] at this
      rw [h1]
      omega
    · rw [spl_miss (pre_of_head [] r h), spl_tot s r (acc ++ [c]), List.length_append, List.length_cons]
      simp
      omega
theorem spl_mem {s c : Nat} {p : List Nat} : ∀ (l acc : List Nat), p ∈ spl [s] 0 acc l → c ∈ p → c ∈ acc ∨ c ∈ l
  | [], acc, h, hc => by
    rw [spl_nil] at h
    rw [List.mem_singleton.mp h] at hc
    exact .inl hc
  | d :: r, acc, h, hc => by
    by_cases e : d = s
    · subst e
      rw [spl_hit (by unfold pre; simp)] at h
      rcases List.mem_cons.mp h with rfl | h
      · exact .inl hc
      · rcases spl_mem r [] h hc with z | z
        · exact nomatch z
        · exact .inr (List.mem_cons_of_mem _ z)
    · rw [spl_miss (pre_of_head [] r e)] at h
      rcases spl_mem r _ h hc with z | z
      · rcases List.mem_append.mp z with z | z
        · exact .inl z
        · rw [List.mem_singleton.mp z]; exact .inr List.mem_cons_self
      · exact .inr (List.mem_cons_of_mem _ z)
theorem tl_split (t : Str) : (Txt.split t (" " : Str)).map tl = spl [32] 0 [] (tl t) := by
  have e : tl (" " : Str) = [32] := by rw [tl_lit]; rfl
  have := split_spl t (" " : Str) (by rw [e]; simp) (kind_ok (by decide +kernel))
  rw [e] at this
  exact this
theorem split_tot (t : Str) : tot (Txt.split t (" " : Str)) = t.length + 1 := by
  have h := spl_tot 32 (tl t) []
  rw [← tl_split, List.map_map, List.length_map, List.length_nil, Nat.zero_add, ← len_t] at h
  have e : (Txt.split t (" " : Str)).map ((·.length) ∘ tl) = (Txt.split t (" " : Str)).map (·.length) := List.map_congr_left fun p _ => (len_t p).symm
  rw [e] at h
  exact h
theorem Asc.split {t : Str} (h : Asc t) : ∀ p ∈ Txt.split t (" " : Str), Asc p := fun p hp c hc => by
  have := tl_split t
  have m : tl p ∈ spl [32] 0 [] (tl t) := by rw [← this]; exact List.mem_map_of_mem hp
  rcases spl_mem (tl t) [] m hc with z | z
  · exact nomatch z
  · exact h c z
theorem tot_mem {ps : List Str} {p : Str} (h : p ∈ ps) : p.length + 1 ≤ tot ps := by
  induction ps with
  | nil => exact nomatch h
  | cons q ps ih =>
    unfold tot at *
    rw [List.map_cons, List.sum_cons, List.length_cons]
    rcases List.mem_cons.mp h with rfl | h
    · omega
    · have := ih h; omega
theorem q_split {t : Str} (h : t.length ≤ 16000000) : splitSP t (" " : Str) = some (Txt.split t (" " : Str)) := if_pos ⟨by rw [one_sp]; rfl, by omega⟩
end Dl.lib
set_option maxHeartbeats 400000
/-! Texts, plain: effects written and read. -/
namespace Dl.lib
open PySem Tab L2 TL
def nS (n : Int) : Str := ⟨(zL n).toArray⟩
theorem tl_nS (n : Int) : tl (nS n) = zL n := rfl
theorem str_nS (n : Int) : (toString n : Str) = nS n := ext_tl (tl_int n)
theorem q_str {n : Int} {k : Nat} (hk2 : k ≤ 570) (h : n.natAbs < 10 ^ k) : strIP n = some (nS n) := by
  unfold strIP
  rw [if_pos (log10 h hk2), str_nS]
theorem zL_in (n : Int) : ∀ c ∈ zL n, c = 45 ∨ (48 ≤ c ∧ c ≤ 57) := fun c hc => by
  unfold zL at hc
  split at hc
  · rcases List.mem_cons.mp hc with e | hc
    · exact .inl e
    · exact .inr (numL_digits _ c hc)
  · exact .inr (numL_digits _ c hc)
theorem zL_ne (n : Int) : zL n ≠ [] := by
  unfold zL
  split
  · simp
  · exact numL_ne _
theorem nS_len {n : Int} {k : Nat} (hk : 0 < k) (h : n.natAbs < 10 ^ k) : (nS n).length ≤ k + 1 := by rw [len_t, tl_nS]; exact zL_len hk h
/-! ### joined by one sign -/
theorem q_joinC {y : Str} {ps : List Str} (hy : y.length = 1) (h : tot ps ≤ 16777216) : joinSP y ps = some (Txt.join y ps) := by
  unfold joinSP
  rw [hy, Nat.mul_one]
  exact if_pos h
theorem tl_joinC {y : Str} {c : Nat} (hy : tl y = [c]) (ps : List Str) : tl (Txt.join y ps) = joinL [c] (ps.map tl) := by
  rw [join_eq, tl_join, hy]
theorem joinC_mem {s c : Nat} : ∀ {ps : List (List Nat)}, c ∈ joinL [s] ps → c = s ∨ ∃ p ∈ ps, c ∈ p
  | [], h => nomatch h
  | [p], h => .inr ⟨p, List.mem_singleton.mpr rfl, h⟩
  | p :: q :: r, h => by
    have h : c ∈ p ++ ([s] ++ joinL [s] (q :: r)) := h
    rcases List.mem_append.mp h with h | h
    · exact .inr ⟨p, List.mem_cons_self, h⟩
    · rcases List.mem_append.mp h with h | h
      · exact .inl (List.mem_singleton.mp h)
      · rcases joinC_mem h with h | ⟨p', h1, h2⟩
        · exact .inl h
        · exact .inr ⟨p', List.mem_cons_of_mem _ h1, h2⟩
theorem joinC_len {s : Nat} : ∀ {ps : List Str}, (joinL [s] (ps.map tl)).length ≤ tot ps
  | [] => Nat.zero_le _
  | [p] => by
    show (tl p).length ≤ ([p.length].sum) + 1
    rw [← len_t]; simp
  | p :: q :: r => by
    have ih := joinC_len (s := s) (ps := q :: r)
    show (tl p ++ ([s] ++ joinL [s] ((q :: r).map tl))).length ≤ _
    rw [List.length_append, List.length_append, ← len_t]
    unfold tot at *
    simp only [List.map_cons, List.sum_cons, List.length_cons, List.length_nil] at *
    omega
theorem join_leC {y : Str} {c : Nat} (hy : tl y = [c]) (ps : List Str) : (Txt.join y ps).length ≤ tot ps := by rw [len_t, tl_joinC hy]; exact joinC_len
theorem splitC {y : Str} {c : Nat} (hy : tl y = [c]) (hc : c < 256) {ps : List Str} (hne : ps ≠ []) (hp : ∀ p ∈ ps, c ∉ tl p) : Txt.split (Txt.join y ps) y = ps := by
  refine split_join (s := c) (S := []) hy ?_ hne hp
  have : y.cps = #[c] := by
    have h : y.cps.toList = [c] := hy
    exact Array.toList_inj.mp (by rw [h])
  rw [this]
  simp [hc]
theorem q_splitC {t y : Str} (hy : y.length = 1) (h : t.length ≤ 16000000) : splitSP t y = some (Txt.split t y) := if_pos ⟨by rw [hy]; rfl, by omega⟩
theorem t_co : tl ("," : Str) = [44] := by rw [tl_lit]; rfl
theorem t_sp : tl (" " : Str) = [32] := by rw [tl_lit]; rfl
theorem t_nl : tl ("\n" : Str) = [10] := by rw [tl_lit]; rfl
theorem t_do : tl ("." : Str) = [46] := by rw [tl_lit]; rfl
theorem t_st : tl ("*" : Str) = [42] := by rw [tl_lit]; rfl
theorem l_of {y : Str} {c : Nat} (h : tl y = [c]) : y.length = 1 := by rw [len_t, h]; rfl
/-! ### lists of numbers -/
def fN (y : Str) (ns : List Int) : Str := if ns = [] then ("." : Str) else Txt.join y (ns.map nS)
theorem tot_nS {ns : List Int} {k : Nat} (hk : 0 < k) (h : ∀ n ∈ ns, n.natAbs < 10 ^ k) : tot (ns.map nS) ≤ (k + 2) * ns.length := by
  have := tot_le (ps := ns.map nS) (n := k + 1) fun p hp => by
    obtain ⟨n, hn, rfl⟩ := List.mem_map.mp hp
    exact nS_len hk (h n hn)
  rwa [List.length_map] at this
theorem fN_len {y : Str} {c : Nat} (hy : tl y = [c]) {ns : List Int} {k : Nat} (hk : 0 < k) (h : ∀ n ∈ ns, n.natAbs < 10 ^ k) : (fN y ns).length ≤ (k + 2) * ns.length + 1 := by
  unfold fN
  split
  · rw [l_of t_do]; omega
  · have := join_leC hy (ns.map nS)
    have := tot_nS hk h
    omega
theorem q_fnums {y : Str} {c : Nat} (hy : tl y = [c]) {ns : List Int} {k : Nat} (hk : 0 < k) (hk2 : k ≤ 570) (h : ∀ n ∈ ns, n.natAbs < 10 ^ k) (hl : ns.length ≤ 1000) : p_format_numbers ns y = some (fN y ns) := by
  have l1 : lcG (fun y1 => (strIP y1).bind fun x2 => some (some x2)) ns = some (ns.map nS) := lcG_map (by omega) fun n hn => by rw [q_str hk2 (h n hn)]; rfl
  have tb : tot (ns.map nS) ≤ 572 * 1000 := Nat.le_trans (tot_nS hk h) (Nat.mul_le_mul (by omega) hl)
  unfold p_format_numbers
  refine Eq.trans (obind l1) (Eq.trans (obind (q_joinC (l_of hy) (by omega))) ?_)
  unfold fN
  by_cases q : ns = []
  · subst q
    rw [if_pos rfl]
    have e : Txt.join y (List.map nS []) = Str.empty := by
      rw [tl_inj, tl_joinC hy]; rfl
    rw [e]
    refine Eq.trans (obind (a := ("." : Str)) ?_) rfl
    decide +kernel
  · rw [if_neg q]
    refine Eq.trans (obind (a := Txt.join y (ns.map nS)) ?_) rfl
    have jl := join_leC hy (ns.map nS)
    have pos : (Txt.join y (ns.map nS)).length ≠ 0 := fun z => by
      rw [len_t, tl_joinC hy] at z
      cases ns with
      | nil => exact q rfl
      | cons n ns =>
        have := zL_ne n
        have e := List.length_eq_zero_iff.mp z
        cases ns with
        | nil => exact this e
        | cons m ns =>
          have e : zL n ++ ([c] ++ joinL [c] ((nS m :: ns.map nS).map tl)) = [] := e
          exact this (List.append_eq_nil_iff.mp e).1
    unfold orSP
    rw [if_pos (by omega), if_neg pos]
theorem nS_free (n : Int) {c : Nat} (h : c ≠ 45) (h2 : c < 48 ∨ 57 < c) : c ∉ tl (nS n) := fun hm => by
  rcases zL_in n c hm with e | e <;> omega
/-! ### a line -/
def lnS (f : Str) (T : Tb) : Str := Txt.join (" " : Str) [f, nS T.1, fN ("," : Str) T.2]
theorem tl_ln (f : Str) (T : Tb) : tl (lnS f T) = tl f ++ (32 :: (zL T.1 ++ (32 :: tl (fN ("," : Str) T.2)))) := tl_joinC t_sp _
theorem q_ln {f : Str} {T : Tb} (h : (lnS f T).length ≤ 16777216) : jnSP [f, (" " : Str), nS T.1, (" " : Str), fN ("," : Str) T.2] Str.empty = some (lnS f T) := by
  have l := congrArg List.length (tl_ln f T)
  rw [← len_t] at l
  simp only [List.length_append, List.length_cons] at l
  have e : Str.empty ++ f ++ (" " : Str) ++ nS T.1 ++ (" " : Str) ++ fN ("," : Str) T.2 = lnS f T := by
    rw [tl_inj, tl_ln]
    simp only [tl_append, t_sp, tl_nS]
    show [] ++ tl f ++ [32] ++ zL T.1 ++ [32] ++ tl (fN ("," : Str) T.2) = _
    simp
  have el : ∀ x y : Str, (x ++ y).length = (tl x).length + (tl y).length := fun x y => by rw [len_t, tl_append, List.length_append]
  have e0 : tl Str.empty = [] := rfl
  unfold jnSP
  rw [if_pos (by rw [el, e0]; simp only [List.length_nil]; omega)]
  unfold jnSP
  rw [if_pos (by simp only [el, tl_append, e0, t_sp, List.length_append, List.length_nil, List.length_cons]; omega)]
  unfold jnSP
  rw [if_pos (by simp only [el, tl_append, e0, t_sp, tl_nS, List.length_append, List.length_nil, List.length_cons]; omega)]
  unfold jnSP
  rw [if_pos (by simp only [el, tl_append, e0, t_sp, tl_nS, List.length_append, List.length_nil, List.length_cons]; omega)]
  unfold jnSP
  rw [if_pos (by rw [e]; exact h)]
  unfold jnSP
  rw [e]
theorem fN_in {ns : List Int} : ∀ c ∈ tl (fN ("," : Str) ns), c = 44 ∨ c = 45 ∨ c = 46 ∨ (48 ≤ c ∧ c ≤ 57) := fun c hc => by
  unfold fN at hc
  split at hc
  · rw [t_do] at hc
    rw [List.mem_singleton.mp hc]; omega
  · rw [tl_joinC t_co] at hc
    rcases joinC_mem hc with e | ⟨p, h1, h2⟩
    · exact .inl e
    · obtain ⟨q, hq, rfl⟩ := List.mem_map.mp h1
      obtain ⟨n, _, rfl⟩ := List.mem_map.mp hq
      rcases zL_in n c h2 with e | e
      · exact .inr (.inl e)
      · exact .inr (.inr (.inr e))
def stS (b : Option Int) : Str := match b with
  | none => ("*" : Str) | some n => nS n
theorem stS_free (b : Option Int) {c : Nat} (h : c < 42) : c ∉ tl (stS b) := by
  cases b with
  | none => show c ∉ tl ("*" : Str); rw [t_st]; simp; omega
  | some n => exact nS_free n (by omega) (by omega)
structure Bt (k m : Nat) (T : Tb) : Prop where
  v : V T
  s : T.1.natAbs < 10 ^ k
  l : ∀ n ∈ T.2, n.natAbs < 10 ^ k
  n : T.2.length ≤ m
theorem ln_len {b : Option Int} {T : Tb} {k m : Nat} (hk : 0 < k) (hb : ∀ n, b = some n → n.natAbs < 10 ^ k) (h : Bt k m T) : (lnS (stS b) T).length ≤ (k + 2) * (m + 2) + 3 := by
  have l := congrArg List.length (tl_ln (stS b) T)
  rw [← len_t] at l
  simp only [List.length_append, List.length_cons] at l
  have h1 : (tl (stS b)).length ≤ k + 1 := by
    cases b with
    | none => show (tl ("*" : Str)).length ≤ _; rw [t_st]; simp
    | some n => exact zL_len hk (hb n rfl)
  have h2 := zL_len hk h.s
  have h3 := fN_len t_co hk h.l
  rw [len_t] at h3
  have h4 := Nat.mul_le_mul_left (k + 2) h.n
  rw [Nat.mul_add]
  omega
/-! ### effects -/
def row (p : Option Int × Tb) : Str := lnS (stS p.1) p.2
def rows (e : Eff) : List (Option Int × Tb) := (none :: e.1.map some).zip e.2
def fE (e : Eff) : Str := Txt.join ("\n" : Str) ((rows e).map row)
/-- of a size -/
structure Be (k m n : Nat) (e : Eff) : Prop where
  b : ∀ x ∈ e.1, x.natAbs < 10 ^ k
  t : ∀ T ∈ e.2, Bt k m T
  n : e.1.length ≤ n
  l : e.2.length = e.1.length + 1
theorem rows_ok {k m n : Nat} {e : Eff} (h : Be k m n e) : ∀ p ∈ rows e, (∀ x, p.1 = some x → x.natAbs < 10 ^ k) ∧ Bt k m p.2 := fun p hp => by
  obtain ⟨h1, h2⟩ := List.of_mem_zip hp
  refine ⟨fun x hx => ?_, h.t _ h2⟩
  rcases List.mem_cons.mp h1 with e1 | h1
  · rw [e1] at hx; exact nomatch hx
  · obtain ⟨y, hy, e1⟩ := List.mem_map.mp h1
    rw [← e1] at hx
    cases hx
    exact h.b _ hy
theorem rows_len {k m n : Nat} {e : Eff} (h : Be k m n e) : (rows e).length = e.1.length + 1 := by
  unfold rows
  rw [List.length_zip, List.length_cons, List.length_map, h.l, Nat.min_self]
theorem tot_rows {k m n : Nat} {e : Eff} (hk : 0 < k) (h : Be k m n e) : tot ((rows e).map row) ≤ ((k + 2) * (m + 2) + 4) * (n + 1) := by
  have := tot_le (ps := (rows e).map row) (n := (k + 2) * (m + 2) + 3) fun p hp => by
    obtain ⟨r, hr, rfl⟩ := List.mem_map.mp hp
    obtain ⟨h1, h2⟩ := rows_ok h r hr
    exact ln_len hk h1 h2
  rw [List.length_map, rows_len h] at this
  exact Nat.le_trans this (Nat.mul_le_mul_left _ (by have := h.n; omega))
theorem q_fmtG {k m n : Nat} {e : Eff} (hk : 0 < k) (hk2 : k ≤ 570) (hm : m ≤ 1000) (hn : n ≤ 1000) (h : Be k m n e) (hr : ∀ p ∈ rows e, (row p).length ≤ 16777216) (ht : tot ((rows e).map row) ≤ 16777216) : p_format_effect e = some (fE e) := by
  have hl := h.n
  have s1 : p_starts_of e = some (("*" : Str) :: e.1.map nS) := by
    unfold p_starts_of
    refine Eq.trans (obind (a := e.1) rfl) ?_
    refine Eq.trans (obind (lcG_map (g := nS) (by omega) fun x hx => by rw [q_str hk2 (h.b x hx)]; rfl)) ?_
    refine Eq.trans (obind (a := ("*" : Str) :: e.1.map nS) ?_) rfl
    unfold lstP
    rw [if_pos (by rw [List.length_cons, List.length_map]; omega)]
  have z : List.zip (("*" : Str) :: e.1.map nS) e.2 = (rows e).map fun p => (stS p.1, p.2) := by
    unfold rows
    have e1 : (("*" : Str) :: e.1.map nS) = (none :: e.1.map some).map stS := by rw [List.map_cons, List.map_map]; rfl
    rw [e1, List.zip_map_left]
    rfl
  unfold p_format_effect
  refine Eq.trans (obind s1) (Eq.trans (obind (a := e.2) rfl) ?_)
  rw [z]
  have lc : lcG (fun (y7 : Str × Tb) => (fmtSP y7.1).bind fun x8 => (p_Table_start y7.2).bind fun x11 => (strIP x11).bind fun x13 => (p_Table_lost y7.2).bind fun x16 => (p_format_numbers x16 ("," : Str)).bind fun x19 => (fmtSP x19).bind fun x21 => (jnSP [x8, (" " : Str), x13, (" " : Str), x21] Str.empty).bind fun x23 => some (some x23)) ((rows e).map fun p => (stS p.1, p.2)) = some ((rows e).map row) := by
    rw [lcG_map (g := fun y : Str × Tb => lnS y.1 y.2) (by rw [List.length_map, rows_len h]; omega) fun y hy => ?_, List.map_map]
    · rfl
    · obtain ⟨p, hp, rfl⟩ := List.mem_map.mp hy
      obtain ⟨h1, h2⟩ := rows_ok h p hp
      have ll : (lnS (stS p.1) p.2).length ≤ 16777216 := hr p hp
      have lt := congrArg List.length (tl_ln (stS p.1) p.2)
      rw [← len_t] at lt
      simp only [List.length_append, List.length_cons] at lt
      refine Eq.trans (obind (a := stS p.1) (if_pos (by show (stS p.1).length ≤ _; rw [len_t]; omega))) (Eq.trans (obind (a := p.2.1) rfl) (Eq.trans (obind (q_str hk2 h2.s)) (Eq.trans (obind (a := p.2.2) rfl) (Eq.trans (obind (q_fnums t_co hk hk2 h2.l (by have := h2.n; omega))) (Eq.trans (obind (a := fN ("," : Str) p.2.2) (if_pos (by rw [len_t]; omega))) ?_)))))
      exact Eq.trans (obind (q_ln (by omega))) rfl
  refine Eq.trans (obind lc) ?_
  exact Eq.trans (obind (q_joinC (l_of t_nl) (by omega))) rfl
theorem q_fmt {k m n : Nat} {e : Eff} (hk : 0 < k) (hk2 : k ≤ 570) (hm : m ≤ 1000) (hn : n ≤ 1000) (hz : ((k + 2) * (m + 2) + 4) * (n + 1) ≤ 16000000) (h : Be k m n e) : p_format_effect e = some (fE e) := by
  have tr := tot_rows hk h
  refine q_fmtG hk hk2 hm hn h (fun p hp => ?_) (by omega)
  have := tot_mem (List.mem_map_of_mem (f := row) hp)
  omega
theorem row_free (p : Option Int × Tb) {c : Nat} (h : c < 32) : c ∉ tl (row p) := fun hm => by
  have hm : c ∈ tl (lnS (stS p.1) p.2) := hm
  rw [tl_ln] at hm
  rcases List.mem_append.mp hm with hm | hm
  · exact stS_free p.1 (by omega) hm
  · rcases List.mem_cons.mp hm with e | hm
    · omega
    · rcases List.mem_append.mp hm with hm | hm
      · rcases zL_in _ c hm with z | z <;> omega
      · rcases List.mem_cons.mp hm with e | hm
        · omega
        · have := fN_in c hm; omega
theorem split_fE {k m n : Nat} {e : Eff} (h : Be k m n e) : Txt.split (fE e) ("\n" : Str) = (rows e).map row := by
  refine splitC t_nl (by decide) (fun z => ?_) fun p hp => ?_
  · have := congrArg List.length z
    rw [List.length_map, rows_len h] at this
    exact absurd this (by simp)
  · obtain ⟨r, _, rfl⟩ := List.mem_map.mp hp
    exact row_free r (by decide)
end Dl.lib
set_option maxHeartbeats 400000
/-! Texts, plain: any text read as an effect. -/
namespace Dl.lib
open PySem Tab L2 TL
/-! ### split by one sign -/
/-! ### numbers are written in one way -/
/-! ### neighbours -/
def zA {α : Type} (f : α → α → Bool) (l : List α) : Bool := (List.zip l (l.drop 1)).all fun p => f p.1 p.2
/-! ### what is checked, in full -/
def rkB (l : List Int) : Bool := (l.all fun x => decide (0 < x)) && zA (fun a b => decide (a < b)) l
/-! ### a line -/
def lsO (t : Str) : List (Option Int) := if t = ("." : Str) then [] else (Txt.split t ("," : Str)).map fun p => pnL (tl p)
def rlX (first : Bool) (a b c : Str) : Option (Int × Tb) := if decide (a = ("*" : Str)) = first then
  (if first = true then some 0 else pnL (tl a)).bind fun n => (pcL (tl b)).bind fun s => (noN (lsO c)).bind fun ls => if rkB ls = true then some (n, (s, ls)) else none
  else none
def rl (first : Bool) (l : Str) : Option (Int × Tb) := match Txt.split l (" " : Str) with
  | [a, b, c] => rlX first a b c
  | _ => none
end Dl.lib
set_option maxHeartbeats 400000
/-! k53: words at the right of a width; lines split into words. -/
namespace Dl.k53
open PySem Tab Dl.lib L2 TL
theorem catS_eq {x y : Str} (h : x.length + y.length ≤ 16777216) : catSP x y = some (x ++ y) := if_pos h
theorem app_len (x y : Str) : (x ++ y).length = x.length + y.length := by rw [len_t, tl_append, List.length_append, ← len_t, ← len_t]
theorem tl_padR (w : Nat) (y : Str) : tl (padR w y) = List.replicate (w - y.length) 32 ++ tl y := padR_list w y
theorem rep_fold {c : Nat} : ∀ (n : Nat) (acc : Array Nat), ((List.replicate n #[c]).foldl (· ++ ·) acc).toList = acc.toList ++ List.replicate n c
  | 0, acc => by simp
  | n + 1, acc => by
    rw [List.replicate_succ, List.foldl_cons, rep_fold n, Array.toList_append, List.append_assoc]
    rfl
theorem tl_mul {y : Str} {c : Nat} (hy : tl y = [c]) (n : Int) : tl (Txt.mul y n) = List.replicate n.toNat c := by
  have ec : y.cps = #[c] := Array.toList_inj.mp hy
  have el : y.length = 1 := l_of hy
  unfold Txt.mul
  by_cases h : n < 1
  · rw [if_pos h, show n.toNat = 0 by omega]
    rfl
  · rw [if_neg h]
    by_cases h1 : n = 1
    · subst h1
      rw [if_pos (by simp), hy]
      rfl
    · have h2 : ¬ ((n == 1 || y.length == 0) = true) := by
        rw [el]
        simp [h1]
      rw [if_neg h2, ec]
      show ((List.replicate n.toNat #[c]).foldl (· ++ ·) #[]).toList = _
      rw [rep_fold]
      rfl
theorem q_padded {t : Str} {w : Nat} (hw : w ≤ 100) (hl : t.length ≤ 16000000) : p__law_padded t (w : Int) = some (padR w t) := by
  unfold p__law_padded
  refine Eq.trans (obind (a := (t.length : Int)) (if_pos (by omega))) ?_
  generalize hn : (if (w : Int) - (t.length : Int) > 0 then (w : Int) - (t.length : Int) else 0) = n
  have n0 : 0 ≤ n ∧ n ≤ 100 ∧ n.toNat = w - t.length := by subst hn; split <;> omega
  have l1 := l_of t_sp
  have tm := tl_mul t_sp n
  have lm : (Txt.mul (" " : Str) n).length = n.toNat := by rw [len_t, tm, List.length_replicate]
  refine Eq.trans (obind (a := Txt.mul (" " : Str) n) (if_pos ⟨by omega, by omega, by rw [l1]; omega⟩)) ?_
  refine Eq.trans (obind (catS_eq (by omega))) ?_
  congr 1
  rw [tl_inj, tl_append, tm, tl_padR, n0.2.2]
/-! ### replaced -/
def unc (c : Nat) : Nat := if c = 44 then 32 else c
theorem replL_one : ∀ l : List Nat, StrLaws.replL [44] [32] l = l.map unc
  | [] => StrLaws.replL_nil
  | c :: r => by
    by_cases h : c = 44
    · subst h
      rw [StrLaws.replL_hit (by simp) (by simp)]
      show [32] ++ StrLaws.replL [44] [32] r = _
      rw [replL_one r]
      rfl
    · rw [StrLaws.replL_miss (by simp [h]), replL_one r, List.map_cons]
      unfold unc
      rw [if_neg h]
theorem tl_repl (x : Str) : tl (Txt.replace x ("," : Str) (" " : Str)) = (tl x).map unc := by
  have h := StrLaws.replace_list (x := x) (y := ("," : Str)) (z := (" " : Str)) (by rw [l_of t_co]; omega)
  have e1 : ("," : Str).cps.toList = [44] := t_co
  have e2 : (" " : Str).cps.toList = [32] := t_sp
  rw [e1, e2, replL_one] at h
  exact h
theorem unc_id {l : List Nat} (h : 44 ∉ l) : l.map unc = l := by
  have : l.map unc = l.map id := List.map_congr_left fun c hc => by
    show (if c = 44 then 32 else c) = c
    exact if_neg fun e : c = 44 => h (by rw [← e]; exact hc)
  rw [this, List.map_id]
theorem unc_join : ∀ {ps : List (List Nat)}, (∀ p ∈ ps, 44 ∉ p) → (joinL [44] ps).map unc = joinL [32] ps
  | [], _ => rfl
  | [p], h => unc_id (h p (List.mem_singleton.mpr rfl))
  | p :: q :: r, h => by
    show (p ++ ([44] ++ joinL [44] (q :: r))).map unc = p ++ ([32] ++ joinL [32] (q :: r))
    rw [List.map_append, List.map_append, unc_join fun z hz => h z (List.mem_cons_of_mem _ hz), unc_id (h p List.mem_cons_self)]
    rfl
/-! ### words -/
def nb (p : List Nat) : Bool := !decide (p = [])
def wds (l : List Nat) : List (List Nat) := (spl [32] 0 [] l).filter nb
theorem wds_hit (l : List Nat) : wds (32 :: l) = wds l := by
  unfold wds
  rw [spl_hit (by unfold pre; simp)]
  rfl
theorem wds_sp : ∀ (n : Nat) (l : List Nat), wds (List.replicate n 32 ++ l) = wds l
  | 0, l => rfl
  | n + 1, l => by rw [List.replicate_succ, List.cons_append, wds_hit, wds_sp n l]
theorem nb_t {f : List Nat} (h : f ≠ []) : nb f = true := by unfold nb; rw [decide_eq_false h]; rfl
theorem wds_word {f l : List Nat} (hf : f ≠ []) (h : 32 ∉ f) : wds (f ++ 32 :: l) = f :: wds l := by
  unfold wds
  have := spl_part1 (s := 32) (S := []) (p := f) (rest := l) (acc := []) h
  have e : f ++ ([32] ++ l) = f ++ 32 :: l := rfl
  rw [e] at this
  rw [this, List.nil_append, List.filter_cons, nb_t hf, if_pos rfl]
theorem wds_join {ps : List (List Nat)} (hp : ps ≠ []) (h : ∀ p ∈ ps, p ≠ [] ∧ 32 ∉ p) : wds (joinL [32] ps) = ps := by
  unfold wds
  rw [spl_join hp fun p hm => (h p hm).2, List.filter_eq_self.mpr fun p hm => nb_t (h p hm).1]
/-! ### a line of the grid -/
def lw (ns : List Int) : List Str := if ns = [] then [("." : Str)] else ns.map nS
theorem lw_ne (ns : List Int) : lw ns ≠ [] := by
  unfold lw
  split
  · simp
  · rename_i h; exact fun z => h (List.map_eq_nil_iff.mp z)
theorem lw_in {ns : List Int} : ∀ p ∈ lw ns, tl p ≠ [] ∧ 32 ∉ tl p ∧ 44 ∉ tl p := fun p hp => by
  unfold lw at hp
  split at hp
  · rw [List.mem_singleton.mp hp, t_do]
    simp
  · obtain ⟨n, _, rfl⟩ := List.mem_map.mp hp
    exact ⟨zL_ne n, nS_free n (by decide) (by omega), nS_free n (by decide) (by omega)⟩
theorem tl_fN {y : Str} {c : Nat} (hy : tl y = [c]) (ns : List Int) : tl (fN y ns) = joinL [c] ((lw ns).map tl) := by
  unfold fN lw
  by_cases h : ns = []
  · rw [if_pos h, if_pos h]; rfl
  · rw [if_neg h, if_neg h, tl_joinC hy]
def gS (f : Str) (T : Tb) : Str := padR 8 f ++ padR 6 (nS T.1) ++ ("  " : Str) ++ fN (" " : Str) T.2
theorem t_2sp : tl ("  " : Str) = [32, 32] := by rw [tl_lit]; rfl
theorem tl_gS (f : Str) (T : Tb) : tl (gS f T) = List.replicate (8 - f.length) 32 ++ (tl f ++ (List.replicate (6 - (nS T.1).length) 32 ++ (zL T.1 ++ (32 :: (32 :: joinL [32] ((lw T.2).map tl)))))) := by
  unfold gS
  simp only [tl_append, tl_padR, t_2sp, tl_fN t_sp, tl_nS, List.append_assoc]
  rfl
theorem wds_gS {f : Str} {T : Tb} (hf : tl f ≠ []) (h32 : 32 ∉ tl f) (hs : (nS T.1).length < 6) : wds (tl (gS f T)) = tl f :: zL T.1 :: (lw T.2).map tl := by
  obtain ⟨k, hk⟩ : ∃ k, 6 - (nS T.1).length = k + 1 := ⟨5 - (nS T.1).length, by omega⟩
  rw [tl_gS, wds_sp, hk, List.replicate_succ, List.cons_append, wds_word hf h32, wds_sp, wds_word (zL_ne _) (nS_free T.1 (c := 32) (by decide) (by omega)), wds_hit, wds_join]
  · exact fun z => lw_ne _ (List.map_eq_nil_iff.mp z)
  · intro p hp
    obtain ⟨q, hq, rfl⟩ := List.mem_map.mp hp
    exact ⟨(lw_in q hq).1, (lw_in q hq).2.1⟩
theorem joinL_cons {c : Nat} {p : List Nat} {ps : List (List Nat)} (h : ps ≠ []) : joinL [c] (p :: ps) = p ++ (c :: joinL [c] ps) := by
  cases ps with
  | nil => exact absurd rfl h
  | cons q r => rfl
/-- the words of a grid's line, and the line of the text without its signs between -/
theorem words_eq {f : Str} {T : Tb} (hf : tl f ≠ []) (h32 : 32 ∉ tl f) (h44 : 44 ∉ tl f) (hs : (nS T.1).length < 6) :
    Txt.replace (lnS f T) ("," : Str) (" " : Str) = Txt.join (" " : Str) (((Txt.split (gS f T) (" " : Str)).filter fun y => !decide (y = ("" : Str))).map fun y => y) := by
  have e1 : (Txt.split (gS f T) (" " : Str)).filter (fun y => !decide (y = ("" : Str))) = f :: nS T.1 :: lw T.2 := by
    refine map_tl_inj ?_
    have h := wds_gS hf h32 hs
    unfold wds at h
    rw [← tl_split, List.filter_map] at h
    have e : (nb ∘ tl) = fun y : Str => !decide (y = ("" : Str)) := by
      funext y
      show (!decide (tl y = [])) = _
      congr 1
      rw [decide_eq_decide, tl_inj, tl_lit]
      exact Iff.rfl
    rw [e] at h
    exact h
  have l0 : (lw T.2).map tl ≠ [] := fun z => lw_ne _ (List.map_eq_nil_iff.mp z)
  rw [e1, List.map_id', tl_inj, tl_repl, tl_ln, tl_joined]
  have h2 : (zL T.1).map unc = zL T.1 := unc_id (nS_free T.1 (c := 44) (by decide) (by omega))
  rw [List.map_append, List.map_cons, List.map_append, List.map_cons, unc_id h44, h2, tl_fN t_co, unc_join fun p hp => by
    obtain ⟨q, hq, rfl⟩ := List.mem_map.mp hp
    exact (lw_in q hq).2.2]
  show _ = joinL [32] (tl f :: zL T.1 :: (lw T.2).map tl)
  rw [joinL_cons (by simp), joinL_cons l0]
  rfl
end Dl.k53
set_option maxHeartbeats 400000
/-! k53: the facts. -/
namespace Dl.k53
open PySem PySem.Spec PyProof.Rows L2 RZ
section
variable {P : Program} {w : World} {K : PySem.W.Frag} {h : Heap} {mg : Str → Option Value} {fa C_Sequence C_Table C_Effect f__law_poolA f__law_takeA f__law_stepA f__law_stepsA f_Sequence_stepsA p_Sequence_stepsA f_least_reachingA f_is_integerA f_is_countA f_is_rankA f_are_lost_ranksA f_Table___init__A f_table_atA f_Table___eq__A f_mergedA f_are_breaksA f_are_tablesA f_Effect___init__A f_Effect_ofA p_Effect_ofA f_Sequence_is_stepA p_Sequence_is_stepA f_check_stepsA f_Sequence___init__A f_Sequence___add__A f__law_sequenceA f_Effect_tablesA p_Effect_tablesA f_Effect_breaksA p_Effect_breaksA f_starts_ofA f_Table_startA p_Table_startA f_format_numbersA f_Table_lostA p_Table_lostA f_effect_gridA f__law_paddedA f__law_lineA f__law_drawnA f_format_effectA f__law_checkA f_Effect_shiftedA f_Effect_nothingA p_Effect_nothingA f_Sequence___mul__A f_lawA : Addr}
  {oc__law_pool kV__law_pool dc__law_pool pm__law_pool cd__law_pool ct__law_pool oc__law_take kV__law_take dc__law_take pm__law_take cd__law_take ct__law_take oc__law_step kV__law_step dc__law_step pm__law_step cd__law_step ct__law_step oc__law_steps kV__law_steps dc__law_steps pm__law_steps cd__law_steps ct__law_steps oc_Sequence_steps kV_Sequence_steps dc_Sequence_steps pm_Sequence_steps cd_Sequence_steps ct_Sequence_steps oc_least_reaching kV_least_reaching dc_least_reaching pm_least_reaching cd_least_reaching ct_least_reaching oc_is_integer kV_is_integer dc_is_integer pm_is_integer cd_is_integer ct_is_integer oc_is_count kV_is_count dc_is_count pm_is_count cd_is_count ct_is_count oc_is_rank kV_is_rank dc_is_rank pm_is_rank cd_is_rank ct_is_rank oc_are_lost_ranks kV_are_lost_ranks dc_are_lost_ranks pm_are_lost_ranks cd_are_lost_ranks ct_are_lost_ranks oc_Table___init__ kV_Table___init__ dc_Table___init__ pm_Table___init__ cd_Table___init__ ct_Table___init__ oc_table_at kV_table_at dc_table_at pm_table_at cd_table_at ct_table_at oc_Table___eq__ kV_Table___eq__ dc_Table___eq__ pm_Table___eq__ cd_Table___eq__ ct_Table___eq__ oc_merged kV_merged dc_merged pm_merged cd_merged ct_merged oc_are_breaks kV_are_breaks dc_are_breaks pm_are_breaks cd_are_breaks ct_are_breaks oc_are_tables kV_are_tables dc_are_tables pm_are_tables cd_are_tables ct_are_tables oc_Effect___init__ kV_Effect___init__ dc_Effect___init__ pm_Effect___init__ cd_Effect___init__ ct_Effect___init__ oc_Effect_of kV_Effect_of dc_Effect_of pm_Effect_of cd_Effect_of ct_Effect_of oc_Sequence_is_step kV_Sequence_is_step dc_Sequence_is_step pm_Sequence_is_step cd_Sequence_is_step ct_Sequence_is_step oc_check_steps kV_check_steps dc_check_steps pm_check_steps cd_check_steps ct_check_steps oc_Sequence___init__ kV_Sequence___init__ dc_Sequence___init__ pm_Sequence___init__ cd_Sequence___init__ ct_Sequence___init__ oc_Sequence___add__ kV_Sequence___add__ dc_Sequence___add__ pm_Sequence___add__ cd_Sequence___add__ ct_Sequence___add__ oc__law_sequence kV__law_sequence dc__law_sequence pm__law_sequence cd__law_sequence ct__law_sequence oc_Effect_tables kV_Effect_tables dc_Effect_tables pm_Effect_tables cd_Effect_tables ct_Effect_tables oc_Effect_breaks kV_Effect_breaks dc_Effect_breaks pm_Effect_breaks cd_Effect_breaks ct_Effect_breaks oc_starts_of kV_starts_of dc_starts_of pm_starts_of cd_starts_of ct_starts_of oc_Table_start kV_Table_start dc_Table_start pm_Table_start cd_Table_start ct_Table_start oc_format_numbers kV_format_numbers dc_format_numbers pm_format_numbers cd_format_numbers ct_format_numbers oc_Table_lost kV_Table_lost dc_Table_lost pm_Table_lost cd_Table_lost ct_Table_lost oc_effect_grid kV_effect_grid dc_effect_grid pm_effect_grid cd_effect_grid ct_effect_grid oc__law_padded kV__law_padded dc__law_padded pm__law_padded cd__law_padded ct__law_padded oc__law_line kV__law_line dc__law_line pm__law_line cd__law_line ct__law_line oc__law_drawn kV__law_drawn dc__law_drawn pm__law_drawn cd__law_drawn ct__law_drawn oc_format_effect kV_format_effect dc_format_effect pm_format_effect cd_format_effect ct_format_effect oc__law_check kV__law_check dc__law_check pm__law_check cd__law_check ct__law_check oc_Effect_shifted kV_Effect_shifted dc_Effect_shifted pm_Effect_shifted cd_Effect_shifted ct_Effect_shifted oc_Effect_nothing kV_Effect_nothing dc_Effect_nothing pm_Effect_nothing cd_Effect_nothing ct_Effect_nothing oc_Sequence___mul__ kV_Sequence___mul__ dc_Sequence___mul__ pm_Sequence___mul__ cd_Sequence___mul__ ct_Sequence___mul__ oc_law kV_law dc_law pm_law cd_law ct_law : Value} {od__law_pool an__law_pool od__law_take an__law_take od__law_step an__law_step od__law_steps an__law_steps od_Sequence_steps an_Sequence_steps od_least_reaching an_least_reaching od_is_integer an_is_integer od_is_count an_is_count od_is_rank an_is_rank od_are_lost_ranks an_are_lost_ranks od_Table___init__ an_Table___init__ od_table_at an_table_at od_Table___eq__ an_Table___eq__ od_merged an_merged od_are_breaks an_are_breaks od_are_tables an_are_tables od_Effect___init__ an_Effect___init__ od_Effect_of an_Effect_of od_Sequence_is_step an_Sequence_is_step od_check_steps an_check_steps od_Sequence___init__ an_Sequence___init__ od_Sequence___add__ an_Sequence___add__ od__law_sequence an__law_sequence od_Effect_tables an_Effect_tables od_Effect_breaks an_Effect_breaks od_starts_of an_starts_of od_Table_start an_Table_start od_format_numbers an_format_numbers od_Table_lost an_Table_lost od_effect_grid an_effect_grid od__law_padded an__law_padded od__law_line an__law_line od__law_drawn an__law_drawn od_format_effect an_format_effect od__law_check an__law_check od_Effect_shifted an_Effect_shifted od_Effect_nothing an_Effect_nothing od_Sequence___mul__ an_Sequence___mul__ od_law an_law : Option Addr} {sl__law_pool sl__law_take sl__law_step sl__law_steps sl_Sequence_steps sl_least_reaching sl_is_integer sl_is_count sl_is_rank sl_are_lost_ranks sl_Table___init__ sl_table_at sl_Table___eq__ sl_merged sl_are_breaks sl_are_tables sl_Effect___init__ sl_Effect_of sl_Sequence_is_step sl_check_steps sl_Sequence___init__ sl_Sequence___add__ sl__law_sequence sl_Effect_tables sl_Effect_breaks sl_starts_of sl_Table_start sl_format_numbers sl_Table_lost sl_effect_grid sl__law_padded sl__law_line sl__law_drawn sl_format_effect sl__law_check sl_Effect_shifted sl_Effect_nothing sl_Sequence___mul__ sl_law : Array (Option Value)} {rest_Sequence_steps rest_Effect_of rest_Sequence_is_step rest_Effect_tables rest_Effect_breaks rest_Table_start rest_Table_lost rest_Effect_nothing : List Value} {tk_g_FIRST tk_g_EMPTY : Tok}
theorem all_mk (X : K.In h) (G : h.Ns mainGlobals mg) (hfa : mg "law" = some (.ref fa))
    (a_Sequence : PySem.W.nsIn K mainGlobals "Sequence" = some (some (.ref C_Sequence)))
    (pg_Sequence : PySem.W.plainGet K C_Sequence Str.empty = true)
    (hd_Sequence : PySem.W.hasDictIn K C_Sequence = true)
    (po_Sequence : PySem.W.plainOver K C_Sequence = true)
    (sa_Sequence : PySem.W.findIn K (.ref C_Sequence) "__setattr__" = some (some (.builtin "object.__setattr__")))
    (sf_Sequence : PySem.W.selfFirst K C_Sequence = true)
    (a_Table : PySem.W.nsIn K mainGlobals "Table" = some (some (.ref C_Table)))
    (pg_Table : PySem.W.plainGet K C_Table Str.empty = true)
    (hd_Table : PySem.W.hasDictIn K C_Table = true)
    (po_Table : PySem.W.plainOver K C_Table = true)
    (sa_Table : PySem.W.findIn K (.ref C_Table) "__setattr__" = some (some (.builtin "object.__setattr__")))
    (sf_Table : PySem.W.selfFirst K C_Table = true)
    (a_Effect : PySem.W.nsIn K mainGlobals "Effect" = some (some (.ref C_Effect)))
    (pg_Effect : PySem.W.plainGet K C_Effect Str.empty = true)
    (hd_Effect : PySem.W.hasDictIn K C_Effect = true)
    (po_Effect : PySem.W.plainOver K C_Effect = true)
    (sa_Effect : PySem.W.findIn K (.ref C_Effect) "__setattr__" = some (some (.builtin "object.__setattr__")))
    (sf_Effect : PySem.W.selfFirst K C_Effect = true)
    (n_b_len : PySem.W.nsIn K mainGlobals "len" = some none)
    (n_b_abs : PySem.W.nsIn K mainGlobals "abs" = some none)
    (n_b_int : PySem.W.nsIn K mainGlobals "int" = some none)
    (n_b_range : PySem.W.nsIn K mainGlobals "range" = some none)
    (n_f_Sequence_parts : PySem.W.findIn K (.ref C_Sequence) "parts" = some none)
    (n_b_isinstance : PySem.W.nsIn K mainGlobals "isinstance" = some none)
    (n_b_bool : PySem.W.nsIn K mainGlobals "bool" = some none)
    (n_b_list : PySem.W.nsIn K mainGlobals "list" = some none)
    (n_b_tuple : PySem.W.nsIn K mainGlobals "tuple" = some none)
    (n_b_all : PySem.W.nsIn K mainGlobals "all" = some none)
    (n_b_zip : PySem.W.nsIn K mainGlobals "zip" = some none)
    (n_f_Table_base : PySem.W.findIn K (.ref C_Table) "base" = some none)
    (n_f_Table_gone : PySem.W.findIn K (.ref C_Table) "gone" = some none)
    (n_b_sorted : PySem.W.nsIn K mainGlobals "sorted" = some none)
    (t1_ko_Table : PySem.W.isClsIn K C_Table = true)
    (t2_ko_Table : PySem.W.typeIn K (.ref C_Table) = some (.type "type"))
    (ic1_Table : PySem.W.findIn K (.ref C_Table) "__class__" = some (some (.builtin "object.__class__")))
    (ic2_Table : PySem.W.specialIn K (.builtin "object.__class__") "__get__" = some (some (.builtin "getset_descriptor.__get__")))
    (ic3_Table : PySem.W.takesIn K (.builtin "object.__class__") = some true)
    (ic4_Table : PySem.W.mroIn K C_Table (.type "object") = some true)
    (n_ko_Table_Sequence : PySem.W.mroIn K C_Sequence (.ref C_Table) = some false)
    (q_ko_Table_Sequence : C_Sequence ≠ C_Table)
    (ic1_Sequence : PySem.W.findIn K (.ref C_Sequence) "__class__" = some (some (.builtin "object.__class__")))
    (ic2_Sequence : PySem.W.specialIn K (.builtin "object.__class__") "__get__" = some (some (.builtin "getset_descriptor.__get__")))
    (ic3_Sequence : PySem.W.takesIn K (.builtin "object.__class__") = some true)
    (ic4_Sequence : PySem.W.mroIn K C_Sequence (.type "object") = some true)
    (n_ko_Table_Effect : PySem.W.mroIn K C_Effect (.ref C_Table) = some false)
    (q_ko_Table_Effect : C_Effect ≠ C_Table)
    (ic1_Effect : PySem.W.findIn K (.ref C_Effect) "__class__" = some (some (.builtin "object.__class__")))
    (ic2_Effect : PySem.W.specialIn K (.builtin "object.__class__") "__get__" = some (some (.builtin "getset_descriptor.__get__")))
    (ic3_Effect : PySem.W.takesIn K (.builtin "object.__class__") = some true)
    (ic4_Effect : PySem.W.mroIn K C_Effect (.type "object") = some true)
    (n_f_Effect_cuts : PySem.W.findIn K (.ref C_Effect) "cuts" = some none)
    (n_f_Effect_maps : PySem.W.findIn K (.ref C_Effect) "maps" = some none)
    (n_b_str : PySem.W.nsIn K mainGlobals "str" = some none)
    (n_g_FIRST : PySem.W.nsIn K mainGlobals "FIRST" = some (some (.str ("*" : Str) tk_g_FIRST)))
    (n_g_EMPTY : PySem.W.nsIn K mainGlobals "EMPTY" = some (some (.str ("." : Str) tk_g_EMPTY)))
    (n_b_max : PySem.W.nsIn K mainGlobals "max" = some none)
    (n_b_min : PySem.W.nsIn K mainGlobals "min" = some none)
    (b1_bi_Sequence : PySem.W.findIn K (.ref C_Sequence) "__rmul__" = some none)
    (b2_bi_Sequence : PySem.W.findIn K (.type "int") "__mul__" = some (some (.builtin "int.__mul__")))
    (b3_bi_Sequence : PySem.W.findIn K (.type "int") "__rmul__" = some (some (.builtin "int.__rmul__")))
    (b4_bi_Sequence : PySem.W.subIn K (.type "int") (.ref C_Sequence) = some false)
    (a__law_pool : PySem.W.nsIn K mainGlobals "_law_pool" = some (some (.ref f__law_poolA)))
    (l__law_pool : K.lookup f__law_poolA = some ⟨oc__law_pool, od__law_pool, .func (PySem.W.fnOf "_law_pool" "_law_pool" (defArgs s__law_pool) (defBody s__law_pool) (defScope s__law_pool) .none kV__law_pool dc__law_pool pm__law_pool an__law_pool cd__law_pool ct__law_pool), sl__law_pool⟩)
    (c__law_pool : PySem.W.codeIn K cd__law_pool "_law_pool" = true)
    (k__law_pool : PySem.W.keepIn K (.ref f__law_poolA) = true)
    (a__law_take : PySem.W.nsIn K mainGlobals "_law_take" = some (some (.ref f__law_takeA)))
    (l__law_take : K.lookup f__law_takeA = some ⟨oc__law_take, od__law_take, .func (PySem.W.fnOf "_law_take" "_law_take" (defArgs s__law_take) (defBody s__law_take) (defScope s__law_take) .none kV__law_take dc__law_take pm__law_take an__law_take cd__law_take ct__law_take), sl__law_take⟩)
    (c__law_take : PySem.W.codeIn K cd__law_take "_law_take" = true)
    (k__law_take : PySem.W.keepIn K (.ref f__law_takeA) = true)
    (a__law_step : PySem.W.nsIn K mainGlobals "_law_step" = some (some (.ref f__law_stepA)))
    (l__law_step : K.lookup f__law_stepA = some ⟨oc__law_step, od__law_step, .func (PySem.W.fnOf "_law_step" "_law_step" (defArgs s__law_step) (defBody s__law_step) (defScope s__law_step) .none kV__law_step dc__law_step pm__law_step an__law_step cd__law_step ct__law_step), sl__law_step⟩)
    (c__law_step : PySem.W.codeIn K cd__law_step "_law_step" = true)
    (k__law_step : PySem.W.keepIn K (.ref f__law_stepA) = true)
    (a__law_steps : PySem.W.nsIn K mainGlobals "_law_steps" = some (some (.ref f__law_stepsA)))
    (l__law_steps : K.lookup f__law_stepsA = some ⟨oc__law_steps, od__law_steps, .func (PySem.W.fnOf "_law_steps" "_law_steps" (defArgs s__law_steps) (defBody s__law_steps) (defScope s__law_steps) .none kV__law_steps dc__law_steps pm__law_steps an__law_steps cd__law_steps ct__law_steps), sl__law_steps⟩)
    (c__law_steps : PySem.W.codeIn K cd__law_steps "_law_steps" = true)
    (k__law_steps : PySem.W.keepIn K (.ref f__law_stepsA) = true)
    (a_Sequence_steps : PySem.W.findIn K (.ref C_Sequence) "steps" = some (some (.ref p_Sequence_stepsA)))
    (pa_Sequence_steps : PySem.W.specialIn K (.ref p_Sequence_stepsA) "__get__" = some (some (.builtin "property.__get__")))
    (pb_Sequence_steps : PySem.W.takesIn K (.ref p_Sequence_stepsA) = some true)
    (pc_Sequence_steps : PySem.W.recIn K p_Sequence_stepsA "property" = some (.ref f_Sequence_stepsA :: rest_Sequence_steps))
    (l_Sequence_steps : K.lookup f_Sequence_stepsA = some ⟨oc_Sequence_steps, od_Sequence_steps, .func (PySem.W.fnOf "steps" "Sequence.steps" (defArgs s_Sequence_steps) (defBody s_Sequence_steps) (defScope s_Sequence_steps) .none kV_Sequence_steps dc_Sequence_steps pm_Sequence_steps an_Sequence_steps cd_Sequence_steps ct_Sequence_steps), sl_Sequence_steps⟩)
    (c_Sequence_steps : PySem.W.codeIn K cd_Sequence_steps "Sequence.steps" = true)
    (k_Sequence_steps : PySem.W.keepIn K (.ref f_Sequence_stepsA) = true)
    (a_least_reaching : PySem.W.nsIn K mainGlobals "least_reaching" = some (some (.ref f_least_reachingA)))
    (l_least_reaching : K.lookup f_least_reachingA = some ⟨oc_least_reaching, od_least_reaching, .func (PySem.W.fnOf "least_reaching" "least_reaching" (defArgs s_least_reaching) (defBody s_least_reaching) (defScope s_least_reaching) .none kV_least_reaching dc_least_reaching pm_least_reaching an_least_reaching cd_least_reaching ct_least_reaching), sl_least_reaching⟩)
    (c_least_reaching : PySem.W.codeIn K cd_least_reaching "least_reaching" = true)
    (k_least_reaching : PySem.W.keepIn K (.ref f_least_reachingA) = true)
    (a_is_integer : PySem.W.nsIn K mainGlobals "is_integer" = some (some (.ref f_is_integerA)))
    (l_is_integer : K.lookup f_is_integerA = some ⟨oc_is_integer, od_is_integer, .func (PySem.W.fnOf "is_integer" "is_integer" (defArgs s_is_integer) (defBody s_is_integer) (defScope s_is_integer) .none kV_is_integer dc_is_integer pm_is_integer an_is_integer cd_is_integer ct_is_integer), sl_is_integer⟩)
    (c_is_integer : PySem.W.codeIn K cd_is_integer "is_integer" = true)
    (k_is_integer : PySem.W.keepIn K (.ref f_is_integerA) = true)
    (a_is_count : PySem.W.nsIn K mainGlobals "is_count" = some (some (.ref f_is_countA)))
    (l_is_count : K.lookup f_is_countA = some ⟨oc_is_count, od_is_count, .func (PySem.W.fnOf "is_count" "is_count" (defArgs s_is_count) (defBody s_is_count) (defScope s_is_count) .none kV_is_count dc_is_count pm_is_count an_is_count cd_is_count ct_is_count), sl_is_count⟩)
    (c_is_count : PySem.W.codeIn K cd_is_count "is_count" = true)
    (k_is_count : PySem.W.keepIn K (.ref f_is_countA) = true)
    (a_is_rank : PySem.W.nsIn K mainGlobals "is_rank" = some (some (.ref f_is_rankA)))
    (l_is_rank : K.lookup f_is_rankA = some ⟨oc_is_rank, od_is_rank, .func (PySem.W.fnOf "is_rank" "is_rank" (defArgs s_is_rank) (defBody s_is_rank) (defScope s_is_rank) .none kV_is_rank dc_is_rank pm_is_rank an_is_rank cd_is_rank ct_is_rank), sl_is_rank⟩)
    (c_is_rank : PySem.W.codeIn K cd_is_rank "is_rank" = true)
    (k_is_rank : PySem.W.keepIn K (.ref f_is_rankA) = true)
    (a_are_lost_ranks : PySem.W.nsIn K mainGlobals "are_lost_ranks" = some (some (.ref f_are_lost_ranksA)))
    (l_are_lost_ranks : K.lookup f_are_lost_ranksA = some ⟨oc_are_lost_ranks, od_are_lost_ranks, .func (PySem.W.fnOf "are_lost_ranks" "are_lost_ranks" (defArgs s_are_lost_ranks) (defBody s_are_lost_ranks) (defScope s_are_lost_ranks) .none kV_are_lost_ranks dc_are_lost_ranks pm_are_lost_ranks an_are_lost_ranks cd_are_lost_ranks ct_are_lost_ranks), sl_are_lost_ranks⟩)
    (c_are_lost_ranks : PySem.W.codeIn K cd_are_lost_ranks "are_lost_ranks" = true)
    (k_are_lost_ranks : PySem.W.keepIn K (.ref f_are_lost_ranksA) = true)
    (a_Table___init__ : PySem.W.findIn K (.ref C_Table) "__init__" = some (some (.ref f_Table___init__A)))
    (i_Table___init__ : PySem.W.isFn K (.ref f_Table___init__A) = true)
    (l_Table___init__ : K.lookup f_Table___init__A = some ⟨oc_Table___init__, od_Table___init__, .func (PySem.W.fnOf "__init__" "Table.__init__" (defArgs s_Table___init__) (defBody s_Table___init__) (defScope s_Table___init__) .none kV_Table___init__ dc_Table___init__ pm_Table___init__ an_Table___init__ cd_Table___init__ ct_Table___init__), sl_Table___init__⟩)
    (c_Table___init__ : PySem.W.codeIn K cd_Table___init__ "Table.__init__" = true)
    (k_Table___init__ : PySem.W.keepIn K (.ref f_Table___init__A) = true)
    (mk_Table : PySem.W.makesIn K C_Table = true)
    (kc_Table : PySem.W.keepIn K (.ref C_Table) = true)
    (a_table_at : PySem.W.nsIn K mainGlobals "table_at" = some (some (.ref f_table_atA)))
    (l_table_at : K.lookup f_table_atA = some ⟨oc_table_at, od_table_at, .func (PySem.W.fnOf "table_at" "table_at" (defArgs s_table_at) (defBody s_table_at) (defScope s_table_at) .none kV_table_at dc_table_at pm_table_at an_table_at cd_table_at ct_table_at), sl_table_at⟩)
    (c_table_at : PySem.W.codeIn K cd_table_at "table_at" = true)
    (k_table_at : PySem.W.keepIn K (.ref f_table_atA) = true)
    (a_Table___eq__ : PySem.W.findIn K (.ref C_Table) "__eq__" = some (some (.ref f_Table___eq__A)))
    (i_Table___eq__ : PySem.W.isFn K (.ref f_Table___eq__A) = true)
    (l_Table___eq__ : K.lookup f_Table___eq__A = some ⟨oc_Table___eq__, od_Table___eq__, .func (PySem.W.fnOf "__eq__" "Table.__eq__" (defArgs s_Table___eq__) (defBody s_Table___eq__) (defScope s_Table___eq__) .none kV_Table___eq__ dc_Table___eq__ pm_Table___eq__ an_Table___eq__ cd_Table___eq__ ct_Table___eq__), sl_Table___eq__⟩)
    (c_Table___eq__ : PySem.W.codeIn K cd_Table___eq__ "Table.__eq__" = true)
    (k_Table___eq__ : PySem.W.keepIn K (.ref f_Table___eq__A) = true)
    (a_merged : PySem.W.nsIn K mainGlobals "merged" = some (some (.ref f_mergedA)))
    (l_merged : K.lookup f_mergedA = some ⟨oc_merged, od_merged, .func (PySem.W.fnOf "merged" "merged" (defArgs s_merged) (defBody s_merged) (defScope s_merged) .none kV_merged dc_merged pm_merged an_merged cd_merged ct_merged), sl_merged⟩)
    (c_merged : PySem.W.codeIn K cd_merged "merged" = true)
    (k_merged : PySem.W.keepIn K (.ref f_mergedA) = true)
    (a_are_breaks : PySem.W.nsIn K mainGlobals "are_breaks" = some (some (.ref f_are_breaksA)))
    (l_are_breaks : K.lookup f_are_breaksA = some ⟨oc_are_breaks, od_are_breaks, .func (PySem.W.fnOf "are_breaks" "are_breaks" (defArgs s_are_breaks) (defBody s_are_breaks) (defScope s_are_breaks) .none kV_are_breaks dc_are_breaks pm_are_breaks an_are_breaks cd_are_breaks ct_are_breaks), sl_are_breaks⟩)
    (c_are_breaks : PySem.W.codeIn K cd_are_breaks "are_breaks" = true)
    (k_are_breaks : PySem.W.keepIn K (.ref f_are_breaksA) = true)
    (a_are_tables : PySem.W.nsIn K mainGlobals "are_tables" = some (some (.ref f_are_tablesA)))
    (l_are_tables : K.lookup f_are_tablesA = some ⟨oc_are_tables, od_are_tables, .func (PySem.W.fnOf "are_tables" "are_tables" (defArgs s_are_tables) (defBody s_are_tables) (defScope s_are_tables) .none kV_are_tables dc_are_tables pm_are_tables an_are_tables cd_are_tables ct_are_tables), sl_are_tables⟩)
    (c_are_tables : PySem.W.codeIn K cd_are_tables "are_tables" = true)
    (k_are_tables : PySem.W.keepIn K (.ref f_are_tablesA) = true)
    (a_Effect___init__ : PySem.W.findIn K (.ref C_Effect) "__init__" = some (some (.ref f_Effect___init__A)))
    (i_Effect___init__ : PySem.W.isFn K (.ref f_Effect___init__A) = true)
    (l_Effect___init__ : K.lookup f_Effect___init__A = some ⟨oc_Effect___init__, od_Effect___init__, .func (PySem.W.fnOf "__init__" "Effect.__init__" (defArgs s_Effect___init__) (defBody s_Effect___init__) (defScope s_Effect___init__) .none kV_Effect___init__ dc_Effect___init__ pm_Effect___init__ an_Effect___init__ cd_Effect___init__ ct_Effect___init__), sl_Effect___init__⟩)
    (c_Effect___init__ : PySem.W.codeIn K cd_Effect___init__ "Effect.__init__" = true)
    (k_Effect___init__ : PySem.W.keepIn K (.ref f_Effect___init__A) = true)
    (mk_Effect : PySem.W.makesIn K C_Effect = true)
    (kc_Effect : PySem.W.keepIn K (.ref C_Effect) = true)
    (a_Effect_of : PySem.W.findCls K (.ref C_Effect) (.type "type") "of" = some (.get (.builtin "classmethod.__get__") (.ref p_Effect_ofA) .none (.ref C_Effect)))
    (pc_Effect_of : PySem.W.recIn K p_Effect_ofA "classmethod" = some (.ref f_Effect_ofA :: rest_Effect_of))
    (fi_Effect_of : PySem.W.fnIn K f_Effect_ofA = true)
    (r1_Effect : PySem.W.readsIn K C_Effect (.type "type") = true)
    (r2_Effect : PySem.W.specialIn K (.ref C_Effect) "__getattribute__" = some (some (.builtin "type.__getattribute__")))
    (l_Effect_of : K.lookup f_Effect_ofA = some ⟨oc_Effect_of, od_Effect_of, .func (PySem.W.fnOf "of" "Effect.of" (defArgs s_Effect_of) (defBody s_Effect_of) (defScope s_Effect_of) .none kV_Effect_of dc_Effect_of pm_Effect_of an_Effect_of cd_Effect_of ct_Effect_of), sl_Effect_of⟩)
    (c_Effect_of : PySem.W.codeIn K cd_Effect_of "Effect.of" = true)
    (k_Effect_of : PySem.W.keepIn K (.ref f_Effect_ofA) = true)
    (a_Sequence_is_step : PySem.W.findCls K (.ref C_Sequence) (.type "type") "is_step" = some (.get (.builtin "staticmethod.__get__") (.ref p_Sequence_is_stepA) .none (.ref C_Sequence)))
    (pc_Sequence_is_step : PySem.W.recIn K p_Sequence_is_stepA "staticmethod" = some (.ref f_Sequence_is_stepA :: rest_Sequence_is_step))
    (r1_Sequence : PySem.W.readsIn K C_Sequence (.type "type") = true)
    (r2_Sequence : PySem.W.specialIn K (.ref C_Sequence) "__getattribute__" = some (some (.builtin "type.__getattribute__")))
    (l_Sequence_is_step : K.lookup f_Sequence_is_stepA = some ⟨oc_Sequence_is_step, od_Sequence_is_step, .func (PySem.W.fnOf "is_step" "Sequence.is_step" (defArgs s_Sequence_is_step) (defBody s_Sequence_is_step) (defScope s_Sequence_is_step) .none kV_Sequence_is_step dc_Sequence_is_step pm_Sequence_is_step an_Sequence_is_step cd_Sequence_is_step ct_Sequence_is_step), sl_Sequence_is_step⟩)
    (c_Sequence_is_step : PySem.W.codeIn K cd_Sequence_is_step "Sequence.is_step" = true)
    (k_Sequence_is_step : PySem.W.keepIn K (.ref f_Sequence_is_stepA) = true)
    (a_check_steps : PySem.W.nsIn K mainGlobals "check_steps" = some (some (.ref f_check_stepsA)))
    (l_check_steps : K.lookup f_check_stepsA = some ⟨oc_check_steps, od_check_steps, .func (PySem.W.fnOf "check_steps" "check_steps" (defArgs s_check_steps) (defBody s_check_steps) (defScope s_check_steps) .none kV_check_steps dc_check_steps pm_check_steps an_check_steps cd_check_steps ct_check_steps), sl_check_steps⟩)
    (c_check_steps : PySem.W.codeIn K cd_check_steps "check_steps" = true)
    (k_check_steps : PySem.W.keepIn K (.ref f_check_stepsA) = true)
    (a_Sequence___init__ : PySem.W.findIn K (.ref C_Sequence) "__init__" = some (some (.ref f_Sequence___init__A)))
    (i_Sequence___init__ : PySem.W.isFn K (.ref f_Sequence___init__A) = true)
    (l_Sequence___init__ : K.lookup f_Sequence___init__A = some ⟨oc_Sequence___init__, od_Sequence___init__, .func (PySem.W.fnOf "__init__" "Sequence.__init__" (defArgs s_Sequence___init__) (defBody s_Sequence___init__) (defScope s_Sequence___init__) .none kV_Sequence___init__ dc_Sequence___init__ pm_Sequence___init__ an_Sequence___init__ cd_Sequence___init__ ct_Sequence___init__), sl_Sequence___init__⟩)
    (c_Sequence___init__ : PySem.W.codeIn K cd_Sequence___init__ "Sequence.__init__" = true)
    (k_Sequence___init__ : PySem.W.keepIn K (.ref f_Sequence___init__A) = true)
    (mk_Sequence : PySem.W.makesIn K C_Sequence = true)
    (kc_Sequence : PySem.W.keepIn K (.ref C_Sequence) = true)
    (a_Sequence___add__ : PySem.W.findIn K (.ref C_Sequence) "__add__" = some (some (.ref f_Sequence___add__A)))
    (i_Sequence___add__ : PySem.W.isFn K (.ref f_Sequence___add__A) = true)
    (l_Sequence___add__ : K.lookup f_Sequence___add__A = some ⟨oc_Sequence___add__, od_Sequence___add__, .func (PySem.W.fnOf "__add__" "Sequence.__add__" (defArgs s_Sequence___add__) (defBody s_Sequence___add__) (defScope s_Sequence___add__) .none kV_Sequence___add__ dc_Sequence___add__ pm_Sequence___add__ an_Sequence___add__ cd_Sequence___add__ ct_Sequence___add__), sl_Sequence___add__⟩)
    (c_Sequence___add__ : PySem.W.codeIn K cd_Sequence___add__ "Sequence.__add__" = true)
    (k_Sequence___add__ : PySem.W.keepIn K (.ref f_Sequence___add__A) = true)
    (a__law_sequence : PySem.W.nsIn K mainGlobals "_law_sequence" = some (some (.ref f__law_sequenceA)))
    (l__law_sequence : K.lookup f__law_sequenceA = some ⟨oc__law_sequence, od__law_sequence, .func (PySem.W.fnOf "_law_sequence" "_law_sequence" (defArgs s__law_sequence) (defBody s__law_sequence) (defScope s__law_sequence) .none kV__law_sequence dc__law_sequence pm__law_sequence an__law_sequence cd__law_sequence ct__law_sequence), sl__law_sequence⟩)
    (c__law_sequence : PySem.W.codeIn K cd__law_sequence "_law_sequence" = true)
    (k__law_sequence : PySem.W.keepIn K (.ref f__law_sequenceA) = true)
    (a_Effect_tables : PySem.W.findIn K (.ref C_Effect) "tables" = some (some (.ref p_Effect_tablesA)))
    (pa_Effect_tables : PySem.W.specialIn K (.ref p_Effect_tablesA) "__get__" = some (some (.builtin "property.__get__")))
    (pb_Effect_tables : PySem.W.takesIn K (.ref p_Effect_tablesA) = some true)
    (pc_Effect_tables : PySem.W.recIn K p_Effect_tablesA "property" = some (.ref f_Effect_tablesA :: rest_Effect_tables))
    (l_Effect_tables : K.lookup f_Effect_tablesA = some ⟨oc_Effect_tables, od_Effect_tables, .func (PySem.W.fnOf "tables" "Effect.tables" (defArgs s_Effect_tables) (defBody s_Effect_tables) (defScope s_Effect_tables) .none kV_Effect_tables dc_Effect_tables pm_Effect_tables an_Effect_tables cd_Effect_tables ct_Effect_tables), sl_Effect_tables⟩)
    (c_Effect_tables : PySem.W.codeIn K cd_Effect_tables "Effect.tables" = true)
    (k_Effect_tables : PySem.W.keepIn K (.ref f_Effect_tablesA) = true)
    (a_Effect_breaks : PySem.W.findIn K (.ref C_Effect) "breaks" = some (some (.ref p_Effect_breaksA)))
    (pa_Effect_breaks : PySem.W.specialIn K (.ref p_Effect_breaksA) "__get__" = some (some (.builtin "property.__get__")))
    (pb_Effect_breaks : PySem.W.takesIn K (.ref p_Effect_breaksA) = some true)
    (pc_Effect_breaks : PySem.W.recIn K p_Effect_breaksA "property" = some (.ref f_Effect_breaksA :: rest_Effect_breaks))
    (l_Effect_breaks : K.lookup f_Effect_breaksA = some ⟨oc_Effect_breaks, od_Effect_breaks, .func (PySem.W.fnOf "breaks" "Effect.breaks" (defArgs s_Effect_breaks) (defBody s_Effect_breaks) (defScope s_Effect_breaks) .none kV_Effect_breaks dc_Effect_breaks pm_Effect_breaks an_Effect_breaks cd_Effect_breaks ct_Effect_breaks), sl_Effect_breaks⟩)
    (c_Effect_breaks : PySem.W.codeIn K cd_Effect_breaks "Effect.breaks" = true)
    (k_Effect_breaks : PySem.W.keepIn K (.ref f_Effect_breaksA) = true)
    (a_starts_of : PySem.W.nsIn K mainGlobals "starts_of" = some (some (.ref f_starts_ofA)))
    (l_starts_of : K.lookup f_starts_ofA = some ⟨oc_starts_of, od_starts_of, .func (PySem.W.fnOf "starts_of" "starts_of" (defArgs s_starts_of) (defBody s_starts_of) (defScope s_starts_of) .none kV_starts_of dc_starts_of pm_starts_of an_starts_of cd_starts_of ct_starts_of), sl_starts_of⟩)
    (c_starts_of : PySem.W.codeIn K cd_starts_of "starts_of" = true)
    (k_starts_of : PySem.W.keepIn K (.ref f_starts_ofA) = true)
    (a_Table_start : PySem.W.findIn K (.ref C_Table) "start" = some (some (.ref p_Table_startA)))
    (pa_Table_start : PySem.W.specialIn K (.ref p_Table_startA) "__get__" = some (some (.builtin "property.__get__")))
    (pb_Table_start : PySem.W.takesIn K (.ref p_Table_startA) = some true)
    (pc_Table_start : PySem.W.recIn K p_Table_startA "property" = some (.ref f_Table_startA :: rest_Table_start))
    (l_Table_start : K.lookup f_Table_startA = some ⟨oc_Table_start, od_Table_start, .func (PySem.W.fnOf "start" "Table.start" (defArgs s_Table_start) (defBody s_Table_start) (defScope s_Table_start) .none kV_Table_start dc_Table_start pm_Table_start an_Table_start cd_Table_start ct_Table_start), sl_Table_start⟩)
    (c_Table_start : PySem.W.codeIn K cd_Table_start "Table.start" = true)
    (k_Table_start : PySem.W.keepIn K (.ref f_Table_startA) = true)
    (a_format_numbers : PySem.W.nsIn K mainGlobals "format_numbers" = some (some (.ref f_format_numbersA)))
    (l_format_numbers : K.lookup f_format_numbersA = some ⟨oc_format_numbers, od_format_numbers, .func (PySem.W.fnOf "format_numbers" "format_numbers" (defArgs s_format_numbers) (defBody s_format_numbers) (defScope s_format_numbers) .none kV_format_numbers dc_format_numbers pm_format_numbers an_format_numbers cd_format_numbers ct_format_numbers), sl_format_numbers⟩)
    (c_format_numbers : PySem.W.codeIn K cd_format_numbers "format_numbers" = true)
    (k_format_numbers : PySem.W.keepIn K (.ref f_format_numbersA) = true)
    (a_Table_lost : PySem.W.findIn K (.ref C_Table) "lost" = some (some (.ref p_Table_lostA)))
    (pa_Table_lost : PySem.W.specialIn K (.ref p_Table_lostA) "__get__" = some (some (.builtin "property.__get__")))
    (pb_Table_lost : PySem.W.takesIn K (.ref p_Table_lostA) = some true)
    (pc_Table_lost : PySem.W.recIn K p_Table_lostA "property" = some (.ref f_Table_lostA :: rest_Table_lost))
    (l_Table_lost : K.lookup f_Table_lostA = some ⟨oc_Table_lost, od_Table_lost, .func (PySem.W.fnOf "lost" "Table.lost" (defArgs s_Table_lost) (defBody s_Table_lost) (defScope s_Table_lost) .none kV_Table_lost dc_Table_lost pm_Table_lost an_Table_lost cd_Table_lost ct_Table_lost), sl_Table_lost⟩)
    (c_Table_lost : PySem.W.codeIn K cd_Table_lost "Table.lost" = true)
    (k_Table_lost : PySem.W.keepIn K (.ref f_Table_lostA) = true)
    (a_effect_grid : PySem.W.nsIn K mainGlobals "effect_grid" = some (some (.ref f_effect_gridA)))
    (l_effect_grid : K.lookup f_effect_gridA = some ⟨oc_effect_grid, od_effect_grid, .func (PySem.W.fnOf "effect_grid" "effect_grid" (defArgs s_effect_grid) (defBody s_effect_grid) (defScope s_effect_grid) .none kV_effect_grid dc_effect_grid pm_effect_grid an_effect_grid cd_effect_grid ct_effect_grid), sl_effect_grid⟩)
    (c_effect_grid : PySem.W.codeIn K cd_effect_grid "effect_grid" = true)
    (k_effect_grid : PySem.W.keepIn K (.ref f_effect_gridA) = true)
    (a__law_padded : PySem.W.nsIn K mainGlobals "_law_padded" = some (some (.ref f__law_paddedA)))
    (l__law_padded : K.lookup f__law_paddedA = some ⟨oc__law_padded, od__law_padded, .func (PySem.W.fnOf "_law_padded" "_law_padded" (defArgs s__law_padded) (defBody s__law_padded) (defScope s__law_padded) .none kV__law_padded dc__law_padded pm__law_padded an__law_padded cd__law_padded ct__law_padded), sl__law_padded⟩)
    (c__law_padded : PySem.W.codeIn K cd__law_padded "_law_padded" = true)
    (k__law_padded : PySem.W.keepIn K (.ref f__law_paddedA) = true)
    (a__law_line : PySem.W.nsIn K mainGlobals "_law_line" = some (some (.ref f__law_lineA)))
    (l__law_line : K.lookup f__law_lineA = some ⟨oc__law_line, od__law_line, .func (PySem.W.fnOf "_law_line" "_law_line" (defArgs s__law_line) (defBody s__law_line) (defScope s__law_line) .none kV__law_line dc__law_line pm__law_line an__law_line cd__law_line ct__law_line), sl__law_line⟩)
    (c__law_line : PySem.W.codeIn K cd__law_line "_law_line" = true)
    (k__law_line : PySem.W.keepIn K (.ref f__law_lineA) = true)
    (a__law_drawn : PySem.W.nsIn K mainGlobals "_law_drawn" = some (some (.ref f__law_drawnA)))
    (l__law_drawn : K.lookup f__law_drawnA = some ⟨oc__law_drawn, od__law_drawn, .func (PySem.W.fnOf "_law_drawn" "_law_drawn" (defArgs s__law_drawn) (defBody s__law_drawn) (defScope s__law_drawn) .none kV__law_drawn dc__law_drawn pm__law_drawn an__law_drawn cd__law_drawn ct__law_drawn), sl__law_drawn⟩)
    (c__law_drawn : PySem.W.codeIn K cd__law_drawn "_law_drawn" = true)
    (k__law_drawn : PySem.W.keepIn K (.ref f__law_drawnA) = true)
    (a_format_effect : PySem.W.nsIn K mainGlobals "format_effect" = some (some (.ref f_format_effectA)))
    (l_format_effect : K.lookup f_format_effectA = some ⟨oc_format_effect, od_format_effect, .func (PySem.W.fnOf "format_effect" "format_effect" (defArgs s_format_effect) (defBody s_format_effect) (defScope s_format_effect) .none kV_format_effect dc_format_effect pm_format_effect an_format_effect cd_format_effect ct_format_effect), sl_format_effect⟩)
    (c_format_effect : PySem.W.codeIn K cd_format_effect "format_effect" = true)
    (k_format_effect : PySem.W.keepIn K (.ref f_format_effectA) = true)
    (a__law_check : PySem.W.nsIn K mainGlobals "_law_check" = some (some (.ref f__law_checkA)))
    (l__law_check : K.lookup f__law_checkA = some ⟨oc__law_check, od__law_check, .func (PySem.W.fnOf "_law_check" "_law_check" (defArgs s__law_check) (defBody s__law_check) (defScope s__law_check) .none kV__law_check dc__law_check pm__law_check an__law_check cd__law_check ct__law_check), sl__law_check⟩)
    (c__law_check : PySem.W.codeIn K cd__law_check "_law_check" = true)
    (k__law_check : PySem.W.keepIn K (.ref f__law_checkA) = true)
    (a_Effect_shifted : PySem.W.findIn K (.ref C_Effect) "shifted" = some (some (.ref f_Effect_shiftedA)))
    (i_Effect_shifted : PySem.W.isFn K (.ref f_Effect_shiftedA) = true)
    (l_Effect_shifted : K.lookup f_Effect_shiftedA = some ⟨oc_Effect_shifted, od_Effect_shifted, .func (PySem.W.fnOf "shifted" "Effect.shifted" (defArgs s_Effect_shifted) (defBody s_Effect_shifted) (defScope s_Effect_shifted) .none kV_Effect_shifted dc_Effect_shifted pm_Effect_shifted an_Effect_shifted cd_Effect_shifted ct_Effect_shifted), sl_Effect_shifted⟩)
    (c_Effect_shifted : PySem.W.codeIn K cd_Effect_shifted "Effect.shifted" = true)
    (k_Effect_shifted : PySem.W.keepIn K (.ref f_Effect_shiftedA) = true)
    (a_Effect_nothing : PySem.W.findCls K (.ref C_Effect) (.type "type") "nothing" = some (.get (.builtin "classmethod.__get__") (.ref p_Effect_nothingA) .none (.ref C_Effect)))
    (pc_Effect_nothing : PySem.W.recIn K p_Effect_nothingA "classmethod" = some (.ref f_Effect_nothingA :: rest_Effect_nothing))
    (fi_Effect_nothing : PySem.W.fnIn K f_Effect_nothingA = true)
    (l_Effect_nothing : K.lookup f_Effect_nothingA = some ⟨oc_Effect_nothing, od_Effect_nothing, .func (PySem.W.fnOf "nothing" "Effect.nothing" (defArgs s_Effect_nothing) (defBody s_Effect_nothing) (defScope s_Effect_nothing) .none kV_Effect_nothing dc_Effect_nothing pm_Effect_nothing an_Effect_nothing cd_Effect_nothing ct_Effect_nothing), sl_Effect_nothing⟩)
    (c_Effect_nothing : PySem.W.codeIn K cd_Effect_nothing "Effect.nothing" = true)
    (k_Effect_nothing : PySem.W.keepIn K (.ref f_Effect_nothingA) = true)
    (a_Sequence___mul__ : PySem.W.findIn K (.ref C_Sequence) "__mul__" = some (some (.ref f_Sequence___mul__A)))
    (i_Sequence___mul__ : PySem.W.isFn K (.ref f_Sequence___mul__A) = true)
    (l_Sequence___mul__ : K.lookup f_Sequence___mul__A = some ⟨oc_Sequence___mul__, od_Sequence___mul__, .func (PySem.W.fnOf "__mul__" "Sequence.__mul__" (defArgs s_Sequence___mul__) (defBody s_Sequence___mul__) (defScope s_Sequence___mul__) .none kV_Sequence___mul__ dc_Sequence___mul__ pm_Sequence___mul__ an_Sequence___mul__ cd_Sequence___mul__ ct_Sequence___mul__), sl_Sequence___mul__⟩)
    (c_Sequence___mul__ : PySem.W.codeIn K cd_Sequence___mul__ "Sequence.__mul__" = true)
    (k_Sequence___mul__ : PySem.W.keepIn K (.ref f_Sequence___mul__A) = true)
    (a_law : PySem.W.nsIn K mainGlobals "law" = some (some (.ref f_lawA)))
    (l_law : K.lookup f_lawA = some ⟨oc_law, od_law, .func (PySem.W.fnOf "law" "law" (defArgs s_law) (defBody s_law) (defScope s_law) .none kV_law dc_law pm_law an_law cd_law ct_law), sl_law⟩)
    (c_law : PySem.W.codeIn K cd_law "law" = true)
    (k_law : PySem.W.keepIn K (.ref f_lawA) = true)
    (hlaw : ∀ ns : List Int, ns.length ≤ 63 → ∃ e, R_law [.val (.scr ns)] = .ok (.bl true) e) :
    ∃ fd : FuncData, (∀ (s : Shared) (v : Value), BindsTo s fd ⟨[v], []⟩ [("_law_script", v)]) ∧ ∀ base : Heap, K.In base → base.Ns mainGlobals mg → FnOk P w K mg base (L2.CX P w) 9 fa fd ["_law_script"] (spLaw K) := by
  have e := hfa.symm.trans (PySem.W.mg_of X G a_law)
  cases e
  refine ⟨PySem.W.fnOf "law" "law" (defArgs s_law) (defBody s_law) (defScope s_law) .none kV_law dc_law pm_law an_law cd_law ct_law, fun s v => .of_eq rfl, fun base _ _ => ?_⟩
  have m_Sequence := PySem.W.mg_of X G a_Sequence
  have cl_Sequence : Cls K C_Sequence := ⟨pg_Sequence, hd_Sequence, po_Sequence, sa_Sequence⟩
  have m_Table := PySem.W.mg_of X G a_Table
  have cl_Table : Cls K C_Table := ⟨pg_Table, hd_Table, po_Table, sa_Table⟩
  have m_Effect := PySem.W.mg_of X G a_Effect
  have cl_Effect : Cls K C_Effect := ⟨pg_Effect, hd_Effect, po_Effect, sa_Effect⟩
  have b_len := PySem.W.mg_none_of X G n_b_len
  have b_abs := PySem.W.mg_none_of X G n_b_abs
  have b_int := PySem.W.mg_none_of X G n_b_int
  have b_range := PySem.W.mg_none_of X G n_b_range
  have f_Sequence_parts : FlI K mg "Sequence" "parts" := ⟨_, m_Sequence, cl_Sequence, n_f_Sequence_parts⟩
  have b_isinstance := PySem.W.mg_none_of X G n_b_isinstance
  have b_bool := PySem.W.mg_none_of X G n_b_bool
  have b_list := PySem.W.mg_none_of X G n_b_list
  have b_tuple := PySem.W.mg_none_of X G n_b_tuple
  have b_all := PySem.W.mg_none_of X G n_b_all
  have b_zip := PySem.W.mg_none_of X G n_b_zip
  have f_Table_base : FlI K mg "Table" "base" := ⟨_, m_Table, cl_Table, n_f_Table_base⟩
  have f_Table_gone : FlI K mg "Table" "gone" := ⟨_, m_Table, cl_Table, n_f_Table_gone⟩
  have b_sorted := PySem.W.mg_none_of X G n_b_sorted
  have ic_Table : C8.InsC K C_Table := ⟨cl_Table, ic1_Table, ic2_Table, ic3_Table, ic4_Table, kit_self⟩
  have ic_Sequence : C8.InsC K C_Sequence := ⟨cl_Sequence, ic1_Sequence, ic2_Sequence, ic3_Sequence, ic4_Sequence, kit_self⟩
  have ic_Effect : C8.InsC K C_Effect := ⟨cl_Effect, ic1_Effect, ic2_Effect, ic3_Effect, ic4_Effect, kit_self⟩
  have ko_Table : KoI K mg "Table" ["Table"] ["Sequence", "Effect"] := ⟨_, m_Table, kit_base t1_ko_Table t2_ko_Table, (by intro n h; rcases List.mem_cons.mp h with rfl | h; (exact ⟨_, m_Table, ic_Table, kit_self⟩); cases h), (by intro n h; rcases List.mem_cons.mp h with rfl | h; (exact ⟨_, m_Sequence, ic_Sequence, kit_no t1_ko_Table t2_ko_Table n_ko_Table_Sequence q_ko_Table_Sequence⟩); rcases List.mem_cons.mp h with rfl | h; (exact ⟨_, m_Effect, ic_Effect, kit_no t1_ko_Table t2_ko_Table n_ko_Table_Effect q_ko_Table_Effect⟩); cases h)⟩
  have f_Effect_cuts : FlI K mg "Effect" "cuts" := ⟨_, m_Effect, cl_Effect, n_f_Effect_cuts⟩
  have f_Effect_maps : FlI K mg "Effect" "maps" := ⟨_, m_Effect, cl_Effect, n_f_Effect_maps⟩
  have b_str := PySem.W.mg_none_of X G n_b_str
  have g_FIRST : ∃ t, mg "FIRST" = some (.str ("*" : Str) t) := ⟨_, PySem.W.mg_of X G n_g_FIRST⟩
  have g_EMPTY : ∃ t, mg "EMPTY" = some (.str ("." : Str) t) := ⟨_, PySem.W.mg_of X G n_g_EMPTY⟩
  have b_max := PySem.W.mg_none_of X G n_b_max
  have b_min := PySem.W.mg_none_of X G n_b_min
  have bi_Sequence : BiI K mg "Sequence" .Mult := ⟨_, m_Sequence, b1_bi_Sequence, ⟨_, b2_bi_Sequence⟩, ⟨_, b3_bi_Sequence⟩, b4_bi_Sequence⟩
  have m__law_pool := PySem.W.mg_of X G a__law_pool
  have F__law_pool := fun_mk (st := s__law_pool) l__law_pool c__law_pool k__law_pool
  have B__law_pool := F__law_pool.binds (ps := ["_law_script", "_law_k"]) fun _ _ _ _ _ _ us hl => match us, hl with | [_, _], _ => rfl
  have O__law_pool := ok__law_pool (P := P) (w := w) (mg := mg) (base := base) F__law_pool b_len b_abs b_int
  have Q__law_pool := fn_rawN O__law_pool B__law_pool
  have d_FnN__law_pool : FnN P w K mg base 1 "_law_pool" R__law_pool := ⟨_, m__law_pool, k__law_pool, Q__law_pool⟩
  have m__law_take := PySem.W.mg_of X G a__law_take
  have F__law_take := fun_mk (st := s__law_take) l__law_take c__law_take k__law_take
  have B__law_take := F__law_take.binds (ps := ["_law_pool_here", "_law_count"]) fun _ _ _ _ _ _ us hl => match us, hl with | [_, _], _ => rfl
  have O__law_take := ok__law_take (P := P) (w := w) (mg := mg) (base := base) F__law_take 
  have Q__law_take := fn_raw O__law_take B__law_take
  have d_Fn__law_take : FnI P w K mg base 1 "_law_take" R__law_take := ⟨_, m__law_take, k__law_take, Q__law_take⟩
  have m__law_step := PySem.W.mg_of X G a__law_step
  have F__law_step := fun_mk (st := s__law_step) l__law_step c__law_step k__law_step
  have B__law_step := F__law_step.binds (ps := ["_law_pool_here", "_law_most"]) fun _ _ _ _ _ _ us hl => match us, hl with | [_, _], _ => rfl
  have O__law_step := ok__law_step (P := P) (w := w) (mg := mg) (base := base) F__law_step d_Fn__law_take
  have Q__law_step := fn_raw O__law_step B__law_step
  have d_Fn__law_step : FnI P w K mg base 2 "_law_step" R__law_step := ⟨_, m__law_step, k__law_step, Q__law_step⟩
  have m__law_steps := PySem.W.mg_of X G a__law_steps
  have F__law_steps := fun_mk (st := s__law_steps) l__law_steps c__law_steps k__law_steps
  have B__law_steps := F__law_steps.binds (ps := ["_law_pool_here", "_law_many", "_law_most"]) fun _ _ _ _ _ _ us hl => match us, hl with | [_, _, _], _ => rfl
  have O__law_steps := ok__law_steps (P := P) (w := w) (mg := mg) (base := base) F__law_steps d_Fn__law_take b_range d_Fn__law_step
  have Q__law_steps := fn_raw O__law_steps B__law_steps
  have d_Fn__law_steps : FnI P w K mg base 3 "_law_steps" R__law_steps := ⟨_, m__law_steps, k__law_steps, Q__law_steps⟩
  have F_Sequence_steps := fun_mk (st := s_Sequence_steps) l_Sequence_steps c_Sequence_steps k_Sequence_steps
  have B_Sequence_steps := F_Sequence_steps.binds (ps := ["self"]) fun _ _ _ _ _ _ us hl => match us, hl with | [_], _ => rfl
  have O_Sequence_steps := ok_Sequence_steps (P := P) (w := w) (mg := mg) (base := base) F_Sequence_steps f_Sequence_parts
  have Q_Sequence_steps := fn_raw O_Sequence_steps B_Sequence_steps
  have d_Pr_Sequence_steps_Sequence : PrI P w K mg base 1 "Sequence" "steps" R_Sequence_steps := ⟨_, _, _, m_Sequence, cl_Sequence, ⟨a_Sequence_steps, pa_Sequence_steps, pb_Sequence_steps, _, pc_Sequence_steps⟩, Q_Sequence_steps⟩
  have m_least_reaching := PySem.W.mg_of X G a_least_reaching
  have F_least_reaching := fun_mk (st := s_least_reaching) l_least_reaching c_least_reaching k_least_reaching
  have B_least_reaching := F_least_reaching.binds (ps := ["start", "lost", "count"]) fun _ _ _ _ _ _ us hl => match us, hl with | [_, _, _], _ => rfl
  have O_least_reaching := ok_least_reaching (P := P) (w := w) (mg := mg) (base := base) F_least_reaching 
  have Q_least_reaching := fn_raw O_least_reaching B_least_reaching
  have d_Fn_least_reaching : FnI P w K mg base 1 "least_reaching" R_least_reaching := ⟨_, m_least_reaching, k_least_reaching, Q_least_reaching⟩
  have m_is_integer := PySem.W.mg_of X G a_is_integer
  have F_is_integer := fun_mk (st := s_is_integer) l_is_integer c_is_integer k_is_integer
  have B_is_integer := F_is_integer.binds (ps := ["value"]) fun _ _ _ _ _ _ us hl => match us, hl with | [_], _ => rfl
  have O_is_integer := ok_is_integer (P := P) (w := w) (mg := mg) (base := base) F_is_integer b_isinstance b_int b_bool
  have Q_is_integer := fn_raw O_is_integer B_is_integer
  have d_Fn_is_integer : FnI P w K mg base 1 "is_integer" R_is_integer := ⟨_, m_is_integer, k_is_integer, Q_is_integer⟩
  have m_is_count := PySem.W.mg_of X G a_is_count
  have F_is_count := fun_mk (st := s_is_count) l_is_count c_is_count k_is_count
  have B_is_count := F_is_count.binds (ps := ["value"]) fun _ _ _ _ _ _ us hl => match us, hl with | [_], _ => rfl
  have O_is_count := ok_is_count (P := P) (w := w) (mg := mg) (base := base) F_is_count d_Fn_is_integer
  have Q_is_count := fn_raw O_is_count B_is_count
  have d_Fn_is_count : FnI P w K mg base 2 "is_count" R_is_count := ⟨_, m_is_count, k_is_count, Q_is_count⟩
  have m_is_rank := PySem.W.mg_of X G a_is_rank
  have F_is_rank := fun_mk (st := s_is_rank) l_is_rank c_is_rank k_is_rank
  have B_is_rank := F_is_rank.binds (ps := ["value"]) fun _ _ _ _ _ _ us hl => match us, hl with | [_], _ => rfl
  have O_is_rank := ok_is_rank (P := P) (w := w) (mg := mg) (base := base) F_is_rank d_Fn_is_integer
  have Q_is_rank := fn_raw O_is_rank B_is_rank
  have d_Fn_is_rank : FnI P w K mg base 2 "is_rank" R_is_rank := ⟨_, m_is_rank, k_is_rank, Q_is_rank⟩
  have m_are_lost_ranks := PySem.W.mg_of X G a_are_lost_ranks
  have F_are_lost_ranks := fun_mk (st := s_are_lost_ranks) l_are_lost_ranks c_are_lost_ranks k_are_lost_ranks
  have B_are_lost_ranks := F_are_lost_ranks.binds (ps := ["value"]) fun _ _ _ _ _ _ us hl => match us, hl with | [_], _ => rfl
  have O_are_lost_ranks := ok_are_lost_ranks (P := P) (w := w) (mg := mg) (base := base) F_are_lost_ranks b_isinstance b_list b_tuple d_Fn_is_rank b_all b_zip
  have Q_are_lost_ranks := fn_raw O_are_lost_ranks B_are_lost_ranks
  have d_Fn_are_lost_ranks : FnI P w K mg base 3 "are_lost_ranks" R_are_lost_ranks := ⟨_, m_are_lost_ranks, k_are_lost_ranks, Q_are_lost_ranks⟩
  have F_Table___init__ := fun_mk (st := s_Table___init__) l_Table___init__ c_Table___init__ k_Table___init__
  have B_Table___init__ := F_Table___init__.binds (ps := ["self", "start", "lost"]) fun _ _ _ _ _ _ us hl => match us, hl with | [_, _, _], _ => rfl
  have O_Table___init__ := ok_Table___init__ (P := P) (w := w) (mg := mg) (base := base) F_Table___init__ d_Fn_is_count d_Fn_are_lost_ranks f_Table_base f_Table_gone b_tuple
  have Q_Table___init__ := fn_raw O_Table___init__ B_Table___init__
  have d_Mk_Table___init__ : MkI P w K mg base 4 "Table" R_Table___init__ := ⟨_, _, m_Table, ⟨mk_Table, a_Table___init__, i_Table___init__, kc_Table⟩, Q_Table___init__⟩
  have m_table_at := PySem.W.mg_of X G a_table_at
  have F_table_at := fun_mk (st := s_table_at) l_table_at c_table_at k_table_at
  have B_table_at := F_table_at.binds (ps := ["steps", "threshold"]) fun _ _ _ _ _ _ us hl => match us, hl with | [_, _], _ => rfl
  have O_table_at := ok_table_at (P := P) (w := w) (mg := mg) (base := base) F_table_at d_Fn_least_reaching b_sorted d_Mk_Table___init__
  have Q_table_at := fn_raw O_table_at B_table_at
  have d_Fn_table_at : FnI P w K mg base 6 "table_at" R_table_at := ⟨_, m_table_at, k_table_at, Q_table_at⟩
  have F_Table___eq__ := fun_mk (st := s_Table___eq__) l_Table___eq__ c_Table___eq__ k_Table___eq__
  have B_Table___eq__ := F_Table___eq__.binds (ps := ["self", "other"]) fun _ _ _ _ _ _ us hl => match us, hl with | [_, _], _ => rfl
  have O_Table___eq__ := ok_Table___eq__ (P := P) (w := w) (mg := mg) (base := base) F_Table___eq__ b_isinstance ko_Table f_Table_base f_Table_gone
  have Q_Table___eq__ := fn_raw O_Table___eq__ B_Table___eq__
  have d_Op_Table___eq___Table : OpI P w K mg base 1 "Table" "__eq__" R_Table___eq__ := ⟨_, _, m_Table, a_Table___eq__, i_Table___eq__, sf_Table, Q_Table___eq__⟩
  have m_merged := PySem.W.mg_of X G a_merged
  have F_merged := fun_mk (st := s_merged) l_merged c_merged k_merged
  have B_merged := F_merged.binds (ps := ["breaks", "tables"]) fun _ _ _ _ _ _ us hl => match us, hl with | [_, _], _ => rfl
  have O_merged := ok_merged (P := P) (w := w) (mg := mg) (base := base) F_merged b_zip d_Op_Table___eq___Table
  have Q_merged := fn_raw O_merged B_merged
  have d_Fn_merged : FnI P w K mg base 2 "merged" R_merged := ⟨_, m_merged, k_merged, Q_merged⟩
  have m_are_breaks := PySem.W.mg_of X G a_are_breaks
  have F_are_breaks := fun_mk (st := s_are_breaks) l_are_breaks c_are_breaks k_are_breaks
  have B_are_breaks := F_are_breaks.binds (ps := ["value"]) fun _ _ _ _ _ _ us hl => match us, hl with | [_], _ => rfl
  have O_are_breaks := ok_are_breaks (P := P) (w := w) (mg := mg) (base := base) F_are_breaks b_isinstance b_list b_tuple d_Fn_is_integer b_all b_zip
  have Q_are_breaks := fn_raw O_are_breaks B_are_breaks
  have d_Fn_are_breaks : FnI P w K mg base 2 "are_breaks" R_are_breaks := ⟨_, m_are_breaks, k_are_breaks, Q_are_breaks⟩
  have m_are_tables := PySem.W.mg_of X G a_are_tables
  have F_are_tables := fun_mk (st := s_are_tables) l_are_tables c_are_tables k_are_tables
  have B_are_tables := F_are_tables.binds (ps := ["value", "size"]) fun _ _ _ _ _ _ us hl => match us, hl with | [_, _], _ => rfl
  have O_are_tables := ok_are_tables (P := P) (w := w) (mg := mg) (base := base) F_are_tables b_isinstance b_list b_tuple b_len ko_Table b_all b_zip d_Op_Table___eq___Table
  have Q_are_tables := fn_raw O_are_tables B_are_tables
  have d_Fn_are_tables : FnI P w K mg base 2 "are_tables" R_are_tables := ⟨_, m_are_tables, k_are_tables, Q_are_tables⟩
  have F_Effect___init__ := fun_mk (st := s_Effect___init__) l_Effect___init__ c_Effect___init__ k_Effect___init__
  have B_Effect___init__ := F_Effect___init__.binds (ps := ["self", "breaks", "tables"]) fun _ _ _ _ _ _ us hl => match us, hl with | [_, _, _], _ => rfl
  have O_Effect___init__ := ok_Effect___init__ (P := P) (w := w) (mg := mg) (base := base) F_Effect___init__ d_Fn_are_breaks b_len d_Fn_are_tables f_Effect_cuts b_tuple f_Effect_maps
  have Q_Effect___init__ := fn_raw O_Effect___init__ B_Effect___init__
  have d_Mk_Effect___init__ : MkI P w K mg base 3 "Effect" R_Effect___init__ := ⟨_, _, m_Effect, ⟨mk_Effect, a_Effect___init__, i_Effect___init__, kc_Effect⟩, Q_Effect___init__⟩
  have cr_Effect : ClX.CRead K C_Effect (.type "type") := ⟨r1_Effect, r2_Effect⟩
  have F_Effect_of := fun_mk (st := s_Effect_of) l_Effect_of c_Effect_of k_Effect_of
  have B_Effect_of := F_Effect_of.binds (ps := ["cls", "sequence"]) fun _ _ _ _ _ _ us hl => match us, hl with | [_, _], _ => rfl
  have O_Effect_of := ok_Effect_of (P := P) (w := w) (mg := mg) (base := base) F_Effect_of d_Pr_Sequence_steps_Sequence b_sorted d_Fn_table_at d_Fn_merged d_Mk_Effect___init__
  have Q_Effect_of := fn_raw O_Effect_of B_Effect_of
  have d_Cm_Effect_of_Effect : CmI P w K mg base 7 "Effect" "of" R_Effect_of := ⟨_, _, _, _, m_Effect, cr_Effect, ⟨a_Effect_of, ⟨_, pc_Effect_of⟩, fi_Effect_of⟩, Q_Effect_of⟩
  have cr_Sequence : ClX.CRead K C_Sequence (.type "type") := ⟨r1_Sequence, r2_Sequence⟩
  have F_Sequence_is_step := fun_mk (st := s_Sequence_is_step) l_Sequence_is_step c_Sequence_is_step k_Sequence_is_step
  have B_Sequence_is_step := F_Sequence_is_step.binds (ps := ["value"]) fun _ _ _ _ _ _ us hl => match us, hl with | [_], _ => rfl
  have O_Sequence_is_step := ok_Sequence_is_step (P := P) (w := w) (mg := mg) (base := base) F_Sequence_is_step b_isinstance b_tuple b_len b_str d_Fn_is_integer d_Fn_is_rank
  have Q_Sequence_is_step := fn_raw O_Sequence_is_step B_Sequence_is_step
  have d_Sm_Sequence_is_step_Sequence : SmI P w K mg base 3 "Sequence" "is_step" R_Sequence_is_step := ⟨_, _, _, _, m_Sequence, cr_Sequence, ⟨a_Sequence_is_step, ⟨_, pc_Sequence_is_step⟩, k_Sequence_is_step⟩, Q_Sequence_is_step⟩
  have m_check_steps := PySem.W.mg_of X G a_check_steps
  have F_check_steps := fun_mk (st := s_check_steps) l_check_steps c_check_steps k_check_steps
  have B_check_steps := F_check_steps.binds (ps := ["steps"]) fun _ _ _ _ _ _ us hl => match us, hl with | [_], _ => rfl
  have O_check_steps := ok_check_steps (P := P) (w := w) (mg := mg) (base := base) F_check_steps d_Sm_Sequence_is_step_Sequence
  have Q_check_steps := fn_raw O_check_steps B_check_steps
  have d_Fn_check_steps : FnI P w K mg base 4 "check_steps" R_check_steps := ⟨_, m_check_steps, k_check_steps, Q_check_steps⟩
  have Q_Sequence___init__ := ok_Sequence___init__ (P := P) (w := w) (mg := mg) (base := base) l_Sequence___init__ c_Sequence___init__ d_Fn_check_steps f_Sequence_parts
  have d_Mk_Sequence___init__ : MkI P w K mg base 5 "Sequence" R_Sequence___init__ := ⟨_, _, m_Sequence, ⟨mk_Sequence, a_Sequence___init__, i_Sequence___init__, kc_Sequence⟩, Q_Sequence___init__⟩
  have F_Sequence___add__ := fun_mk (st := s_Sequence___add__) l_Sequence___add__ c_Sequence___add__ k_Sequence___add__
  have B_Sequence___add__ := F_Sequence___add__.binds (ps := ["self", "other"]) fun _ _ _ _ _ _ us hl => match us, hl with | [_, _], _ => rfl
  have O_Sequence___add__ := ok_Sequence___add__ (P := P) (w := w) (mg := mg) (base := base) F_Sequence___add__ d_Mk_Sequence___init__ f_Sequence_parts
  have Q_Sequence___add__ := fn_raw O_Sequence___add__ B_Sequence___add__
  have d_Op_Sequence___add___Sequence : OpI P w K mg base 7 "Sequence" "__add__" R_Sequence___add__ := ⟨_, _, m_Sequence, a_Sequence___add__, i_Sequence___add__, sf_Sequence, Q_Sequence___add__⟩
  have m__law_sequence := PySem.W.mg_of X G a__law_sequence
  have F__law_sequence := fun_mk (st := s__law_sequence) l__law_sequence c__law_sequence k__law_sequence
  have B__law_sequence := F__law_sequence.binds (ps := ["_law_steps_here"]) fun _ _ _ _ _ _ us hl => match us, hl with | [_], _ => rfl
  have O__law_sequence := ok__law_sequence (P := P) (w := w) (mg := mg) (base := base) F__law_sequence d_Mk_Sequence___init__ d_Op_Sequence___add___Sequence
  have Q__law_sequence := fn_raw O__law_sequence B__law_sequence
  have d_Fn__law_sequence : FnI P w K mg base 8 "_law_sequence" R__law_sequence := ⟨_, m__law_sequence, k__law_sequence, Q__law_sequence⟩
  have F_Effect_tables := fun_mk (st := s_Effect_tables) l_Effect_tables c_Effect_tables k_Effect_tables
  have B_Effect_tables := F_Effect_tables.binds (ps := ["self"]) fun _ _ _ _ _ _ us hl => match us, hl with | [_], _ => rfl
  have O_Effect_tables := ok_Effect_tables (P := P) (w := w) (mg := mg) (base := base) F_Effect_tables f_Effect_maps
  have Q_Effect_tables := fn_raw O_Effect_tables B_Effect_tables
  have d_Pr_Effect_tables_Effect : PrI P w K mg base 1 "Effect" "tables" R_Effect_tables := ⟨_, _, _, m_Effect, cl_Effect, ⟨a_Effect_tables, pa_Effect_tables, pb_Effect_tables, _, pc_Effect_tables⟩, Q_Effect_tables⟩
  have F_Effect_breaks := fun_mk (st := s_Effect_breaks) l_Effect_breaks c_Effect_breaks k_Effect_breaks
  have B_Effect_breaks := F_Effect_breaks.binds (ps := ["self"]) fun _ _ _ _ _ _ us hl => match us, hl with | [_], _ => rfl
  have O_Effect_breaks := ok_Effect_breaks (P := P) (w := w) (mg := mg) (base := base) F_Effect_breaks f_Effect_cuts
  have Q_Effect_breaks := fn_raw O_Effect_breaks B_Effect_breaks
  have d_Pr_Effect_breaks_Effect : PrI P w K mg base 1 "Effect" "breaks" R_Effect_breaks := ⟨_, _, _, m_Effect, cl_Effect, ⟨a_Effect_breaks, pa_Effect_breaks, pb_Effect_breaks, _, pc_Effect_breaks⟩, Q_Effect_breaks⟩
  have m_starts_of := PySem.W.mg_of X G a_starts_of
  have F_starts_of := fun_mk (st := s_starts_of) l_starts_of c_starts_of k_starts_of
  have B_starts_of := F_starts_of.binds (ps := ["effect"]) fun _ _ _ _ _ _ us hl => match us, hl with | [_], _ => rfl
  have O_starts_of := ok_starts_of (P := P) (w := w) (mg := mg) (base := base) F_starts_of d_Pr_Effect_breaks_Effect b_str g_FIRST
  have Q_starts_of := fn_raw O_starts_of B_starts_of
  have d_Fn_starts_of : FnI P w K mg base 3 "starts_of" R_starts_of := ⟨_, m_starts_of, k_starts_of, Q_starts_of⟩
  have F_Table_start := fun_mk (st := s_Table_start) l_Table_start c_Table_start k_Table_start
  have B_Table_start := F_Table_start.binds (ps := ["self"]) fun _ _ _ _ _ _ us hl => match us, hl with | [_], _ => rfl
  have O_Table_start := ok_Table_start (P := P) (w := w) (mg := mg) (base := base) F_Table_start f_Table_base
  have Q_Table_start := fn_raw O_Table_start B_Table_start
  have d_Pr_Table_start_Table : PrI P w K mg base 1 "Table" "start" R_Table_start := ⟨_, _, _, m_Table, cl_Table, ⟨a_Table_start, pa_Table_start, pb_Table_start, _, pc_Table_start⟩, Q_Table_start⟩
  have m_format_numbers := PySem.W.mg_of X G a_format_numbers
  have F_format_numbers := fun_mk (st := s_format_numbers) l_format_numbers c_format_numbers k_format_numbers
  have B_format_numbers := F_format_numbers.binds (ps := ["numbers", "separator"]) fun _ _ _ _ _ _ us hl => match us, hl with | [_, _], _ => rfl
  have O_format_numbers := ok_format_numbers (P := P) (w := w) (mg := mg) (base := base) F_format_numbers b_str g_EMPTY
  have Q_format_numbers := fn_raw O_format_numbers B_format_numbers
  have d_Fn_format_numbers : FnI P w K mg base 1 "format_numbers" R_format_numbers := ⟨_, m_format_numbers, k_format_numbers, Q_format_numbers⟩
  have F_Table_lost := fun_mk (st := s_Table_lost) l_Table_lost c_Table_lost k_Table_lost
  have B_Table_lost := F_Table_lost.binds (ps := ["self"]) fun _ _ _ _ _ _ us hl => match us, hl with | [_], _ => rfl
  have O_Table_lost := ok_Table_lost (P := P) (w := w) (mg := mg) (base := base) F_Table_lost f_Table_gone
  have Q_Table_lost := fn_raw O_Table_lost B_Table_lost
  have d_Pr_Table_lost_Table : PrI P w K mg base 1 "Table" "lost" R_Table_lost := ⟨_, _, _, m_Table, cl_Table, ⟨a_Table_lost, pa_Table_lost, pb_Table_lost, _, pc_Table_lost⟩, Q_Table_lost⟩
  have m_effect_grid := PySem.W.mg_of X G a_effect_grid
  have F_effect_grid := fun_mk (st := s_effect_grid) l_effect_grid c_effect_grid k_effect_grid
  have B_effect_grid := F_effect_grid.binds (ps := ["effect"]) fun _ _ _ _ _ _ us hl => match us, hl with | [_], _ => rfl
  have O_effect_grid := ok_effect_grid (P := P) (w := w) (mg := mg) (base := base) F_effect_grid d_Pr_Effect_tables_Effect d_Fn_starts_of b_zip d_Pr_Table_start_Table d_Pr_Table_lost_Table d_Fn_format_numbers
  have Q_effect_grid := fn_raw O_effect_grid B_effect_grid
  have d_Fn_effect_grid : FnI P w K mg base 4 "effect_grid" R_effect_grid := ⟨_, m_effect_grid, k_effect_grid, Q_effect_grid⟩
  have m__law_padded := PySem.W.mg_of X G a__law_padded
  have F__law_padded := fun_mk (st := s__law_padded) l__law_padded c__law_padded k__law_padded
  have B__law_padded := F__law_padded.binds (ps := ["_law_text", "_law_width"]) fun _ _ _ _ _ _ us hl => match us, hl with | [_, _], _ => rfl
  have O__law_padded := ok__law_padded (P := P) (w := w) (mg := mg) (base := base) F__law_padded b_len b_max
  have Q__law_padded := fn_raw O__law_padded B__law_padded
  have d_Fn__law_padded : FnI P w K mg base 1 "_law_padded" R__law_padded := ⟨_, m__law_padded, k__law_padded, Q__law_padded⟩
  have m__law_line := PySem.W.mg_of X G a__law_line
  have F__law_line := fun_mk (st := s__law_line) l__law_line c__law_line k__law_line
  have B__law_line := F__law_line.binds (ps := ["_law_first", "_law_table"]) fun _ _ _ _ _ _ us hl => match us, hl with | [_, _], _ => rfl
  have O__law_line := ok__law_line (P := P) (w := w) (mg := mg) (base := base) F__law_line d_Pr_Table_lost_Table b_len b_str d_Fn__law_padded d_Pr_Table_start_Table
  have Q__law_line := fn_raw O__law_line B__law_line
  have d_Fn__law_line : FnI P w K mg base 3 "_law_line" R__law_line := ⟨_, m__law_line, k__law_line, Q__law_line⟩
  have m__law_drawn := PySem.W.mg_of X G a__law_drawn
  have F__law_drawn := fun_mk (st := s__law_drawn) l__law_drawn c__law_drawn k__law_drawn
  have B__law_drawn := F__law_drawn.binds (ps := ["_law_effect"]) fun _ _ _ _ _ _ us hl => match us, hl with | [_], _ => rfl
  have O__law_drawn := ok__law_drawn (P := P) (w := w) (mg := mg) (base := base) F__law_drawn d_Pr_Effect_breaks_Effect b_str d_Pr_Effect_tables_Effect b_zip d_Fn__law_line
  have Q__law_drawn := fn_raw O__law_drawn B__law_drawn
  have d_Fn__law_drawn : FnI P w K mg base 4 "_law_drawn" R__law_drawn := ⟨_, m__law_drawn, k__law_drawn, Q__law_drawn⟩
  have m_format_effect := PySem.W.mg_of X G a_format_effect
  have F_format_effect := fun_mk (st := s_format_effect) l_format_effect c_format_effect k_format_effect
  have B_format_effect := F_format_effect.binds (ps := ["effect"]) fun _ _ _ _ _ _ us hl => match us, hl with | [_], _ => rfl
  have O_format_effect := ok_format_effect (P := P) (w := w) (mg := mg) (base := base) F_format_effect d_Pr_Effect_tables_Effect d_Fn_starts_of b_zip d_Pr_Table_start_Table d_Pr_Table_lost_Table d_Fn_format_numbers
  have Q_format_effect := fn_raw O_format_effect B_format_effect
  have d_Fn_format_effect : FnI P w K mg base 4 "format_effect" R_format_effect := ⟨_, m_format_effect, k_format_effect, Q_format_effect⟩
  have m__law_check := PySem.W.mg_of X G a__law_check
  have F__law_check := fun_mk (st := s__law_check) l__law_check c__law_check k__law_check
  have B__law_check := F__law_check.binds (ps := ["_law_effect"]) fun _ _ _ _ _ _ us hl => match us, hl with | [_], _ => rfl
  have O__law_check := ok__law_check (P := P) (w := w) (mg := mg) (base := base) F__law_check d_Fn_effect_grid d_Fn__law_drawn d_Fn_format_effect b_zip
  have Q__law_check := fn_raw O__law_check B__law_check
  have d_Fn__law_check : FnI P w K mg base 5 "_law_check" R__law_check := ⟨_, m__law_check, k__law_check, Q__law_check⟩
  have F_Effect_shifted := fun_mk (st := s_Effect_shifted) l_Effect_shifted c_Effect_shifted k_Effect_shifted
  have B_Effect_shifted := F_Effect_shifted.binds (ps := ["self", "offset"]) fun _ _ _ _ _ _ us hl => match us, hl with | [_, _], _ => rfl
  have O_Effect_shifted := ok_Effect_shifted (P := P) (w := w) (mg := mg) (base := base) F_Effect_shifted d_Fn_is_integer d_Mk_Effect___init__ f_Effect_maps f_Effect_cuts
  have Q_Effect_shifted := fn_raw O_Effect_shifted B_Effect_shifted
  have d_Mt_Effect_shifted_Effect : MtI P w K mg base 5 "Effect" "shifted" R_Effect_shifted := ⟨_, _, m_Effect, cl_Effect, ⟨a_Effect_shifted, i_Effect_shifted, k_Effect_shifted⟩, Q_Effect_shifted⟩
  have F_Effect_nothing := fun_mk (st := s_Effect_nothing) l_Effect_nothing c_Effect_nothing k_Effect_nothing
  have B_Effect_nothing := F_Effect_nothing.binds (ps := ["cls"]) fun _ _ _ _ _ _ us hl => match us, hl with | [_], _ => rfl
  have O_Effect_nothing := ok_Effect_nothing (P := P) (w := w) (mg := mg) (base := base) F_Effect_nothing d_Mk_Table___init__ d_Mk_Effect___init__
  have Q_Effect_nothing := fn_raw O_Effect_nothing B_Effect_nothing
  have d_Cm_Effect_nothing_Effect : CmI P w K mg base 6 "Effect" "nothing" R_Effect_nothing := ⟨_, _, _, _, m_Effect, cr_Effect, ⟨a_Effect_nothing, ⟨_, pc_Effect_nothing⟩, fi_Effect_nothing⟩, Q_Effect_nothing⟩
  have F_Sequence___mul__ := fun_mk (st := s_Sequence___mul__) l_Sequence___mul__ c_Sequence___mul__ k_Sequence___mul__
  have B_Sequence___mul__ := F_Sequence___mul__.binds (ps := ["self", "times"]) fun _ _ _ _ _ _ us hl => match us, hl with | [_, _], _ => rfl
  have O_Sequence___mul__ := ok_Sequence___mul__ (P := P) (w := w) (mg := mg) (base := base) F_Sequence___mul__ f_Sequence_parts b_len d_Mk_Sequence___init__
  have Q_Sequence___mul__ := fn_raw O_Sequence___mul__ B_Sequence___mul__
  have d_Op_Sequence___mul___Sequence : OpI P w K mg base 7 "Sequence" "__mul__" R_Sequence___mul__ := ⟨_, _, m_Sequence, a_Sequence___mul__, i_Sequence___mul__, sf_Sequence, Q_Sequence___mul__⟩
  have m_law := PySem.W.mg_of X G a_law
  have F_law := fun_mk (st := s_law) l_law c_law k_law
  have B_law := F_law.binds (ps := ["_law_script"]) fun _ _ _ _ _ _ us hl => match us, hl with | [_], _ => rfl
  have O_law := ok_law (P := P) (w := w) (mg := mg) (base := base) F_law b_len b_min b_max b_range d_FnN__law_pool d_Fn__law_steps d_Fn__law_sequence d_Cm_Effect_of_Effect d_Fn__law_take d_Fn__law_check d_Mt_Effect_shifted_Effect d_Mk_Table___init__ d_Mk_Effect___init__ d_Fn_effect_grid d_Fn__law_drawn d_Cm_Effect_nothing_Effect d_Mk_Sequence___init__ d_Op_Sequence___mul___Sequence bi_Sequence
  exact law_ok O_law hlaw
end
end Dl.k53
set_option maxHeartbeats 400000
/-! k53: the law. -/
namespace Dl.k53
open PySem Tab Dl.lib L2 TL
/-! ### the grid -/
def grow (p : Option Int × Tb) : Str := gS (stS p.1) p.2
def gE (e : Eff) : Str := Txt.join ("\n" : Str) ((rows e).map grow)
theorem gS_len {b : Option Int} {T : Tb} {k m : Nat} (hk : 0 < k) (hb : ∀ n, b = some n → n.natAbs < 10 ^ k) (h : Bt k m T) : (gS (stS b) T).length ≤ (k + 2) * (m + 2) + 20 ∧ (padR 8 (stS b)).length ≤ k + 10 ∧ (padR 6 (nS T.1)).length ≤ k + 10 ∧ (fN (" " : Str) T.2).length ≤ (k + 2) * m + 1 ∧ (stS b).length ≤ k + 1 := by
  have h1 : (stS b).length ≤ k + 1 := by
    cases b with
    | none => show (("*" : Str)).length ≤ _; rw [l_of t_st]; omega
    | some n => exact nS_len hk (hb n rfl)
  have h2 := nS_len hk h.s
  have h3 := fN_len t_sp hk h.l
  have h4 := Nat.mul_le_mul_left (k + 2) h.n
  have p1 := padR_len 8 (stS b)
  have p2 := padR_len 6 (nS T.1)
  have l2 : ("  " : Str).length = 2 := by rw [len_t, t_2sp]; rfl
  have e : (gS (stS b) T).length = (padR 8 (stS b)).length + (padR 6 (nS T.1)).length + 2 + (fN (" " : Str) T.2).length := by
    unfold gS
    rw [app_len, app_len, app_len, l2]
  rw [Nat.mul_add]
  omega
theorem tot_grows {k m n : Nat} {e : Eff} (hk : 0 < k) (h : Be k m n e) : tot ((rows e).map grow) ≤ ((k + 2) * (m + 2) + 21) * (n + 1) := by
  have := tot_le (ps := (rows e).map grow) (n := (k + 2) * (m + 2) + 20) fun p hp => by
    obtain ⟨r, hr, rfl⟩ := List.mem_map.mp hp
    obtain ⟨h1, h2⟩ := rows_ok h r hr
    exact (gS_len hk h1 h2).1
  rw [List.length_map, rows_len h] at this
  exact Nat.le_trans this (Nat.mul_le_mul_left _ (by have := h.n; omega))
theorem jn_gS {f : Str} {T : Tb} (h : (gS f T).length ≤ 16777216) : jnSP [padR 8 f, padR 6 (nS T.1), ("  " : Str), fN (" " : Str) T.2] Str.empty = some (gS f T) := by
  have e0 : Str.empty ++ padR 8 f = padR 8 f := by rw [tl_inj, tl_append]; rfl
  have l := h
  unfold gS at l
  rw [app_len, app_len] at l
  unfold jnSP
  rw [e0, if_pos (by rw [app_len] at l; omega)]
  unfold jnSP
  rw [if_pos (by omega)]
  unfold jnSP
  rw [if_pos (by rw [app_len]; omega)]
  unfold jnSP
  rw [if_pos (by exact h)]
  rfl
theorem z_rows (e : Eff) : List.zip (("*" : Str) :: e.1.map nS) e.2 = (rows e).map fun p => (stS p.1, p.2) := by
  unfold rows
  have e1 : (("*" : Str) :: e.1.map nS) = (none :: e.1.map some).map stS := by rw [List.map_cons, List.map_map]; rfl
  rw [e1, List.zip_map_left]
  rfl
theorem q_grid {k m n : Nat} {e : Eff} (hk : 0 < k) (hk2 : k ≤ 570) (hm : m ≤ 1000) (hn : n ≤ 1000) (hz : ((k + 2) * (m + 2) + 21) * (n + 1) ≤ 15000000) (h : Be k m n e) : p_effect_grid e = some (gE e) := by
  have hl := h.n
  have tr := tot_grows hk h
  have s1 : p_starts_of e = some (("*" : Str) :: e.1.map nS) := by
    unfold p_starts_of
    refine Eq.trans (obind (a := e.1) rfl) ?_
    refine Eq.trans (obind (lcG_map (g := nS) (by omega) fun x hx => by rw [q_str hk2 (h.b x hx)]; rfl)) ?_
    refine Eq.trans (obind (a := ("*" : Str) :: e.1.map nS) ?_) rfl
    unfold lstP
    rw [if_pos (by rw [List.length_cons, List.length_map]; omega)]
  unfold p_effect_grid
  refine Eq.trans (obind s1) (Eq.trans (obind (a := e.2) rfl) ?_)
  rw [z_rows]
  have lc : lcG (fun (y7 : Str × Tb) => (fmtWSP 8 y7.1).bind fun x8 => (p_Table_start y7.2).bind fun x11 => (fmtWIP 6 x11).bind fun x13 => (p_Table_lost y7.2).bind fun x16 => (p_format_numbers x16 (" " : Str)).bind fun x19 => (fmtSP x19).bind fun x21 => (jnSP [x8, x13, ("  " : Str), x21] Str.empty).bind fun x23 => some (some x23)) ((rows e).map fun p => (stS p.1, p.2)) = some ((rows e).map grow) := by
    rw [lcG_map (g := fun y : Str × Tb => gS y.1 y.2) (by rw [List.length_map, rows_len h]; omega) fun y hy => ?_, List.map_map]
    · rfl
    · obtain ⟨p, hp, rfl⟩ := List.mem_map.mp hy
      obtain ⟨h1, h2⟩ := rows_ok h p hp
      obtain ⟨g1, g2, g3, g4, g5⟩ := gS_len hk h1 h2
      have ll := tot_mem (List.mem_map_of_mem (f := grow) hp)
      have ll : (gS (stS p.1) p.2).length + 1 ≤ _ := ll
      have h6 := Nat.mul_le_mul_left (k + 2) h2.n
      have hz2 : (k + 2) * m ≤ 572 * 1000 := Nat.mul_le_mul (by omega) hm
      refine Eq.trans (obind (a := padR 8 (stS p.1)) (if_pos (by show (stS p.1).length ≤ _; omega))) (Eq.trans (obind (a := p.2.1) rfl) (Eq.trans (obind (a := padR 6 (nS p.2.1)) ?_) (Eq.trans (obind (a := p.2.2) rfl) (Eq.trans (obind (q_fnums t_sp hk hk2 h2.l (by have := h2.n; omega))) (Eq.trans (obind (a := fN (" " : Str) p.2.2) (if_pos (by omega))) ?_)))))
      · unfold fmtWIP
        rw [if_pos (log10 h2.s hk2), str_nS]
      · exact Eq.trans (obind (jn_gS (by omega))) rfl
  refine Eq.trans (obind lc) ?_
  exact Eq.trans (obind (q_joinC (l_of t_nl) (by omega))) rfl
/-! ### the law's grid -/
theorem lost_text {T : Tb} {k m : Nat} (hk : 0 < k) (hk2 : k ≤ 570) (hm : m ≤ 1000) (h : Bt k m T) : ((if (decide (0 < (T.2.length : Int))) = true then (p_Table_lost T).bind fun x5 => (lcG (fun y7 => (strIP y7).bind fun x8 => some (some x8)) x5).bind fun x11 => (joinSP (" " : Str) x11).bind fun x13 => some x13 else some ("." : Str))) = some (fN (" " : Str) T.2) := by
  have tt := tot_nS hk h.l
  have hn := h.n
  have b1 : (k + 2) * T.2.length ≤ 572 * 1000 := Nat.mul_le_mul (by omega) (by omega)
  unfold fN
  by_cases q : T.2 = []
  · rw [if_neg (by simp [q]), if_pos q]
  · have : 0 < T.2.length := List.length_pos_iff.mpr q
    rw [if_pos (by simp only [decide_eq_true_eq]; omega), if_neg q]
    refine Eq.trans (obind (a := T.2) rfl) (Eq.trans (obind (lcG_map (g := nS) (by omega) fun n hn => by rw [q_str hk2 (h.l n hn)]; rfl)) ?_)
    exact Eq.trans (obind (q_joinC (l_of t_sp) (by omega))) rfl
theorem q_line {b : Option Int} {T : Tb} {k m : Nat} (hk : 0 < k) (hk2 : k ≤ 570) (hm : m ≤ 1000) (hb : ∀ n, b = some n → n.natAbs < 10 ^ k) (h : Bt k m T) : p__law_line (stS b) T = some (gS (stS b) T) := by
  obtain ⟨g1, g2, g3, g4, g5⟩ := gS_len hk hb h
  have hz2 : (k + 2) * m ≤ 572 * 1000 := Nat.mul_le_mul (by omega) hm
  have l2 : ("  " : Str).length = 2 := by rw [len_t, t_2sp]; rfl
  have n6 := nS_len hk h.s
  unfold p__law_line
  refine Eq.trans (obind (a := T.2) rfl) (Eq.trans (obind (lost_text hk hk2 hm h)) ?_)
  refine Eq.trans (obind (q_padded (w := 8) (by decide) (by omega))) (Eq.trans (obind (a := T.1) rfl) (Eq.trans (obind (q_str hk2 h.s)) ?_))
  refine Eq.trans (obind (q_padded (w := 6) (by decide) (by omega))) ?_
  refine Eq.trans (obind (catS_eq (x := padR 8 (stS b)) (y := padR 6 (nS T.1)) (by omega))) ?_
  refine Eq.trans (obind (catS_eq (x := padR 8 (stS b) ++ padR 6 (nS T.1)) (y := ("  " : Str)) (by rw [app_len]; omega))) ?_
  exact Eq.trans (obind (catS_eq (x := padR 8 (stS b) ++ padR 6 (nS T.1) ++ ("  " : Str)) (y := fN (" " : Str) T.2) (by rw [app_len, app_len]; omega))) rfl
theorem q_drawn {k m n : Nat} {e : Eff} (hk : 0 < k) (hk2 : k ≤ 570) (hm : m ≤ 1000) (hn : n ≤ 1000) (hz : ((k + 2) * (m + 2) + 21) * (n + 1) ≤ 15000000) (h : Be k m n e) : p__law_drawn e = some (gE e) := by
  have hl := h.n
  have tr := tot_grows hk h
  unfold p__law_drawn
  refine Eq.trans (obind (a := e.1) rfl) (Eq.trans (obind (lcG_map (g := nS) (by omega) fun x hx => by rw [q_str hk2 (h.b x hx)]; rfl)) ?_)
  refine Eq.trans (obind (a := ("*" : Str) :: e.1.map nS) (catP_eq (by rw [List.length_map, List.length_singleton]; omega))) (Eq.trans (obind (a := e.2) rfl) ?_)
  rw [z_rows]
  have lc : lcG (fun (y15 : Str × Tb) => (p__law_line y15.1 y15.2).bind fun x17 => some (some x17)) ((rows e).map fun p => (stS p.1, p.2)) = some ((rows e).map grow) := by
    rw [lcG_map (g := fun y : Str × Tb => gS y.1 y.2) (by rw [List.length_map, rows_len h]; omega) fun y hy => ?_, List.map_map]
    · rfl
    · obtain ⟨p, hp, rfl⟩ := List.mem_map.mp hy
      obtain ⟨h1, h2⟩ := rows_ok h p hp
      exact Eq.trans (obind (q_line hk hk2 hm h1 h2)) rfl
  refine Eq.trans (obind lc) ?_
  exact Eq.trans (obind (q_joinC (l_of t_nl) (by omega))) rfl
/-! ### the check -/
theorem sp_low {c : Nat} {w : Nat} {y : Str} (h : c ∈ tl (padR w y)) : c = 32 ∨ c ∈ tl y := by
  rw [tl_padR] at h
  rcases List.mem_append.mp h with h | h
  · exact .inl (List.mem_replicate.mp h).2
  · exact .inr h
theorem grow_free (p : Option Int × Tb) : 10 ∉ tl (grow p) := fun hm => by
  have hm : 10 ∈ tl (gS (stS p.1) p.2) := hm
  unfold gS at hm
  rw [tl_append, tl_append, tl_append, t_2sp, tl_fN t_sp] at hm
  rcases List.mem_append.mp hm with hm | hm
  · rcases List.mem_append.mp hm with hm | hm
    · rcases List.mem_append.mp hm with hm | hm
      · rcases sp_low hm with e | hm
        · omega
        · exact stS_free p.1 (by decide) hm
      · rcases sp_low hm with e | hm
        · omega
        · exact nS_free _ (by decide) (by decide) hm
    · simp at hm
  · rcases joinC_mem hm with e | ⟨q, h1, h2⟩
    · omega
    · obtain ⟨r, hr, rfl⟩ := List.mem_map.mp h1
      unfold lw at hr
      split at hr
      · rw [List.mem_singleton.mp hr, t_do] at h2
        simp at h2
      · obtain ⟨n, _, rfl⟩ := List.mem_map.mp hr
        exact nS_free _ (by decide) (by decide) h2
theorem split_gE {k m n : Nat} {e : Eff} (h : Be k m n e) : Txt.split (gE e) ("\n" : Str) = (rows e).map grow := by
  refine splitC t_nl (by decide) (fun z => ?_) fun p hp => ?_
  · have := congrArg List.length z
    rw [List.length_map, rows_len h] at this
    exact absurd this (by simp)
  · obtain ⟨r, _, rfl⟩ := List.mem_map.mp hp
    exact grow_free r
theorem tot_sub {l m : List Str} (h : l.Sublist m) : tot l ≤ tot m := by
  induction h with
  | slnil => exact Nat.le_refl _
  | cons a _ ih => unfold tot at *; rw [List.map_cons, List.sum_cons, List.length_cons]; omega
  | cons_cons a _ ih => unfold tot at *; rw [List.map_cons, List.map_cons, List.sum_cons, List.sum_cons, List.length_cons, List.length_cons]; omega
theorem stS_ne (b : Option Int) : tl (stS b) ≠ [] := by
  cases b with
  | none => show tl ("*" : Str) ≠ []; rw [t_st]; simp
  | some n => exact zL_ne n
theorem stS_44 (b : Option Int) : 44 ∉ tl (stS b) := by
  cases b with
  | none => show 44 ∉ tl ("*" : Str); rw [t_st]; simp
  | some n => exact nS_free n (by decide) (by decide)
theorem q_check {k m n : Nat} {e : Eff} (hk : 0 < k) (hk2 : k ≤ 570) (hm : m ≤ 1000) (hn : n ≤ 1000) (hz : ((k + 2) * (m + 2) + 21) * (n + 1) ≤ 15000000) (h : Be k m n e) (hs : ∀ T ∈ e.2, T.1.natAbs < 10 ^ 4) : p__law_check e = some true := by
  have hl := h.n
  have tr := tot_grows hk h
  have tr2 := tot_rows hk h
  have hz1 : ((k + 2) * (m + 2) + 4) * (n + 1) ≤ 15000000 := Nat.le_trans (Nat.mul_le_mul_right _ (by omega)) hz
  have gl := join_leC t_nl ((rows e).map grow)
  have gl : (gE e).length ≤ _ := gl
  have fl := join_leC t_nl ((rows e).map row)
  have fl : (fE e).length ≤ _ := fl
  unfold p__law_check
  refine Eq.trans (obind (q_grid hk hk2 hm hn hz h)) (Eq.trans (obind (q_drawn hk hk2 hm hn hz h)) ?_)
  rw [if_neg (by simp)]
  refine Eq.trans (obind (q_grid hk hk2 hm hn hz h)) (Eq.trans (obind (q_splitC (l_of t_nl) (by omega))) ?_)
  refine Eq.trans (obind (q_fmt hk hk2 hm hn (by omega) h)) (Eq.trans (obind (q_splitC (l_of t_nl) (by omega))) ?_)
  rw [split_gE h, split_fE h]
  refine Eq.trans (obind (a := Fw.nx ()) (forF_all fun y hy => ?_)) rfl
  obtain ⟨p, hp, rfl⟩ : ∃ p ∈ rows e, y = (grow p, row p) := by
    rw [List.zip_map] at hy
    obtain ⟨q, hq, rfl⟩ := List.mem_map.mp hy
    have : ∀ {l : List (Option Int × Tb)}, q ∈ List.zip l l → q.1 ∈ l ∧ q.1 = q.2 := fun {l} => by
      induction l with
      | nil => exact fun h => nomatch h
      | cons a l ih =>
        intro h
        rcases List.mem_cons.mp h with rfl | h
        · exact ⟨List.mem_cons_self, rfl⟩
        · exact ⟨List.mem_cons_of_mem _ (ih h).1, (ih h).2⟩
    obtain ⟨h1, h2⟩ := this hq
    refine ⟨q.1, h1, ?_⟩
    show (grow q.1, row q.2) = _
    rw [← h2]
  obtain ⟨h1, h2⟩ := rows_ok h p hp
  have l1 := tot_mem (List.mem_map_of_mem (f := grow) hp)
  have l2 := tot_mem (List.mem_map_of_mem (f := row) hp)
  have st := split_tot (grow p)
  have n5 : (nS p.2.1).length ≤ 5 := nS_len (k := 4) (by decide) (hs _ (List.of_mem_zip hp).2)
  have we := words_eq (stS_ne p.1) (stS_free p.1 (c := 32) (by decide)) (stS_44 p.1) (T := p.2) (by omega)
  have sl : (Txt.split (grow p) (" " : Str)).length ≤ tot (Txt.split (grow p) (" " : Str)) := by unfold tot; omega
  refine Eq.trans (obind (q_split (t := grow p) (by omega))) (Eq.trans (obind (lcT_eq (xs := Txt.split (grow p) (" " : Str)) (by omega))) ?_)
  have rl : (row p).length + ((row p).length + 1) * (" " : Str).length ≤ 16777216 := by
    have hz2 : (k + 2) * (m + 2) ≤ 572 * 1002 := Nat.mul_le_mul (by omega) (by omega)
    have := ln_len hk h1 h2
    have e : (row p).length = (lnS (stS p.1) p.2).length := rfl
    rw [one_sp]
    omega
  refine Eq.trans (obind (a := Txt.replace (row p) ("," : Str) (" " : Str)) (if_pos rl)) ?_
  have we : Txt.replace (row p) ("," : Str) (" " : Str) = Txt.join (" " : Str) (((Txt.split (grow p) (" " : Str)).filter fun y => !decide (y = ("" : Str))).map fun y => y) := we
  have tj : tot (((Txt.split (grow p) (" " : Str)).filter fun y => !decide (y = ("" : Str))).map fun y => y) ≤ 16777216 := by
    rw [List.map_id']
    have := tot_sub (List.filter_sublist (p := fun y : Str => !decide (y = ("" : Str))) (l := Txt.split (grow p) (" " : Str)))
    omega
  refine Eq.trans (obind (q_join tj)) ?_
  rw [← we, if_neg (by simp)]
/-! ### effects of sequences -/
theorem brk_in {xs : List Stp} {b : Int} (h : b ∈ (EF xs).1) : (true, b) ∈ xs := by
  have h : b ∈ (effP xs).map (·.1) := h
  obtain ⟨p, hp, rfl⟩ := List.mem_map.mp h
  obtain ⟨n, hn, rfl⟩ := List.mem_map.mp ((mg_sub _ _).mem hp)
  exact nums_mem.mp hn
theorem EF_mem {xs : List Stp} {T : Tb} (h : T ∈ (EF xs).2) : ∃ t, T = tAt xs t := by
  have h : T ∈ eff0 xs :: (effP xs).map (·.2) := h
  rcases List.mem_cons.mp h with e | h
  · exact ⟨_, e⟩
  · obtain ⟨p, hp, rfl⟩ := List.mem_map.mp h
    obtain ⟨n, hn, rfl⟩ := List.mem_map.mp ((mg_sub _ _).mem hp)
    exact ⟨n, rfl⟩
def sh (xs : List Stp) (o : Int) : Eff := ((EF xs).1.map fun n => n + o, (EF xs).2)
structure Sz (k L : Nat) (B o : Int) (xs : List Stp) : Prop where
  ok : ∀ x ∈ xs, okS x
  b : ∀ x ∈ xs, x.1 = true → (x.2 + o).natAbs < 10 ^ k
  r : ∀ x ∈ xs, x.1 = false → x.2 ≤ B
  l : xs.length ≤ L
  n : (nums xs).length < 64
  z : 0 ≤ B ∧ B.toNat + L < 10 ^ k
theorem be_sh {xs : List Stp} {k L : Nat} {B o : Int} (h : Sz k L B o xs) : Be k L L (sh xs o) ∧ ∀ T ∈ (sh xs o).2, T.1.natAbs ≤ L := by
  have bl := EF_len xs
  have hl := h.l
  have hz := h.z
  refine ⟨⟨fun x hx => ?_, fun T hT => ?_, by show ((EF xs).1.map _).length ≤ _; rw [List.length_map]; omega, by show (EF xs).2.length = ((EF xs).1.map _).length + 1; rw [List.length_map]; unfold EF; simp⟩, fun T hT => ?_⟩
  · obtain ⟨y, hy, rfl⟩ := List.mem_map.mp hx
    exact h.b _ (brk_in hy) rfl
  · obtain ⟨t, rfl⟩ := EF_mem hT
    have v := tAt_V h.ok t
    have s := tAt_start xs t
    have s0 := v.s0
    have nd := need_leB (B := B) hz.1 (fun x hx => ⟨h.ok x hx, h.r x hx⟩) t
    have tl := tAt_len xs t
    refine ⟨v, by omega, fun n hn => ?_, by omega⟩
    have h1 := v.pos n hn
    have h2 := lastR_ge v.up n hn
    omega
  · obtain ⟨t, rfl⟩ := EF_mem hT
    have v := tAt_V h.ok t
    have s := tAt_start xs t
    have s0 := v.s0
    omega
theorem q_initE {b c : Bool} {xs : List Stp} {bs : List Int} (hb : bs.Pairwise (· < ·)) (hl : bs.length = (effP xs).length) (hs : bs.length ≤ 1000) : p_Effect___init__ (b, bs) (c, (EF xs).2) = some (bs, (EF xs).2) := by
  have := q_init (b := b) (c := c) (bs := bs) (a := eff0 xs) (l := (effP xs).map (·.2)) hb (mg_adj _ _) (by rw [List.length_map, hl]) (by omega)
  exact this
theorem q_shift {xs : List Stp} (hl : xs.length ≤ 1000) (o : Int) : p_Effect_shifted (EF xs) o = some (sh xs o) := by
  have hL := EF_len xs
  have up : ((EF xs).1.map fun n => n + o).Pairwise (· < ·) := by
    rw [List.pairwise_map]
    have : (EF xs).1.Pairwise (· < ·) := eff_inc xs
    exact this.imp fun h => by omega
  have lc : lcT (EF xs).1 (fun _ => true) (fun y5 => y5 + o) = some ((EF xs).1.map fun n => n + o) := by
    rw [lcT_eq (by omega), List.filter_eq_self.mpr fun _ _ => rfl]
  have e1 : ((EF xs).1.map fun n => n + o).length = (effP xs).length := by
    rw [List.length_map]
    show ((effP xs).map _).length = _
    rw [List.length_map]
  have k := q_initE (b := false) (c := true) (xs := xs) up e1 (by rw [List.length_map]; omega)
  unfold p_Effect_shifted
  refine Eq.trans (obind (q_isint o)) ?_
  rw [if_neg (by simp)]
  exact Eq.trans (obind lc) (Eq.trans (obind k) rfl)
theorem sh0 (xs : List Stp) : sh xs 0 = EF xs := by
  unfold sh
  have : (EF xs).1.map (fun n => n + 0) = (EF xs).1 := by simp
  rw [this]
/-! ### what is drawn -/
theorem a_takeB {p : List Int} {m : Int} (h : tw2 p) (hm : 0 < m) (hs : m < 2 ^ 200) : An (p__law_take p m) fun r => (0 ≤ r.1 ∧ r.1 < m) ∧ tw2 r.2 := by
  obtain ⟨a, b, rfl⟩ := h
  have l : m.natAbs.log2 < 9000 := by
    have h1 : m.natAbs.log2 < 200 := (Nat.log2_lt (by omega)).mpr (by omega)
    omega
  obtain ⟨r, a', b', h0, h1, e⟩ := q_take (a := a) (b := b) hm l
  exact ⟨_, e, ⟨h0, h1⟩, a', b', rfl⟩
def gK (x : Stp) : Prop := okS x ∧ -3 ≤ x.2 ∧ x.2 ≤ 9
theorem a_stepK {p : List Int} (h : tw2 p) : An (p__law_step p 9) fun r => gK r.1 ∧ tw2 r.2 := by
  unfold p__law_step
  refine An.bq (a_takeB h (by omega) (by omega)) fun r1 hr1 => ?_
  by_cases q : r1.1 < 2
  · refine An.tt (decide_eq_true q) (An.bq (a_takeB hr1.2 (by omega) (by omega)) fun r2 hr2 => An.ok ⟨⟨(fun z => nomatch z), ?_, ?_⟩, hr2.2⟩)
    · show -3 ≤ r2.1 - 3; omega
    · show r2.1 - 3 ≤ 9; omega
  · refine An.ff (decide_eq_false q) (An.bq (a_takeB hr1.2 (by omega) (by omega)) fun r2 hr2 => An.ok ⟨⟨fun _ => ?_, ?_, ?_⟩, hr2.2⟩)
    · show 0 < 1 + r2.1; omega
    · show -3 ≤ 1 + r2.1; omega
    · show 1 + r2.1 ≤ 9; omega
theorem a_stepsK {p : List Int} (h : tw2 p) : An (p__law_steps p 10 9) fun r => (∀ x ∈ r.1, gK x) ∧ r.1.length ≤ 10 ∧ tw2 r.2 := by
  unfold p__law_steps
  refine An.bq (a_takeB h (m := 10 + 1) (by omega) (by omega)) fun r1 hr1 => ?_
  refine An.bq (An.lcH (I := tw2) (J := gK) (by rw [rngP_len]; omega) hr1.2 fun x _ s hs2 => An.bq (a_stepK hs2) fun r hr => An.ok hr) fun q hq => An.ok ⟨hq.2.1, ?_, hq.2.2⟩
  have e := hq.1
  rw [rngP_len] at e
  show q.1.length ≤ 10
  omega
/-! ### the law -/
theorem law_p (ns : List Int) : p_law ns = some true := by
  obtain ⟨A, eA⟩ : ∃ A : Int, A = 10 ^ (12 : Int).toNat := ⟨_, rfl⟩
  obtain ⟨C, eC⟩ : ∃ C : Int, C = 10 ^ (5 : Int).toNat := ⟨_, rfl⟩
  obtain ⟨D, eD⟩ : ∃ D : Int, D = 10 ^ (6 : Int).toNat := ⟨_, rfl⟩
  obtain ⟨G, eG⟩ : ∃ G : Int, G = 10 ^ (40 : Int).toNat := ⟨_, rfl⟩
  obtain ⟨M, eM⟩ : ∃ M : Int, M = 10 ^ (30 : Int).toNat := ⟨_, rfl⟩
  have hA : A = 1000000000000 := by rw [eA]; decide +kernel
  have hC : C = 100000 := by rw [eC]; decide +kernel
  have hD : D = 1000000 := by rw [eD]; decide +kernel
  have hG : G = ((10 ^ 40 : Nat) : Int) := by rw [eG]; decide +kernel
  have hM : M = ((10 ^ 30 : Nat) : Int) := by rw [eM]; decide +kernel
  have n40 : (10000000 : Nat) ≤ 10 ^ 40 ∧ (10 : Nat) ^ 40 + 100000 < 10 ^ 41 := by decide +kernel
  have n30 : (10000000 : Nat) ≤ 10 ^ 30 ∧ (10 : Nat) ^ 30 < 10 ^ 41 := by decide +kernel
  refine An.is ?_
  unfold p_law
  rw [← eA, ← eC, ← eD, ← eG, ← eM]
  refine An.bq (An.forF (I := fun _ => True) trivial fun y hy _ _ => ?_) fun w hw => ?_
  · obtain ⟨y0, y1⟩ := rngP_mem.mp hy
    refine An.bq (a_pool ns y0 (by split at y1 <;> split at y1 <;> omega)) fun p hp => ?_
    refine An.bq (a_stepsK hp) fun r1 ⟨g1, l1, t1⟩ => ?_
    have nl := nums_len r1.1
    have ok1 : ∀ x ∈ r1.1, okS x := fun x hx => (g1 x hx).1
    have sz0 : ∀ o : Int, o.natAbs ≤ 1000000000000 → Sz 13 10 9 o r1.1 := fun o ho => ⟨ok1, fun x hx _ => by
      have := (g1 x hx).2
      have e13 : (10 : Nat) ^ 13 = 10000000000000 := by decide
      omega, fun x hx _ => (g1 x hx).2.2, l1, by omega, by decide, by decide⟩
    have chk : ∀ o : Int, o.natAbs ≤ 1000000000000 → p__law_check (sh r1.1 o) = some true := fun o ho => by
      obtain ⟨b1, b2⟩ := be_sh (sz0 o ho)
      exact q_check (by decide) (by decide) (by decide) (by decide) (by decide) b1 fun T hT => by
        have := b2 T hT
        have e4 : (10 : Nat) ^ 4 = 10000 := by decide
        omega
    refine An.bd (q_made ok1 (by omega)) (An.bd (q_of ok1 (by omega) (by omega)) ?_)
    refine An.bq (a_takeB t1 (by omega) (by omega)) fun r2 ⟨⟨a0, a1⟩, t2⟩ => ?_
    refine An.bq (a_takeB t2 (by omega) (by omega)) fun r3 ⟨⟨b0, b1⟩, t3⟩ => ?_
    refine An.bq (a_takeB t3 (by omega) (by omega)) fun r4 ⟨⟨c0, c1⟩, t4⟩ => ?_
    have offs : ∀ o ∈ [0, r2.1, 0 - r3.1, 99999999], o.natAbs ≤ 1000000000000 := by
      intro o ho
      simp only [List.mem_cons, List.not_mem_nil, or_false] at ho
      omega
    refine An.bq (P := fun o : Int => o.natAbs ≤ 1000000000000) (An.mk (atI_int c0 (by simpa using c1)) (offs _ (List.getElem_mem _))) fun o ho => ?_
    refine An.bd (a := true) (by rw [← sh0]; exact chk 0 (by decide)) ?_
    refine An.bd (a := false) ?_ (An.ff rfl ?_)
    · rw [if_neg (by simp)]
      exact Eq.trans (obind (q_shift (by omega) o)) (Eq.trans (obind (chk o ho)) rfl)
    refine An.bq (a_takeB t4 (by omega) (by omega)) fun r5 ⟨⟨d0, d1⟩, t5⟩ => ?_
    have gr : ∀ o ∈ [C, D, G], 100000 ≤ o ∧ o ≤ G := by
      intro o ho
      simp only [List.mem_cons, List.not_mem_nil, or_false] at ho
      omega
    refine An.bq (P := fun o : Int => 100000 ≤ o ∧ o ≤ G) (An.mk (atI_int d0 (by simpa using d1)) (gr _ (List.getElem_mem _))) fun q ⟨q0, q1⟩ => ?_
    refine An.bq (a_takeB t5 (by omega) (by omega)) fun r6 ⟨⟨f0, f1⟩, t6⟩ => ?_
    generalize hS : q + r6.1 = S
    have vl : ∀ s : Int, 0 ≤ s → V (s, []) := fun s hs => ⟨hs, List.Pairwise.nil, fun _ h => nomatch h⟩
    have ts : ∀ s : Int, 0 ≤ s → p_Table___init__ s (true, []) = some (s, []) := fun s hs => q_tab (vl s hs) (by simp)
    refine An.bd (ts S (by omega)) (An.bd (ts 0 (by omega)) (An.bd (ts 99999 (by omega)) ?_))
    have ini : p_Effect___init__ (true, [5, M]) (true, ((0 : Int), ([] : List Int)) :: [((99999 : Int), ([] : List Int)), (S, [])]) = some ([5, M], ((0 : Int), ([] : List Int)) :: [((99999 : Int), ([] : List Int)), (S, [])]) := by
      refine q_init ?_ ?_ rfl (by simp)
      · simp only [List.pairwise_cons, List.mem_cons, List.not_mem_nil, or_false]
        exact ⟨fun a ha => by omega, fun a ha => ha.elim, List.Pairwise.nil⟩
      · exact ⟨by simp, fun e => (by have := congrArg Prod.fst e; have : (99999 : Int) = S := this; omega), trivial⟩
    refine An.bd ini ?_
    have be : Be 41 1 2 (([5, M], [((0 : Int), ([] : List Int)), ((99999 : Int), ([] : List Int)), (S, [])]) : Eff) := by
      refine ⟨fun x hx => ?_, fun T hT => ?_, by simp, rfl⟩
      · have hx : x ∈ [5, M] := hx
        simp only [List.mem_cons, List.not_mem_nil, or_false] at hx
        omega
      · have hT : T ∈ [((0 : Int), ([] : List Int)), ((99999 : Int), ([] : List Int)), (S, [])] := hT
        simp only [List.mem_cons, List.not_mem_nil, or_false] at hT
        rcases hT with rfl | rfl | rfl
        · exact ⟨vl _ (by omega), by show (0 : Int).natAbs < _; omega, (fun _ h => nomatch h), by simp⟩
        · exact ⟨vl _ (by omega), by show (99999 : Int).natAbs < _; omega, (fun _ h => nomatch h), by simp⟩
        · exact ⟨vl _ (by omega), by show S.natAbs < _; omega, (fun _ h => nomatch h), by simp⟩
    refine An.bd (q_grid (by decide) (by decide) (by decide) (by decide) (by decide) be) (An.bd (q_drawn (by decide) (by decide) (by decide) (by decide) (by decide) be) ?_)
    exact An.ff (by simp) (An.go trivial)
  · obtain ⟨_, rfl, _⟩ := hw
    have no : p_Effect_nothing = some (([] : List Int), [((0 : Int), ([] : List Int))]) := by decide +kernel
    have beN : Be 1 0 0 ((([] : List Int), [((0 : Int), ([] : List Int))]) : Eff) := by
      refine ⟨fun x hx => (nomatch hx), fun T hT => ?_, by simp, rfl⟩
      rw [List.mem_singleton.mp hT]
      exact ⟨⟨by decide, List.Pairwise.nil, fun _ h => nomatch h⟩, by decide, (fun _ h => nomatch h), by simp⟩
    refine An.bd no (An.bd (q_check (by decide) (by decide) (by decide) (by decide) (by decide) beN fun T hT => by rw [List.mem_singleton.mp hT]; decide) ?_)
    have ok1 : ∀ x ∈ ([(true, -1234567)] : List Stp), okS x := fun x hx => by
      rw [List.mem_singleton.mp hx]
      exact fun z => nomatch z
    have mu : p_Sequence___mul__ [(true, -1234567)] 200 = some (rp 200 [(true, -1234567)]) := q_smul ok1 200 (by decide) (by decide)
    generalize hX : rp 200 [((true, -1234567) : Stp)] = X at mu
    have inX : ∀ x ∈ X, x = (true, -1234567) := by subst hX; decide +kernel
    have szX : Sz 8 200 0 0 X := by
      refine ⟨fun x hx => ?_, fun x hx _ => ?_, fun x hx z => ?_, ?_, ?_, by decide⟩
      · rw [inX x hx]; exact fun z => nomatch z
      · rw [inX x hx]; decide
      · rw [inX x hx] at z; exact nomatch z
      · subst hX; decide +kernel
      · subst hX; decide +kernel
    obtain ⟨b1, b2⟩ := be_sh szX
    refine An.bd (a := true) ?_ (An.ok rfl)
    rw [if_pos rfl]
    refine Eq.trans (obind (q_seq ok1 (by decide))) (Eq.trans (obind mu) (Eq.trans (obind (q_of szX.ok (by have := szX.l; omega) szX.n)) ?_))
    refine Eq.trans (obind (a := true) ?_) rfl
    rw [← sh0]
    exact q_check (by decide) (by decide) (by decide) (by decide) (by decide) b1 fun T hT => by
      have := b2 T hT
      have e4 : (10 : Nat) ^ 4 = 10000 := by decide
      omega
theorem law_true : ∀ ns : List Int, ns.length ≤ 63 → ∃ e, R_law [.val (.scr ns)] = .ok (.bl true) e := fun ns _ => ⟨_, t_law ns (law_p ns)⟩
end Dl.k53
open PySem PySem.W PyProof.Rows
set_option maxRecDepth 100000 in
set_option maxHeartbeats 0 in
theorem PySem.Challenge.cw_rankeffect_k53_effects_as_grids_holds : PySem.Challenge.rw_rankeffect_k53_effects_as_grids.Holds := by
  w_on; o_law; k_head; (case hw => w_witness2)
  k_fill
  refine Dl.walk (l := PySem.Challenge.rw_rankeffect_k53_effects_as_grids) (k := 9) (x := "_law_script") rfl rfl ⟨rfl, by decide, by decide⟩ (fun w h Y => PySem.W.kIn_of Y) ?F
  case F =>
    intro w mg fa h KX G hmg
    refine' Dl.k53.all_mk KX G hmg ?a_Sequence ?pg_Sequence ?hd_Sequence ?po_Sequence ?sa_Sequence ?sf_Sequence ?a_Table ?pg_Table ?hd_Table ?po_Table ?sa_Table ?sf_Table ?a_Effect ?pg_Effect ?hd_Effect ?po_Effect ?sa_Effect ?sf_Effect ?n_b_len ?n_b_abs ?n_b_int ?n_b_range ?n_f_Sequence_parts ?n_b_isinstance ?n_b_bool ?n_b_list ?n_b_tuple ?n_b_all ?n_b_zip ?n_f_Table_base ?n_f_Table_gone ?n_b_sorted ?t1_ko_Table ?t2_ko_Table ?ic1_Table ?ic2_Table ?ic3_Table ?ic4_Table ?n_ko_Table_Sequence ?q_ko_Table_Sequence ?ic1_Sequence ?ic2_Sequence ?ic3_Sequence ?ic4_Sequence ?n_ko_Table_Effect ?q_ko_Table_Effect ?ic1_Effect ?ic2_Effect ?ic3_Effect ?ic4_Effect ?n_f_Effect_cuts ?n_f_Effect_maps ?n_b_str ?n_g_FIRST ?n_g_EMPTY ?n_b_max ?n_b_min ?b1_bi_Sequence ?b2_bi_Sequence ?b3_bi_Sequence ?b4_bi_Sequence ?a__law_pool ?l__law_pool ?c__law_pool ?k__law_pool ?a__law_take ?l__law_take ?c__law_take ?k__law_take ?a__law_step ?l__law_step ?c__law_step ?k__law_step ?a__law_steps ?l__law_steps ?c__law_steps ?k__law_steps ?a_Sequence_steps ?pa_Sequence_steps ?pb_Sequence_steps ?pc_Sequence_steps ?l_Sequence_steps ?c_Sequence_steps ?k_Sequence_steps ?a_least_reaching ?l_least_reaching ?c_least_reaching ?k_least_reaching ?a_is_integer ?l_is_integer ?c_is_integer ?k_is_integer ?a_is_count ?l_is_count ?c_is_count ?k_is_count ?a_is_rank ?l_is_rank ?c_is_rank ?k_is_rank ?a_are_lost_ranks ?l_are_lost_ranks ?c_are_lost_ranks ?k_are_lost_ranks ?a_Table___init__ ?i_Table___init__ ?l_Table___init__ ?c_Table___init__ ?k_Table___init__ ?mk_Table ?kc_Table ?a_table_at ?l_table_at ?c_table_at ?k_table_at ?a_Table___eq__ ?i_Table___eq__ ?l_Table___eq__ ?c_Table___eq__ ?k_Table___eq__ ?a_merged ?l_merged ?c_merged ?k_merged ?a_are_breaks ?l_are_breaks ?c_are_breaks ?k_are_breaks ?a_are_tables ?l_are_tables ?c_are_tables ?k_are_tables ?a_Effect___init__ ?i_Effect___init__ ?l_Effect___init__ ?c_Effect___init__ ?k_Effect___init__ ?mk_Effect ?kc_Effect ?a_Effect_of ?pc_Effect_of ?fi_Effect_of ?r1_Effect ?r2_Effect ?l_Effect_of ?c_Effect_of ?k_Effect_of ?a_Sequence_is_step ?pc_Sequence_is_step ?r1_Sequence ?r2_Sequence ?l_Sequence_is_step ?c_Sequence_is_step ?k_Sequence_is_step ?a_check_steps ?l_check_steps ?c_check_steps ?k_check_steps ?a_Sequence___init__ ?i_Sequence___init__ ?l_Sequence___init__ ?c_Sequence___init__ ?k_Sequence___init__ ?mk_Sequence ?kc_Sequence ?a_Sequence___add__ ?i_Sequence___add__ ?l_Sequence___add__ ?c_Sequence___add__ ?k_Sequence___add__ ?a__law_sequence ?l__law_sequence ?c__law_sequence ?k__law_sequence ?a_Effect_tables ?pa_Effect_tables ?pb_Effect_tables ?pc_Effect_tables ?l_Effect_tables ?c_Effect_tables ?k_Effect_tables ?a_Effect_breaks ?pa_Effect_breaks ?pb_Effect_breaks ?pc_Effect_breaks ?l_Effect_breaks ?c_Effect_breaks ?k_Effect_breaks ?a_starts_of ?l_starts_of ?c_starts_of ?k_starts_of ?a_Table_start ?pa_Table_start ?pb_Table_start ?pc_Table_start ?l_Table_start ?c_Table_start ?k_Table_start ?a_format_numbers ?l_format_numbers ?c_format_numbers ?k_format_numbers ?a_Table_lost ?pa_Table_lost ?pb_Table_lost ?pc_Table_lost ?l_Table_lost ?c_Table_lost ?k_Table_lost ?a_effect_grid ?l_effect_grid ?c_effect_grid ?k_effect_grid ?a__law_padded ?l__law_padded ?c__law_padded ?k__law_padded ?a__law_line ?l__law_line ?c__law_line ?k__law_line ?a__law_drawn ?l__law_drawn ?c__law_drawn ?k__law_drawn ?a_format_effect ?l_format_effect ?c_format_effect ?k_format_effect ?a__law_check ?l__law_check ?c__law_check ?k__law_check ?a_Effect_shifted ?i_Effect_shifted ?l_Effect_shifted ?c_Effect_shifted ?k_Effect_shifted ?a_Effect_nothing ?pc_Effect_nothing ?fi_Effect_nothing ?l_Effect_nothing ?c_Effect_nothing ?k_Effect_nothing ?a_Sequence___mul__ ?i_Sequence___mul__ ?l_Sequence___mul__ ?c_Sequence___mul__ ?k_Sequence___mul__ ?a_law ?l_law ?c_law ?k_law Dl.k53.law_true
    (case a_Sequence => k_is)
    (case pg_Sequence => k_is)
    (case hd_Sequence => k_is)
    (case po_Sequence => k_is)
    (case sa_Sequence => k_is)
    (case sf_Sequence => k_is)
    (case a_Table => k_is)
    (case pg_Table => k_is)
    (case hd_Table => k_is)
    (case po_Table => k_is)
    (case sa_Table => k_is)
    (case sf_Table => k_is)
    (case a_Effect => k_is)
    (case pg_Effect => k_is)
    (case hd_Effect => k_is)
    (case po_Effect => k_is)
    (case sa_Effect => k_is)
    (case sf_Effect => k_is)
    (case n_b_len => k_is)
    (case n_b_abs => k_is)
    (case n_b_int => k_is)
    (case n_b_range => k_is)
    (case n_f_Sequence_parts => k_is)
    (case n_b_isinstance => k_is)
    (case n_b_bool => k_is)
    (case n_b_list => k_is)
    (case n_b_tuple => k_is)
    (case n_b_all => k_is)
    (case n_b_zip => k_is)
    (case n_f_Table_base => k_is)
    (case n_f_Table_gone => k_is)
    (case n_b_sorted => k_is)
    (case t1_ko_Table => k_is)
    (case t2_ko_Table => k_is)
    (case ic1_Table => k_is)
    (case ic2_Table => k_is)
    (case ic3_Table => k_is)
    (case ic4_Table => k_is)
    (case n_ko_Table_Sequence => k_is)
    (case q_ko_Table_Sequence => decide)
    (case ic1_Sequence => k_is)
    (case ic2_Sequence => k_is)
    (case ic3_Sequence => k_is)
    (case ic4_Sequence => k_is)
    (case n_ko_Table_Effect => k_is)
    (case q_ko_Table_Effect => decide)
    (case ic1_Effect => k_is)
    (case ic2_Effect => k_is)
    (case ic3_Effect => k_is)
    (case ic4_Effect => k_is)
    (case n_f_Effect_cuts => k_is)
    (case n_f_Effect_maps => k_is)
    (case n_b_str => k_is)
    (case n_g_FIRST => k_is)
    (case n_g_EMPTY => k_is)
    (case n_b_max => k_is)
    (case n_b_min => k_is)
    (case b1_bi_Sequence => k_is)
    (case b2_bi_Sequence => k_is)
    (case b3_bi_Sequence => k_is)
    (case b4_bi_Sequence => k_is)
    (case a__law_pool => k_is)
    (case l__law_pool => k_is)
    (case c__law_pool => k_is)
    (case k__law_pool => k_is)
    (case a__law_take => k_is)
    (case l__law_take => k_is)
    (case c__law_take => k_is)
    (case k__law_take => k_is)
    (case a__law_step => k_is)
    (case l__law_step => k_is)
    (case c__law_step => k_is)
    (case k__law_step => k_is)
    (case a__law_steps => k_is)
    (case l__law_steps => k_is)
    (case c__law_steps => k_is)
    (case k__law_steps => k_is)
    (case a_Sequence_steps => k_is)
    (case pa_Sequence_steps => k_is)
    (case pb_Sequence_steps => k_is)
    (case pc_Sequence_steps => k_is)
    (case l_Sequence_steps => k_is)
    (case c_Sequence_steps => k_is)
    (case k_Sequence_steps => k_is)
    (case a_least_reaching => k_is)
    (case l_least_reaching => k_is)
    (case c_least_reaching => k_is)
    (case k_least_reaching => k_is)
    (case a_is_integer => k_is)
    (case l_is_integer => k_is)
    (case c_is_integer => k_is)
    (case k_is_integer => k_is)
    (case a_is_count => k_is)
    (case l_is_count => k_is)
    (case c_is_count => k_is)
    (case k_is_count => k_is)
    (case a_is_rank => k_is)
    (case l_is_rank => k_is)
    (case c_is_rank => k_is)
    (case k_is_rank => k_is)
    (case a_are_lost_ranks => k_is)
    (case l_are_lost_ranks => k_is)
    (case c_are_lost_ranks => k_is)
    (case k_are_lost_ranks => k_is)
    (case a_Table___init__ => k_is)
    (case i_Table___init__ => k_is)
    (case l_Table___init__ => k_is)
    (case c_Table___init__ => k_is)
    (case k_Table___init__ => k_is)
    (case mk_Table => k_is)
    (case kc_Table => k_is)
    (case a_table_at => k_is)
    (case l_table_at => k_is)
    (case c_table_at => k_is)
    (case k_table_at => k_is)
    (case a_Table___eq__ => k_is)
    (case i_Table___eq__ => k_is)
    (case l_Table___eq__ => k_is)
    (case c_Table___eq__ => k_is)
    (case k_Table___eq__ => k_is)
    (case a_merged => k_is)
    (case l_merged => k_is)
    (case c_merged => k_is)
    (case k_merged => k_is)
    (case a_are_breaks => k_is)
    (case l_are_breaks => k_is)
    (case c_are_breaks => k_is)
    (case k_are_breaks => k_is)
    (case a_are_tables => k_is)
    (case l_are_tables => k_is)
    (case c_are_tables => k_is)
    (case k_are_tables => k_is)
    (case a_Effect___init__ => k_is)
    (case i_Effect___init__ => k_is)
    (case l_Effect___init__ => k_is)
    (case c_Effect___init__ => k_is)
    (case k_Effect___init__ => k_is)
    (case mk_Effect => k_is)
    (case kc_Effect => k_is)
    (case a_Effect_of => k_is)
    (case pc_Effect_of => k_is)
    (case fi_Effect_of => k_is)
    (case r1_Effect => k_is)
    (case r2_Effect => k_is)
    (case l_Effect_of => k_is)
    (case c_Effect_of => k_is)
    (case k_Effect_of => k_is)
    (case a_Sequence_is_step => k_is)
    (case pc_Sequence_is_step => k_is)
    (case r1_Sequence => k_is)
    (case r2_Sequence => k_is)
    (case l_Sequence_is_step => k_is)
    (case c_Sequence_is_step => k_is)
    (case k_Sequence_is_step => k_is)
    (case a_check_steps => k_is)
    (case l_check_steps => k_is)
    (case c_check_steps => k_is)
    (case k_check_steps => k_is)
    (case a_Sequence___init__ => k_is)
    (case i_Sequence___init__ => k_is)
    (case l_Sequence___init__ => k_is)
    (case c_Sequence___init__ => k_is)
    (case k_Sequence___init__ => k_is)
    (case mk_Sequence => k_is)
    (case kc_Sequence => k_is)
    (case a_Sequence___add__ => k_is)
    (case i_Sequence___add__ => k_is)
    (case l_Sequence___add__ => k_is)
    (case c_Sequence___add__ => k_is)
    (case k_Sequence___add__ => k_is)
    (case a__law_sequence => k_is)
    (case l__law_sequence => k_is)
    (case c__law_sequence => k_is)
    (case k__law_sequence => k_is)
    (case a_Effect_tables => k_is)
    (case pa_Effect_tables => k_is)
    (case pb_Effect_tables => k_is)
    (case pc_Effect_tables => k_is)
    (case l_Effect_tables => k_is)
    (case c_Effect_tables => k_is)
    (case k_Effect_tables => k_is)
    (case a_Effect_breaks => k_is)
    (case pa_Effect_breaks => k_is)
    (case pb_Effect_breaks => k_is)
    (case pc_Effect_breaks => k_is)
    (case l_Effect_breaks => k_is)
    (case c_Effect_breaks => k_is)
    (case k_Effect_breaks => k_is)
    (case a_starts_of => k_is)
    (case l_starts_of => k_is)
    (case c_starts_of => k_is)
    (case k_starts_of => k_is)
    (case a_Table_start => k_is)
    (case pa_Table_start => k_is)
    (case pb_Table_start => k_is)
    (case pc_Table_start => k_is)
    (case l_Table_start => k_is)
    (case c_Table_start => k_is)
    (case k_Table_start => k_is)
    (case a_format_numbers => k_is)
    (case l_format_numbers => k_is)
    (case c_format_numbers => k_is)
    (case k_format_numbers => k_is)
    (case a_Table_lost => k_is)
    (case pa_Table_lost => k_is)
    (case pb_Table_lost => k_is)
    (case pc_Table_lost => k_is)
    (case l_Table_lost => k_is)
    (case c_Table_lost => k_is)
    (case k_Table_lost => k_is)
    (case a_effect_grid => k_is)
    (case l_effect_grid => k_is)
    (case c_effect_grid => k_is)
    (case k_effect_grid => k_is)
    (case a__law_padded => k_is)
    (case l__law_padded => k_is)
    (case c__law_padded => k_is)
    (case k__law_padded => k_is)
    (case a__law_line => k_is)
    (case l__law_line => k_is)
    (case c__law_line => k_is)
    (case k__law_line => k_is)
    (case a__law_drawn => k_is)
    (case l__law_drawn => k_is)
    (case c__law_drawn => k_is)
    (case k__law_drawn => k_is)
    (case a_format_effect => k_is)
    (case l_format_effect => k_is)
    (case c_format_effect => k_is)
    (case k_format_effect => k_is)
    (case a__law_check => k_is)
    (case l__law_check => k_is)
    (case c__law_check => k_is)
    (case k__law_check => k_is)
    (case a_Effect_shifted => k_is)
    (case i_Effect_shifted => k_is)
    (case l_Effect_shifted => k_is)
    (case c_Effect_shifted => k_is)
    (case k_Effect_shifted => k_is)
    (case a_Effect_nothing => k_is)
    (case pc_Effect_nothing => k_is)
    (case fi_Effect_nothing => k_is)
    (case l_Effect_nothing => k_is)
    (case c_Effect_nothing => k_is)
    (case k_Effect_nothing => k_is)
    (case a_Sequence___mul__ => k_is)
    (case i_Sequence___mul__ => k_is)
    (case l_Sequence___mul__ => k_is)
    (case c_Sequence___mul__ => k_is)
    (case k_Sequence___mul__ => k_is)
    (case a_law => k_is)
    (case l_law => k_is)
    (case c_law => k_is)
    (case k_law => k_is)
