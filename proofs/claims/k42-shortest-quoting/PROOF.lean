import PyProof.Rows.All
import Wide.All
import OpenK.AllK
import Wide.FinOn
import HandS.ForMost
import HandS.ForExc
import HandS.CallSlots
import HandS.Flow
import HandS.FStr
import HandS.Codes
import HandS.Style
import HandS.IsInst
import HandS.CallRecv
import KE.DataEq
import KE.DataCmp
import KE.DataMinMax
import KE.SortData
import KE.DataFind
import HandS.Steps
import KE.GoesEnum
import PySem.Challenge.RW_flagclause_k42_shortest_quoting
set_option Elab.async false
set_option linter.all false
set_option maxRecDepth 100000
set_option maxHeartbeats 4000000
/-! DL0: deep data over the hand layer: D, the immutable ghost heap G, the memory M. -/
namespace DL
open PySem L2 PySem.Spec PyProof.Rows

/-- a text by its codes -/
abbrev S (l : List Nat) : Str := ⟨l.toArray⟩
def cs (s : String) : List Nat := (Str.ofString s).cps.toList
theorem S_cs (s : String) : S (cs s) = Str.ofString s := by
  unfold cs S
  rw [Array.toArray_toList]
theorem S_len (l : List Nat) : (S l).length = l.length := by simp [S, Str.length]
theorem S_cat (a b : List Nat) : S a ++ S b = S (a ++ b) := SX.S_cat a b
theorem S_inj {a b : List Nat} (h : S a = S b) : a = b := SX.S_inj h
theorem S_eq (x : Str) : S x.cps.toList = x := SX.S_tl x

/-- a value with what lies below it -/
inductive D where
  | non | bl (b : Bool) | int (i : Int) | str (l : List Nat) | byt (b : Array UInt8)
  | lst (xs : List D) | tup (xs : List D)
  | scr (ns : List Int)
  | ref (a : Addr) | ty (n : String)

mutual
inductive Dv (K : PySem.W.Frag) (G : Hp) : V → D → Prop
  | non : Dv K G .non .non
  | bl (b : Bool) : Dv K G (.bl b) (.bl b)
  | int (i : Int) : Dv K G (.int i) (.int i)
  | str (l : List Nat) : Dv K G (.str (S l)) (.str l)
  | byt (b : Array UInt8) : Dv K G (.byt b) (.byt b)
  | lst {a : Addr} {xs : List V} {ds : List D} : G a = some (.lst xs) → DvA K G xs ds → Dv K G (.ref a) (.lst ds)
  | scr {a : Addr} {ns : List Int} : SqL K G a (ns.map V.int) → Dv K G (.ref a) (.scr ns)
  | tup {a : Addr} {xs : List V} {ds : List D} : SqT K G a xs → DvA K G xs ds → Dv K G (.ref a) (.tup ds)
  | ref (a : Addr) : Dv K G (.ref a) (.ref a)
  | ty (n : String) : Dv K G (.ty n) (.ty n)
inductive DvA (K : PySem.W.Frag) (G : Hp) : List V → List D → Prop
  | nil : DvA K G [] []
  | cons {v : V} {vs : List V} {d : D} {ds : List D} : Dv K G v d → DvA K G vs ds → DvA K G (v :: vs) (d :: ds)
end

/-- what stands in the memory -/
inductive MO where
  | lst (ds : List D)
  | ins (C dx : Addr) (fs : List (Str × D))
  | dK (kvs : List (Key × D))
abbrev Mem := Addr → Option MO
def mset (M : Mem) (a : Addr) (o : MO) : Mem := fun b => if b = a then some o else M b
def mdel (M : Mem) (a : Addr) : Mem := fun b => if b = a then none else M b
theorem mset_same {M : Mem} {a : Addr} {o : MO} : mset M a o a = some o := by unfold mset; rw [if_pos rfl]
theorem mset_ne {M : Mem} {a b : Addr} {o : MO} (h : b ≠ a) : mset M a o b = M b := by unfold mset; rw [if_neg h]
theorem mdel_same {M : Mem} {a : Addr} : mdel M a a = none := by unfold mdel; rw [if_pos rfl]
theorem mdel_ne {M : Mem} {a b : Addr} (h : b ≠ a) : mdel M a b = M b := by unfold mdel; rw [if_neg h]

abbrev KD {κ : Type} (K : PySem.W.Frag) (G : Hp) : List (κ × V) → List (κ × D) → Prop := Paired fun (p : κ × V) (q : κ × D) => p.1 = q.1 ∧ Dv K G p.2 q.2
def MoOk (K : PySem.W.Frag) (G : Hp) : HO → MO → Prop
  | .lst vs, .lst ds => DvA K G vs ds
  | .ins C dx fs, .ins C' dx' gs => C = C' ∧ dx = dx' ∧ KD K G fs gs
  | .dK kvs, .dK kds => KD K G kvs kds
  | _, _ => False

/-- all of G stands in H -/
def Ex (G H : Hp) : Prop := ∀ a o, G a = some o → H a = some o
theorem Ex.refl (G : Hp) : Ex G G := fun _ _ h => h
theorem Ex.trans {G H J : Hp} (a : Ex G H) (b : Ex H J) : Ex G J := fun c o h => b c o (a c o h)
theorem Ex.new {H : Hp} {p : Addr} {o : HO} (h : H p = none) : Ex H (upd H p o) := fun a u e => by
  rw [upd_ne (ne_of_none e h)]
  exact e
theorem Ex.upd {G H : Hp} (e : Ex G H) (p : Addr) (o : HO) : Ex (L2.upd G p o) (L2.upd H p o) := fun a u h => by
  by_cases q : a = p
  · subst q; rw [upd_same] at h ⊢; exact h
  · rw [upd_ne q] at h ⊢; exact e a u h
theorem Ex.mut {G H : Hp} {p : Addr} {o : HO} (e : Ex G H) (h : G p = none) : Ex G (L2.upd H p o) := fun a u ha => by
  rw [upd_ne (ne_of_none ha h)]
  exact e a u ha
theorem ex_rd {G H : Hp} {a : Addr} {u : HO} (e : Ex G H) (h : Rd G a u) : Rd H a u := by
  rcases h with h | ⟨o, h⟩
  · exact Or.inl (e a _ h)
  · exact Or.inr ⟨o, e a _ h⟩
theorem ex_l {K : PySem.W.Frag} {G H : Hp} {a : Addr} {xs : List V} (e : Ex G H) (h : SqL K G a xs) : SqL K H a xs := by
  rcases h with h | h
  · exact Or.inl (ex_rd e h)
  · exact Or.inr h
theorem ex_t {K : PySem.W.Frag} {G H : Hp} {a : Addr} {xs : List V} (e : Ex G H) (h : SqT K G a xs) : SqT K H a xs := by
  rcases h with h | h
  · exact Or.inl (ex_rd e h)
  · exact Or.inr h
mutual
theorem Dv.mono {K : PySem.W.Frag} {G H : Hp} (e : Ex G H) : ∀ {v : V} {d : D}, Dv K G v d → Dv K H v d
  | _, _, .non => .non
  | _, _, .bl b => .bl b
  | _, _, .int b => .int b
  | _, _, .str b => .str b
  | _, _, .byt b => .byt b
  | _, _, .lst h q => .lst (e _ _ h) (DvA.mono e q)
  | _, _, .scr h => .scr (ex_l e h)
  | _, _, .tup h q => .tup (ex_t e h) (DvA.mono e q)
  | _, _, .ref b => .ref b
  | _, _, .ty b => .ty b
theorem DvA.mono {K : PySem.W.Frag} {G H : Hp} (e : Ex G H) : ∀ {v : List V} {d : List D}, DvA K G v d → DvA K H v d
  | _, _, .nil => .nil
  | _, _, .cons a b => .cons (Dv.mono e a) (DvA.mono e b)
end
theorem DvA.length {K : PySem.W.Frag} {G : Hp} : ∀ {v : List V} {d : List D}, DvA K G v d → v.length = d.length
  | _, _, .nil => rfl
  | _, _, .cons _ b => by rw [List.length_cons, List.length_cons, b.length]
theorem DvA.get {K : PySem.W.Frag} {G : Hp} : ∀ {vs : List V} {ds : List D} {i : Nat} {d : D}, DvA K G vs ds → ds[i]? = some d → ∃ v, vs[i]? = some v ∧ Dv K G v d
  | _, _, _, _, .nil, e => by simp at e
  | _, _, 0, _, .cons r _, e => by simp at e; subst e; exact ⟨_, rfl, r⟩
  | _, _, i + 1, d, .cons _ t, e => by
    obtain ⟨v, h1, h2⟩ := DvA.get (i := i) (d := d) t (by simpa using e)
    exact ⟨v, by simpa using h1, h2⟩
theorem DvA.get' {K : PySem.W.Frag} {G : Hp} : ∀ {vs : List V} {ds : List D} {i : Nat} {v : V}, DvA K G vs ds → vs[i]? = some v → ∃ d, ds[i]? = some d ∧ Dv K G v d
  | _, _, _, _, .nil, e => by simp at e
  | _, _, 0, _, .cons r _, e => by simp at e; subst e; exact ⟨_, rfl, r⟩
  | _, _, i + 1, v, .cons _ t, e => by
    obtain ⟨d, h1, h2⟩ := DvA.get' (i := i) (v := v) t (by simpa using e)
    exact ⟨d, by simpa using h1, h2⟩
theorem DvA.append {K : PySem.W.Frag} {G : Hp} : ∀ {xs ys : List V} {us ws : List D}, DvA K G xs us → DvA K G ys ws → DvA K G (xs ++ ys) (us ++ ws)
  | _, _, _, _, .nil, s => s
  | _, _, _, _, .cons r t, s => .cons r (DvA.append t s)
theorem DvA.take {K : PySem.W.Frag} {G : Hp} : ∀ {xs : List V} {us : List D} (n : Nat), DvA K G xs us → DvA K G (xs.take n) (us.take n)
  | _, _, 0, _ => .nil
  | _, _, _ + 1, .nil => .nil
  | _, _, n + 1, .cons r t => .cons r (DvA.take n t)
theorem DvA.drop {K : PySem.W.Frag} {G : Hp} : ∀ {xs : List V} {us : List D} (n : Nat), DvA K G xs us → DvA K G (xs.drop n) (us.drop n)
  | _, _, 0, r => r
  | _, _, _ + 1, .nil => .nil
  | _, _, n + 1, .cons _ t => DvA.drop n t
theorem DvA.set {K : PySem.W.Frag} {G : Hp} {x : V} {u : D} (r : Dv K G x u) : ∀ {xs : List V} {us : List D} (i : Nat), DvA K G xs us → DvA K G (xs.set i x) (us.set i u)
  | _, _, _, .nil => .nil
  | _, _, 0, .cons _ t => .cons r t
  | _, _, i + 1, .cons q t => .cons q (DvA.set r i t)
theorem DvA.erase {K : PySem.W.Frag} {G : Hp} : ∀ {xs : List V} {us : List D} (i : Nat), DvA K G xs us → DvA K G (xs.eraseIdx i) (us.eraseIdx i)
  | _, _, _, .nil => .nil
  | _, _, 0, .cons _ t => t
  | _, _, i + 1, .cons q t => .cons q (DvA.erase i t)
theorem DvA.rep {K : PySem.W.Frag} {G : Hp} {xs : List V} {us : List D} (h : DvA K G xs us) : ∀ k : Nat, DvA K G (List.replicate k xs).flatten (List.replicate k us).flatten
  | 0 => .nil
  | k + 1 => by
    rw [List.replicate_succ, List.replicate_succ, List.flatten_cons, List.flatten_cons]
    exact h.append (h.rep k)
theorem DvA.one {K : PySem.W.Frag} {G : Hp} {v : V} {d : D} (h : Dv K G v d) : DvA K G [v] [d] := .cons h .nil
theorem KD.mono {κ : Type} {K : PySem.W.Frag} {G H : Hp} (e : Ex G H) {a : List (κ × V)} {b : List (κ × D)} (h : KD K G a b) : KD K H a b := Paired.mapP h fun _ _ q => ⟨q.1, q.2.mono e⟩
theorem MoOk.mono {K : PySem.W.Frag} {G H : Hp} (e : Ex G H) : ∀ {o : HO} {m : MO}, MoOk K G o m → MoOk K H o m := fun {o m} h => by
  cases o <;> cases m <;> first
    | exact DvA.mono e h
    | exact ⟨h.1, h.2.1, KD.mono e h.2.2⟩
    | exact KD.mono e h
    | exact False.elim h

/-- the heap H bears the immutable part G and the memory M -/
structure At0 (K : PySem.W.Frag) (G : Hp) (M : Mem) (H : Hp) : Prop where
  ex : Ex G H
  mem : ∀ a o, M a = some o → ∃ ho, H a = some ho ∧ MoOk K G ho o
  dj : ∀ a o, M a = some o → G a = none
section
variable {K : PySem.W.Frag} {G H : Hp} {M : Mem} {p : Addr}
theorem At0.free (at_ : At0 K G M H) (h : H p = none) : M p = none := by
  cases q : M p with
  | none => rfl
  | some o =>
    obtain ⟨ho, e, _⟩ := at_.mem p o q
    rw [h] at e; cases e
theorem At0.gfree (at_ : At0 K G M H) (h : H p = none) : G p = none := by
  cases q : G p with
  | none => rfl
  | some o => rw [at_.ex p o q] at h; cases h
theorem At0.frozen (at_ : At0 K G M H) (h : H p = none) (o : HO) : At0 K (upd G p o) M (upd H p o) ∧ Ex G (upd G p o) := by
  have eG : Ex G (upd G p o) := Ex.new (at_.gfree h)
  refine ⟨⟨at_.ex.upd p o, fun a m q => ?_, fun a m q => ?_⟩, eG⟩
  · obtain ⟨ho, e, k⟩ := at_.mem a m q
    refine ⟨ho, ?_, k.mono eG⟩
    rw [upd_ne (ne_of_none e h)]; exact e
  · obtain ⟨ho, e, k⟩ := at_.mem a m q
    rw [upd_ne (ne_of_none e h)]; exact at_.dj a m q
theorem At0.fresh (at_ : At0 K G M H) (h : H p = none) {o : HO} {m : MO} (k : MoOk K G o m) : At0 K G (mset M p m) (upd H p o) := by
  refine ⟨fun a u q => ?_, fun a u q => ?_, fun a u q => ?_⟩
  · rw [upd_ne (ne_of_none (at_.ex a u q) h)]; exact at_.ex a u q
  · by_cases e : a = p
    · subst e; rw [mset_same] at q; cases q; exact ⟨o, upd_same, k⟩
    · rw [mset_ne e] at q
      obtain ⟨ho, e2, k2⟩ := at_.mem a u q
      exact ⟨ho, by rw [upd_ne e]; exact e2, k2⟩
  · by_cases e : a = p
    · subst e; exact at_.gfree h
    · rw [mset_ne e] at q; exact at_.dj a u q
theorem At0.write (at_ : At0 K G M H) {m0 m : MO} (hp : M p = some m0) {o : HO} (k : MoOk K G o m) : At0 K G (mset M p m) (upd H p o) := by
  have gp := at_.dj p m0 hp
  refine ⟨at_.ex.mut gp, fun a u q => ?_, fun a u q => ?_⟩
  · by_cases e : a = p
    · subst e; rw [mset_same] at q; cases q; exact ⟨o, upd_same, k⟩
    · rw [mset_ne e] at q
      obtain ⟨ho, e2, k2⟩ := at_.mem a u q
      exact ⟨ho, by rw [upd_ne e]; exact e2, k2⟩
  · by_cases e : a = p
    · subst e; exact gp
    · rw [mset_ne e] at q; exact at_.dj a u q
theorem At0.freeze (at_ : At0 K G M H) {m : MO} (hp : M p = some m) {o : HO} (ho : H p = some o) : At0 K (upd G p o) (mdel M p) H ∧ Ex G (upd G p o) := by
  have gp := at_.dj p m hp
  have eG : Ex G (upd G p o) := Ex.new gp
  refine ⟨⟨fun a u q => ?_, fun a u q => ?_, fun a u q => ?_⟩, eG⟩
  · by_cases e : a = p
    · subst e; rw [upd_same] at q; cases q; exact ho
    · rw [upd_ne e] at q; exact at_.ex a u q
  · by_cases e : a = p
    · subst e; rw [mdel_same] at q; cases q
    · rw [mdel_ne e] at q
      obtain ⟨o2, e2, k2⟩ := at_.mem a u q
      exact ⟨o2, e2, k2.mono eG⟩
  · by_cases e : a = p
    · subst e; rw [mdel_same] at q; cases q
    · rw [mdel_ne e] at q
      rw [upd_ne e]; exact at_.dj a u q
theorem At0.forget (at_ : At0 K G M H) {M' : Mem} (h : ∀ a o, M' a = some o → M a = some o) : At0 K G M' H :=
  ⟨at_.ex, fun a u q => at_.mem a u (h a u q), fun a u q => at_.dj a u (h a u q)⟩
theorem At0.extra (at_ : At0 K G M H) (h : H p = none) (o : HO) : At0 K G M (upd H p o) := by
  refine ⟨at_.ex.trans (Ex.new h), fun a m q => ?_, at_.dj⟩
  obtain ⟨ho, e, k⟩ := at_.mem a m q
  exact ⟨ho, by rw [upd_ne (ne_of_none e h)]; exact e, k⟩
end
/-- two memories side by side -/
def mor (M F : Mem) : Mem := fun a => match M a with | some o => some o | none => F a
theorem mor_l {M F : Mem} {a : Addr} {o : MO} (h : M a = some o) : mor M F a = some o := by unfold mor; rw [h]
theorem mor_r {M F : Mem} {a : Addr} (h : M a = none) : mor M F a = F a := by unfold mor; rw [h]
theorem mor_set (M F : Mem) (p : Addr) (m : MO) : mor (mset M p m) F = mset (mor M F) p m := by
  funext b
  unfold mor mset
  by_cases e : b = p
  · simp [e]
  · simp [e]
theorem mor_del {M F : Mem} {p : Addr} (h : F p = none) : mor (mdel M p) F = mdel (mor M F) p := by
  funext b
  unfold mor mdel
  by_cases e : b = p
  · simp [e, h]
  · simp [e]
theorem mor_set_r {M F : Mem} {p : Addr} {m : MO} (h : M p = none) : mor M (mset F p m) = mset (mor M F) p m := by
  funext b
  unfold mor mset
  by_cases e : b = p
  · subst e; simp [h]
  · simp [e]
/-- .. and the frame F: objects of others, which stay -/
structure At (K : PySem.W.Frag) (G : Hp) (M F : Mem) (H : Hp) : Prop where
  a : At0 K G (mor M F) H
  mf : ∀ p o, M p = some o → F p = none
section
variable {K : PySem.W.Frag} {G H : Hp} {M F : Mem} {p : Addr}
theorem At.ex (at_ : At K G M F H) : Ex G H := at_.a.ex
theorem At.mem (at_ : At K G M F H) {a : Addr} {o : MO} (h : M a = some o) : ∃ ho, H a = some ho ∧ MoOk K G ho o := at_.a.mem a o (mor_l h)
theorem At.free (at_ : At K G M F H) (h : H p = none) : M p = none ∧ F p = none := by
  have q := at_.a.free h
  unfold mor at q
  cases e : M p with
  | none => rw [e] at q; exact ⟨rfl, q⟩
  | some o => rw [e] at q; cases q
theorem At.gfree (at_ : At K G M F H) (h : H p = none) : G p = none := at_.a.gfree h
/-- a new immutable object -/
theorem At.frozen (at_ : At K G M F H) (h : H p = none) (o : HO) : At K (upd G p o) M F (upd H p o) ∧ Ex G (upd G p o) :=
  let q := at_.a.frozen h o
  ⟨⟨q.1, at_.mf⟩, q.2⟩
/-- a new object of the memory -/
theorem At.fresh (at_ : At K G M F H) (h : H p = none) {o : HO} {m : MO} (k : MoOk K G o m) : At K G (mset M p m) F (upd H p o) := by
  refine ⟨by rw [mor_set]; exact at_.a.fresh h k, fun q u e => ?_⟩
  by_cases z : q = p
  · subst z; exact (at_.free h).2
  · rw [mset_ne z] at e; exact at_.mf q u e
/-- .. of the frame -/
theorem At.freshF (at_ : At K G M F H) (h : H p = none) {o : HO} {m : MO} (k : MoOk K G o m) : At K G M (mset F p m) (upd H p o) := by
  refine ⟨by rw [mor_set_r (at_.free h).1]; exact at_.a.fresh h k, fun q u e => ?_⟩
  by_cases z : q = p
  · subst z; rw [(at_.free h).1] at e; cases e
  · rw [mset_ne z]; exact at_.mf q u e
/-- an object of the memory is changed -/
theorem At.write (at_ : At K G M F H) {m0 m : MO} (hp : M p = some m0) {o : HO} (k : MoOk K G o m) : At K G (mset M p m) F (upd H p o) := by
  refine ⟨by rw [mor_set]; exact at_.a.write (mor_l hp) k, fun q u e => ?_⟩
  by_cases z : q = p
  · subst z; exact at_.mf q m0 hp
  · rw [mset_ne z] at e; exact at_.mf q u e
/-- an object of the frame is changed -/
theorem At.writeF (at_ : At K G M F H) {m0 m : MO} (hp : F p = some m0) {o : HO} (k : MoOk K G o m) : At K G M (mset F p m) (upd H p o) := by
  have hm : M p = none := by
    cases e : M p with
    | none => rfl
    | some u => rw [at_.mf p u e] at hp; cases hp
  refine ⟨by rw [mor_set_r hm]; exact at_.a.write (by rw [mor_r hm]; exact hp) k, fun q u e => ?_⟩
  by_cases z : q = p
  · subst z; rw [hm] at e; cases e
  · rw [mset_ne z]; exact at_.mf q u e
/-- an object of the memory becomes immutable -/
theorem At.freeze (at_ : At K G M F H) {m : MO} (hp : M p = some m) {o : HO} (ho : H p = some o) : At K (upd G p o) (mdel M p) F H ∧ Ex G (upd G p o) := by
  have q := at_.a.freeze (mor_l hp) ho
  refine ⟨⟨by rw [mor_del (at_.mf p m hp)]; exact q.1, fun r u e => ?_⟩, q.2⟩
  by_cases z : r = p
  · subst z; rw [mdel_same] at e; cases e
  · rw [mdel_ne z] at e; exact at_.mf r u e
/-- an object of the frame becomes immutable -/
theorem At.freezeF (at_ : At K G M F H) {m : MO} (hp : F p = some m) {o : HO} (ho : H p = some o) : At K (upd G p o) M (mdel F p) H ∧ Ex G (upd G p o) := by
  have hm : M p = none := by
    cases e : M p with
    | none => rfl
    | some u => rw [at_.mf p u e] at hp; cases hp
  have q := at_.a.freeze (by rw [mor_r hm]; exact hp) ho
  refine ⟨⟨?_, fun r u e => ?_⟩, q.2⟩
  · have e : mor M (mdel F p) = mdel (mor M F) p := by
      funext b
      unfold mor mdel
      by_cases z : b = p
      · subst z; simp [hm]
      · simp [z]
    rw [e]; exact q.1
  · by_cases z : r = p
    · subst z; rw [mdel_same]
    · rw [mdel_ne z]; exact at_.mf r u e
theorem At.extra (at_ : At K G M F H) (h : H p = none) (o : HO) : At K G M F (upd H p o) := ⟨at_.a.extra h o, at_.mf⟩
/-- the frame is given back in part -/
theorem At.dropF (at_ : At K G M F H) : At K G M (mdel F p) H := by
  refine ⟨at_.a.forget fun a o q => ?_, fun a o q => ?_⟩
  · unfold mor at q ⊢
    cases e : M a with
    | none =>
      rw [e] at q
      by_cases z : a = p
      · subst z
        have q' : mdel F a a = some o := q
        rw [mdel_same] at q'; cases q'
      · have q' : mdel F p a = some o := q
        rw [mdel_ne z] at q'; exact q'
    | some u => rw [e] at q; exact q
  · by_cases z : a = p
    · subst z; rw [mdel_same]
    · rw [mdel_ne z]; exact at_.mf a o q
/-- the frame's part at p, which was free, is forgotten: the frame is as it was -/
theorem mdel_mset {F : Mem} {p : Addr} {m : MO} (h : F p = none) : mdel (mset F p m) p = F := by
  funext b
  by_cases z : b = p
  · subst z; rw [mdel_same, h]
  · rw [mdel_ne z, mset_ne z]
theorem mset_mset {F : Mem} {p : Addr} {m m' : MO} : mset (mset F p m) p m' = mset F p m' := by
  funext b
  by_cases z : b = p
  · subst z; rw [mset_same, mset_same]
  · rw [mset_ne z, mset_ne z, mset_ne z]
end

/-! ### the names of a def -/
abbrev Env := List (Option D)
structure Sl (K : PySem.W.Frag) (σ : L2.St) (G : Hp) (δ : Env) : Prop where
  len : σ.length = δ.length
  at_ : ∀ (i : Nat) d, δ[i]? = some (some d) → ∃ v, σ[i]? = some (some v) ∧ Dv K G v d
theorem Sl.mono {K : PySem.W.Frag} {σ : L2.St} {G G' : Hp} {δ : Env} (s : Sl K σ G δ) (e : Ex G G') : Sl K σ G' δ :=
  ⟨s.len, fun i d h => let ⟨v, a, b⟩ := s.at_ i d h; ⟨v, a, b.mono e⟩⟩
theorem Sl.set {K : PySem.W.Frag} {σ : L2.St} {G : Hp} {δ : Env} (s : Sl K σ G δ) {v : V} {d : D} (i : Nat) (h : Dv K G v d) : Sl K (σ.set i (some v)) G (δ.set i (some d)) := by
  refine ⟨by rw [List.length_set, List.length_set, s.len], fun j e q => ?_⟩
  by_cases hj : j = i
  · subst hj
    have hl : j < (δ.set j (some d)).length := (List.getElem?_eq_some_iff.mp q).1
    rw [List.length_set] at hl
    rw [List.getElem?_set_self hl] at q
    cases q
    rw [List.getElem?_set_self (by rw [s.len]; exact hl)]
    exact ⟨v, rfl, h⟩
  · rw [List.getElem?_set_ne (Ne.symm hj)] at q ⊢
    exact s.at_ j e q
theorem Sl.wipe1 {K : PySem.W.Frag} {σ : L2.St} {G : Hp} {δ : Env} (s : Sl K σ G δ) (i : Nat) : Sl K (σ.set i none) G (δ.set i none) := by
  refine ⟨by rw [List.length_set, List.length_set, s.len], fun j e q => ?_⟩
  by_cases hj : j = i
  · subst hj
    have hl : j < (δ.set j none).length := (List.getElem?_eq_some_iff.mp q).1
    rw [List.length_set] at hl
    rw [List.getElem?_set_self hl] at q
    cases q
  · rw [List.getElem?_set_ne (Ne.symm hj)] at q ⊢
    exact s.at_ j e q
def dwipe (δ : Env) : List Nat → Env
  | [] => δ
  | v :: vs => (dwipe δ vs).set v none
theorem Sl.wipe {K : PySem.W.Frag} {σ : L2.St} {G : Hp} {δ : Env} (s : Sl K σ G δ) : ∀ vs : List Nat, Sl K (L2.wipe σ vs) G (dwipe δ vs)
  | [] => s
  | v :: vs => (s.wipe vs).wipe1 v
/-- an exception by its class and its fields -/
structure Exc where
  C : Addr
  fs : List (Str × D)
def ExAt (K : PySem.W.Frag) (G H : Hp) (cls : Value) (dd : Option Addr) (x : Exc) : Prop :=
  cls = .ref x.C ∧ ((dd = none ∧ x.fs = []) ∨ ∃ a fs, dd = some a ∧ H a = some (.xd fs) ∧ KD K G fs x.fs)
abbrev QE := D → Mem → Prop
abbrev QX := Exc → Mem → Prop
/-- readings over data -/
abbrev DTE := Env → Mem → QE → QX → Prop
abbrev DTT := Env → Mem → (Bool → Mem → Prop) → QX → Prop
abbrev DTA := Env → Mem → (List D → Mem → Prop) → QX → Prop
structure Ends where
  nx : Env → Mem → Prop
  rt : D → Mem → Prop
  bk : Env → Mem → Prop := fun _ _ => False
  ct : Env → Mem → Prop := fun _ _ => False
  ex : Exc → Env → Mem → Prop := fun _ _ _ => False
abbrev DTS := Ends → Env → Mem → Prop
/-- the largest readings -/
def teOf (X : Cx) (e : Expr) : TE := fun σ H Q => ∀ pins s, Inv X pins σ H s → wpAny (model X.prog X.w) X.A (eval e X.env) (EP X pins σ Q) X.xe s
theorem pe_of (X : Cx) (e : Expr) : PE X e (teOf X e) := ⟨fun pins s _ _ _ I h => h pins s I⟩
theorem PE.te {X : Cx} {e : Expr} {t : TE} (h : PE X e t) {σ : L2.St} {H : Hp} {Q : VK} (q : t σ H Q) : teOf X e σ H Q := fun pins s I => h.run pins s σ H Q I q
def ttOf (X : Cx) (e : Expr) : TT := fun σ H Q => ∀ pins s, Inv X pins σ H s → wpAny (model X.prog X.w) X.A (isTrue e X.env (eval e X.env)) (TP X pins σ Q) X.xe s
theorem pt_of (X : Cx) (e : Expr) : PT X e (ttOf X e) := ⟨fun pins s _ _ _ I h => h pins s I⟩
theorem PT.tt {X : Cx} {e : Expr} {t : TT} (h : PT X e t) {σ : L2.St} {H : Hp} {Q : Bool → Hp → Prop} (q : t σ H Q) : ttOf X e σ H Q := fun pins s I => h.run pins s σ H Q I q
def taOf (X : Cx) (es : List Expr) : TA := fun σ H Q => ∀ pos pins s, Inv X pins σ H s → wpAny (model X.prog X.w) X.A (spliced (backTo pos (starEach es X.env))) (AP X pins σ Q) X.xe s
theorem pa_of (X : Cx) (es : List Expr) : PA X es (taOf X es) := ⟨fun pos pins s _ _ _ I h => h pos pins s I⟩
theorem PA.ta {X : Cx} {e : List Expr} {t : TA} (h : PA X e t) {σ : L2.St} {H : Hp} {Q : List V → Hp → Prop} (q : t σ H Q) : taOf X e σ H Q := fun pos pins s I => h.run pos pins s σ H Q I q
def tsOf (X : Cx) (st : Stmt) : TS := fun D σ H => ∀ pins s, Inv X pins σ H s → wpAny (model X.prog X.w) X.A (exec st X.env) (SP X pins D) X.xe s
theorem ps_of (X : Cx) (st : Stmt) : PS X st (tsOf X st) := ⟨fun pins s _ _ _ I h => h pins s I⟩
theorem PS.ts {X : Cx} {e : Stmt} {t : TS} (h : PS X e t) {σ : L2.St} {H : Hp} {D : L2.Ends} (q : t D σ H) : tsOf X e D σ H := fun pins s I => h.run pins s σ H D I q
def tssOf (X : Cx) (st : List Stmt) : TS := fun D σ H => ∀ pins s, Inv X pins σ H s → wpAny (model X.prog X.w) X.A (execs st X.env) (SP X pins D) X.xe s
theorem pss_of (X : Cx) (st : List Stmt) : PSs X st (tssOf X st) := ⟨fun pins s _ _ _ I h => h pins s I⟩
theorem PSs.tss {X : Cx} {e : List Stmt} {t : TS} (h : PSs X e t) {σ : L2.St} {H : Hp} {D : L2.Ends} (q : t D σ H) : tssOf X e D σ H := fun pins s I => h.run pins s σ H D I q

/-- where a reading over data is used -/
structure Here (X : Cx) (W : WX) (δ : Env) (M F : Mem) (σ : L2.St) (G H : Hp) : Prop where
  tk : Takes X W
  sl : Sl X.K σ G δ
  at_ : At X.K G M F H
/-- what follows, seen from G -/
def RetK (K : PySem.W.Frag) (G : Hp) (F : Mem) (Q : QE) (QV : VK) : Prop := ∀ v d G' M' H', Ex G G' → At K G' M' F H' → Dv K G' v d → Q d M' → QV v H'
def RetT (K : PySem.W.Frag) (G : Hp) (F : Mem) (Q : Bool → Mem → Prop) (QV : Bool → Hp → Prop) : Prop := ∀ b G' M' H', Ex G G' → At K G' M' F H' → Q b M' → QV b H'
def RetA (K : PySem.W.Frag) (G : Hp) (F : Mem) (Q : List D → Mem → Prop) (QV : List V → Hp → Prop) : Prop := ∀ vs ds G' M' H', Ex G G' → At K G' M' F H' → DvA K G' vs ds → Q ds M' → QV vs H'
def ExcK (K : PySem.W.Frag) (G : Hp) (F : Mem) (Q : QX) (QV : XK) : Prop := ∀ cls dd x G' M' H', Ex G G' → At K G' M' F H' → ExAt K G' H' cls dd x → Q x M' → QV cls dd H'
def NxK (K : PySem.W.Frag) (G : Hp) (F : Mem) (Q : Env → Mem → Prop) (QV : L2.St → Hp → Prop) : Prop := ∀ σ' δ' G' M' H', Ex G G' → Sl K σ' G' δ' → At K G' M' F H' → Q δ' M' → QV σ' H'
def ExcS (K : PySem.W.Frag) (G : Hp) (F : Mem) (Q : Exc → Env → Mem → Prop) (W : WX) : Prop := ∀ cls dd x σ' δ' G' M' H', Ex G G' → Sl K σ' G' δ' → At K G' M' F H' → ExAt K G' H' cls dd x → Q x δ' M' → W cls dd σ' H'
section
variable {K : PySem.W.Frag} {G G' : Hp} {F : Mem}
theorem RetK.mono {Q : QE} {QV : VK} (h : RetK K G F Q QV) (e : Ex G G') : RetK K G' F Q QV := fun v d G2 M2 H2 e2 => h v d G2 M2 H2 (e.trans e2)
theorem RetT.mono {Q : Bool → Mem → Prop} {QV : Bool → Hp → Prop} (h : RetT K G F Q QV) (e : Ex G G') : RetT K G' F Q QV := fun b G2 M2 H2 e2 => h b G2 M2 H2 (e.trans e2)
theorem RetA.mono {Q : List D → Mem → Prop} {QV : List V → Hp → Prop} (h : RetA K G F Q QV) (e : Ex G G') : RetA K G' F Q QV := fun v d G2 M2 H2 e2 => h v d G2 M2 H2 (e.trans e2)
theorem ExcK.mono {Q : QX} {QV : XK} (h : ExcK K G F Q QV) (e : Ex G G') : ExcK K G' F Q QV := fun c d x G2 M2 H2 e2 => h c d x G2 M2 H2 (e.trans e2)
theorem NxK.mono {Q : Env → Mem → Prop} {QV : L2.St → Hp → Prop} (h : NxK K G F Q QV) (e : Ex G G') : NxK K G' F Q QV := fun c d G2 M2 H2 e2 => h c d G2 M2 H2 (e.trans e2)
theorem ExcS.mono {Q : Exc → Env → Mem → Prop} {W : WX} (h : ExcS K G F Q W) (e : Ex G G') : ExcS K G' F Q W := fun c d x s dl G2 M2 H2 e2 => h c d x s dl G2 M2 H2 (e.trans e2)
theorem ExcS.at_ {Q : Exc → Env → Mem → Prop} {W : WX} {σ : L2.St} {δ : Env} (h : ExcS K G F Q W) (s : Sl K σ G δ) : ExcK K G F (fun x M => Q x δ M) (fun c d H => W c d σ H) :=
  fun c d x G2 M2 H2 e2 a2 x2 q => h c d x σ δ G2 M2 H2 e2 (s.mono e2) a2 x2 q
theorem ExcK.no {QV : XK} : ExcK K G F (fun _ _ => False) QV := fun _ _ _ _ _ _ _ _ _ q => q.elim
theorem ExcS.no {W : WX} : ExcS K G F (fun _ _ _ => False) W := fun _ _ _ _ _ _ _ _ _ _ _ _ q => q.elim
end

structure DE (X : Cx) (e : Expr) (t : DTE) : Prop where
  run : ∀ {δ M F Q Qx W σ G H QV}, t δ M Q Qx → Here X W δ M F σ G H → RetK X.K G F Q QV → ExcK X.K G F Qx (fun c d H => W c d σ H) → teOf X e σ H QV
structure DT (X : Cx) (e : Expr) (t : DTT) : Prop where
  run : ∀ {δ M F Q Qx W σ G H QV}, t δ M Q Qx → Here X W δ M F σ G H → RetT X.K G F Q QV → ExcK X.K G F Qx (fun c d H => W c d σ H) → ttOf X e σ H QV
structure DA (X : Cx) (es : List Expr) (t : DTA) : Prop where
  run : ∀ {δ M F Q Qx W σ G H QV}, t δ M Q Qx → Here X W δ M F σ G H → RetA X.K G F Q QV → ExcK X.K G F Qx (fun c d H => W c d σ H) → taOf X es σ H QV
/-- the ends of a statement -/
structure EndK (K : PySem.W.Frag) (G : Hp) (F : Mem) (E : Ends) (D : L2.Ends) (W : WX) : Prop where
  nx : NxK K G F E.nx D.nx
  rt : RetK K G F E.rt D.rt
  bk : NxK K G F E.bk D.bk
  ct : NxK K G F E.ct D.ct
  ex : ExcS K G F E.ex W
theorem EndK.mono {K : PySem.W.Frag} {G G' : Hp} {F : Mem} {E : Ends} {D : L2.Ends} {W : WX} (h : EndK K G F E D W) (e : Ex G G') : EndK K G' F E D W := ⟨h.nx.mono e, h.rt.mono e, h.bk.mono e, h.ct.mono e, h.ex.mono e⟩
structure DS (X : Cx) (st : Stmt) (t : DTS) : Prop where
  run : ∀ {δ M F E W σ G H D}, t E δ M → Here X W δ M F σ G H → EndK X.K G F E D W → tsOf X st D σ H
structure DSs (X : Cx) (st : List Stmt) (t : DTS) : Prop where
  run : ∀ {δ M F E W σ G H D}, t E δ M → Here X W δ M F σ G H → EndK X.K G F E D W → tssOf X st D σ H
theorem Here.go {X : Cx} {W : WX} {δ δ' : Env} {M M' F F' : Mem} {σ σ' : L2.St} {G G' H H' : Hp} (h : Here X W δ M F σ G H) (s : Sl X.K σ' G' δ') (a : At X.K G' M' F' H') : Here X W δ' M' F' σ' G' H' := ⟨h.tk, s, a⟩
theorem Here.on {X : Cx} {W : WX} {δ : Env} {M M' F F' : Mem} {σ : L2.St} {G G' H H' : Hp} (h : Here X W δ M F σ G H) (e : Ex G G') (a : At X.K G' M' F' H') : Here X W δ M' F' σ G' H' := ⟨h.tk, h.sl.mono e, a⟩
end DL

set_option Elab.async false
set_option linter.all false
set_option maxRecDepth 100000
set_option maxHeartbeats 4000000
/-! DL1: names, constants, operators, tests over data. -/
namespace DL
open PySem L2 PySem.Spec PyProof.Rows

/-! ### values as they are read -/
/-- v is d, a list of the memory read as its items -/
def Dw (K : PySem.W.Frag) (G H : Hp) (v : V) (d : D) : Prop := Dv K G v d ∨ ∃ a xs ds, v = .ref a ∧ d = .lst ds ∧ H a = some (.lst xs) ∧ DvA K G xs ds
def vw (M : Mem) : D → D
  | .ref a => match M a with | some (.lst ds) => .lst ds | _ => .ref a
  | d => d
theorem vw_lst {M : Mem} {a : Addr} {ds : List D} (h : M a = some (.lst ds)) : vw M (.ref a) = .lst ds := by simp [vw, h]
section
variable {K : PySem.W.Frag} {G H : Hp} {M F : Mem} {v : V} {d : D} {a : Addr} {Q : QE} {QV : VK}
theorem vw_ok (at_ : At K G M F H) (h : Dv K G v d) : Dw K G H v (vw M d) := by
  cases h with
  | ref a =>
    cases e : M a with
    | none =>
      rw [show vw M (.ref a) = .ref a by simp [vw, e]]
      exact .inl (.ref a)
    | some o =>
      cases o with
      | lst ds =>
        obtain ⟨ho, e1, k⟩ := at_.mem e
        rw [vw_lst e]
        cases ho with
        | lst xs => exact .inr ⟨a, xs, ds, rfl, rfl, e1, k⟩
        | _ => exact False.elim k
      | ins C dx fs =>
        rw [show vw M (.ref a) = .ref a by simp [vw, e]]
        exact .inl (.ref a)
      | dK kvs =>
        rw [show vw M (.ref a) = .ref a by simp [vw, e]]
        exact .inl (.ref a)
  | non => exact .inl .non
  | bl b => exact .inl (.bl b)
  | int b => exact .inl (.int b)
  | str b => exact .inl (.str b)
  | byt b => exact .inl (.byt b)
  | lst h1 h2 => exact .inl (.lst h1 h2)
  | scr h1 => exact .inl (.scr h1)
  | tup h1 h2 => exact .inl (.tup h1 h2)
  | ty b => exact .inl (.ty b)
theorem Dw.int {i : Int} (h : Dw K G H v (.int i)) : v = .int i := by
  rcases h with h | ⟨_, _, _, _, e, _⟩
  · cases h; rfl
  · cases e
theorem Dw.str {l : List Nat} (h : Dw K G H v (.str l)) : v = .str (S l) := by
  rcases h with h | ⟨_, _, _, _, e, _⟩
  · cases h; rfl
  · cases e
theorem Dw.bl {b : Bool} (h : Dw K G H v (.bl b)) : v = .bl b := by
  rcases h with h | ⟨_, _, _, _, e, _⟩
  · cases h; rfl
  · cases e
theorem Dw.non (h : Dw K G H v .non) : v = .non := by
  rcases h with h | ⟨_, _, _, _, e, _⟩
  · cases h; rfl
  · cases e
theorem Dw.byt {b : Array UInt8} (h : Dw K G H v (.byt b)) : v = .byt b := by
  rcases h with h | ⟨_, _, _, _, e, _⟩
  · cases h; rfl
  · cases e
theorem Dw.ty {n : String} (h : Dw K G H v (.ty n)) : v = .ty n := by
  rcases h with h | ⟨_, _, _, _, e, _⟩
  · cases h; rfl
  · cases e
theorem Dw.ref (h : Dw K G H v (.ref a)) : v = .ref a := by
  rcases h with h | ⟨_, _, _, _, e, _⟩
  · cases h; rfl
  · cases e
theorem Dw.scr {ns : List Int} (ex : Ex G H) (h : Dw K G H v (.scr ns)) : ∃ a, v = .ref a ∧ SqL K H a (ns.map V.int) := by
  rcases h with h | ⟨_, _, _, _, e, _⟩
  · cases h with | scr h => exact ⟨_, rfl, ex_l ex h⟩
  · cases e
theorem Dw.lst {ds : List D} (ex : Ex G H) (h : Dw K G H v (.lst ds)) : ∃ a xs, v = .ref a ∧ H a = some (.lst xs) ∧ DvA K G xs ds := by
  rcases h with h | ⟨a, xs, ds', e1, e, e2, e3⟩
  · cases h with | lst h k => exact ⟨_, _, rfl, ex _ _ h, k⟩
  · cases e; exact ⟨a, xs, e1, e2, e3⟩
theorem Dw.tup {ds : List D} (ex : Ex G H) (h : Dw K G H v (.tup ds)) : ∃ a xs, v = .ref a ∧ SqT K H a xs ∧ DvA K G xs ds := by
  rcases h with h | ⟨_, _, _, _, e, _⟩
  · cases h with | tup h k => exact ⟨_, _, rfl, ex_t ex h, k⟩
  · cases e
/-- a value goes on -/
theorem RetK.to (k : RetK K G F Q QV) (at_ : At K G M F H) (h : Dv K G v d) (q : Q d M) : QV v H := k v d G M H (Ex.refl G) at_ h q
/-- a new list goes on, immutable -/
theorem RetK.newL (k : RetK K G F Q QV) (at_ : At K G M F H) {p : Addr} (hp : H p = none) {xs : List V} {ds : List D} (h : DvA K G xs ds) (q : Q (.lst ds) M) : QV (.ref p) (upd H p (.lst xs)) := by
  obtain ⟨a1, e1⟩ := at_.frozen hp (.lst xs)
  exact k _ _ _ _ _ e1 a1 (.lst upd_same (h.mono e1)) q
theorem RetK.newT (k : RetK K G F Q QV) (at_ : At K G M F H) {p : Addr} (hp : H p = none) {xs : List V} {ds : List D} (h : DvA K G xs ds) (q : Q (.tup ds) M) : QV (.ref p) (upd H p (.tup xs)) := by
  obtain ⟨a1, e1⟩ := at_.frozen hp (.tup xs)
  exact k _ _ _ _ _ e1 a1 (.tup (SqT.of upd_same) (h.mono e1)) q
/-- .. into the memory -/
theorem RetK.newM (k : RetK K G F Q QV) (at_ : At K G M F H) {p : Addr} (hp : H p = none) {xs : List V} {ds : List D} (h : DvA K G xs ds) (q : Q (.ref p) (mset M p (.lst ds))) : QV (.ref p) (upd H p (.lst xs)) :=
  k _ _ _ _ _ (Ex.refl G) (at_.fresh hp (o := .lst xs) (m := .lst ds) h) (.ref p) q
end

/-! ### names and constants -/
section
variable {X : Cx}
def dVar (i : Nat) : DTE := fun δ M Q _ => ∃ d, δ[i]? = some (some d) ∧ Q d M
def dC (d : D) : DTE := fun _ M Q _ => Q d M
theorem de_var (i : Nat) {x : Str} {pos : Pos} (hN : X.N[i]? = some x := by rfl) (hv : Vis X.env.scope x := by first | exact Or.inl rfl | exact Or.inr (Or.inl rfl) | exact Or.inr (Or.inr rfl)) (hd : (x == ("__debug__" : Str)) = false := by decide)
    (hcd : (x == ("__classdict__" : Str)) = false := by decide) : DE X (.Name x pos) (dVar i) := by
  refine ⟨fun {δ M F Q Qx W σ G H QV} h hh kr _ => ?_⟩
  obtain ⟨d, e, q⟩ := h
  obtain ⟨v, e1, dv⟩ := hh.sl.at_ i d e
  exact PE.te (pe_var hN hv hd hcd) ⟨v, e1, kr.to hh.at_ dv q⟩
theorem de_int {i j pos} : DE X (.Constant (.int i) j pos) (dC (.int i)) := ⟨fun {δ M F Q Qx W σ G H QV} h hh kr _ => PE.te pe_int (kr.to hh.at_ (.int i) h)⟩
theorem de_bl {i j pos} : DE X (.Constant (.bool i) j pos) (dC (.bl i)) := ⟨fun {δ M F Q Qx W σ G H QV} h hh kr _ => PE.te pe_bl (kr.to hh.at_ (.bl i) h)⟩
theorem de_non {j pos} : DE X (.Constant .none j pos) (dC .non) := ⟨fun {δ M F Q Qx W σ G H QV} h hh kr _ => PE.te pe_non (kr.to hh.at_ .non h)⟩
theorem Dv.cs {K : PySem.W.Frag} {G : Hp} (s : String) : Dv K G (.str (Str.ofString s)) (.str (cs s)) := by
  rw [← S_cs]; exact .str _
theorem de_str {s : String} {j pos} : DE X (.Constant (.str (Str.ofString s)) j pos) (dC (.str (cs s))) := ⟨fun {δ M F Q Qx W σ G H QV} h hh kr _ => PE.te pe_str (kr.to hh.at_ (.cs s) h)⟩
/-- a module's constant -/
theorem de_glob {x : Str} {v : V} {d : D} {u : Value} {pos : Pos} (hm : X.mg x = some u) (r : RelV v u) (hd : ∀ G, Dv X.K G v d) (hg : Gl X x := by rfl) (hdb : (x == ("__debug__" : Str)) = false := by decide) : DE X (.Name x pos) (dC d) :=
  ⟨fun {δ M F Q Qx W σ G H QV} h hh kr _ => PE.te (pe_glob hg hm r hdb) (kr.to hh.at_ (hd G) h)⟩
/-- a module's constant, told -/
def GlobD (K : PySem.W.Frag) (mg : Str → Option Value) (x : Str) (d : D) : Prop := ∃ u v, mg x = some u ∧ RelV v u ∧ ∀ G, Dv K G v d
theorem de_g {x : Str} {d : D} {pos : Pos} (h : GlobD X.K X.mg x d) (hg : Gl X x := by rfl) (hdb : (x == ("__debug__" : Str)) = false := by decide) : DE X (.Name x pos) (dC d) :=
  let ⟨_, _, h1, h2, h3⟩ := h
  de_glob h1 h2 h3 hg hdb
/-- a built-in class as a value -/
theorem de_ty {x : Str} {n : String} {pos : Pos} (hm : X.mg x = none) (hv : bootBuiltins x = some (.type n)) (hg : Gl X x := by rfl) (hn : x ≠ "__name__" := by decide) (hdb : (x == ("__debug__" : Str)) = false := by decide) : DE X (.Name x pos) (dC (.ty n)) :=
  ⟨fun {δ M F Q Qx W σ G H QV} h hh kr _ => PE.te (pe_bltn (v := .ty n) hg hm hv rfl hn hdb) (kr.to hh.at_ (.ty n) h)⟩
end

/-! ### operators -/
abbrev A2 := D → D → Mem → QE → Prop
abbrev A1 := D → Mem → QE → Prop
abbrev AL := List D → Mem → QE → Prop
def DOp (X : Cx) (f : Value → Value → Sem Value) (r : A2) : Prop := ∃ r2 : R2, OpR X f r2 ∧ ∀ {G M F H x y dx dy Q QV}, At X.K G M F H → Dw X.K G H x dx → Dw X.K G H y dy → r dx dy M Q → RetK X.K G F Q QV → r2 x y H QV
def DIx (X : Cx) (r : A2) : Prop := ∃ r2 : R2, IxR X r2 ∧ ∀ {G M F H x y dx dy Q QV}, At X.K G M F H → Dw X.K G H x dx → Dw X.K G H y dy → r dx dy M Q → RetK X.K G F Q QV → r2 x y H QV
def DUn (X : Cx) (f : Value → Sem Value) (r : A1) : Prop := ∃ r2 : V → Hp → VK → Prop, UnR X f r2 ∧ ∀ {G M F H x dx Q QV}, At X.K G M F H → Dw X.K G H x dx → r dx M Q → RetK X.K G F Q QV → r2 x H QV
/-- a list of values, read -/
def DwA (K : PySem.W.Frag) (G H : Hp) : List V → List D → Prop := Paired (Dw K G H)
def DCall (X : Cx) (f : Value) (r : AL) : Prop := ∃ r2 : List V → Hp → VK → Prop, CallR X f r2 ∧ ∀ {G M F H xs ds Q QV}, At X.K G M F H → DwA X.K G H xs ds → r ds M Q → RetK X.K G F Q QV → r2 xs H QV
def dOp (r : A2) (ta tb : DTE) : DTE := fun δ M Q Qx => ta δ M (fun x M1 => tb δ M1 (fun y M2 => r (vw M2 x) (vw M2 y) M2 Q) Qx) Qx
def dUn (r : A1) (ta : DTE) : DTE := fun δ M Q Qx => ta δ M (fun x M1 => r (vw M1 x) M1 Q) Qx
section
variable {X : Cx} {a b e : Expr} {ta tb te : DTE} {pos : Pos} {r : A2}
theorem two {δ : Env} {M F : Mem} {Qx : QX} {W : WX} {σ : L2.St} {G H : Hp} {P : D → D → Mem → Prop} {R : V → V → Hp → Prop} (ha : DE X a ta) (hb : DE X b tb) (h : ta δ M (fun x M1 => tb δ M1 (fun y M2 => P x y M2) Qx) Qx) (hh : Here X W δ M F σ G H)
    (kx : ExcK X.K G F Qx (fun c d H => W c d σ H)) (k : ∀ x y dx dy G' M' H', Ex G G' → At X.K G' M' F H' → Dv X.K G' x dx → Dv X.K G' y dy → P dx dy M' → R x y H') :
    teOf X a σ H (fun x H1 => teOf X b σ H1 (fun y H2 => R x y H2)) :=
  ha.run h hh (fun x dx G1 M1 H1 e1 a1 d1 q1 => hb.run q1 (hh.on e1 a1) (fun y dy G2 M2 H2 e2 a2 d2 q2 => k x y dx dy G2 M2 H2 (e1.trans e2) a2 (d1.mono e2) d2 q2) (kx.mono e1)) kx
theorem de_op {op : Operator} (ho : DOp X (binaryOp op) r) (ha : DE X a ta) (hb : DE X b tb) : DE X (.BinOp a op b pos) (dOp r ta tb) := by
  obtain ⟨r2, o, k⟩ := ho
  exact ⟨fun {δ M F Q Qx W σ G H QV} h hh kr kx => PE.te (pe_op o (pe_of X a) (pe_of X b)) (two ha hb h hh kx fun x y dx dy G' M' H' e1 a1 d1 d2 q => k a1 (vw_ok a1 d1) (vw_ok a1 d2) q (kr.mono e1))⟩
theorem de_ix (ho : DIx X r) (ha : DE X a ta) (hb : DE X b tb) (hs : PlainIx b := by exact fun _ _ => rfl) : DE X (.Subscript a b pos) (dOp r ta tb) := by
  obtain ⟨r2, o, k⟩ := ho
  exact ⟨fun {δ M F Q Qx W σ G H QV} h hh kr kx => PE.te (pe_ix o (pe_of X a) (pe_of X b) hs) (two ha hb h hh kx fun x y dx dy G' M' H' e1 a1 d1 d2 q => k a1 (vw_ok a1 d1) (vw_ok a1 d2) q (kr.mono e1))⟩
theorem de_cmp {op : CmpOp} (ho : DOp X (compareOp op) r) (ha : DE X a ta) (hb : DE X b tb) (hm : behindInMarks op b = false := by first | exact nomark _ | rfl) : DE X (.Compare a [op] [b] pos) (dOp r ta tb) := by
  obtain ⟨r2, o, k⟩ := ho
  exact ⟨fun {δ M F Q Qx W σ G H QV} h hh kr kx => PE.te (pe_cmpR o (pe_of X a) (pe_of X b) hm) (two ha hb h hh kx fun x y dx dy G' M' H' e1 a1 d1 d2 q => k a1 (vw_ok a1 d1) (vw_ok a1 d2) q (kr.mono e1))⟩
/-- a value as a test: it is a bool -/
def dB (t : DTE) : DTT := fun δ M Q Qx => t δ M (fun d M1 => ∃ b, d = .bl b ∧ Q b M1) Qx
theorem retB {K : PySem.W.Frag} {G : Hp} {F : Mem} {Q : Bool → Mem → Prop} {QV : Bool → Hp → Prop} (k : RetT K G F Q QV) : RetK K G F (fun d M1 => ∃ b, d = .bl b ∧ Q b M1) (fun x H' => ∃ c, x = .bl c ∧ QV c H') := fun v d G' M' H' e1 a1 d1 q => by
  obtain ⟨b, e, q⟩ := q
  subst e
  cases d1
  exact ⟨b, rfl, k b G' M' H' e1 a1 q⟩
theorem dt_cmp {op : CmpOp} (ho : DOp X (compareOp op) r) (ha : DE X a ta) (hb : DE X b tb) (hm : behindInMarks op b = false := by first | exact nomark _ | rfl) : DT X (.Compare a [op] [b] pos) (dB (dOp r ta tb)) := by
  obtain ⟨r2, o, k⟩ := ho
  exact ⟨fun {δ M F Q Qx W σ G H QV} h hh kr kx => PT.tt (pt_cmpR o (pe_of X a) (pe_of X b) hm) (two ha hb h hh kx fun x y dx dy G' M' H' e1 a1 d1 d2 q => k a1 (vw_ok a1 d1) (vw_ok a1 d2) q (retB (kr.mono e1)))⟩
theorem de_un {op : UnaryOp} {r : A1} (ho : DUn X (unaryOp op) r) (ha : DE X a ta) : DE X (.UnaryOp op a pos) (dUn r ta) := by
  obtain ⟨r2, o, k⟩ := ho
  exact ⟨fun {δ M F Q Qx W σ G H QV} h hh kr kx => PE.te (pe_un o (pe_of X a)) (ha.run h hh (fun x dx G1 M1 H1 e1 a1 d1 q1 => k a1 (vw_ok a1 d1) q1 (kr.mono e1)) kx)⟩
end

/-! ### truth -/
/-- a value's truth -/
def tru : D → Option Bool
  | .non => some false
  | .bl b => some b
  | .int i => some (i != 0)
  | .str l => some (!l.isEmpty)
  | .lst l => some (!l.isEmpty)
  | .tup l => some (!l.isEmpty)
  | .scr l => some (!l.isEmpty)
  | _ => none
/-- texts have a largest size -/
def okS : D → Prop
  | .str l => l.length ≤ 16777216
  | _ => True
theorem DvA.isEmpty {K : PySem.W.Frag} {G : Hp} {xs : List V} {ds : List D} (h : DvA K G xs ds) : xs.isEmpty = ds.isEmpty := by
  cases h <;> rfl
theorem tru_v {K : PySem.W.Frag} {G H : Hp} {v : V} {d : D} {b : Bool} (ex : Ex G H) (h : Dw K G H v d) (e : tru d = some b) (z : okS d) : TruV K v H b := by
  cases d with
  | non => rw [h.non]; cases e; rfl
  | bl c => rw [h.bl]; cases e; rfl
  | int c => rw [h.int]; cases e; rfl
  | str l =>
    rw [h.str]
    cases e
    have z' : l.length ≤ 16777216 := z
    refine ⟨by rw [S_len, sizeLine_eq]; exact z', ?_⟩
    rw [S_len]
    cases l with
    | nil => rfl
    | cons c r => simp; omega
  | lst l =>
    obtain ⟨a, xs, rfl, ha, k⟩ := h.lst ex
    cases e
    exact .inl ⟨xs, SqL.of ha, by rw [k.isEmpty]⟩
  | scr l =>
    obtain ⟨a, rfl, ha⟩ := h.scr ex
    cases e
    exact .inl ⟨_, ha, by cases l <;> rfl⟩
  | tup l =>
    obtain ⟨a, xs, rfl, ha, k⟩ := h.tup ex
    cases e
    exact .inr (.inl ⟨xs, ha, by rw [k.isEmpty]⟩)
  | _ => cases e
section
variable {X : Cx} {a b e : Expr} {ta tb te : DTE} {tt uu : DTT} {pos : Pos} {rest : List Expr}
/-- a value's truth as a test -/
def dTru (t : DTE) : DTT := fun δ M Q Qx => t δ M (fun d M1 => ∃ b, tru (vw M1 d) = some b ∧ okS (vw M1 d) ∧ Q b M1) Qx
theorem dt_tru (he : DE X e te) (hp : ∀ whole, isTrue e X.env whole = (do let v ← whole; standAt e.pos; holding [v] (truthy v)) := by intro _; rfl) : DT X e (dTru te) :=
  ⟨fun {δ M F Q Qx W σ G H QV} h hh kr kx => PT.tt (pt_truth (pe_of X e) hp) (he.run h hh (fun x dx G1 M1 H1 e1 a1 d1 q1 => by
    obtain ⟨b, e2, z, q⟩ := q1
    exact ⟨b, tru_v a1.ex (vw_ok a1 d1) e2 z, kr b G1 M1 H1 e1 a1 q⟩) kx)⟩
structure DTw (X : Cx) (e : Expr) (t : DTT) : Prop where
  run : ∀ {δ M F Q Qx W σ G H QV}, t δ M Q Qx → Here X W δ M F σ G H → RetT X.K G F Q QV → ExcK X.K G F Qx (fun c d H => W c d σ H) →
    ∀ (whole : Sem Value) pins s, Inv X pins σ H s → wpAny (model X.prog X.w) X.A (isTrue e X.env whole) (TP X pins σ QV) X.xe s
theorem DTw.dt (h : DTw X e tt) : DT X e tt := ⟨fun {δ M F Q Qx W σ G H QV} q hh kr kx pins s I => h.run q hh kr kx _ pins s I⟩
def dAnd (t u : DTT) : DTT := fun δ M Q Qx => t δ M (fun c M1 => if c = true then u δ M1 Q Qx else Q false M1) Qx
def dOr (t u : DTT) : DTT := fun δ M Q Qx => t δ M (fun c M1 => if c = true then Q true M1 else u δ M1 Q Qx) Qx
def dNot (t : DTT) : DTT := fun δ M Q Qx => t δ M (fun c M1 => Q (!c) M1) Qx
theorem dw_and1 (ha : DT X a tt) : DTw X (.BoolOp .And [a] pos) tt := ⟨fun {δ M F Q Qx W σ G H QV} q hh kr kx wh pins s I =>
  (pw_and1 (pt_of X a)).run wh pins s σ H QV I (ha.run q hh kr kx)⟩
theorem dw_or1 (ha : DT X a tt) : DTw X (.BoolOp .Or [a] pos) tt := ⟨fun {δ M F Q Qx W σ G H QV} q hh kr kx wh pins s I =>
  (pw_or1 (pt_of X a)).run wh pins s σ H QV I (ha.run q hh kr kx)⟩
def ttW (X : Cx) (e : Expr) : TT := fun σ H Q => ∀ (whole : Sem Value) pins s, Inv X pins σ H s → wpAny (model X.prog X.w) X.A (isTrue e X.env whole) (TP X pins σ Q) X.xe s
theorem pw_of (X : Cx) (e : Expr) : PW X e (ttW X e) := ⟨fun wh pins s _ _ _ I h => h wh pins s I⟩
theorem dw_and (ha : DT X a tt) (hb : DTw X (.BoolOp .And (b :: rest) pos) uu) : DTw X (.BoolOp .And (a :: b :: rest) pos) (dAnd tt uu) := ⟨fun {δ M F Q Qx W σ G H QV} q hh kr kx wh pins s I =>
  (pw_and (pt_of X a) (pw_of X (.BoolOp .And (b :: rest) pos))).run wh pins s σ H QV I (ha.run q hh (fun c G1 M1 H1 e1 a1 q1 => by
    cases c with
    | true => exact hb.run q1 (hh.on e1 a1) (kr.mono e1) (kx.mono e1)
    | false => exact kr false G1 M1 H1 e1 a1 q1) kx)⟩
theorem dw_or (ha : DT X a tt) (hb : DTw X (.BoolOp .Or (b :: rest) pos) uu) : DTw X (.BoolOp .Or (a :: b :: rest) pos) (dOr tt uu) := ⟨fun {δ M F Q Qx W σ G H QV} q hh kr kx wh pins s I =>
  (pw_or (pt_of X a) (pw_of X (.BoolOp .Or (b :: rest) pos))).run wh pins s σ H QV I (ha.run q hh (fun c G1 M1 H1 e1 a1 q1 => by
    cases c with
    | false => exact hb.run q1 (hh.on e1 a1) (kr.mono e1) (kx.mono e1)
    | true => exact kr true G1 M1 H1 e1 a1 q1) kx)⟩
theorem dt_not (ha : DT X a tt) : DT X (.UnaryOp .Not a pos) (dNot tt) := ⟨fun {δ M F Q Qx W σ G H QV} q hh kr kx =>
  PT.tt (pt_not (pt_of X a)) (ha.run q hh (fun c G1 M1 H1 e1 a1 q1 => kr (!c) G1 M1 H1 e1 a1 q1) kx)⟩
/-- and, or, not as values, by truth -/
def dAndV (ta tb : DTE) : DTE := fun δ M Q Qx => ta δ M (fun d M1 => ∃ b, tru (vw M1 d) = some b ∧ okS (vw M1 d) ∧ if b = true then tb δ M1 Q Qx else Q d M1) Qx
def dOrV (ta tb : DTE) : DTE := fun δ M Q Qx => ta δ M (fun d M1 => ∃ b, tru (vw M1 d) = some b ∧ okS (vw M1 d) ∧ if b = true then Q d M1 else tb δ M1 Q Qx) Qx
def dNotV (ta : DTE) : DTE := fun δ M Q Qx => ta δ M (fun d M1 => ∃ b, tru (vw M1 d) = some b ∧ okS (vw M1 d) ∧ Q (.bl (!b)) M1) Qx
theorem de_one {op} (h : DE X a ta) : DE X (.BoolOp op [a] pos) ta := ⟨fun {δ M F Q Qx W σ G H QV} q hh kr kx => PE.te (pe_one (pe_of X a)) (h.run q hh kr kx)⟩
theorem de_and (ha : DE X a ta) (hb : DE X (.BoolOp .And (b :: rest) pos) tb) : DE X (.BoolOp .And (a :: b :: rest) pos) (dAndV ta tb) := ⟨fun {δ M F Q Qx W σ G H QV} q hh kr kx =>
  PE.te (pe_andT (pe_of X a) (pe_of X _)) (ha.run q hh (fun v d G1 M1 H1 e1 a1 d1 q1 => by
    obtain ⟨c, e2, z, q⟩ := q1
    refine ⟨c, tru_v a1.ex (vw_ok a1 d1) e2 z, ?_⟩
    cases c with
    | true => exact hb.run q (hh.on e1 a1) (kr.mono e1) (kx.mono e1)
    | false => exact kr v d G1 M1 H1 e1 a1 d1 q) kx)⟩
theorem de_or (ha : DE X a ta) (hb : DE X (.BoolOp .Or (b :: rest) pos) tb) : DE X (.BoolOp .Or (a :: b :: rest) pos) (dOrV ta tb) := ⟨fun {δ M F Q Qx W σ G H QV} q hh kr kx =>
  PE.te (pe_orT (pe_of X a) (pe_of X _)) (ha.run q hh (fun v d G1 M1 H1 e1 a1 d1 q1 => by
    obtain ⟨c, e2, z, q⟩ := q1
    refine ⟨c, tru_v a1.ex (vw_ok a1 d1) e2 z, ?_⟩
    cases c with
    | false => exact hb.run q (hh.on e1 a1) (kr.mono e1) (kx.mono e1)
    | true => exact kr v d G1 M1 H1 e1 a1 d1 q) kx)⟩
theorem de_not (ha : DE X a ta) : DE X (.UnaryOp .Not a pos) (dNotV ta) := ⟨fun {δ M F Q Qx W σ G H QV} q hh kr kx =>
  PE.te (pe_notT (pe_of X a)) (ha.run q hh (fun v d G1 M1 H1 e1 a1 d1 q1 => by
    obtain ⟨c, e2, z, q⟩ := q1
    exact ⟨c, tru_v a1.ex (vw_ok a1 d1) e2 z, kr _ _ G1 M1 H1 e1 a1 (.bl (!c)) q⟩) kx)⟩
/-- a if t else b -/
def dIf (t : DTT) (ta tb : DTE) : DTE := fun δ M Q Qx => t δ M (fun c M1 => if c = true then ta δ M1 Q Qx else tb δ M1 Q Qx) Qx
theorem de_if {c : Expr} (hc : DT X c tt) (ha : DE X a ta) (hb : DE X b tb) : DE X (.IfExp c a b pos) (dIf tt ta tb) := ⟨fun {δ M F Q Qx W σ G H QV} q hh kr kx =>
  PE.te (pe_ifExp (pt_of X c) (pe_of X a) (pe_of X b)) (hc.run q hh (fun d G1 M1 H1 e1 a1 q1 => by
    cases d with
    | true => exact ha.run q1 (hh.on e1 a1) (kr.mono e1) (kx.mono e1)
    | false => exact hb.run q1 (hh.on e1 a1) (kr.mono e1) (kx.mono e1)) kx)⟩
/-- a op b op' c -/
def dChain (r r' : A2) (ta tb tc : DTE) : DTE := fun δ M Q Qx => ta δ M (fun x M1 => tb δ M1 (fun y M2 => r (vw M2 x) (vw M2 y) M2 (fun z M3 => ∃ k, z = .bl k ∧
  if k = true then tc δ M3 (fun w M4 => r' (vw M4 y) (vw M4 w) M4 Q) Qx else Q (.bl false) M3)) Qx) Qx
theorem chain_core {c : Expr} {tc : DTE} {r r' : A2} {r2 r2' : R2} {δ : Env} {M F : Mem} {Q : QE} {Qx : QX} {W : WX} {σ : L2.St} {G H : Hp} {QV : VK} (k : ∀ {G M F H x y dx dy Q QV}, At X.K G M F H → Dw X.K G H x dx → Dw X.K G H y dy → r dx dy M Q → RetK X.K G F Q QV → r2 x y H QV)
    (k' : ∀ {G M F H x y dx dy Q QV}, At X.K G M F H → Dw X.K G H x dx → Dw X.K G H y dy → r' dx dy M Q → RetK X.K G F Q QV → r2' x y H QV) (ha : DE X a ta) (hb : DE X b tb) (hc : DE X c tc)
    (h : dChain r r' ta tb tc δ M Q Qx) (hh : Here X W δ M F σ G H) (kr : RetK X.K G F Q QV) (kx : ExcK X.K G F Qx (fun c d H => W c d σ H)) : tChain r2 r2' (teOf X a) (teOf X b) (teOf X c) σ H QV :=
  two ha hb h hh kx fun x y dx dy G' M' H' e1 a1 d1 d2 q => k a1 (vw_ok a1 d1) (vw_ok a1 d2) q fun v d G2 M2 H2 e2 a2 d3 q2 => by
    obtain ⟨b', e3, q3⟩ := q2
    subst e3
    cases d3
    refine ⟨b', rfl, ?_⟩
    cases b' with
    | true =>
      exact hc.run q3 (hh.on (e1.trans e2) a2) (fun w dw G3 M3 H3 e4 a3 d4 q4 => k' a3 (vw_ok a3 (d2.mono (e2.trans e4))) (vw_ok a3 d4) q4 (kr.mono ((e1.trans e2).trans e4))) (kx.mono (e1.trans e2))
    | false => exact kr _ _ G2 M2 H2 (e1.trans e2) a2 (.bl false) q3
theorem de_chain {op op' : CmpOp} {c : Expr} {tc : DTE} {r r' : A2} (ho : DOp X (compareOp op) r) (ho' : DOp X (compareOp op') r') (ha : DE X a ta) (hb : DE X b tb) (hc : DE X c tc) (hm : lastMarks [op, op'] [b, c] = false := by with_unfolding_all rfl) :
    DE X (.Compare a [op, op'] [b, c] pos) (dChain r r' ta tb tc) := by
  obtain ⟨r2, o, k⟩ := ho
  obtain ⟨r2', o', k'⟩ := ho'
  exact ⟨fun {δ M F Q Qx W σ G H QV} h hh kr kx => PE.te (pe_chain o o' (pe_of X a) (pe_of X b) (pe_of X c) hm) (chain_core k k' ha hb hc h hh kr kx)⟩
theorem dt_chain {op op' : CmpOp} {c : Expr} {tc : DTE} {r r' : A2} (ho : DOp X (compareOp op) r) (ho' : DOp X (compareOp op') r') (ha : DE X a ta) (hb : DE X b tb) (hc : DE X c tc) (hm : lastMarks [op, op'] [b, c] = false := by with_unfolding_all rfl) :
    DT X (.Compare a [op, op'] [b, c] pos) (dB (dChain r r' ta tb tc)) := by
  obtain ⟨r2, o, k⟩ := ho
  obtain ⟨r2', o', k'⟩ := ho'
  exact ⟨fun {δ M F Q Qx W σ G H QV} h hh kr kx => PT.tt (pt_chain o o' (pe_of X a) (pe_of X b) (pe_of X c) hm) (chain_core k k' ha hb hc h hh (retB kr) kx)⟩
end
end DL

set_option Elab.async false
set_option linter.all false
set_option maxRecDepth 100000
set_option maxHeartbeats 4000000
/-! DL2: what the operators do on data. -/
namespace DL
open PySem L2 PySem.Spec PyProof.Rows

/-! ### data of the library's kind -/
mutual
def py : D → PyData
  | .non => .none
  | .bl b => .bool b
  | .int i => .int i
  | .str l => .str (S l)
  | .lst xs => .list (pys xs)
  | .tup xs => .tuple (pys xs)
  | .scr ns => .list (ns.map .int)
  | .byt _ => .none
  | .ref _ => .none
  | .ty _ => .none
def pys : List D → List PyData
  | [] => []
  | x :: r => py x :: pys r
end
mutual
/-- nothing but None, bools, ints, texts, lists, tuples -/
def pl : D → Bool
  | .non => true
  | .bl _ => true
  | .int _ => true
  | .str _ => true
  | .lst xs => pls xs
  | .tup xs => pls xs
  | .scr _ => true
  | .byt _ => false
  | .ref _ => false
  | .ty _ => false
def pls : List D → Bool
  | [] => true
  | x :: r => pl x && pls r
end
theorem pys_map : ∀ l : List D, pys l = l.map py
  | [] => by simp [pys]
  | x :: r => by simp [pys, pys_map r]
theorem pls_all : ∀ l : List D, pls l = l.all pl
  | [] => by simp [pls]
  | x :: r => by simp [pls, pls_all r]
theorem plain_ints : ∀ l : List Int, PyData.plainAll (l.map .int) = true
  | [] => by simp [PyData.plainAll]
  | x :: r => by simp [PyData.plainAll, PyData.plain, plain_ints r]
mutual
theorem plain_py : ∀ d : D, (py d).plain = true
  | .non => by simp [py, PyData.plain]
  | .bl b => by simp [py, PyData.plain]
  | .int i => by simp [py, PyData.plain]
  | .str l => by simp [py, PyData.plain]
  | .lst xs => by simp [py, PyData.plain, plain_pys xs]
  | .tup xs => by simp [py, PyData.plain, plain_pys xs]
  | .scr ns => by simp [py, PyData.plain, plain_ints]
  | .byt _ => by simp [py, PyData.plain]
  | .ref _ => by simp [py, PyData.plain]
  | .ty _ => by simp [py, PyData.plain]
theorem plain_pys : ∀ l : List D, PyData.plainAll (pys l) = true
  | [] => by simp [pys, PyData.plainAll]
  | x :: r => by simp [pys, PyData.plainAll, plain_py x, plain_pys r]
end
section
variable {K : PySem.W.Frag} {G H : Hp}
theorem dpAll_ints : ∀ ns : List Int, DpAll K H (ns.map V.int) (ns.map .int)
  | [] => .nil
  | n :: r => .cons (.int n) (dpAll_ints r)
mutual
theorem Dv.dp (ex : Ex G H) : ∀ {v : V} {d : D}, Dv K G v d → pl d = true → Dp K H v (py d)
  | _, _, .non, _ => by simp only [py]; exact .non
  | _, _, .bl b, _ => by simp only [py]; exact .bl b
  | _, _, .int b, _ => by simp only [py]; exact .int b
  | _, _, .str b, _ => by simp only [py]; exact .str (S b)
  | _, _, .byt b, h => by simp [pl] at h
  | _, _, .lst h q, z => by simp only [py]; simp only [pl] at z; exact .lst (SqL.of (ex _ _ h)) (DvA.dp ex q z)
  | _, _, .scr h, _ => by simp only [py]; exact .lst (ex_l ex h) (dpAll_ints _)
  | _, _, .tup h q, z => by simp only [py]; simp only [pl] at z; exact .tup (ex_t ex h) (DvA.dp ex q z)
  | _, _, .ref b, h => by simp [pl] at h
  | _, _, .ty b, h => by simp [pl] at h
theorem DvA.dp (ex : Ex G H) : ∀ {v : List V} {d : List D}, DvA K G v d → pls d = true → DpAll K H v (pys d)
  | _, _, .nil, _ => by simp only [pys]; exact .nil
  | _, _, .cons a b, h => by
    simp only [pls, Bool.and_eq_true] at h
    simp only [pys]
    exact .cons (Dv.dp ex a h.1) (DvA.dp ex b h.2)
end
theorem Dw.dp (ex : Ex G H) {v : V} {d : D} (h : Dw K G H v d) (z : pl d = true) : Dp K H v (py d) := by
  rcases h with h | ⟨a, xs, ds, rfl, rfl, h1, h2⟩
  · exact h.dp ex z
  · simp only [py]
    simp only [pl] at z
    exact .lst (SqL.of h1) (h2.dp ex z)
end

/-! ### == -/
/-- data of one kind at each place, not too deep -/
def sm (x : D) : Prop := pl x = true ∧ (py x).depth ≤ 60
def deq (x y : D) : Bool := PyData.eqv (py x) (py y)
def aEq : A2
  | .int i, .int j, M, Q => Q (.bl (decide (i = j))) M
  | .str a, .str b, M, Q => Q (.bl (decide (a = b))) M
  | .bl a, .bl b, M, Q => Q (.bl (decide (a = b))) M
  | x, y, M, Q => sm x ∧ sm y ∧ Q (.bl (deq x y)) M
def aNe : A2
  | .int i, .int j, M, Q => Q (.bl (!decide (i = j))) M
  | .str a, .str b, M, Q => Q (.bl (!decide (a = b))) M
  | .bl a, .bl b, M, Q => Q (.bl (!decide (a = b))) M
  | x, y, M, Q => sm x ∧ sm y ∧ Q (.bl (!deq x y)) M
def rEqP (K : PySem.W.Frag) : R2 := fun x y H Q => ∃ d e, Dp K H x d ∧ Dp K H y e ∧ d.plain = true ∧ e.plain = true ∧ d.depth ≤ 60 ∧ Q (.bl (PyData.eqv d e)) H
def rNeP (K : PySem.W.Frag) : R2 := fun x y H Q => ∃ d e, Dp K H x d ∧ Dp K H y e ∧ d.plain = true ∧ e.plain = true ∧ d.depth ≤ 60 ∧ Q (.bl (!PyData.eqv d e)) H
section
variable {X : Cx}
theorem op_eqP (hu : X.A.units + 64 < cLine) : OpR X (compareOp .Eq) (rEqP X.K) := by
  intro pins s σ H x y v u Q I rx ry h
  obtain ⟨d, e, hd, he, sd, se, z, q⟩ := h
  obtain ⟨as, r1⟩ := Dp.reads I d x v hd rx
  obtain ⟨bs, r2⟩ := Dp.reads I e y u he ry
  exact SeqAt.eq_plain r1 r2 sd se (by omega) ⟨.bl _, H, I, rfl, q⟩
theorem op_neP (hu : X.A.units + 64 < cLine) : OpR X (compareOp .NotEq) (rNeP X.K) := by
  intro pins s σ H x y v u Q I rx ry h
  obtain ⟨d, e, hd, he, sd, se, z, q⟩ := h
  obtain ⟨as, r1⟩ := Dp.reads I d x v hd rx
  obtain ⟨bs, r2⟩ := Dp.reads I e y u he ry
  exact SeqAt.ne_plain r1 r2 sd se (by omega) ⟨.bl _, H, I, rfl, q⟩
theorem deq_int (i j : Int) : deq (.int i) (.int j) = decide (i = j) := by simp [deq, py, PyData.eqv]; rw [Bool.eq_iff_iff]; simp
theorem deq_bl (i j : Bool) : deq (.bl i) (.bl j) = decide (i = j) := by simp [deq, py, PyData.eqv]; rw [Bool.eq_iff_iff]; simp
theorem deq_str (i j : List Nat) : deq (.str i) (.str j) = decide (i = j) := by
  simp only [deq, py, PyData.eqv]
  rw [SX.S_beq_eq]
theorem sm_int (i : Int) : sm (.int i) := ⟨by simp [pl], by simp [py, PyData.depth]⟩
theorem sm_bl (i : Bool) : sm (.bl i) := ⟨by simp [pl], by simp [py, PyData.depth]⟩
theorem sm_str (i : List Nat) : sm (.str i) := ⟨by simp [pl], by simp [py, PyData.depth]⟩
theorem sm_non : sm .non := ⟨by simp [pl], by simp [py, PyData.depth]⟩
theorem aEq_gen {x y : D} {M : Mem} {Q : QE} (h : aEq x y M Q) : sm x ∧ sm y ∧ Q (.bl (deq x y)) M := by
  cases x <;> cases y <;> first
    | exact h
    | (refine ⟨sm_int _, sm_int _, ?_⟩; rw [deq_int]; exact h)
    | (refine ⟨sm_str _, sm_str _, ?_⟩; rw [deq_str]; exact h)
    | (refine ⟨sm_bl _, sm_bl _, ?_⟩; rw [deq_bl]; exact h)
theorem aNe_gen {x y : D} {M : Mem} {Q : QE} (h : aNe x y M Q) : sm x ∧ sm y ∧ Q (.bl (!deq x y)) M := by
  cases x <;> cases y <;> first
    | exact h
    | (refine ⟨sm_int _, sm_int _, ?_⟩; rw [deq_int]; exact h)
    | (refine ⟨sm_str _, sm_str _, ?_⟩; rw [deq_str]; exact h)
    | (refine ⟨sm_bl _, sm_bl _, ?_⟩; rw [deq_bl]; exact h)
theorem op_Eq (hu : X.A.units + 64 < cLine) : DOp X (compareOp .Eq) aEq := ⟨_, op_eqP hu, fun {G M F H x y dx dy Q QV} at_ h1 h2 h kr => by
  obtain ⟨z1, z2, q⟩ := aEq_gen h
  exact ⟨_, _, h1.dp at_.ex z1.1, h2.dp at_.ex z2.1, plain_py _, plain_py _, z1.2, kr.to at_ (.bl _) q⟩⟩
theorem op_Ne (hu : X.A.units + 64 < cLine) : DOp X (compareOp .NotEq) aNe := ⟨_, op_neP hu, fun {G M F H x y dx dy Q QV} at_ h1 h2 h kr => by
  obtain ⟨z1, z2, q⟩ := aNe_gen h
  exact ⟨_, _, h1.dp at_.ex z1.1, h2.dp at_.ex z2.1, plain_py _, plain_py _, z1.2, kr.to at_ (.bl _) q⟩⟩
end

/-! ### <, <=, >, >= -/
def dlt (x y : D) : Bool := PySem.W.dataLt (py x) (py y)
/-- the two can be compared -/
def cmpb (x y : D) : Prop := sm x ∧ sm y ∧ PySem.W.alike (py x) (py y) = true ∧ py x ≠ .none
def aLt : A2
  | .int i, .int j, M, Q => Q (.bl (decide (i < j))) M
  | x, y, M, Q => cmpb x y ∧ Q (.bl (dlt x y)) M
def aGt : A2
  | .int i, .int j, M, Q => Q (.bl (decide (j < i))) M
  | x, y, M, Q => cmpb x y ∧ Q (.bl (dlt y x)) M
def aLe : A2
  | .int i, .int j, M, Q => Q (.bl (decide (i ≤ j))) M
  | x, y, M, Q => cmpb x y ∧ Q (.bl (!dlt y x)) M
def aGe : A2
  | .int i, .int j, M, Q => Q (.bl (decide (j ≤ i))) M
  | x, y, M, Q => cmpb x y ∧ Q (.bl (!dlt x y)) M
def rCmpP (K : PySem.W.Frag) (f : PyData → PyData → Bool) : R2 := fun x y H Q => ∃ d e, Dp K H x d ∧ Dp K H y e ∧ PySem.W.alike d e = true ∧ d ≠ .none ∧ d.depth ≤ 60 ∧ Q (.bl (f d e)) H
section
variable {X : Cx}
theorem op_ltP (hu : X.A.units + 64 < cLine) : OpR X (compareOp .Lt) (rCmpP X.K fun d e => PySem.W.dataLt d e) := by
  intro pins s σ H x y v u Q I rx ry h
  obtain ⟨d, e, hd, he, sd, se, z, q⟩ := h
  obtain ⟨as, r1⟩ := Dp.reads I d x v hd rx
  obtain ⟨bs, r2⟩ := Dp.reads I e y u he ry
  exact PySem.W.lt_data r1 r2 sd se (by omega) ⟨.bl _, H, I, rfl, q⟩
theorem op_gtP (hu : X.A.units + 64 < cLine) : OpR X (compareOp .Gt) (rCmpP X.K fun d e => PySem.W.dataLt e d) := by
  intro pins s σ H x y v u Q I rx ry h
  obtain ⟨d, e, hd, he, sd, se, z, q⟩ := h
  obtain ⟨as, r1⟩ := Dp.reads I d x v hd rx
  obtain ⟨bs, r2⟩ := Dp.reads I e y u he ry
  exact PySem.W.gt_data r1 r2 sd se (by omega) ⟨.bl _, H, I, rfl, q⟩
theorem op_leP (hu : X.A.units + 64 < cLine) : OpR X (compareOp .LtE) (rCmpP X.K fun d e => !PySem.W.dataLt e d) := by
  intro pins s σ H x y v u Q I rx ry h
  obtain ⟨d, e, hd, he, sd, se, z, q⟩ := h
  obtain ⟨as, r1⟩ := Dp.reads I d x v hd rx
  obtain ⟨bs, r2⟩ := Dp.reads I e y u he ry
  exact PySem.W.le_data r1 r2 sd se (by omega) ⟨.bl _, H, I, rfl, q⟩
theorem op_geP (hu : X.A.units + 64 < cLine) : OpR X (compareOp .GtE) (rCmpP X.K fun d e => !PySem.W.dataLt d e) := by
  intro pins s σ H x y v u Q I rx ry h
  obtain ⟨d, e, hd, he, sd, se, z, q⟩ := h
  obtain ⟨as, r1⟩ := Dp.reads I d x v hd rx
  obtain ⟨bs, r2⟩ := Dp.reads I e y u he ry
  exact PySem.W.ge_data r1 r2 sd se (by omega) ⟨.bl _, H, I, rfl, q⟩
theorem dlt_int (i j : Int) : dlt (.int i) (.int j) = decide (i < j) := by simp only [dlt, py]; exact PySem.W.dataLt_int i j
theorem cmpb_int (i j : Int) : cmpb (.int i) (.int j) := ⟨sm_int i, sm_int j, by simp [py, PySem.W.alike], by simp [py]⟩
theorem op_Lt (hu : X.A.units + 64 < cLine) : DOp X (compareOp .Lt) aLt := ⟨_, op_ltP hu, fun {G M F H x y dx dy Q QV} at_ h1 h2 h kr => by
  have g : cmpb dx dy ∧ Q (.bl (dlt dx dy)) M := by
    cases dx <;> cases dy <;> first
      | exact h
      | (refine ⟨cmpb_int _ _, ?_⟩; rw [dlt_int]; exact h)
  obtain ⟨⟨z1, z2, z3, z4⟩, q⟩ := g
  exact ⟨_, _, h1.dp at_.ex z1.1, h2.dp at_.ex z2.1, z3, z4, z1.2, kr.to at_ (.bl _) q⟩⟩
theorem op_Gt (hu : X.A.units + 64 < cLine) : DOp X (compareOp .Gt) aGt := ⟨_, op_gtP hu, fun {G M F H x y dx dy Q QV} at_ h1 h2 h kr => by
  have g : cmpb dx dy ∧ Q (.bl (dlt dy dx)) M := by
    cases dx <;> cases dy <;> first
      | exact h
      | (refine ⟨cmpb_int _ _, ?_⟩; rw [dlt_int]; exact h)
  obtain ⟨⟨z1, z2, z3, z4⟩, q⟩ := g
  exact ⟨_, _, h1.dp at_.ex z1.1, h2.dp at_.ex z2.1, z3, z4, z1.2, kr.to at_ (.bl _) q⟩⟩
theorem not_lt_dec (i j : Int) : (!decide (j < i)) = decide (i ≤ j) := by
  by_cases h : i ≤ j
  · rw [decide_eq_true h, decide_eq_false (by omega)]; rfl
  · rw [decide_eq_false h, decide_eq_true (by omega)]; rfl
theorem op_Le (hu : X.A.units + 64 < cLine) : DOp X (compareOp .LtE) aLe := ⟨_, op_leP hu, fun {G M F H x y dx dy Q QV} at_ h1 h2 h kr => by
  have g : cmpb dx dy ∧ Q (.bl (!dlt dy dx)) M := by
    cases dx <;> cases dy <;> first
      | exact h
      | (refine ⟨cmpb_int _ _, ?_⟩; rw [dlt_int, not_lt_dec]; exact h)
  obtain ⟨⟨z1, z2, z3, z4⟩, q⟩ := g
  exact ⟨_, _, h1.dp at_.ex z1.1, h2.dp at_.ex z2.1, z3, z4, z1.2, kr.to at_ (.bl _) q⟩⟩
theorem op_Ge (hu : X.A.units + 64 < cLine) : DOp X (compareOp .GtE) aGe := ⟨_, op_geP hu, fun {G M F H x y dx dy Q QV} at_ h1 h2 h kr => by
  have g : cmpb dx dy ∧ Q (.bl (!dlt dx dy)) M := by
    cases dx <;> cases dy <;> first
      | exact h
      | (refine ⟨cmpb_int _ _, ?_⟩; rw [dlt_int, not_lt_dec]; exact h)
  obtain ⟨⟨z1, z2, z3, z4⟩, q⟩ := g
  exact ⟨_, _, h1.dp at_.ex z1.1, h2.dp at_.ex z2.1, z3, z4, z1.2, kr.to at_ (.bl _) q⟩⟩
end

/-! ### in, not in; is None -/
def sub (w l : List Nat) : Bool := !(Builtin.Str.occurrences (S l) (S w) 0 (S l).length 1).isEmpty
theorem sub_one (c : Nat) (l : List Nat) : sub [c] l = decide (c ∈ l) := SX.in_one l c
def has (x : D) (ds : List D) : Bool := ds.any fun z => deq z x
def aInB : D → D → (Bool → Prop) → Prop
  | .str w, .str l, Q => Q (sub w l)
  | x, .lst ds, Q => sm x ∧ sm (.lst ds) ∧ Q (has x ds)
  | x, .tup ds, Q => sm x ∧ sm (.tup ds) ∧ Q (has x ds)
  | _, _, _ => False
def aIn : A2 := fun x y M Q => aInB x y fun b => Q (.bl b) M
def aNotIn : A2 := fun x y M Q => aInB x y fun b => Q (.bl (!b)) M
def rInP (K : PySem.W.Frag) (neg : Bool) : R2 := fun x y H Q => ∃ d ds, Dp K H x d ∧ (Dp K H y (.list ds) ∨ Dp K H y (.tuple ds)) ∧ d.plain = true ∧ PyData.plainAll ds = true ∧ d.depth ≤ 60 ∧
  Q (.bl (if neg then !ds.any (fun z => PyData.eqv z d) else ds.any fun z => PyData.eqv z d)) H
section
variable {X : Cx}
theorem op_inP (hu : X.A.units + 64 < cLine) : OpR X (compareOp .In) (rInP X.K false) := by
  intro pins s σ H x y v u Q I rx ry h
  obtain ⟨d, ds, hd, he, sd, se, z, q⟩ := h
  obtain ⟨as, r1⟩ := Dp.reads I d x v hd rx
  rcases he with he | he
  · obtain ⟨bs, r2⟩ := Dp.reads I _ y u he ry
    exact SeqAt.in_list_data r2 r1 se sd (by omega) ⟨.bl _, H, I, rfl, q⟩
  · obtain ⟨bs, r2⟩ := Dp.reads I _ y u he ry
    exact SeqAt.in_tuple_data r2 r1 se sd (by omega) ⟨.bl _, H, I, rfl, q⟩
theorem op_notInP (hu : X.A.units + 64 < cLine) : OpR X (compareOp .NotIn) (rInP X.K true) := by
  intro pins s σ H x y v u Q I rx ry h
  obtain ⟨d, ds, hd, he, sd, se, z, q⟩ := h
  obtain ⟨as, r1⟩ := Dp.reads I d x v hd rx
  rcases he with he | he
  · obtain ⟨bs, r2⟩ := Dp.reads I _ y u he ry
    exact SeqAt.notIn_list_data r2 r1 se sd (by omega) ⟨.bl _, H, I, rfl, q⟩
  · obtain ⟨bs, r2⟩ := Dp.reads I _ y u he ry
    exact SeqAt.notIn_tuple_data r2 r1 se sd (by omega) ⟨.bl _, H, I, rfl, q⟩
theorem has_any (x : D) (ds : List D) : (pys ds).any (fun z => PyData.eqv z (py x)) = has x ds := by
  rw [pys_map, List.any_map]
  rfl
theorem op_In (hu : X.A.units + 64 < cLine) : DOp X (compareOp .In) aIn := ⟨_, op_in_str.or (op_inP hu), fun {G M F H x y dx dy Q QV} at_ h1 h2 h kr => by
  cases dy with
  | str l =>
    cases dx with
    | str w =>
      have h' : Q (.bl (sub w l)) M := h
      exact .inl ⟨_, _, h1.str, h2.str, kr.to at_ (.bl _) h'⟩
    | _ => exact False.elim h
  | lst ds =>
    have h' : sm dx ∧ sm (.lst ds) ∧ Q (.bl (has dx ds)) M := by cases dx <;> exact h
    obtain ⟨z1, z2, q⟩ := h'
    have e := h2.dp at_.ex z2.1
    simp only [py] at e
    exact .inr ⟨_, _, h1.dp at_.ex z1.1, .inl e, plain_py _, plain_pys _, z1.2, by simp only [Bool.false_eq_true, if_false]; rw [has_any]; exact kr.to at_ (.bl _) q⟩
  | tup ds =>
    have h' : sm dx ∧ sm (.tup ds) ∧ Q (.bl (has dx ds)) M := by cases dx <;> exact h
    obtain ⟨z1, z2, q⟩ := h'
    have e := h2.dp at_.ex z2.1
    simp only [py] at e
    exact .inr ⟨_, _, h1.dp at_.ex z1.1, .inr e, plain_py _, plain_pys _, z1.2, by simp only [Bool.false_eq_true, if_false]; rw [has_any]; exact kr.to at_ (.bl _) q⟩
  | _ => cases dx <;> exact False.elim h⟩
theorem op_NotIn (hu : X.A.units + 64 < cLine) : DOp X (compareOp .NotIn) aNotIn := ⟨_, op_notIn_str.or (op_notInP hu), fun {G M F H x y dx dy Q QV} at_ h1 h2 h kr => by
  cases dy with
  | str l =>
    cases dx with
    | str w =>
      have h' : Q (.bl (!sub w l)) M := h
      exact .inl ⟨_, _, h1.str, h2.str, kr.to at_ (.bl _) h'⟩
    | _ => exact False.elim h
  | lst ds =>
    have h' : sm dx ∧ sm (.lst ds) ∧ Q (.bl (!has dx ds)) M := by cases dx <;> exact h
    obtain ⟨z1, z2, q⟩ := h'
    have e := h2.dp at_.ex z2.1
    simp only [py] at e
    exact .inr ⟨_, _, h1.dp at_.ex z1.1, .inl e, plain_py _, plain_pys _, z1.2, by simp only [if_true]; rw [has_any]; exact kr.to at_ (.bl _) q⟩
  | tup ds =>
    have h' : sm dx ∧ sm (.tup ds) ∧ Q (.bl (!has dx ds)) M := by cases dx <;> exact h
    obtain ⟨z1, z2, q⟩ := h'
    have e := h2.dp at_.ex z2.1
    simp only [py] at e
    exact .inr ⟨_, _, h1.dp at_.ex z1.1, .inr e, plain_py _, plain_pys _, z1.2, by simp only [if_true]; rw [has_any]; exact kr.to at_ (.bl _) q⟩
  | _ => cases dx <;> exact False.elim h⟩
def isNon : D → Bool
  | .non => true
  | _ => false
def aIsN : A2 := fun x y M Q => y = .non ∧ Q (.bl (isNon x)) M
def aNotN : A2 := fun x y M Q => y = .non ∧ Q (.bl (!isNon x)) M
theorem isNon_v {K : PySem.W.Frag} {G H : Hp} {v : V} {d : D} (h : Dw K G H v d) : decide (v = .non) = isNon d := by
  rcases h with h | ⟨a, xs, ds, rfl, rfl, _⟩
  · cases h <;> rfl
  · rfl
theorem op_IsN : DOp X (compareOp .Is) aIsN := ⟨_, op_isN, fun {G M F H x y dx dy Q QV} at_ h1 h2 h kr => by
  obtain ⟨e, q⟩ := h
  subst e
  exact ⟨h2.non, by rw [isNon_v h1]; exact kr.to at_ (.bl _) q⟩⟩
theorem op_NotN : DOp X (compareOp .IsNot) aNotN := ⟨_, op_notN, fun {G M F H x y dx dy Q QV} at_ h1 h2 h kr => by
  obtain ⟨e, q⟩ := h
  subst e
  exact ⟨h2.non, by rw [isNon_v h1]; exact kr.to at_ (.bl _) q⟩⟩
end

/-! ### arithmetic, + of texts, lists, tuples -/
def aAdd : A2
  | .int i, .int j, M, Q => Q (.int (i + j)) M
  | .str a, .str b, M, Q => a.length + b.length ≤ 16777216 ∧ Q (.str (a ++ b)) M
  | .lst a, .lst b, M, Q => a.length + b.length ≤ 16777216 ∧ Q (.lst (a ++ b)) M
  | .tup a, .tup b, M, Q => a ≠ [] ∧ b ≠ [] ∧ a.length + b.length ≤ 16777216 ∧ Q (.tup (a ++ b)) M
  | _, _, _, _ => False
def aSub : A2
  | .int i, .int j, M, Q => Q (.int (i - j)) M
  | _, _, _, _ => False
def aMul : A2
  | .int i, .int j, M, Q => CMul i j ∧ Q (.int (i * j)) M
  | .lst a, .int k, M, Q => -(2 ^ 63) ≤ k ∧ k < 2 ^ 63 ∧ a.length * k.toNat ≤ 16777216 ∧ Q (.lst (List.replicate k.toNat a).flatten) M
  | _, _, _, _ => False
def aMod : A2
  | .int i, .int j, M, Q => 0 < j ∧ Q (.int (i % j)) M
  | _, _, _, _ => False
def aDiv : A2
  | .int i, .int j, M, Q => CDiv i j ∧ Q (.int (i / j)) M
  | _, _, _, _ => False
def aPow : A2
  | .int i, .int j, M, Q => CPow i j ∧ Q (.int (i ^ j.toNat)) M
  | _, _, _, _ => False
section
variable {X : Cx}
theorem DvA.nil_iff {K : PySem.W.Frag} {G : Hp} {xs : List V} {ds : List D} (h : DvA K G xs ds) : xs = [] ↔ ds = [] := by
  cases h <;> simp
theorem op_Add : DOp X (binaryOp .Add) aAdd := ⟨_, op_add.or (op_add_str.or (op_cat.or op_catT)), fun {G M F H x y dx dy Q QV} at_ h1 h2 h kr => by
  cases dx <;> cases dy <;> first
    | exact False.elim h
    | exact .inl ⟨_, _, h1.int, h2.int, kr.to at_ (.int _) h⟩
    | skip
  · rename_i a b
    obtain ⟨z, q⟩ : a.length + b.length ≤ 16777216 ∧ Q (.str (a ++ b)) M := h
    exact .inr (.inl ⟨_, _, h1.str, h2.str, by rw [S_len, S_len, sizeLine_eq]; exact z, by rw [S_cat]; exact kr.to at_ (.str _) q⟩)
  · rename_i a b
    obtain ⟨z, q⟩ : a.length + b.length ≤ 16777216 ∧ Q (.lst (a ++ b)) M := h
    obtain ⟨p, xs, e1, k1, l1⟩ := h1.lst at_.ex
    obtain ⟨p', ys, e2, k2, l2⟩ := h2.lst at_.ex
    exact .inr (.inr (.inl ⟨p, p', xs, ys, e1, e2, k1, k2, by rw [l1.length, l2.length, sizeLine_eq]; exact z, fun r hr => kr.newL at_ hr (l1.append l2) q⟩))
  · rename_i a b
    obtain ⟨z0, z1, z, q⟩ : a ≠ [] ∧ b ≠ [] ∧ a.length + b.length ≤ 16777216 ∧ Q (.tup (a ++ b)) M := h
    obtain ⟨p, xs, e1, k1, l1⟩ := h1.tup at_.ex
    obtain ⟨p', ys, e2, k2, l2⟩ := h2.tup at_.ex
    exact .inr (.inr (.inr ⟨p, p', xs, ys, e1, e2, k1, k2, fun e => z0 (l1.nil_iff.mp e), by rw [l1.length, l2.length, sizeLine_eq]; exact z, fun e => absurd (l2.nil_iff.mp e) z1, fun _ r hr => kr.newT at_ hr (l1.append l2) q⟩))⟩
theorem op_Sub : DOp X (binaryOp .Sub) aSub := ⟨_, op_sub, fun {G M F H x y dx dy Q QV} at_ h1 h2 h kr => by
  cases dx <;> cases dy <;> first
    | exact False.elim h
    | exact ⟨_, _, h1.int, h2.int, kr.to at_ (.int _) h⟩⟩
theorem op_Mod : DOp X (binaryOp .Mod) aMod := ⟨_, op_mod, fun {G M F H x y dx dy Q QV} at_ h1 h2 h kr => by
  cases dx <;> cases dy <;> first
    | exact False.elim h
    | exact ⟨_, _, h1.int, h2.int, h.1, kr.to at_ (.int _) h.2⟩⟩
theorem op_Div : DOp X (binaryOp .FloorDiv) aDiv := ⟨_, op_fdiv, fun {G M F H x y dx dy Q QV} at_ h1 h2 h kr => by
  cases dx <;> cases dy <;> first
    | exact False.elim h
    | exact ⟨_, _, h1.int, h2.int, h.1, kr.to at_ (.int _) h.2⟩⟩
theorem op_Pow : DOp X (binaryOp .Pow) aPow := ⟨_, op_pow, fun {G M F H x y dx dy Q QV} at_ h1 h2 h kr => by
  cases dx <;> cases dy <;> first
    | exact False.elim h
    | exact ⟨_, _, h1.int, h2.int, h.1, kr.to at_ (.int _) h.2⟩⟩
theorem op_Mul : DOp X (binaryOp .Mult) aMul := ⟨_, op_mul.or op_rep, fun {G M F H x y dx dy Q QV} at_ h1 h2 h kr => by
  cases dx <;> cases dy <;> first
    | exact False.elim h
    | exact .inl ⟨_, _, h1.int, h2.int, h.1, kr.to at_ (.int _) h.2⟩
    | skip
  rename_i a k
  obtain ⟨z1, z2, z3, q⟩ : -(2 ^ 63) ≤ k ∧ k < 2 ^ 63 ∧ a.length * k.toNat ≤ 16777216 ∧ Q (.lst (List.replicate k.toNat a).flatten) M := h
  obtain ⟨p, xs, e1, k1, l1⟩ := h1.lst at_.ex
  exact .inr ⟨p, k, xs, e1, h2.int, k1, z1, z2, by rw [l1.length, sizeLine_eq]; exact z3, fun r hr => kr.newL at_ hr (l1.rep _) q⟩⟩
def aNeg : A1
  | .int i, M, Q => Q (.int (-i)) M
  | _, _, _ => False
theorem un_Neg : DUn X (unaryOp .USub) aNeg := ⟨_, un_neg, fun {G M F H x dx Q QV} at_ h1 h kr => by
  cases dx <;> first
    | exact False.elim h
    | exact ⟨_, h1.int, kr.to at_ (.int _) h⟩⟩
end

/-! ### items, slices -/
def aIx : A2
  | .lst ds, .int i, M, Q => ∃ d, atI ds i = some d ∧ Q d M
  | .tup ds, .int i, M, Q => ∃ d, atI ds i = some d ∧ Q d M
  | .scr ns, .int i, M, Q => ∃ n, atI ns i = some n ∧ Q (.int n) M
  | .str l, .int i, M, Q => l.length ≤ 16777216 ∧ ∃ c, atI l i = some c ∧ Q (.str [c]) M
  | _, _, _, _ => False
theorem atI_map {α β : Type} {xs : List α} {ys : List β} {R : α → β → Prop} (hl : xs.length = ys.length) (hg : ∀ (j : Nat) (y : β), ys[j]? = some y → ∃ x, xs[j]? = some x ∧ R x y) {i : Int} {y : β} (h : atI ys i = some y) : ∃ x, atI xs i = some x ∧ R x y := by
  unfold atI at h ⊢
  rw [hl]
  cases e : ixN ys.length i with
  | none => rw [e] at h; cases h
  | some j =>
    rw [e] at h
    exact hg j y h
section
variable {X : Cx}
theorem ix_All : DIx X aIx := ⟨_, ix_seq, fun {G M F H x y dx dy Q QV} at_ h1 h2 h kr => by
  cases dx <;> cases dy <;> first
    | exact False.elim h
    | skip
  · rename_i l i
    obtain ⟨z, c, e, q⟩ : l.length ≤ 16777216 ∧ ∃ c, atI l i = some c ∧ Q (.str [c]) M := h
    exact .inr (.inr ⟨_, i, c, h1.str, h2.int, by rw [S_len, sizeLine_eq]; exact z, by simpa using e, kr.to at_ (.str [c]) q⟩)
  · rename_i ds i
    obtain ⟨d, e, q⟩ : ∃ d, atI ds i = some d ∧ Q d M := h
    obtain ⟨p, xs, e1, k1, l1⟩ := h1.lst at_.ex
    obtain ⟨v, e2, r⟩ := atI_map (R := Dv X.K G) l1.length (fun j y hy => l1.get hy) e
    exact .inl ⟨p, xs, i, v, e1, h2.int, SqL.of k1, e2, kr.to at_ r q⟩
  · rename_i ds i
    obtain ⟨d, e, q⟩ : ∃ d, atI ds i = some d ∧ Q d M := h
    obtain ⟨p, xs, e1, k1, l1⟩ := h1.tup at_.ex
    obtain ⟨v, e2, r⟩ := atI_map (R := Dv X.K G) l1.length (fun j y hy => l1.get hy) e
    exact .inr (.inl ⟨p, xs, i, v, e1, h2.int, k1, e2, kr.to at_ r q⟩)
  · rename_i ns i
    obtain ⟨n, e, q⟩ : ∃ n, atI ns i = some n ∧ Q (.int n) M := h
    obtain ⟨p, e1, k1⟩ := h1.scr at_.ex
    obtain ⟨v, e2, r⟩ := atI_map (xs := ns.map V.int) (ys := ns) (R := fun v n => v = V.int n) (List.length_map _) (fun j y hy => ⟨V.int y, by rw [List.getElem?_map, hy]; rfl, rfl⟩) e
    subst r
    exact .inl ⟨p, _, i, _, e1, h2.int, k1, e2, kr.to at_ (.int n) q⟩⟩
end
/-- xs[lo:hi] -/
def cut {α : Type} (xs : List α) (lo hi : Option Int) : List α := (xs.drop (HT.sIx xs.length 0 lo)).take (HT.sIx xs.length xs.length hi - HT.sIx xs.length 0 lo)
abbrev AS := D → Option Int → Option Int → Mem → QE → Prop
def aSl : AS
  | .lst ds, lo, hi, M, Q => Q (.lst (cut ds lo hi)) M
  | .scr ns, lo, hi, M, Q => Q (.lst ((cut ns lo hi).map .int)) M
  | .tup ds, lo, hi, M, Q => ¬ (HT.sIx ds.length 0 lo = 0 ∧ HT.sIx ds.length ds.length hi = ds.length) ∧ Q (.tup (cut ds lo hi)) M
  | .str l, lo, hi, M, Q => l.length ≤ 16777216 ∧ Q (.str (cut l lo hi)) M
  | _, _, _, _, _ => False
abbrev DTO := Env → Mem → (Option Int → Mem → Prop) → QX → Prop
structure DO (X : Cx) (e : Option Expr) (t : DTO) : Prop where
  run : ∀ {δ M F Q Qx W σ G H} {QV : Option Int → Hp → Prop}, t δ M Q Qx → Here X W δ M F σ G H → (∀ o G' M' H', Ex G G' → At X.K G' M' F H' → Q o M' → QV o H') → ExcK X.K G F Qx (fun c d H => W c d σ H) →
    ∃ to : TO, PO X e to ∧ to σ H QV
def dNo : DTO := fun _ M Q _ => Q none M
def dPart (t : DTE) : DTO := fun δ M Q Qx => t δ M (fun d M1 => ∃ i, d = .int i ∧ Q (some i) M1) Qx
section
variable {X : Cx} {e : Expr} {te : DTE} {lo hi : Option Expr} {tl th : DTO} {pos p2 : Pos}
theorem do_none : DO X none dNo := ⟨fun {δ M F Q Qx W σ G H QV} h hh kr _ => ⟨_, po_none, kr none G M H (Ex.refl G) hh.at_ h⟩⟩
theorem do_some (he : DE X e te) : DO X (some e) (dPart te) := ⟨fun {δ M F Q Qx W σ G H QV} h hh kr kx => ⟨_, po_some (pe_of X e), he.run h hh (fun v d G1 M1 H1 e1 a1 d1 q1 => by
  obtain ⟨i, e2, q⟩ := q1
  subst e2
  cases d1
  exact ⟨i, rfl, kr (some i) G1 M1 H1 e1 a1 q⟩) kx⟩⟩
def toOf (X : Cx) (e : Option Expr) : TO := fun σ H Q => ∃ to : TO, PO X e to ∧ to σ H Q
end
end DL

set_option Elab.async false
set_option linter.all false
set_option maxRecDepth 100000
set_option maxHeartbeats 4000000
/-! DL3: slices, argument lists, displays, calls of built-ins, methods. -/
namespace DL
open PySem L2 PySem.Spec PyProof.Rows
section
variable {X : Cx} {e : Expr} {te : DTE} {lo hi : Option Expr} {tl th : DTO} {pos p2 : Pos}
def poOf (X : Cx) (e : Option Expr) : TO := fun σ H Q => ∀ pins s, Inv X pins σ H s → wpAny (model X.prog X.w) X.A (evalPart e X.env) (fun u s' => ∃ o H', Inv X pins σ H' s' ∧ IsPart u o ∧ Q o H') X.xe s
theorem po_of (X : Cx) (e : Option Expr) : PO X e (poOf X e) := ⟨fun pins s _ _ _ I h => h pins s I⟩
theorem DO.po (h : DO X e' t) : ∀ {δ M F Q Qx W σ G H} {QV : Option Int → Hp → Prop}, t δ M Q Qx → Here X W δ M F σ G H → (∀ o G' M' H', Ex G G' → At X.K G' M' F H' → Q o M' → QV o H') → ExcK X.K G F Qx (fun c d H => W c d σ H) → poOf X e' σ H QV :=
  fun {δ M F Q Qx W σ G H QV} q hh kr kx pins s I => by
    obtain ⟨to, p, z⟩ := h.run q hh kr kx
    exact p.run pins s σ H QV I z
def dSl (r : AS) (te : DTE) (tl th : DTO) : DTE := fun δ M Q Qx => te δ M (fun x M1 => tl δ M1 (fun l M2 => th δ M2 (fun u M3 => r (vw M3 x) l u M3 Q) Qx) Qx) Qx
theorem cut_dv {K : PySem.W.Frag} {G : Hp} {xs : List V} {ds : List D} (h : DvA K G xs ds) (lo hi : Option Int) : DvA K G (cutV xs lo hi) (cut ds lo hi) := by
  unfold cutV cut
  rw [h.length]
  exact (h.drop _).take _
theorem ints_dv {K : PySem.W.Frag} {G : Hp} : ∀ ns : List Int, DvA K G (ns.map V.int) (ns.map D.int)
  | [] => .nil
  | n :: r => .cons (.int n) (ints_dv r)
theorem cut_ints (ns : List Int) (lo hi : Option Int) : cutV (ns.map V.int) lo hi = (cut ns lo hi).map V.int := by
  unfold cutV cut
  rw [List.length_map, ← List.map_drop, ← List.map_take]
theorem cut_str (l : List Nat) (lo hi : Option Int) : cutS (S l) lo hi = S (cut l lo hi) := by
  unfold cutS cut
  simp only [S_len]
theorem sl_core {G : Hp} {M F : Mem} {H : Hp} {x : V} {dx : D} {lo hi : Option Int} {Q : QE} {QV : VK} (at_ : At X.K G M F H) (h1 : Dw X.K G H x dx) (h : aSl dx lo hi M Q) (kr : RetK X.K G F Q QV) : rSlL X.K x lo hi H QV ∨ rSlT X.K x lo hi H QV ∨ rSlS x lo hi H QV := by
  cases dx with
  | lst ds =>
    obtain ⟨p, xs, e1, k1, l1⟩ := h1.lst at_.ex
    exact .inl ⟨p, xs, e1, SqL.of k1, fun r hr => kr.newL at_ hr (cut_dv l1 lo hi) h⟩
  | scr ns =>
    obtain ⟨p, e1, k1⟩ := h1.scr at_.ex
    exact .inl ⟨p, _, e1, k1, fun r hr => by rw [cut_ints]; exact kr.newL at_ hr (ints_dv _) h⟩
  | tup ds =>
    obtain ⟨z, q⟩ := h
    obtain ⟨p, xs, e1, k1, l1⟩ := h1.tup at_.ex
    exact .inr (.inl ⟨p, xs, e1, k1, by rw [l1.length]; exact z, fun r hr => kr.newT at_ hr (cut_dv l1 lo hi) q⟩)
  | str l =>
    obtain ⟨z, q⟩ := h
    exact .inr (.inr ⟨_, h1.str, by rw [S_len, sizeLine_eq]; exact z, by rw [cut_str]; exact kr.to at_ (.str _) q⟩)
  | _ => exact False.elim h
theorem de_slice (he : DE X e te) (hl : DO X lo tl) (hu : DO X hi th) : DE X (.Subscript e (.Slice lo hi none p2) pos) (dSl aSl te tl th) :=
  ⟨fun {δ M F Q Qx W σ G H QV} h hh kr kx => PE.te (pe_slice (sl_list.or (sl_tup.or sl_str)) (pe_of X e) (po_of X lo) (po_of X hi)) (he.run h hh (fun v d G1 M1 H1 e1 a1 d1 q1 =>
    hl.po q1 (hh.on e1 a1) (fun l G2 M2 H2 e2 a2 q2 => hu.po q2 (hh.on (e1.trans e2) a2) (fun u G3 M3 H3 e3 a3 q3 => sl_core a3 (vw_ok a3 (d1.mono (e2.trans e3))) q3 (kr.mono ((e1.trans e2).trans e3))) (kx.mono (e1.trans e2))) (kx.mono e1)) kx)⟩
end

/-! ### argument lists, displays -/
def dNil : DTA := fun _ M Q _ => Q [] M
def dCons (ta : DTE) (tr : DTA) : DTA := fun δ M Q Qx => ta δ M (fun x M1 => tr δ M1 (fun xs M2 => Q (x :: xs) M2) Qx) Qx
def dTup (t : DTA) : DTE := fun δ M Q Qx => t δ M (fun xs M1 => xs.length ≤ 16777216 ∧ Q (.tup xs) M1) Qx
def dLst (t : DTA) : DTE := fun δ M Q Qx => t δ M (fun xs M1 => xs.length ≤ 16777216 ∧ Q (.lst xs) M1) Qx
/-- a list that will change -/
def dLstM (t : DTA) : DTE := fun δ M Q Qx => t δ M (fun xs M1 => xs.length ≤ 16777216 ∧ ∀ p, M1 p = none → Q (.ref p) (mset M1 p (.lst xs))) Qx
section
variable {X : Cx} {e : Expr} {es : List Expr} {te : DTE} {ta : DTA} {pos : Pos}
theorem da_nil : DA X [] dNil := ⟨fun {δ M F Q Qx W σ G H QV} h hh kr _ => PA.ta pa_nil (kr [] [] G M H (Ex.refl G) hh.at_ .nil h)⟩
theorem da_cons (he : DE X e te) (hr : DA X es ta) (hs : starEach (e :: es) X.env = (false, eval e X.env) :: starEach es X.env := by rfl) : DA X (e :: es) (dCons te ta) :=
  ⟨fun {δ M F Q Qx W σ G H QV} h hh kr kx => PA.ta (pa_cons (pe_of X e) (pa_of X es) hs) (he.run h hh (fun v d G1 M1 H1 e1 a1 d1 q1 =>
    hr.run q1 (hh.on e1 a1) (fun vs ds G2 M2 H2 e2 a2 d2 q2 => kr (v :: vs) (d :: ds) G2 M2 H2 (e1.trans e2) a2 (.cons (d1.mono e2) d2) q2) (kx.mono e1)) kx)⟩
theorem de_tup {x1} (h : DA X es ta) : DE X (.Tuple es x1 pos) (dTup ta) :=
  ⟨fun {δ M F Q Qx W σ G H QV} q hh kr kx => PE.te (pe_tup (pa_of X es)) (h.run q hh (fun vs ds G1 M1 H1 e1 a1 d1 q1 =>
    ⟨by rw [d1.length, sizeLine_eq]; exact q1.1, fun p hp => (kr.mono e1).newT a1 hp d1 q1.2⟩) kx)⟩
theorem de_lst (h : DA X es ta) : DE X (.List es pos) (dLst ta) :=
  ⟨fun {δ M F Q Qx W σ G H QV} q hh kr kx => PE.te (pe_lst (pa_of X es)) (h.run q hh (fun vs ds G1 M1 H1 e1 a1 d1 q1 =>
    ⟨by rw [d1.length, sizeLine_eq]; exact q1.1, fun p hp => (kr.mono e1).newL a1 hp d1 q1.2⟩) kx)⟩
theorem de_lstM (h : DA X es ta) : DE X (.List es pos) (dLstM ta) :=
  ⟨fun {δ M F Q Qx W σ G H QV} q hh kr kx => PE.te (pe_lst (pa_of X es)) (h.run q hh (fun vs ds G1 M1 H1 e1 a1 d1 q1 =>
    ⟨by rw [d1.length, sizeLine_eq]; exact q1.1, fun p hp => (kr.mono e1).newM a1 hp d1 (q1.2 p (a1.free hp).1)⟩) kx)⟩
/-- what a value becomes when its list is let go -/
def frz (d : D) (M : Mem) (Q : QE) : Prop := match d with
  | .ref a => match M a with
    | some (.lst ds) => Q (.lst ds) (mdel M a)
    | _ => Q (.ref a) M
  | d => Q d M
def dFrz (t : DTE) : DTE := fun δ M Q Qx => t δ M (fun d M1 => frz d M1 Q) Qx
theorem RetK.frz {K : PySem.W.Frag} {G : Hp} {F : Mem} {Q : QE} {QV : VK} (kr : RetK K G F Q QV) : RetK K G F (fun d M1 => DL.frz d M1 Q) QV := fun v d G1 M1 H1 e1 a1 d1 q => by
  cases d with
  | ref a =>
    have q : (match M1 a with | some (.lst ds) => Q (.lst ds) (mdel M1 a) | _ => Q (.ref a) M1) := q
    cases e : M1 a with
    | none => rw [e] at q; exact kr v _ G1 M1 H1 e1 a1 d1 q
    | some o =>
      rw [e] at q
      cases o with
      | lst ds =>
        obtain ⟨ho, e2, k⟩ := a1.mem e
        cases ho with
        | lst xs =>
          cases d1
          obtain ⟨a2, e3⟩ := a1.freeze e e2
          have k' : DvA K G1 xs ds := k
          exact kr _ _ _ _ _ (e1.trans e3) a2 (.lst upd_same (k'.mono e3)) q
        | _ => exact False.elim k
      | ins C dx fs => exact kr v _ G1 M1 H1 e1 a1 d1 q
      | dK kvs => exact kr v _ G1 M1 H1 e1 a1 d1 q
  | _ => exact kr v _ G1 M1 H1 e1 a1 d1 q
theorem de_frz (he : DE X e te) : DE X e (dFrz te) := ⟨fun {δ M F Q Qx W σ G H QV} q hh kr kx => he.run q hh kr.frz kx⟩
end

/-! ### calls of built-ins by name -/
def vws (M : Mem) (ds : List D) : List D := ds.map (vw M)
def dCB (r : AL) (t : DTA) : DTE := fun δ M Q Qx => t δ M (fun ds M1 => r (vws M1 ds) M1 Q) Qx
section
variable {X : Cx} {x : Str} {p pos : Pos} {e : Expr} {es : List Expr} {ta : DTA} {id T : String} {r : AL}
theorem vws_ok {K : PySem.W.Frag} {G H : Hp} {M F : Mem} (at_ : At K G M F H) : ∀ {vs : List V} {ds : List D}, DvA K G vs ds → DwA K G H vs (vws M ds)
  | _, _, .nil => .nil
  | _, _, .cons a b => .cons (vw_ok at_ a) (vws_ok at_ b)
theorem de_callB (hc : DCall X (.builtin id) r) (hm : X.mg x = none) (hv : bootBuiltins x = some (.builtin id)) (ha : DA X (e :: es) ta) (hg : Gl X x := by rfl) (hn : x ≠ "__name__" := by decide) (hdb : (x == ("__debug__" : Str)) = false := by decide)
    (he : starEach (e :: es) X.env = (false, eval e X.env) :: starEach es X.env := by rfl) (hpl : (backTo pos (starEach es X.env)).any (·.1) = false := by rfl) : DE X (.Call (.Name x p) (e :: es) [] pos) (dCB r ta) := by
  obtain ⟨r2, o, k⟩ := hc
  exact ⟨fun {δ M F Q Qx W σ G H QV} q hh kr kx => PE.te (pe_callB o hg hm hv (pa_of X _) hn hdb he hpl) (ha.run q hh (fun vs ds G1 M1 H1 e1 a1 d1 q1 => k a1 (vws_ok a1 d1) q1 (kr.mono e1)) kx)⟩
theorem de_callTy (hc : DCall X (.type T) r) (hm : X.mg x = none) (hv : bootBuiltins x = some (.type T)) (ha : DA X (e :: es) ta) (hg : Gl X x := by rfl) (hn : x ≠ "__name__" := by decide) (hdb : (x == ("__debug__" : Str)) = false := by decide)
    (he : starEach (e :: es) X.env = (false, eval e X.env) :: starEach es X.env := by rfl) (hpl : (backTo pos (starEach es X.env)).any (·.1) = false := by rfl) : DE X (.Call (.Name x p) (e :: es) [] pos) (dCB r ta) := by
  obtain ⟨r2, o, k⟩ := hc
  exact ⟨fun {δ M F Q Qx W σ G H QV} q hh kr kx => PE.te (pe_callTy o hg hm hv (pa_of X _) hn hdb he hpl) (ha.run q hh (fun vs ds G1 M1 H1 e1 a1 d1 q1 => k a1 (vws_ok a1 d1) q1 (kr.mono e1)) kx)⟩
/-- len -/
def aLen : AL
  | [.lst ds], M, Q => Q (.int ds.length) M
  | [.tup ds], M, Q => Q (.int ds.length) M
  | [.scr ds], M, Q => Q (.int ds.length) M
  | [.str l], M, Q => l.length ≤ 16777216 ∧ Q (.int l.length) M
  | _, _, _ => False
theorem DwA.one {K : PySem.W.Frag} {G H : Hp} {vs : List V} {d : D} (h : DwA K G H vs [d]) : ∃ v, vs = [v] ∧ Dw K G H v d := by
  cases h with
  | cons a b => cases b; exact ⟨_, rfl, a⟩
theorem DwA.two {K : PySem.W.Frag} {G H : Hp} {vs : List V} {d d' : D} (h : DwA K G H vs [d, d']) : ∃ v w, vs = [v, w] ∧ Dw K G H v d ∧ Dw K G H w d' := by
  cases h with
  | cons a b =>
    cases b with
    | cons c b => cases b; exact ⟨_, _, rfl, a, c⟩
theorem call_Len : DCall X (.builtin "len") aLen := ⟨_, call_len_seq.or call_len_str, fun {G M F H xs ds Q QV} at_ h1 h kr => by
  match ds, h, h1 with
  | [.lst ds], h, h1 =>
    obtain ⟨v, rfl, w⟩ := h1.one
    obtain ⟨a, ys, rfl, k1, l1⟩ := w.lst at_.ex
    exact .inl ⟨a, ys, rfl, .inl (SqL.of k1), by rw [l1.length]; exact kr.to at_ (.int _) h⟩
  | [.tup ds], h, h1 =>
    obtain ⟨v, rfl, w⟩ := h1.one
    obtain ⟨a, ys, rfl, k1, l1⟩ := w.tup at_.ex
    exact .inl ⟨a, ys, rfl, .inr k1, by rw [l1.length]; exact kr.to at_ (.int _) h⟩
  | [.scr ns], h, h1 =>
    obtain ⟨v, rfl, w⟩ := h1.one
    obtain ⟨a, rfl, k1⟩ := w.scr at_.ex
    exact .inl ⟨a, _, rfl, .inl k1, by rw [List.length_map]; exact kr.to at_ (.int _) h⟩
  | [.str l], h, h1 =>
    obtain ⟨v, rfl, w⟩ := h1.one
    obtain ⟨z, q⟩ : l.length ≤ 16777216 ∧ Q (.int l.length) M := h
    exact .inr ⟨_, by rw [w.str], by rw [S_len, sizeLine_eq]; exact z, by rw [S_len]; exact kr.to at_ (.int _) q⟩⟩
/-- int of an int, a bool -/
def aInt : AL
  | [.int i], M, Q => Q (.int i) M
  | [.bl b], M, Q => Q (.int (if b then 1 else 0)) M
  | _, _, _ => False
theorem call_Int : DCall X (.type "int") aInt := ⟨_, call_int1, fun {G M F H xs ds Q QV} at_ h1 h kr => by
  match ds, h, h1 with
  | [.int i], h, h1 =>
    obtain ⟨v, rfl, w⟩ := h1.one
    exact .inl ⟨_, by rw [w.int], kr.to at_ (.int _) h⟩
  | [.bl b], h, h1 =>
    obtain ⟨v, rfl, w⟩ := h1.one
    exact .inr ⟨_, by rw [w.bl], kr.to at_ (.int _) h⟩⟩
/-- all, any of a list of bools -/
def aAll : AL
  | [.lst ds], M, Q => ∃ bs : List Bool, ds = bs.map D.bl ∧ Q (.bl (bs.all fun b => b)) M
  | _, _, _ => False
def aAny : AL
  | [.lst ds], M, Q => ∃ bs : List Bool, ds = bs.map D.bl ∧ Q (.bl (bs.any fun b => b)) M
  | _, _, _ => False
theorem DvA.bls {K : PySem.W.Frag} {G : Hp} : ∀ {bs : List Bool} {xs : List V}, DvA K G xs (bs.map D.bl) → xs = bs.map V.bl
  | [], _, h => by cases h; rfl
  | b :: r, _, h => by
    cases h with
    | cons a t => cases a; rw [t.bls]; rfl
theorem call_All (hc : X.calm = true) : DCall X (.builtin "all") aAll := ⟨_, cr_all hc, fun {G M F H xs ds Q QV} at_ h1 h kr => by
  match ds, h, h1 with
  | [.lst ds], h, h1 =>
    obtain ⟨v, rfl, w⟩ := h1.one
    obtain ⟨a, ys, rfl, k1, l1⟩ := w.lst at_.ex
    obtain ⟨bs, e, q⟩ := h
    subst e
    have e2 := l1.bls
    subst e2
    exact ⟨a, bs, rfl, SqL.of k1, kr.to at_ (.bl _) q⟩⟩
theorem call_Any (hc : X.calm = true) : DCall X (.builtin "any") aAny := ⟨_, cr_any hc, fun {G M F H xs ds Q QV} at_ h1 h kr => by
  match ds, h, h1 with
  | [.lst ds], h, h1 =>
    obtain ⟨v, rfl, w⟩ := h1.one
    obtain ⟨a, ys, rfl, k1, l1⟩ := w.lst at_.ex
    obtain ⟨bs, e, q⟩ := h
    subst e
    have e2 := l1.bls
    subst e2
    exact ⟨a, bs, rfl, SqL.of k1, kr.to at_ (.bl _) q⟩⟩
/-- min, max of two ints -/
def aMin2 : AL
  | [.int i, .int j], M, Q => Q (.int (if j < i then j else i)) M
  | _, _, _ => False
def aMax2 : AL
  | [.int i, .int j], M, Q => Q (.int (if j > i then j else i)) M
  | _, _, _ => False
theorem call_Min2 (hc : X.calm = true) : DCall X (.builtin "min") aMin2 := ⟨_, call_min2 hc, fun {G M F H xs ds Q QV} at_ h1 h kr => by
  match ds, h, h1 with
  | [.int i, .int j], h, h1 =>
    obtain ⟨v, w, rfl, w1, w2⟩ := h1.two
    exact ⟨i, j, by rw [w1.int, w2.int], kr.to at_ (.int _) h⟩⟩
theorem call_Max2 (hc : X.calm = true) : DCall X (.builtin "max") aMax2 := ⟨_, call_max2 hc, fun {G M F H xs ds Q QV} at_ h1 h kr => by
  match ds, h, h1 with
  | [.int i, .int j], h, h1 =>
    obtain ⟨v, w, rfl, w1, w2⟩ := h1.two
    exact ⟨i, j, by rw [w1.int, w2.int], kr.to at_ (.int _) h⟩⟩
/-- min of a list of alike data: the item that is the least -/
def allCmp (ds : List D) : Prop := pls ds = true ∧ PyData.depthAll (pys ds) ≤ 60 ∧ PySem.W.AlikeAll (pys ds)
def aMinL : AL
  | [.lst (d :: ds)], M, Q => allCmp (d :: ds) ∧ ∀ m, m ∈ d :: ds → py m = PySem.W.minD (py d) (pys ds) → Q m M
  | _, _, _ => False
def rMinD (K : PySem.W.Frag) : List V → Hp → VK → Prop := fun vs H Q => ∃ (a : Addr) (xs : List V) (d : PyData) (ds : List PyData), vs = [.ref a] ∧ SqL K H a xs ∧ DpAll K H xs (d :: ds) ∧ PySem.W.AlikeAll (d :: ds) ∧ PyData.plainAll (d :: ds) = true ∧ PyData.depthAll (d :: ds) ≤ 60 ∧
  ∀ (i : Nat) v, xs[i]? = some v → (d :: ds)[i]? = some (PySem.W.minD d ds) → Q v H
theorem Vals.get' : ∀ {xs : List V} {us : List Value} {i : Nat} {u : Value}, Vals xs us → us[i]? = some u → ∃ x, xs[i]? = some x ∧ RelV x u
  | _, _, _, _, .nil, e => by simp at e
  | _, _, 0, _, .cons r _, e => by simp at e; subst e; exact ⟨_, rfl, r⟩
  | _, _, i + 1, u, .cons _ t, e => by
    obtain ⟨x, h1, h2⟩ := Vals.get' (i := i) (u := u) t (by simpa using e)
    exact ⟨x, by simpa using h1, h2⟩
theorem plainAll_mem : ∀ {l : List PyData} {x : PyData}, PyData.plainAll l = true → x ∈ l → x.plain = true
  | y :: r, x, h, m => by
    simp only [PyData.plainAll, Bool.and_eq_true] at h
    rcases List.mem_cons.mp m with rfl | m
    · exact h.1
    · exact plainAll_mem h.2 m
theorem cr_minD (hc : X.calm = true) (hu : X.A.units + 64 < cLine) : CallR X (.builtin "min") (rMinD X.K) := by
  intro pins s σ H vs us Q I r h
  obtain ⟨a, xs, d, ds, rfl, hs, hp, ha, hpl, hd, q⟩ := h
  obtain ⟨its, rv, hl, _⟩ := I.list hs
  rw [Vals.ref1 r]
  obtain ⟨as, hr⟩ := Dp.readsAll I _ _ its hp rv
  refine PySem.W.min_list_data (I.ok.hd hc) hl.isList (show ReadsAll s.heap its.toArray.toList (d :: ds) as from hr) ha (by omega) fun i v h' tk bs hi r' hk => ?_
  have hi' : its[i]? = some v := by simpa using hi
  obtain ⟨x, hx, rx⟩ := Vals.get' rv hi'
  obtain ⟨cs, r2, hlt, hm, _⟩ := PySem.W.readsAll_at hr i v hi'
  have e : (d :: ds).getD i .none = PySem.W.minD d ds := SeqAt.plain_unique _ _ v _ _ (plainAll_mem hpl hm) (PySem.W.reads_keeps hk r2) r'
  refine ⟨x, H, I.kept hk, rx, q i x hx ?_⟩
  rw [← e, List.getD_eq_getElem?_getD, List.getElem?_eq_getElem hlt]
  rfl
theorem call_MinL (hc : X.calm = true) (hu : X.A.units + 64 < cLine) : DCall X (.builtin "min") aMinL := ⟨_, cr_minD hc hu, fun {G M F H xs ds Q QV} at_ h1 h kr => by
  match ds, h, h1 with
  | [.lst (d :: ds)], h, h1 =>
    obtain ⟨v, rfl, w⟩ := h1.one
    obtain ⟨a, ys, rfl, k1, l1⟩ := w.lst at_.ex
    obtain ⟨⟨z1, z2, z3⟩, q⟩ := h
    refine ⟨a, ys, py d, pys ds, rfl, SqL.of k1, ?_, ?_, ?_, ?_, fun i v hv e => ?_⟩
    · have := l1.dp at_.ex z1
      simpa only [pys] using this
    · simpa only [pys] using z3
    · simpa only [pys] using plain_pys (d :: ds)
    · simpa only [pys] using z2
    · obtain ⟨m, hm, dm⟩ := l1.get' hv
      refine kr.to at_ dm (q m (List.mem_of_getElem? hm) ?_)
      have e' : (pys (d :: ds))[i]? = some (PySem.W.minD (py d) (pys ds)) := by simpa only [pys] using e
      rw [pys_map, List.getElem?_map, hm] at e'
      simpa using e'⟩
/-- sorted of alike data -/
def aSorted : AL
  | [.lst ds], M, Q => ds.length ≤ 16777216 ∧ pls ds = true ∧ (∀ d ∈ ds, (py d).depth ≤ 60) ∧ PySem.W.AllAlike (ds.map py) ∧ PySem.W.Sortable (ds.map py) ∧ Q (.lst (ds.mergeSort (PySem.W.dataLe false py))) M
  | _, _, _ => False
def rSortD (K : PySem.W.Frag) : List V → Hp → VK → Prop := fun vs H Q => ∃ (R : V → D → Prop) (a : Addr) (xs : List V) (ds : List D), vs = [.ref a] ∧ SqL K H a xs ∧ ds.length ≤ sizeLine ∧ PySem.W.EachIs R xs ds ∧ (∀ v d, d ∈ ds → R v d → Dp K H v (py d)) ∧
  PySem.W.AllAlike (ds.map py) ∧ PySem.W.Sortable (ds.map py) ∧ (∀ d ∈ ds, (py d).depth ≤ 60) ∧ ∀ p ys, H p = none → PySem.W.EachIs R ys (ds.mergeSort (PySem.W.dataLe false py)) → Q (.ref p) (upd H p (.lst ys))
theorem each_vals {R : V → D → Prop} : ∀ {xs : List V} {us : List Value} {ds : List D}, Vals xs us → PySem.W.EachIs R xs ds → PySem.W.EachIs (fun u d => ∃ v, RelV v u ∧ R v d) us ds
  | _, _, _, .nil, .nil => .nil
  | _, _, _, .cons r t, .cons a b => .cons ⟨_, r, a⟩ (each_vals t b)
theorem vals_each {R : V → D → Prop} : ∀ {us : List Value} {ds : List D}, PySem.W.EachIs (fun u d => ∃ v, RelV v u ∧ R v d) us ds → ∃ xs, Vals xs us ∧ PySem.W.EachIs R xs ds
  | _, _, .nil => ⟨[], .nil, .nil⟩
  | _, _, .cons ⟨v, r, q⟩ t => by
    obtain ⟨xs, h1, h2⟩ := vals_each t
    exact ⟨v :: xs, .cons r h1, .cons q h2⟩
theorem each_mem {α β : Type} {R : α → β → Prop} : ∀ {as : List α} {bs : List β}, PySem.W.EachIs R as bs → PySem.W.EachIs (fun a b => b ∈ bs ∧ R a b) as bs
  | _, _, .nil => .nil
  | _, _, .cons a b => .cons ⟨List.mem_cons_self, a⟩ ((each_mem b).mono fun _ _ h => ⟨List.mem_cons_of_mem _ h.1, h.2⟩)
theorem cr_sortD (hu : X.A.units + 64 < cLine) : CallR X (.builtin "sorted") (rSortD X.K) := by
  intro pins s σ H vs us Q I r h
  obtain ⟨R, a, xs, ds, rfl, hs, hz, he, hp, ha, hk, hd, q⟩ := h
  obtain ⟨its, rv, hl, _⟩ := I.list hs
  rw [Vals.ref1 r]
  have e1 := each_vals rv he
  have e2 : PySem.W.EachIs (fun v b => ∃ as, Reads s.heap v (py b) as) its ds := (each_mem e1).mono fun u d ⟨m, v, rr, q⟩ => Dp.reads I (py d) v u (hp v d m q) rr
  refine PySem.W.sorted_data hl.isList e1 e2 ha hk hz (fun b hb => by have := hd b hb; omega) fun out ho eo => ?_
  obtain ⟨ys, vy, ey⟩ := vals_each eo
  obtain ⟨ep, he'⟩ := PyProof.Rows.sortedAll_at s.heap its out.toArray
  have hlen : ys.length ≤ sizeLine := by rw [vy.length, ho]; exact hz
  exact ⟨.ref _, upd H (s.heap.objs.size + 1) (.lst ys), I.laid (t' := s.toks) (fun _ _ => PyProof.Rows.sortedAll_old) (Nat.le_succ _) ⟨hlen, out, ep, vy, he'⟩, rfl, q _ ys (I.hok.fresh (Nat.le_succ _)) ey⟩
theorem each_dv {K : PySem.W.Frag} {G : Hp} : ∀ {xs : List V} {ds : List D}, DvA K G xs ds → PySem.W.EachIs (Dv K G) xs ds
  | _, _, .nil => .nil
  | _, _, .cons a b => .cons a (each_dv b)
theorem dv_each {K : PySem.W.Frag} {G : Hp} : ∀ {xs : List V} {ds : List D}, PySem.W.EachIs (Dv K G) xs ds → DvA K G xs ds
  | _, _, .nil => .nil
  | _, _, .cons a b => .cons a (dv_each b)
theorem call_Sorted (hu : X.A.units + 64 < cLine) : DCall X (.builtin "sorted") aSorted := ⟨_, cr_sortD hu, fun {G M F H xs ds Q QV} at_ h1 h kr => by
  match ds, h, h1 with
  | [.lst ds], h, h1 =>
    obtain ⟨v, rfl, w⟩ := h1.one
    obtain ⟨a, ys, rfl, k1, l1⟩ := w.lst at_.ex
    obtain ⟨z1, z2, z3, z4, z5, q⟩ := h
    refine ⟨Dv X.K G, a, ys, ds, rfl, SqL.of k1, by rw [sizeLine_eq]; exact z1, each_dv l1, fun v d m r => r.dp at_.ex ?_, z4, z5, z3, fun p zs hp ez => kr.newL at_ hp (dv_each ez) q⟩
    rw [pls_all] at z2
    exact List.all_eq_true.mp z2 d m⟩
/-- list(..), tuple(..) of a list or tuple -/
def aList : AL
  | [.lst ds], M, Q => Q (.lst ds) M
  | [.tup ds], M, Q => Q (.lst ds) M
  | [.scr ns], M, Q => Q (.lst (ns.map .int)) M
  | _, _, _ => False
/-- .. that will change -/
def aListM : AL
  | [.lst ds], M, Q => ∀ p, M p = none → Q (.ref p) (mset M p (.lst ds))
  | [.tup ds], M, Q => ∀ p, M p = none → Q (.ref p) (mset M p (.lst ds))
  | _, _, _ => False
def aTuple : AL
  | [.lst ds], M, Q => Q (.tup ds) M
  | [.tup ds], M, Q => Q (.tup ds) M
  | _, _, _ => False
theorem call_List : DCall X (.type "list") aList := ⟨_, call_list_of, fun {G M F H xs ds Q QV} at_ h1 h kr => by
  match ds, h, h1 with
  | [.lst ds], h, h1 =>
    obtain ⟨v, rfl, w⟩ := h1.one
    obtain ⟨a, ys, rfl, k1, l1⟩ := w.lst at_.ex
    exact ⟨a, ys, rfl, .inl (SqL.of k1), fun l hl => kr.newL at_ hl l1 h⟩
  | [.tup ds], h, h1 =>
    obtain ⟨v, rfl, w⟩ := h1.one
    obtain ⟨a, ys, rfl, k1, l1⟩ := w.tup at_.ex
    exact ⟨a, ys, rfl, .inr k1, fun l hl => kr.newL at_ hl l1 h⟩
  | [.scr ns], h, h1 =>
    obtain ⟨v, rfl, w⟩ := h1.one
    obtain ⟨a, rfl, k1⟩ := w.scr at_.ex
    exact ⟨a, _, rfl, .inl k1, fun l hl => kr.newL at_ hl (ints_dv ns) h⟩⟩
theorem call_ListM : DCall X (.type "list") aListM := ⟨_, call_list_of, fun {G M F H xs ds Q QV} at_ h1 h kr => by
  match ds, h, h1 with
  | [.lst ds], h, h1 =>
    obtain ⟨v, rfl, w⟩ := h1.one
    obtain ⟨a, ys, rfl, k1, l1⟩ := w.lst at_.ex
    exact ⟨a, ys, rfl, .inl (SqL.of k1), fun l hl => kr.newM at_ hl l1 (h l (at_.free hl).1)⟩
  | [.tup ds], h, h1 =>
    obtain ⟨v, rfl, w⟩ := h1.one
    obtain ⟨a, ys, rfl, k1, l1⟩ := w.tup at_.ex
    exact ⟨a, ys, rfl, .inr k1, fun l hl => kr.newM at_ hl l1 (h l (at_.free hl).1)⟩⟩
theorem call_Tuple : DCall X (.type "tuple") aTuple := ⟨_, call_tuple_of, fun {G M F H xs ds Q QV} at_ h1 h kr => by
  match ds, h, h1 with
  | [.lst ds], h, h1 =>
    obtain ⟨v, rfl, w⟩ := h1.one
    obtain ⟨a, ys, rfl, k1, l1⟩ := w.lst at_.ex
    exact ⟨a, ys, rfl, .inl ⟨SqL.of k1, fun l hl => kr.newT at_ hl l1 h⟩⟩
  | [.tup ds], h, h1 =>
    obtain ⟨v, rfl, w⟩ := h1.one
    obtain ⟨a, ys, e, k1, l1⟩ := w.tup at_.ex
    rcases w with w | ⟨_, _, _, _, e', _⟩
    · subst e
      exact ⟨a, ys, rfl, .inr ⟨k1, kr.to at_ w h⟩⟩
    · cases e'⟩
/-! isinstance against built-in types -/
def tyN : D → Option String
  | .non => some "NoneType"
  | .bl _ => some "bool"
  | .int _ => some "int"
  | .str _ => some "str"
  | .lst _ => some "list"
  | .tup _ => some "tuple"
  | .scr _ => some "list"
  | .byt _ => some "bytes"
  | _ => none
/-- the answer -/
def isT : String → String → Option Bool
  | "NoneType", n => if n = "int" ∨ n = "str" ∨ n = "bool" ∨ n = "list" ∨ n = "tuple" ∨ n = "dict" then some false else none
  | "bool", n => if n = "bool" ∨ n = "int" then some true else if n = "str" ∨ n = "list" ∨ n = "tuple" ∨ n = "dict" then some false else none
  | "int", n => if n = "int" then some true else if n = "str" ∨ n = "bool" ∨ n = "list" ∨ n = "tuple" ∨ n = "dict" then some false else none
  | "str", n => if n = "str" then some true else if n = "int" ∨ n = "bool" ∨ n = "list" ∨ n = "tuple" ∨ n = "dict" then some false else none
  | "list", n => if n = "list" then some true else if n = "int" ∨ n = "bool" ∨ n = "str" ∨ n = "tuple" ∨ n = "dict" then some false else none
  | "tuple", n => if n = "tuple" then some true else if n = "int" ∨ n = "bool" ∨ n = "str" ∨ n = "list" ∨ n = "dict" then some false else none
  | "bytes", n => if n = "int" ∨ n = "bool" ∨ n = "str" ∨ n = "list" ∨ n = "dict" ∨ n = "tuple" then some false else none
  | _, _ => none
theorem isT_ok {t n : String} {b : Bool} (h : isT t n = some b) : kitB t n = some b := by
  unfold isT at h
  split at h <;> (repeat' split at h) <;> first
    | (cases h; done)
    | skip
  all_goals (rename_i c; (try (rename_i c2)); skip)
  all_goals first
    | (rcases c with rfl | rfl | rfl | rfl | rfl | rfl <;> (cases h; decide +kernel))
    | (rcases c with rfl | rfl | rfl | rfl | rfl <;> (cases h; decide +kernel))
    | (rcases c with rfl | rfl | rfl | rfl <;> (cases h; decide +kernel))
    | (rcases c with rfl | rfl <;> (cases h; decide +kernel))
    | (subst c; cases h; decide +kernel)
def aIsi : AL
  | [x, .ty n], M, Q => ∃ t b, tyN x = some t ∧ isT t n = some b ∧ Q (.bl b) M
  | _, _, _ => False
theorem tyX_of {K : PySem.W.Frag} {G H : Hp} {v : V} {d : D} {t : String} (ex : Ex G H) (h : Dw K G H v d) (e : tyN d = some t) : TyX K H v (.type t) ∨ ∃ a o xs, v = .ref a ∧ t = "list" ∧ H a = some (.frz o (.lst xs)) := by
  cases d with
  | non => cases e; rw [h.non]; exact .inl (.base .non)
  | bl b => cases e; rw [h.bl]; exact .inl (.base (.bl b))
  | int b => cases e; rw [h.int]; exact .inl (.base (.int b))
  | str b => cases e; rw [h.str]; exact .inl (.base (.str _))
  | byt b => cases e; rw [h.byt]; exact .inl (.byt b)
  | lst ds =>
    cases e
    obtain ⟨a, xs, rfl, k, _⟩ := h.lst ex
    exact .inl (.base (.lst k))
  | tup ds =>
    cases e
    obtain ⟨a, xs, rfl, k, _⟩ := h.tup ex
    rcases k with (k | ⟨o, k⟩) | ⟨o, its, n, k, c, _⟩
    · exact .inl (.base (.tup k))
    · exact .inl (.fTuple k)
    · exact .inl (.kTuple k c)
  | scr ns =>
    cases e
    obtain ⟨a, rfl, k⟩ := h.scr ex
    rcases k with (k | ⟨o, k⟩) | ⟨o, its, n, k, c, _⟩
    · exact .inl (.base (.lst k))
    · exact .inl (.base (.frz k))
    · exact .inl (.kList k c)
  | _ => cases e
theorem tyX_is {K : PySem.W.Frag} {G H : Hp} {v : V} {d : D} {t : String} (ex : Ex G H) (h : Dw K G H v d) (e : tyN d = some t) : TyX K H v (.type t) := by
  rcases tyX_of ex h e with q | ⟨a, o, xs, rfl, rfl, q⟩
  · exact q
  · exact .base (.frz q)
theorem call_Isi : DCall X (.builtin "isinstance") aIsi := ⟨_, call_isi, fun {G M F H xs ds Q QV} at_ h1 h kr => by
  match ds, h, h1 with
  | [x, .ty n], h, h1 =>
    obtain ⟨v, w, rfl, w1, w2⟩ := h1.two
    obtain ⟨t, b, e1, e2, q⟩ := h
    exact ⟨v, w, .type t, .type n, b, rfl, by rw [w2.ty]; exact .ty n, tyX_is at_.ex w1 e1, kit_ty (isT_ok e2), kr.to at_ (.bl b) q⟩⟩
/-- isinstance(e, (A, B)) -/
def dIsi2 (a b : String) (te : DTE) : DTE := fun δ M Q Qx => te δ M (fun d M1 => ∃ t b1 b2, tyN (vw M1 d) = some t ∧ isT t a = some b1 ∧ isT t b = some b2 ∧ Q (.bl (b1 || b2)) M1) Qx
theorem de_isi2 {e : Expr} {te : DTE} {n1 n2 : Str} {a b : String} {k : Nat} {p q1 q2 q3 pos : Pos} (he : DE X e te) (hm : X.mg "isinstance" = none) (m1 : X.mg n1 = none) (v1 : bootBuiltins n1 = some (.type a)) (m2 : X.mg n2 = none) (v2 : bootBuiltins n2 = some (.type b))
    (hg : Gl X "isinstance" := by rfl) (g1 : Gl X n1 := by rfl) (g2 : Gl X n2 := by rfl) (hn1 : n1 ≠ "__name__" := by decide) (hn2 : n2 ≠ "__name__" := by decide) (hd1 : (n1 == ("__debug__" : Str)) = false := by decide) (hd2 : (n2 == ("__debug__" : Str)) = false := by decide)
    (hs : starEach [e, .Tuple [.Name n1 q1, .Name n2 q2] k q3] X.env = (false, eval e X.env) :: starEach [.Tuple [.Name n1 q1, .Name n2 q2] k q3] X.env := by rfl)
    (hs2 : starEach [.Tuple [.Name n1 q1, .Name n2 q2] k q3] X.env = (false, eval (.Tuple [.Name n1 q1, .Name n2 q2] k q3) X.env) :: starEach [] X.env := by rfl)
    (hs3 : starEach [.Name n1 q1, .Name n2 q2] X.env = (false, eval (.Name n1 q1) X.env) :: starEach [.Name n2 q2] X.env := by rfl) (hs4 : starEach [.Name n2 q2] X.env = (false, eval (.Name n2 q2) X.env) :: starEach [] X.env := by rfl)
    (hpl : (backTo pos (starEach [.Tuple [.Name n1 q1, .Name n2 q2] k q3] X.env)).any (·.1) = false := by rfl) :
    DE X (.Call (.Name "isinstance" p) [e, .Tuple [.Name n1 q1, .Name n2 q2] k q3] [] pos) (dIsi2 a b te) := by
  have p1 : PE X (.Name n1 q1) (tC (.ty a)) := pe_bltn g1 m1 v1 rfl hn1 hd1
  have p2 : PE X (.Name n2 q2) (tC (.ty b)) := pe_bltn g2 m2 v2 rfl hn2 hd2
  have pt : PE X (.Tuple [.Name n1 q1, .Name n2 q2] k q3) (tTup (tCons (tC (.ty a)) (tCons (tC (.ty b)) tNil))) := pe_tup (pa_cons p1 (pa_cons p2 pa_nil hs4) hs3)
  have all := pe_callB (p := p) (pos := pos) (call_isiT (X := X)) hg hm (by decide +kernel) (pa_cons (pe_of X e) (pa_cons pt pa_nil hs2) hs) (by decide) (by decide) hs hpl
  refine ⟨fun {δ M F Q Qx W σ G H QV} q hh kr kx => PE.te all (he.run q hh (fun v d G1 M1 H1 e1 a1 d1 q1 => ?_) kx)⟩
  obtain ⟨t, b1, b2, t1, k1, k2, q⟩ := q1
  refine ⟨by show 2 ≤ sizeLine; decide, fun r hr => ?_⟩
  have ty := tyX_is a1.ex (vw_ok a1 d1) t1
  have a2 := a1.extra hr (.tup [.ty a, .ty b])
  have ty2 := tyX_is a2.ex (vw_ok a2 d1) t1
  refine ⟨v, r, [.ty a, .ty b], .type t, [.type a, .type b], (b1 || b2), rfl, upd_same, .cons (.ty a) (.cons (.ty b) .nil), ty2, ?_, kr _ _ G1 M1 _ e1 a2 (.bl _) q⟩
  refine kitAny_cons (kit_ty (isT_ok k1)) (fun e => ?_) (fun e => by rw [e]; rfl)
  refine kitAny_cons (kit_ty (isT_ok k2)) (fun e2 => by rw [e, e2]; exact kitAny_nil) (fun e2 => by rw [e2]; simp)
end
end DL

set_option Elab.async false
set_option linter.all false
set_option maxRecDepth 100000
set_option maxHeartbeats 4000000
/-! DL4: methods, fields, statements, targets. -/
namespace DL
open PySem L2 PySem.Spec PyProof.Rows
theorem At.lst {K : PySem.W.Frag} {G H : Hp} {M F : Mem} (at_ : At K G M F H) {a : Addr} {ds : List D} (h : M a = some (.lst ds)) : ∃ xs, H a = some (.lst xs) ∧ DvA K G xs ds := by
  obtain ⟨ho, e, k⟩ := at_.mem h
  cases ho with
  | lst xs => exact ⟨xs, e, k⟩
  | _ => exact False.elim k
theorem At.ins {K : PySem.W.Frag} {G H : Hp} {M F : Mem} (at_ : At K G M F H) {a C dx : Addr} {fs : List (Str × D)} (h : M a = some (.ins C dx fs)) : ∃ gs, H a = some (.ins C dx gs) ∧ KD K G gs fs := by
  obtain ⟨ho, e, k⟩ := at_.mem h
  cases ho with
  | ins C' dx' gs =>
    obtain ⟨e1, e2, k⟩ := k
    subst e1 e2
    exact ⟨gs, e, k⟩
  | _ => exact False.elim k
theorem tyV_lst {K : PySem.W.Frag} {H : Hp} {a : Addr} {xs : List V} (h : H a = some (.lst xs)) : tyV K "list" (.ref a) H := Or.inl ⟨rfl, _, SqL.of h⟩
/-! ### methods of lists and texts -/
section
variable {X : Cx} {o e : Expr} {es : List Expr} {to te : DTE} {ta : DTA} {apos cpos : Pos}
def dAppend (to : DTE) (ta : DTA) : DTE := fun δ M Q Qx => to δ M (fun x M1 => ∃ a ds, x = .ref a ∧ M1 a = some (.lst ds) ∧ ta δ M1 (fun ys M2 => ∃ y ds', ys = [y] ∧ M2 a = some (.lst ds') ∧ ds'.length < 16777216 ∧ Q .non (mset M2 a (.lst (ds' ++ [y])))) Qx) Qx
theorem de_append (ho : DE X o to) (ha : DA X [e] ta) (hbase : attributeBase o "append" X.env (eval o X.env) = eval o X.env := by rfl)
    (hfew : ((backTo cpos (starEach [e] X.env)).all (fun x => !x.1) && (backToKw cpos (keywordEach [] X.env)).all (fun x => x.1.isSome)
      && decide ([e].length + ([] : List Keyword).length + (if ([] : List Keyword).isEmpty then 0 else 1) < 30)) = true := by rfl)
    (hline : (apos.endLine == cpos.line) = true := by rfl) (hs : starEach [e] X.env = (false, eval e X.env) :: starEach [] X.env := by rfl) (hplain : (backTo cpos (starEach [] X.env)).any (·.1) = false := by rfl) :
    DE X (.Call (.Attribute o "append" apos) [e] [] cpos) (dAppend to ta) :=
  ⟨fun {δ M F Q Qx W σ G H QV} h hh kr kx => PE.te (pe_bm PySem.F.plainAttrs_list PySem.F.slot_list_append PySem.F.type_list_append mt_append (pe_of X o) (pa_of X [e]) hbase hfew hline hs hplain) (ho.run h hh (fun v d G1 M1 H1 e1 a1 d1 q1 => by
    obtain ⟨a, ds, rfl, hm, q⟩ := q1
    cases d1
    obtain ⟨xs, hx, _⟩ := a1.lst hm
    refine ⟨tyV_lst hx, ha.run q (hh.on e1 a1) (fun vs ys G2 M2 H2 e2 a2 d2 q2 => ?_) (kx.mono e1)⟩
    obtain ⟨y, ds', rfl, hm2, hz, q⟩ := q2
    obtain ⟨zs, hz2, k2⟩ := a2.lst hm2
    cases d2 with
    | cons dy dn =>
      cases dn
      exact ⟨a, zs, _, rfl, rfl, hz2, by rw [k2.length, sizeLine_eq]; exact hz, kr _ _ _ _ _ (e1.trans e2) (a2.write hm2 (o := .lst _) (m := .lst (ds' ++ [y])) (k2.append (.one dy))) .non q⟩) kx)⟩
def dExtend (to : DTE) (ta : DTA) : DTE := fun δ M Q Qx => to δ M (fun x M1 => ∃ a ds, x = .ref a ∧ M1 a = some (.lst ds) ∧ ta δ M1 (fun ys M2 => ∃ y zs ds', ys = [y] ∧ vw M2 y = .lst zs ∧ M2 a = some (.lst ds') ∧ ds'.length + zs.length ≤ 16777216 ∧ Q .non (mset M2 a (.lst (ds' ++ zs)))) Qx) Qx
theorem de_extend (ho : DE X o to) (ha : DA X [e] ta) (hbase : attributeBase o "extend" X.env (eval o X.env) = eval o X.env := by rfl)
    (hfew : ((backTo cpos (starEach [e] X.env)).all (fun x => !x.1) && (backToKw cpos (keywordEach [] X.env)).all (fun x => x.1.isSome)
      && decide ([e].length + ([] : List Keyword).length + (if ([] : List Keyword).isEmpty then 0 else 1) < 30)) = true := by rfl)
    (hline : (apos.endLine == cpos.line) = true := by rfl) (hs : starEach [e] X.env = (false, eval e X.env) :: starEach [] X.env := by rfl) (hplain : (backTo cpos (starEach [] X.env)).any (·.1) = false := by rfl) :
    DE X (.Call (.Attribute o "extend" apos) [e] [] cpos) (dExtend to ta) :=
  ⟨fun {δ M F Q Qx W σ G H QV} h hh kr kx => PE.te (pe_bm PySem.F.plainAttrs_list PySem.F.slot_list_extend PySem.F.type_list_extend mt_extend (pe_of X o) (pa_of X [e]) hbase hfew hline hs hplain) (ho.run h hh (fun v d G1 M1 H1 e1 a1 d1 q1 => by
    obtain ⟨a, ds, rfl, hm, q⟩ := q1
    cases d1
    obtain ⟨xs, hx, _⟩ := a1.lst hm
    refine ⟨tyV_lst hx, ha.run q (hh.on e1 a1) (fun vs ys G2 M2 H2 e2 a2 d2 q2 => ?_) (kx.mono e1)⟩
    obtain ⟨y, zs, ds', rfl, hv, hm2, hz, q⟩ := q2
    obtain ⟨zs', hz2, k2⟩ := a2.lst hm2
    cases d2 with
    | cons dy dn =>
      cases dn
      have w := vw_ok a2 dy
      rw [hv] at w
      obtain ⟨b, ws, rfl, hb, kb⟩ := w.lst a2.ex
      exact ⟨a, b, zs', ws, rfl, rfl, hz2, hb, by rw [k2.length, kb.length, sizeLine_eq]; exact hz, kr _ _ _ _ _ (e1.trans e2) (a2.write hm2 (o := .lst _) (m := .lst (ds' ++ zs)) (k2.append kb)) .non q⟩) kx)⟩
def dPop (to : DTE) : DTE := fun δ M Q Qx => to δ M (fun x M1 => ∃ a ds y, x = .ref a ∧ M1 a = some (.lst ds) ∧ ds[ds.length - 1]? = some y ∧ Q y (mset M1 a (.lst ds.dropLast))) Qx
theorem DvA.dropLast {K : PySem.W.Frag} {G : Hp} {xs : List V} {ds : List D} (h : DvA K G xs ds) : DvA K G xs.dropLast ds.dropLast := by
  rw [List.dropLast_eq_take, List.dropLast_eq_take, h.length]
  exact h.take _
theorem de_pop (ho : DE X o to) (hbase : attributeBase o "pop" X.env (eval o X.env) = eval o X.env := by rfl) (hline : (apos.endLine == cpos.line) = true := by rfl) :
    DE X (.Call (.Attribute o "pop" apos) [] [] cpos) (dPop to) :=
  ⟨fun {δ M F Q Qx W σ G H QV} h hh kr kx => PE.te (pe_bm0 PySem.F.plainAttrs_list PySem.F.slot_list_pop PySem.F.type_list_pop mt_pop (pe_of X o) hbase hline) (ho.run h hh (fun v d G1 M1 H1 e1 a1 d1 q1 => by
    obtain ⟨a, ds, y, rfl, hm, hy, q⟩ := q1
    cases d1
    obtain ⟨xs, hx, k⟩ := a1.lst hm
    obtain ⟨v, hv, dv⟩ := k.get hy
    exact ⟨tyV_lst hx, a, xs, v, rfl, rfl, hx, by rw [k.length]; exact hv, kr _ _ _ _ _ e1 (a1.write hm (o := .lst _) (m := .lst ds.dropLast) k.dropLast) dv q⟩) kx)⟩
def dPopAt (to : DTE) (ta : DTA) : DTE := fun δ M Q Qx => to δ M (fun x M1 => ∃ a ds, x = .ref a ∧ M1 a = some (.lst ds) ∧ ta δ M1 (fun ys M2 => ∃ i j ds' y, ys = [.int i] ∧ M2 a = some (.lst ds') ∧ -(2 ^ 63) ≤ i ∧ i < 2 ^ 63 ∧ seqIndex? i ds'.length = some j ∧ ds'[j]? = some y ∧ Q y (mset M2 a (.lst (ds'.eraseIdx j)))) Qx) Qx
theorem de_popAt (ho : DE X o to) (ha : DA X [e] ta) (hbase : attributeBase o "pop" X.env (eval o X.env) = eval o X.env := by rfl)
    (hfew : ((backTo cpos (starEach [e] X.env)).all (fun x => !x.1) && (backToKw cpos (keywordEach [] X.env)).all (fun x => x.1.isSome)
      && decide ([e].length + ([] : List Keyword).length + (if ([] : List Keyword).isEmpty then 0 else 1) < 30)) = true := by rfl)
    (hline : (apos.endLine == cpos.line) = true := by rfl) (hs : starEach [e] X.env = (false, eval e X.env) :: starEach [] X.env := by rfl) (hplain : (backTo cpos (starEach [] X.env)).any (·.1) = false := by rfl) :
    DE X (.Call (.Attribute o "pop" apos) [e] [] cpos) (dPopAt to ta) :=
  ⟨fun {δ M F Q Qx W σ G H QV} h hh kr kx => PE.te (pe_bm PySem.F.plainAttrs_list PySem.F.slot_list_pop PySem.F.type_list_pop mt_popAt (pe_of X o) (pa_of X [e]) hbase hfew hline hs hplain) (ho.run h hh (fun v d G1 M1 H1 e1 a1 d1 q1 => by
    obtain ⟨a, ds, rfl, hm, q⟩ := q1
    cases d1
    obtain ⟨xs, hx, _⟩ := a1.lst hm
    refine ⟨tyV_lst hx, ha.run q (hh.on e1 a1) (fun vs ys G2 M2 H2 e2 a2 d2 q2 => ?_) (kx.mono e1)⟩
    obtain ⟨i, j, ds', y, rfl, hm2, h1, h2, hj, hy, q⟩ := q2
    obtain ⟨zs, hz2, k2⟩ := a2.lst hm2
    cases d2 with
    | cons dy dn =>
      cases dn
      cases dy
      obtain ⟨v, hv, dv⟩ := k2.get hy
      exact ⟨a, zs, i, j, v, rfl, rfl, hz2, h1, h2, by rw [k2.length]; exact hj, hv, kr _ _ _ _ _ (e1.trans e2) (a2.write hm2 (o := .lst _) (m := .lst (ds'.eraseIdx j)) (k2.erase j)) dv q⟩) kx)⟩
/-- sep.join(xs) -/
def dJoin (to te : DTE) : DTE := fun δ M Q Qx => to δ M (fun x M1 => ∃ s, x = .str s ∧ te δ M1 (fun y M2 => ∃ ys : List (List Nat), vw M2 y = .lst (ys.map D.str) ∧ (ys.map (·.length)).sum + ys.length * s.length ≤ 16777216 ∧ Q (.str (TL.joinL s ys)) M2) Qx) Qx
theorem DvA.strs {K : PySem.W.Frag} {G : Hp} : ∀ {ys : List (List Nat)} {xs : List V}, DvA K G xs (ys.map D.str) → xs = (ys.map S).map V.str
  | [], _, h => by cases h; rfl
  | b :: r, _, h => by
    cases h with
    | cons a t => cases a; rw [t.strs]; rfl
theorem de_join (ho : DE X o to) (he : DE X e te) (hs : starEach [e] X.env = [(false, eval e X.env)] := by rfl) (hbase : attributeBase o "join" X.env (eval o X.env) = eval o X.env := by rfl) (hline : (apos.endLine == cpos.line) = true := by rfl) :
    DE X (.Call (.Attribute o "join" apos) [e] [] cpos) (dJoin to te) :=
  ⟨fun {δ M F Q Qx W σ G H QV} h hh kr kx => PE.te (pe_join (pe_of X o) (pe_of X e) hs hbase hline) (ho.run h hh (fun v d G1 M1 H1 e1 a1 d1 q1 => by
    obtain ⟨s, rfl, q⟩ := q1
    cases d1
    refine ⟨⟨_, rfl⟩, he.run q (hh.on e1 a1) (fun v2 d2 G2 M2 H2 e2 a2 dd2 q2 => ?_) (kx.mono e1)⟩
    obtain ⟨ys, hv, hz, q⟩ := q2
    have w := vw_ok a2 dd2
    rw [hv] at w
    obtain ⟨b, ws, rfl, hb, kb⟩ := w.lst a2.ex
    have e3 := kb.strs
    subst e3
    refine ⟨_, b, ys.map S, rfl, rfl, .inl (SqL.of hb), ?_, ?_⟩
    · rw [List.length_map, S_len, SX.lens]
      exact hz
    · have e4 : Txt.join (S s) (ys.map S) = S (TL.joinL s ys) := SX.join_S s ys
      rw [e4]
      exact kr _ _ _ _ _ (e1.trans e2) a2 (.str _) q) kx)⟩
/-! ### fields -/
theorem KD.lookup {K : PySem.W.Frag} {G : Hp} {f : Str} {d : D} : ∀ {gs : List (Str × V)} {fs : List (Str × D)}, KD K G gs fs → fs.lookup f = some d → ∃ v, gs.lookup f = some v ∧ Dv K G v d
  | _, _, .nil, h => by cases h
  | (k, v) :: gs, (k', d') :: fs, .cons r t, h => by
    obtain ⟨e, r⟩ := r
    have e : k = k' := e
    subst e
    rw [List.lookup_cons] at h ⊢
    cases q : f == k with
    | true => rw [q] at h; cases h; exact ⟨v, rfl, r⟩
    | false => rw [q] at h; exact KD.lookup t h
theorem KD.lookup0 {K : PySem.W.Frag} {G : Hp} {f : Str} : ∀ {gs : List (Str × V)} {fs : List (Str × D)}, KD K G gs fs → fs.lookup f = none → gs.lookup f = none
  | _, _, .nil, h => rfl
  | (k, v) :: gs, (k', d') :: fs, .cons r t, h => by
    obtain ⟨e, r⟩ := r
    have e : k = k' := e
    subst e
    rw [List.lookup_cons] at h ⊢
    cases q : f == k with
    | true => rw [q] at h; cases h
    | false => rw [q] at h; exact KD.lookup0 t h
def putD (f : Str) (v : D) : List (Str × D) → List (Str × D)
  | [] => [(f, v)]
  | (g, w) :: r => if g = f then (g, v) :: r else (g, w) :: putD f v r
theorem putF_eq (f : Str) (v : V) : ∀ l : List (Str × V), putF f v l = (match l with | [] => [(f, v)] | (g, w) :: r => if g = f then (g, v) :: r else (g, w) :: putF f v r)
  | [] => rfl
  | (g, w) :: r => rfl
theorem KD.put {K : PySem.W.Frag} {G : Hp} {f : Str} {v : V} {d : D} (h : Dv K G v d) : ∀ {gs : List (Str × V)} {fs : List (Str × D)}, KD K G gs fs → KD K G (putF f v gs) (putD f d fs)
  | _, _, .nil => by rw [putF_eq]; exact .cons ⟨rfl, h⟩ .nil
  | (k, w) :: gs, (k', d') :: fs, .cons r t => by
    obtain ⟨e, r⟩ := r
    have e : k = k' := e
    subst e
    rw [putF_eq]
    unfold putD
    by_cases q : k = f
    · simp only [q, if_true]
      exact .cons ⟨rfl, h⟩ t
    · simp only [q, if_false]
      exact .cons ⟨rfl, r⟩ (KD.put h t)
theorem KD.length {κ : Type} {K : PySem.W.Frag} {G : Hp} {gs : List (κ × V)} {fs : List (κ × D)} (h : KD K G gs fs) : gs.length = fs.length := Paired.length h
variable {f : Str} {pos tpos : Pos}
def dFld (K : PySem.W.Frag) (f : Str) (ta : DTE) : DTE := fun δ M Q Qx => ta δ M (fun x M1 => ∃ a C dx fs d, x = .ref a ∧ M1 a = some (.ins C dx fs) ∧ Cls K C ∧ NoAttr K C f ∧ fs.lookup f = some d ∧ Q d M1) Qx
theorem de_fld (he : DE X e te) (hb : attributeBase e f X.env (eval e X.env) = eval e X.env := by rfl) : DE X (.Attribute e f pos) (dFld X.K f te) :=
  ⟨fun {δ M F Q Qx W σ G H QV} h hh kr kx => PE.te (pe_fld (pe_of X e) hb) (he.run h hh (fun v d G1 M1 H1 e1 a1 d1 q1 => by
    obtain ⟨a, C, dx, fs, d, rfl, hm, c, n, l, q⟩ := q1
    cases d1
    obtain ⟨gs, hx, k⟩ := a1.ins hm
    obtain ⟨v, hv, dv⟩ := k.lookup l
    exact ⟨a, C, dx, gs, v, rfl, hx, c, n, hv, kr _ _ _ _ _ e1 a1 dv q⟩) kx)⟩
end

/-! ### statements -/
section
variable {X : Cx} {st : Stmt} {rest : List Stmt} {t u : DTS} {e o : Expr} {te to : DTE} {pos : Pos}
def dNext : DTS := fun E δ M => E.nx δ M
def dSeq (t u : DTS) : DTS := fun E δ M => t { E with nx := u E } δ M
theorem dss_nil : DSs X [] dNext := ⟨fun {δ M F E W σ G H D} h hh ek => PSs.tss pss_nil (ek.nx _ _ _ _ _ (Ex.refl G) hh.sl hh.at_ h)⟩
theorem dss_cons (h1 : DS X st t) (h2 : DSs X rest u) : DSs X (st :: rest) (dSeq t u) :=
  ⟨fun {δ M F E W σ G H D} h hh ek => PSs.tss (pss_cons (ps_of X st) (pss_of X rest)) (h1.run h hh ⟨fun σ' δ' G' M' H' e1 s1 a1 q => h2.run q (hh.go s1 a1) (ek.mono e1), ek.rt, ek.bk, ek.ct, ek.ex⟩)⟩
theorem dss_one (h1 : DS X st t) : DSs X [st] t := ⟨fun {δ M F E W σ G H D} h hh ek => PSs.tss (pss_one (ps_of X st)) (h1.run h hh ek)⟩
def dBreak : DTS := fun E δ M => E.bk δ M
def dCont : DTS := fun E δ M => E.ct δ M
theorem ds_pass : DS X (.Pass pos) dNext := ⟨fun {δ M F E W σ G H D} h hh ek => PS.ts ps_pass (ek.nx _ _ _ _ _ (Ex.refl G) hh.sl hh.at_ h)⟩
theorem ds_break : DS X (.Break pos) dBreak := ⟨fun {δ M F E W σ G H D} h hh ek => PS.ts ps_break (ek.bk _ _ _ _ _ (Ex.refl G) hh.sl hh.at_ h)⟩
theorem ds_continue : DS X (.Continue pos) dCont := ⟨fun {δ M F E W σ G H D} h hh ek => PS.ts ps_continue (ek.ct _ _ _ _ _ (Ex.refl G) hh.sl hh.at_ h)⟩
def dDrop (te : DTE) : DTS := fun E δ M => te δ M (fun _ M1 => E.nx δ M1) (fun x M1 => E.ex x δ M1)
theorem ds_expr (he : DE X e te) (hs : swapsWith e none pos.line X.env = pure false := by rfl) : DS X (.Expr e pos) (dDrop te) :=
  ⟨fun {δ M F E W σ G H D} h hh ek => PS.ts (ps_expr (pe_of X e) hs) (he.run h hh (fun v d G1 M1 H1 e1 a1 _ q => ek.nx _ _ _ _ _ e1 (hh.sl.mono e1) a1 q) (ek.ex.at_ hh.sl))⟩
def dRet (te : DTE) : DTS := fun E δ M => te δ M E.rt (fun x M1 => E.ex x δ M1)
theorem ds_ret (he : DE X e te) : DS X (.Return (some e) pos) (dRet te) :=
  ⟨fun {δ M F E W σ G H D} h hh ek => PS.ts (ps_ret (pe_of X e)) (he.run h hh ek.rt (ek.ex.at_ hh.sl))⟩
def dRetN : DTS := fun E _ M => E.rt .non M
theorem ds_retN : DS X (.Return none pos) dRetN := ⟨fun {δ M F E W σ G H D} h hh ek => PS.ts ps_retN (ek.rt _ _ _ _ _ (Ex.refl G) hh.at_ .non h)⟩
def dIfS (c : DTT) (t u : DTS) : DTS := fun E δ M => c δ M (fun b M1 => if b = true then t E δ M1 else u E δ M1) (fun x M1 => E.ex x δ M1)
theorem ds_if {c : Expr} {a b : List Stmt} {tc : DTT} (hc : DT X c tc) (ha : DSs X a t) (hb : DSs X b u) : DS X (.If c a b pos) (dIfS tc t u) :=
  ⟨fun {δ M F E W σ G H D} h hh ek => PS.ts (ps_if (pt_of X c) (pss_of X a) (pss_of X b)) (hc.run h hh (fun d G1 M1 H1 e1 a1 q1 => by
    cases d with
    | true => exact ha.run q1 (hh.on e1 a1) (ek.mono e1)
    | false => exact hb.run q1 (hh.on e1 a1) (ek.mono e1)) (ek.ex.at_ hh.sl))⟩
def dNever : DTS := fun _ _ _ => False
theorem ds_never : DS X st dNever := ⟨fun {δ M F E W σ G H D} h hh ek => h.elim⟩
theorem dss_never {sts : List Stmt} : DSs X sts dNever := ⟨fun {δ M F E W σ G H D} h hh ek => h.elim⟩

/-! ### targets -/
abbrev DTG := D → Env → Mem → (Env → Mem → Prop) → Prop
abbrev DTGs := List D → Env → Mem → (Env → Mem → Prop) → Prop
def tgOf (X : Cx) (tg : Expr) : TG := fun v σ H Q => ∀ pins s u, Inv X pins σ H s → RelV v u → wpAny (model X.prog X.w) X.A (assign tg X.env u) (fun _ s' => ∃ σ' H', Inv X pins σ' H' s' ∧ Q σ' H') X.xe s
theorem pg_of (X : Cx) (tg : Expr) : PG X tg (tgOf X tg) := ⟨fun pins s σ H v u Q I r h => h pins s u I r⟩
theorem PG.tg {X : Cx} {tg : Expr} {g : TG} (h : PG X tg g) {v : V} {σ : L2.St} {H : Hp} {Q : L2.St → Hp → Prop} (q : g v σ H Q) : tgOf X tg v σ H Q := fun pins s u I r => h.run pins s σ H v u Q I r q
def tgsOf (X : Cx) (ts : List Expr) : TGs := fun vs σ H Q => ∀ pins s us, Inv X pins σ H s → Vals vs us → wpAny (model X.prog X.w) X.A (assignInOrder ((assignEach ts X.env).map (·.2)) us) (fun _ s' => ∃ σ' H', Inv X pins σ' H' s' ∧ Q σ' H') X.xe s
theorem pgs_of (X : Cx) (ts : List Expr) : PGs X ts (tgsOf X ts) := ⟨fun pins s σ H v u Q I r h => h pins s u I r⟩
theorem PGs.tgs {X : Cx} {ts : List Expr} {g : TGs} (h : PGs X ts g) {vs : List V} {σ : L2.St} {H : Hp} {Q : L2.St → Hp → Prop} (q : g vs σ H Q) : tgsOf X ts vs σ H Q := fun pins s u I r => h.run pins s σ H vs u Q I r q
/-- the slots outside vs stand -/
def Still (vs : List Nat) (σ σ' : L2.St) : Prop := σ'.length = σ.length ∧ ∀ j, j ∉ vs → σ'[j]? = σ[j]?
theorem Still.refl (vs : List Nat) (σ : L2.St) : Still vs σ σ := ⟨rfl, fun _ _ => rfl⟩
theorem Still.trans {vs ws : List Nat} {σ σ' σ'' : L2.St} (a : Still vs σ σ') (b : Still ws σ' σ'') : Still (vs ++ ws) σ σ'' :=
  ⟨b.1.trans a.1, fun j h => (b.2 j fun z => h (List.mem_append_right _ z)).trans (a.2 j fun z => h (List.mem_append_left _ z))⟩
def NxG (K : PySem.W.Frag) (G : Hp) (F : Mem) (σ : L2.St) (vs : List Nat) (Q : Env → Mem → Prop) (QV : L2.St → Hp → Prop) : Prop := ∀ σ' δ' G' M' H', Ex G G' → Sl K σ' G' δ' → At K G' M' F H' → Still vs σ σ' → Q δ' M' → QV σ' H'
structure DG (X : Cx) (tg : Expr) (g : DTG) (vs : List Nat) : Prop where
  run : ∀ {d δ M F Q σ G H W v QV}, g d δ M Q → Here X W δ M F σ G H → Dv X.K G v d → NxG X.K G F σ vs Q QV → tgOf X tg v σ H QV
structure DGs (X : Cx) (ts : List Expr) (g : DTGs) (vs : List Nat) : Prop where
  run : ∀ {ds δ M F Q σ G H W xs QV}, g ds δ M Q → Here X W δ M F σ G H → DvA X.K G xs ds → NxG X.K G F σ vs Q QV → tgsOf X ts xs σ H QV
def gNm (i : Nat) : DTG := fun d δ M Q => Q (δ.set i (some d)) M
theorem dg_name {x : Str} (i : Nat) (hN : X.N.Nodup) (hi : X.N[i]? = some x := by rfl) (hx : Loc X.env.scope x := by first | exact Or.inl rfl | exact Or.inr rfl) (hf : X.fn x = true ∨ X.env.scope.names.lookup x = some .local := by first | exact .inl rfl | exact .inr rfl | assumption) : DG X (.Name x pos) (gNm i) [i] :=
  ⟨fun {d δ M F Q σ G H W v QV} h hh dv k => PG.tg (pg_name hN hi hx hf) (k _ _ G M H (Ex.refl G) (hh.sl.set i dv) hh.at_ ⟨List.length_set, fun j hj => by rw [List.getElem?_set_ne (fun z => hj (by simp [z]))]⟩ h)⟩
def gNilD : DTGs := fun ds δ M Q => ds = [] ∧ Q δ M
def gConsD (t : DTG) (u : DTGs) : DTGs := fun ds δ M Q => ∃ d r, ds = d :: r ∧ t d δ M fun δ' M' => u r δ' M' Q
theorem dgs_nil : DGs X [] gNilD [] := ⟨fun {ds δ M F Q σ G H W xs QV} h hh dv k => by
  obtain ⟨rfl, q⟩ := h
  cases dv
  exact PGs.tgs pgs_nil ⟨rfl, k _ _ G M H (Ex.refl G) hh.sl hh.at_ (Still.refl _ _) q⟩⟩
theorem dgs_cons {es : List Expr} {t : DTG} {u : DTGs} {vs ws : List Nat} (h1 : DG X e t vs) (h2 : DGs X es u ws) (hs : (assignEach (e :: es) X.env).map (·.2) = assign e X.env :: (assignEach es X.env).map (·.2) := by rfl) : DGs X (e :: es) (gConsD t u) (vs ++ ws) :=
  ⟨fun {ds δ M F Q σ G H W xs QV} h hh dv k => by
    obtain ⟨d, r, rfl, q⟩ := h
    cases dv with
    | cons a b =>
      exact PGs.tgs (pgs_cons (pg_of X e) (pgs_of X es) hs) ⟨_, _, rfl, h1.run q hh a fun σ1 δ1 G1 M1 H1 e1 s1 a1 st1 q1 => h2.run q1 (hh.go s1 a1) (b.mono e1) fun σ2 δ2 G2 M2 H2 e2 s2 a2 st2 q2 => k _ _ _ _ _ (e1.trans e2) s2 a2 (st1.trans st2) q2⟩⟩
/-- (a, b, ..) = a tuple -/
def gTupD (n : Nat) (t : DTGs) : DTG := fun d δ M Q => ∃ ds, d = .tup ds ∧ ds.length = n ∧ t ds δ M Q
theorem dg_tup {es : List Expr} {k : Nat} {t : DTGs} {n : Nat} {vs : List Nat} (hc : X.calm = true) (h : DGs X es t vs) (hn : (assignEach es X.env).length = n := by rfl) (hst : (assignEach es X.env).findIdx? (·.1) = none := by rfl) : DG X (.Tuple es k pos) (gTupD n t) vs :=
  ⟨fun {d δ M F Q σ G H W v QV} q hh dv kk => by
    obtain ⟨ds, rfl, hl, q⟩ := q
    cases dv with
    | tup hs ha => exact PG.tg (pg_tup hc (pgs_of X es) hn hst) ⟨_, _, rfl, ex_t hh.at_.ex hs, by rw [ha.length]; exact hl, h.run q hh ha kk⟩⟩
def dAsg (te : DTE) (g : DTG) : DTS := fun E δ M => te δ M (fun d M1 => g d δ M1 E.nx) (fun x M1 => E.ex x δ M1)
theorem ds_asg {tg : Expr} {g : DTG} {vs : List Nat} (he : DE X e te) (hg : DG X tg g vs) (hs : swapsWithSole [tg] e pos.line X.env = pure false := by rfl) (hw : swappedStores [tg] e X.env = pure none := by rfl)
    (h1 : (assignEach [tg] X.env).map (·.2) = [assign tg X.env] := by rfl) : DS X (.Assign [tg] e pos) (dAsg te g) :=
  ⟨fun {δ M F E W σ G H D} h hh ek => PS.ts (ps_asg (pe_of X e) (pg_of X tg) hs hw h1) (he.run h hh (fun v d G1 M1 H1 e1 a1 d1 q => hg.run q (hh.on e1 a1) d1 fun σ2 δ2 G2 M2 H2 e2 s2 a2 _ q2 => ek.nx _ _ _ _ _ (e1.trans e2) s2 a2 q2) (ek.ex.at_ hh.sl))⟩
theorem ds_set {x : Str} {pos' : Pos} (i : Nat) (hN : X.N.Nodup) (he : DE X e te) (hs : swapsWith e (some (.Name x pos')) pos.line X.env = pure false := by rfl) (hi : X.N[i]? = some x := by rfl) (hx : Loc X.env.scope x := by first | exact Or.inl rfl | exact Or.inr rfl) (hf : X.fn x = true ∨ X.env.scope.names.lookup x = some .local := by first | exact .inl rfl | exact .inr rfl | assumption) :
    DS X (.Assign [.Name x pos'] e pos) (dAsg te (gNm i)) :=
  ⟨fun {δ M F E W σ G H D} h hh ek => PS.ts (ps_set hN hi hx (pe_of X e) hs hf) (he.run h hh (fun v d G1 M1 H1 e1 a1 d1 q => ek.nx _ _ _ _ _ e1 ((hh.sl.mono e1).set i d1) a1 q) (ek.ex.at_ hh.sl))⟩
/-- a, b = x, y -/
def dPar (i j : Nat) (ta : DTA) : DTS := fun E δ M => ta δ M (fun ds M1 => ∃ d e, ds = [d, e] ∧ E.nx ((δ.set i (some d)).set j (some e)) M1) (fun x M1 => E.ex x δ M1)
theorem ds_par {x y : Str} {a b : Expr} {ta : DTA} {px py pt : Pos} {kt k2 pt2} (i j : Nat) (hc : X.calm = true) (hN : X.N.Nodup) (ha : DA X [a, b] ta)
    (hw : swappedStores [.Tuple [.Name x px, .Name y py] kt pt] (.Tuple [a, b] k2 pt2) X.env = pure (some [x, y]) := by rfl)
    (hs : swapsWithSole [.Tuple [.Name x px, .Name y py] kt pt] (.Tuple [a, b] k2 pt2) pos.line X.env = pure false := by rfl) (hi : X.N[i]? = some x := by rfl) (hj : X.N[j]? = some y := by rfl) (hij : i ≠ j := by decide)
    (hx : X.env.scope.names.lookup x = some .local := by rfl) (hy : X.env.scope.names.lookup y = some .local := by rfl) :
    DS X (.Assign [.Tuple [.Name x px, .Name y py] kt pt] (.Tuple [a, b] k2 pt2) pos) (dPar i j ta) :=
  ⟨fun {δ M F E W σ G H D} h hh ek => PS.ts (ps_par hc hN hi hj hij hx hy (pa_of X [a, b]) hw hs) (ha.run h hh (fun vs ds G1 M1 H1 e1 a1 d1 q => by
    obtain ⟨d, e', rfl, q⟩ := q
    cases d1 with
    | cons r1 d1 =>
      cases d1 with
      | cons r2 d1 =>
        cases d1
        exact ⟨_, _, rfl, ek.nx _ _ _ _ _ e1 (((hh.sl.mono e1).set i r1).set j r2) a1 q⟩) (ek.ex.at_ hh.sl))⟩
/-- x op= e -/
def dAug (i : Nat) (r : A2) (te : DTE) : DTS := fun E δ M => ∃ x, δ[i]? = some (some x) ∧ te δ M (fun y M1 => r (vw M1 x) (vw M1 y) M1 fun z M2 => E.nx (δ.set i (some z)) M2) (fun x M1 => E.ex x δ M1)
theorem ds_aug {x : Str} {op : Operator} {r : A2} {pos' : Pos} (i : Nat) (hN : X.N.Nodup) (ho : DOp X (inplaceOp op) r) (he : DE X e te) (hi : X.N[i]? = some x := by rfl) (hx : Loc X.env.scope x := by first | exact Or.inl rfl | exact Or.inr rfl) (hf : X.fn x = true ∨ X.env.scope.names.lookup x = some .local := by first | exact .inl rfl | exact .inr rfl | assumption) :
    DS X (.AugAssign (.Name x pos') op e pos) (dAug i r te) := by
  obtain ⟨r2, o, k⟩ := ho
  have pip : PIp X op r2 := fun pins s σ H x y v u Q I rx ry h => o pins s σ H x y v u Q I rx ry h
  exact ⟨fun {δ M F E W σ G H D} h hh ek => by
    obtain ⟨d, e1, q⟩ := h
    obtain ⟨v, ev, dv⟩ := hh.sl.at_ i d e1
    exact PS.ts (ps_aug hN hi hx (pe_of X e) pip hf) ⟨v, ev, he.run q hh (fun w d2 G1 M1 H1 e1 a1 d3 q1 => k a1 (vw_ok a1 (dv.mono e1)) (vw_ok a1 d3) q1 fun z dz G2 M2 H2 e2 a2 dz2 q2 => ek.nx _ _ _ _ _ (e1.trans e2) ((hh.sl.mono (e1.trans e2)).set i dz2) a2 q2) (ek.ex.at_ hh.sl)⟩⟩
def aIAdd : A2
  | .int i, .int j => fun M Q => Q (.int (i + j)) M
  | .str a, .str b => fun M Q => a.length + b.length ≤ 16777216 ∧ Q (.str (a ++ b)) M
  | _, _ => fun _ _ => False
theorem iop_Add : DOp X (inplaceOp .Add) aIAdd := ⟨_, iop_add.or iop_add_str, fun {G M F H x y dx dy Q QV} at_ h1 h2 h kr => by
  cases dx <;> cases dy <;> first
    | exact False.elim h
    | exact .inl ⟨_, _, h1.int, h2.int, kr.to at_ (.int _) h⟩
    | exact .inr ⟨_, _, h1.str, h2.str, by rw [S_len, S_len, sizeLine_eq]; exact h.1, by rw [S_cat]; exact kr.to at_ (.str _) h.2⟩⟩
/-- o.f = e -/
def dSetF (K : PySem.W.Frag) (f : Str) (to te : DTE) : DTS := fun E δ M => te δ M (fun y M1 => to δ M1 (fun x M2 => ∃ a C dx fs, x = .ref a ∧ M2 a = some (.ins C dx fs) ∧ Cls K C ∧ NoAttr K C f ∧ fs.length < 1000 ∧ E.nx δ (mset M2 a (.ins C dx (putD f y fs)))) (fun x M1 => E.ex x δ M1)) (fun x M1 => E.ex x δ M1)
theorem ds_setF {f : Str} {pos' : Pos} (ho : DE X o to) (he : DE X e te) (hs : swapsWith e (some (.Attribute o f pos')) pos.line X.env = pure false := by rfl) : DS X (.Assign [.Attribute o f pos'] e pos) (dSetF X.K f to te) :=
  ⟨fun {δ M F E W σ G H D} h hh ek => PS.ts (ps_fld (pe_of X o) (pe_of X e) hs) (he.run h hh (fun y dy G1 M1 H1 e1 a1 d1 q1 => ho.run q1 (hh.on e1 a1) (fun x dx G2 M2 H2 e2 a2 d2 q2 => by
    obtain ⟨a, C, dx, fs, rfl, hm, c, n, hl, q⟩ := q2
    cases d2
    obtain ⟨gs, hx, k⟩ := a2.ins hm
    refine ⟨a, C, dx, gs, rfl, hx, c, n, by rw [k.length]; exact hl, ek.nx _ _ _ _ _ (e1.trans e2) (hh.sl.mono (e1.trans e2)) (a2.write hm (o := .ins C dx _) (m := .ins C dx (putD f dy fs)) ⟨rfl, rfl, k.put (d1.mono e2)⟩) q⟩) ((ek.ex.at_ hh.sl).mono e1)) (ek.ex.at_ hh.sl))⟩
/-- o.f op= e -/
def dAugF (K : PySem.W.Frag) (f : Str) (r : A2) (to te : DTE) : DTS := fun E δ M => to δ M (fun x M1 => ∃ a C dx fs d, x = .ref a ∧ M1 a = some (.ins C dx fs) ∧ Cls K C ∧ NoAttr K C f ∧ fs.lookup f = some d ∧
  te δ M1 (fun y M2 => r (vw M2 d) (vw M2 y) M2 fun z M3 => ∃ dx' fs', M3 a = some (.ins C dx' fs') ∧ fs'.length < 1000 ∧ E.nx δ (mset M3 a (.ins C dx' (putD f z fs')))) (fun x M1 => E.ex x δ M1)) (fun x M1 => E.ex x δ M1)
theorem ds_augF {f : Str} {op : Operator} {r : A2} {tpos : Pos} (hop : DOp X (inplaceOp op) r) (ho : DE X o to) (he : DE X e te) : DS X (.AugAssign (.Attribute o f tpos) op e pos) (dAugF X.K f r to te) := by
  obtain ⟨r2, oo, k⟩ := hop
  have pip : InOp X op r2 := fun pins s σ H x y v u Q I rx ry h => oo pins s σ H x y v u Q I rx ry h
  exact ⟨fun {δ M F E W σ G H D} h hh ek => PS.ts (ps_fldaug (pe_of X o) (pe_of X e) pip) (ho.run h hh (fun x dx G1 M1 H1 e1 a1 d1 q1 => by
    obtain ⟨a, C, dx, fs, d, rfl, hm, c, n, hl, q⟩ := q1
    cases d1
    obtain ⟨gs, hx, kk⟩ := a1.ins hm
    obtain ⟨v, hv, dv⟩ := kk.lookup hl
    refine ⟨a, C, dx, gs, v, rfl, hx, c, n, hv, he.run q (hh.on e1 a1) (fun y dy G2 M2 H2 e2 a2 d2 q2 => k a2 (vw_ok a2 (dv.mono e2)) (vw_ok a2 d2) q2 fun z dz G3 M3 H3 e3 a3 d3 q3 => ?_) ((ek.ex.at_ hh.sl).mono e1)⟩
    obtain ⟨dx', fs', hm3, hz, q⟩ := q3
    obtain ⟨gs', hx3, k3⟩ := a3.ins hm3
    exact ⟨dx', gs', hx3, by rw [k3.length]; exact hz, ek.nx _ _ _ _ _ ((e1.trans e2).trans e3) (hh.sl.mono ((e1.trans e2).trans e3)) (a3.write hm3 (o := .ins C dx' _) (m := .ins C dx' (putD f dz fs')) ⟨rfl, rfl, k3.put d3⟩) q⟩) (ek.ex.at_ hh.sl))⟩
end
end DL

set_option Elab.async false
set_option linter.all false
set_option maxRecDepth 100000
set_option maxHeartbeats 4000000
/-! DL5: what is walked; for, while; comprehensions. -/
namespace PySem
open Sem (wp)
open AutoSeq1 (wpAny_loadPart')
set_option maxRecDepth 100000
set_option maxHeartbeats 1000000 in
theorem meets_enumerate_newB1 {v : Value} {o : Obj} {H : Heap → Prop} (B : Begins v o H) :
    Meets (Builtin.«enumerate.__new__» ⟨[.type "enumerate", v], []⟩) (fun _ R s => H s.heap ∧
      R (.ok (.ret (.ref (s.heap.push o).objs.size))) { s with heap := (s.heap.push o).push { cls := .type "enumerate", data := .fields #[.none, .bool false, .ref s.heap.objs.size, rawInt 0, .none, .none] } }) :=
  .of_wp fun prog w A R s h => by
    obtain ⟨hp, g, d, tk, os⟩ := s; obtain ⟨h1, h⟩ := h
    have hsub := sub_enumerate
    have q1 : ∀ {A' : Around} {E : Value → Shared → Prop} {Q : Value → Shared → Prop}, Q (.ref hp.objs.size) ⟨hp.push o, g, d, tk, os⟩ → wpAny (model prog w) A' (pyIter v) Q E ⟨hp, g, d, tk, os⟩ :=
      fun q => B.iter prog w _ _ ⟨hp, g, d, tk, os⟩ _ h1 q
    wp_walk using q1
    refine wpAny_stack_any fun st => wpAny_pure ?_
    split
    · rename_i c _ _ _ _ _
      cases (c == Value.type "enumerate")
      · wp_walk using q1
        exact ⟨_, rfl, h⟩
      · wp_walk using q1
        exact ⟨_, rfl, h⟩
    · wp_walk using q1
      exact ⟨_, rfl, h⟩
theorem enum_begins1 {prog : Program} {w : World} {A : Around} {E : Value → Shared → Prop} {s : Shared} {v : Value} {o : Obj} {H : Heap → Prop} {Q : Value → Shared → Prop} (B : Begins v o H) (h1 : H s.heap)
    (h : ∀ h', IsEnum h' (s.heap.objs.size + 1) s.heap.objs.size 0 .none → h'.get? s.heap.objs.size = some o → h'.objs.size = s.heap.objs.size + 2 →
      (∀ b o, s.heap.get? b = some o → h'.get? b = some o) → Q (.ref (s.heap.objs.size + 1)) { s with heap := h' }) :
    wpAny (model prog w) A (call (.type "enumerate") [v]) Q E s := by
  refine callType_new F.called_enumerate (by decide) (F.typeCall_enumerate_1 _) (F.newCall_enumerate_1 _) (fun obj => F.args_object_init_2 obj _) F.entry_enumerate_new
    (meets_enumerate_newB1 B) ⟨h1, ?_⟩
  have hz : (s.heap.push o).objs.size = s.heap.objs.size + 1 := Heap.size_push ..
  show _ ∧ _
  rw [hz]
  have he : IsEnum ((s.heap.push o).push { cls := .type "enumerate", data := .fields #[.none, .bool false, .ref s.heap.objs.size, rawInt 0, .none, .none] }) (s.heap.objs.size + 1) s.heap.objs.size 0 .none := by
    have := Heap.get?_push_size (s.heap.push o)
      (o := { cls := .type "enumerate", data := .fields #[.none, .bool false, .ref s.heap.objs.size, rawInt 0, .none, .none] }) rfl
    rw [hz] at this; exact this
  refine ⟨⟨_, he, rfl⟩, h _ he (Heap.get?_push_of_some _ (Heap.get?_push_size _ B.free)) (by rw [Heap.size_push, hz]) fun b o x => Heap.get?_push_of_some _ (Heap.get?_push_of_some _ x)⟩
end PySem

namespace L2
open PySem PySem.Spec PyProof.Rows
/-! ### a list, a tuple or a text walked; enumerate of them -/
def iAny (K : PySem.W.Frag) (te : TE) : TI := fun σ H R => te σ H fun x H1 =>
  (∃ a, x = .ref a ∧ (∃ xs, SqL K H1 a xs) ∧ R (Itl K a) H1) ∨ (∃ a, x = .ref a ∧ (∃ xs, SqT K H1 a xs) ∧ R (Itt K a) H1) ∨ ∃ y, x = .str y ∧ R (Its y) H1
theorem pi_any {X : Cx} {tg l : Expr} {tl : TE} (hl : PE X l tl) : PI X tg l (iAny X.K tl) := by
  refine ⟨fun pins s σ H R I h => ?_⟩
  refine thn (hl.run pins s σ H _ I h) fun v s1 ⟨x, H1, I1, r1, q1⟩ => ?_
  rcases q1 with ⟨a, e, ⟨xs, hq⟩, q⟩ | ⟨a, e, ⟨xs, hq⟩, q⟩ | ⟨y, e, q⟩
  · subst e
    cases r1
    obtain ⟨its, rv, p, hz⟩ := I1.list hq
    refine wpAny_pyIter_list p.isList ?_
    refine ⟨s1.heap.objs.size, [s1.heap.objs.size], _, _, H1, rfl, I1.kept (t' := s1.toks) fun b o e => Heap.get?_push_of_some _ e, turn_list a _, ⟨_, Heap.get?_push_size _ rfl, rfl, rfl⟩, fun b hb => ?_, q⟩
    have e : b = s1.heap.objs.size := by simpa using hb
    subst e
    exact I1.fpOk (Nat.le_refl _) (I1.hok.fresh (Nat.le_refl _))
  · subst e
    cases r1
    obtain ⟨its, rv, p, hz⟩ := I1.tuple hq
    refine wpAny_pyIter_tuple (show s1.heap.IsTuple a its.toArray from p) ?_
    refine ⟨s1.heap.objs.size, [s1.heap.objs.size], _, _, H1, rfl, I1.kept (t' := s1.toks) fun b o e => Heap.get?_push_of_some _ e, turn_tuple a _, ⟨_, Heap.get?_push_size _ rfl, rfl, rfl⟩, fun b hb => ?_, q⟩
    have e : b = s1.heap.objs.size := by simpa using hb
    subst e
    exact I1.fpOk (Nat.le_refl _) (I1.hok.fresh (Nat.le_refl _))
  · subst e
    obtain ⟨t, rfl⟩ := r1
    cases ha : y.cps.all (· < 128)
    · exact wpAny_pyIter_wide ha (pi_one (tk := s1.toks) I1 _ (turn_str _ y t "str_iterator" (.inr rfl)) ⟨_, Heap.get?_push_size _ rfl, rfl, rfl⟩ q)
    · exact wpAny_pyIter_ascii ha (pi_one (tk := s1.toks) I1 _ (turn_str _ y t "str_ascii_iterator" (.inl rfl)) ⟨_, Heap.get?_push_size _ rfl, rfl, rfl⟩ q)
/-- enumerate over n things of which P i x is told -/
def ItE (g : Hp → Prop) (n : Nat) (P : Nat → V → Prop) : It :=
  ⟨fun i H => g H ∧ i < n, fun i H v H' => ∃ T x, v = .ref T ∧ H T = none ∧ H' = upd H T (.tup [.int (i : Nat), x]) ∧ P i x, fun i H => g H ∧ i = n⟩
/-- what an enumerated thing gives, in a state of ours -/
theorem turn_enumD {P : Program} {w : World} {K : PySem.W.Frag} {elts : List Expr} {kk : Nat} {tpos : Pos} {e it : Addr} {g : Hp → Prop} {n : Nat} {Pv : Nat → V → Prop} {Si : Nat → Heap → Prop}
    (hobj : ∀ i h, Si i h → ∃ o, h.get? it = some o ∧ ∀ v, o.data ≠ .cell v) (hkeep : ∀ i h h', Si i h → (∀ o, h.get? it = some o → h'.get? it = some o) → Si i h')
    (hD : ∀ (X : Cx) pins σ H s i, X.prog = P → X.w = w → X.K = K → X.calm = true → Inv X pins σ H s → g H → Si i s.heap → e ≠ it → (∀ o, s.heap.get? e = some o → o.cls = .type "enumerate") → ∃ (fp : List Addr) (Pu : Nat → Value → Prop) (St : Nat → Heap → Prop), Draws P w X.A.in1 it fp n Pu St ∧ St i s.heap ∧ e ∉ fp ∧
      (∀ i u, Pu i u → ∃ x, RelV x u ∧ Pv i x) ∧ ∀ j h, St j h → Si j h) :
    Turn P w K (.Tuple elts kk tpos) (ItE g n Pv) [e, it] e (fun i h => (∃ old, IsEnum h e it ((i : Nat) : Int) old) ∧ Si i h ∧ e ≠ it) where
  mem := by simp
  obj := fun i h st b hb => by
    obtain ⟨⟨old, he⟩, hi, _⟩ := st
    have e' : b = e ∨ b = it := by simpa using hb
    rcases e' with z | z
    · rw [z]; exact ⟨_, he, fun v q => nomatch q⟩
    · rw [z]; exact hobj i h hi
  keep := fun i h h' st k => let ⟨⟨old, he⟩, hi, hne⟩ := st; ⟨⟨old, k e (by simp) _ he⟩, hkeep i h h' hi fun o q => k it (by simp) o q, hne⟩
  item := by
    intro X hP hw hK hc i pins s σ H E I hf st hg
    obtain ⟨⟨old, he⟩, hit, hne⟩ := st
    obtain ⟨hg, hlt⟩ := hg
    obtain ⟨fp, Pu, St, D, hst, hef, hPu, hSi⟩ := hD X pins σ H s i hP hw hK hc I hg hit hne (fun o q => by rw [he] at q; cases q; rfl)
    have hel : e < s.heap.objs.size := Heap.lt_size he
    have hil : it < s.heap.objs.size := by obtain ⟨_, q, _⟩ := hobj _ _ hit; exact Heap.lt_size q
    refine wpAny_pyNext_enum_itemD D he hst hlt hne hef fun x h' tk hPx ho hit' hT hsz hk => ?_
    obtain ⟨xv, rx, hv⟩ := hPu i x hPx
    refine ⟨_, rfl, wpAny_letOwnedTupleGo_enum (s := { s with heap := h', toks := tk + 1 }) ho fun h'' he' sb => ?_⟩
    have hT2 : h''.get? s.heap.objs.size = some { cls := .type "tuple", data := .seq #[.int i tk, x] } := (sb.2 _ (Nat.ne_of_gt hel)).trans hT
    have new : ObjOk X.prog X.w (upd H s.heap.objs.size (.tup [.int (i : Nat), xv])) h'' s.heap.objs.size (.tup [.int (i : Nat), xv]) :=
      ⟨by show 2 ≤ sizeLine; decide, [.int i tk, x], .cons ⟨_, rfl⟩ (.cons rx .nil), ⟨_, hT2, rfl, _, rfl⟩⟩
    have I1 : Inv X pins σ (upd H s.heap.objs.size (.tup [.int (i : Nat), xv])) { s with heap := h'', toks := tk + 1 } :=
      I.turnedNew (ch := [e, it]) (fun b ob hb q => (sb.2 b (fun z => hb (by simp [z]))).trans (hk b ob (fun z => hb (by simp [z])) (fun z => hb (by simp [z])) q)) hf (Nat.le_refl _) new
    refine ⟨.ref s.heap.objs.size, _, I1, rfl, ⟨_, xv, rfl, I.hok.fresh (Nat.le_refl _), rfl, hv⟩, ⟨⟨x, ?_⟩, hkeep _ _ _ (hSi _ _ hit') fun o q => (sb.2 it (Ne.symm hne)).trans q, hne⟩, fun b hb => ?_⟩
    · have e1 : ((i + 1 : Nat) : Int) = (i : Int) + 1 := by omega
      rw [e1]; exact he'
    · have hb' : b < s.heap.objs.size := by
        have e' : b = e ∨ b = it := by simpa using hb
        rcases e' with z | z
        · rw [z]; exact hel
        · rw [z]; exact hil
      rw [upd_ne (Nat.ne_of_lt hb')]
      exact (hf b hb).1
  done := by
    intro X hP hw hK hc i pins s σ H E I hf st hg
    obtain ⟨⟨old, he⟩, hit, hne⟩ := st
    obtain ⟨hg, hlt⟩ := hg
    subst hlt
    obtain ⟨fp, Pu, St, D, hst, hef, hPu, hSi⟩ := hD X pins σ H s i hP hw hK hc I hg hit hne (fun o q => by rw [he] at q; cases q; rfl)
    obtain ⟨f0, f1, f2, f3, f4, f5⟩ := hf it (by simp)
    exact wpAny_pyNext_enum_endD D he hst fun h' eb => ⟨rfl, I.turned (t' := s.toks) (fun b o hb q => eb b o hb q) f0 f1 f3 f4 f5⟩
  self := fun A i s Q E st h => let ⟨⟨_, he⟩, _⟩ := st; wpAny_pyIter_enum he h
theorem turn_enumS {P : Program} {w : World} {K : PySem.W.Frag} {elts : List Expr} {kk : Nat} {tpos : Pos} (e it : Addr) (y : Str) (t : Tok) :
    Turn P w K (.Tuple elts kk tpos) (ItE (fun _ => True) y.cps.size (fun i x => ∃ c, y.cps[i]? = some c ∧ x = .str ⟨#[c]⟩)) [e, it] e (fun i h => (∃ old, IsEnum h e it ((i : Nat) : Int) old) ∧ h.IsStrIter it (strIterType y) y t i ∧ e ≠ it) :=
  turn_enumD (fun i h st => let ⟨o, e, c, d⟩ := st; ⟨o, e, fun v z => by rw [d] at z; cases z⟩) (fun i h h' st k => let ⟨o, ho, r⟩ := st; ⟨o, k o ho, r⟩)
    fun X pins σ H s i hP hw hK hc I _ hit hne hen => by
      subst hP hw hK
      refine ⟨[it], _, _, Draws.text (prog := X.prog) (w := X.w) (A := X.A.in1) (I.ok.hd hc) it y t, hit, by simpa using hne, fun i u hu => ?_, fun j h st => st⟩
      obtain ⟨c, q, hc', eu⟩ := hu
      exact ⟨V.str ⟨#[c]⟩, ⟨q, eu⟩, c, hc', rfl⟩
theorem turn_enumT {P : Program} {w : World} {K : PySem.W.Frag} {elts : List Expr} {kk : Nat} {tpos : Pos} (e it a : Addr) (xs : List V) (hai : a ≠ it) :
    Turn P w K (.Tuple elts kk tpos) (ItE (fun H => SqT K H a xs) xs.length (fun i x => xs[i]? = some x)) [e, it] e (fun i h => (∃ old, IsEnum h e it ((i : Nat) : Int) old) ∧ h.IsTupleIter it a i ∧ e ≠ it) :=
  turn_enumD (fun i h st => let ⟨o, e, c, d⟩ := st; ⟨o, e, fun v z => by rw [d] at z; cases z⟩) (fun i h h' st k => st.at fun o q => k o q)
    fun X pins σ H s i hP hw hK hc I hg hit hne hen => by
      subst hP hw hK
      obtain ⟨its, rv, p, hz⟩ := I.tuple hg
      have hn : its.toArray.size = xs.length := by rw [List.size_toArray, rv.length]
      have D := Draws.tuple (prog := X.prog) (w := X.w) (A := X.A.in1) (I.ok.hd hc) it a hai its.toArray
      rw [hn] at D
      refine ⟨[it, a], _, _, D, ⟨hit, p⟩, ?_, fun i u hu => ?_, fun j h st => st.1⟩
      · intro z
        have z' : e = it ∨ e = a := by simpa using z
        rcases z' with z' | z'
        · exact hne z'
        · obtain ⟨o, ho, hcls, _⟩ := p
          subst z'
          have := hen o ho
          rw [hcls] at this
          exact absurd this (by decide)
      · have hu' : its[i]? = some u := by simpa using hu
        obtain ⟨x, h1, h2⟩ := DL.Vals.get' rv hu'
        exact ⟨x, h2, h1⟩
def iEnumA (K : PySem.W.Frag) (ta : TA) : TI := fun σ H R => ta σ H fun vs H1 => (∃ a xs, vs = [.ref a] ∧ SqL K H1 a xs ∧ R (Ite K a) H1) ∨
  (∃ a xs, vs = [.ref a] ∧ SqT K H1 a xs ∧ R (ItE (fun H => SqT K H a xs) xs.length (fun i x => xs[i]? = some x)) H1) ∨ ∃ y, vs = [.str y] ∧ R (ItE (fun _ => True) y.cps.size (fun i x => ∃ c, y.cps[i]? = some c ∧ x = .str ⟨#[c]⟩)) H1
theorem pi_enumA {X : Cx} {e : Expr} {ta : TA} {p pos tpos : Pos} {elts : List Expr} {kk : Nat} (hg : Gl X "enumerate") (hm : X.mg "enumerate" = none) (ha : PA X [e] ta) (hs : starEach [e] X.env = [(false, eval e X.env)] := by rfl) :
    PI X (.Tuple elts kk tpos) (.Call (.Name "enumerate" p) [e] [] pos) (iEnumA X.K ta) := by
  refine ⟨fun pins s σ H R I h => ?_⟩
  refine Call_ (ld_blt I hg hm boot_enumerate (PyProof.Rows.callWith_type1 (thn (ha.run pos pins s σ H _ I h) fun us s1 ⟨vs, H1, I1, r1, q1⟩ => ?_) hs rfl))
  have fpk : ∀ b ∈ [s1.heap.objs.size + 1, s1.heap.objs.size], FpOk X pins H1 b := fun b hb => by
    have e' : b = s1.heap.objs.size + 1 ∨ b = s1.heap.objs.size := by simpa using hb
    have hle : s1.heap.objs.size ≤ b := by
      rcases e' with z | z
      · rw [z]; exact Nat.le_add_right _ _
      · rw [z]; exact Nat.le_refl _
    exact I1.fpOk hle (I1.hok.fresh hle)
  rcases q1 with ⟨a, xs, ex, hq, q⟩ | ⟨a, xs, ex, hq, q⟩ | ⟨y, ex, q⟩
  · subst ex
    cases r1 with
    | cons r rr =>
      cases rr
      cases r
      obtain ⟨its, rv, p', hz⟩ := I1.list hq
      refine call_enumerate_list p'.isList fun h' he hit hsz hk => wpAny_pyIter_enum he ?_
      have I2 : Inv X pins σ H1 { s1 with heap := h' } := I1.kept (t' := s1.toks) hk
      exact ⟨s1.heap.objs.size + 1, [s1.heap.objs.size + 1, s1.heap.objs.size], _, _, H1, rfl, I2, turn_enum a (s1.heap.objs.size + 1) s1.heap.objs.size, ⟨⟨.none, he⟩, hit, Nat.succ_ne_self _⟩, fpk, q⟩
  · subst ex
    cases r1 with
    | cons r rr =>
      cases rr
      cases r
      obtain ⟨its, rv, p', hz⟩ := I1.tuple hq
      have hal : a < s1.heap.objs.size := p'.lt
      refine enum_begins1 (begins_tuple a its.toArray) p' fun h' he hit hsz hk => wpAny_pyIter_enum he ?_
      have I2 : Inv X pins σ H1 { s1 with heap := h' } := I1.kept (t' := s1.toks) hk
      exact ⟨s1.heap.objs.size + 1, [s1.heap.objs.size + 1, s1.heap.objs.size], _, _, H1, rfl, I2, turn_enumT (s1.heap.objs.size + 1) s1.heap.objs.size a xs (Nat.ne_of_lt hal), ⟨⟨.none, he⟩, ⟨_, hit, rfl, rfl⟩, Nat.succ_ne_self _⟩, fpk, q⟩
  · subst ex
    cases r1 with
    | cons r rr =>
      cases rr
      obtain ⟨t, rfl⟩ := r
      refine call_enumerate_str fun h' he hit hsz hk => wpAny_pyIter_enum he ?_
      have I2 : Inv X pins σ H1 { s1 with heap := h' } := I1.kept (t' := s1.toks) hk
      exact ⟨s1.heap.objs.size + 1, [s1.heap.objs.size + 1, s1.heap.objs.size], _, _, H1, rfl, I2, turn_enumS (s1.heap.objs.size + 1) s1.heap.objs.size y t, ⟨⟨.none, he⟩, hit, Nat.succ_ne_self _⟩, fpk, q⟩
end L2

set_option Elab.async false
set_option linter.all false
set_option maxRecDepth 100000
set_option maxHeartbeats 4000000
/-! DL6: for, while, comprehensions over data. -/
namespace DL
open PySem L2 PySem.Spec PyProof.Rows
/-- J walks the items ds -/
structure Walks (K : PySem.W.Frag) (J : It) (ds : List D) (G0 : Hp) : Prop where
  go : ∀ i G M F H, Ex G0 G → At K G M F H → i < ds.length → J.go i H
  stop : ∀ G M F H, Ex G0 G → At K G M F H → J.stop ds.length H
  yld : ∀ i G M F H x H', Ex G0 G → At K G M F H → i < ds.length → J.yld i H x H' → ∃ G' d, Ex G G' ∧ At K G' M F H' ∧ ds[i]? = some d ∧ Dv K G' x d
section
variable {K : PySem.W.Frag} {G : Hp}
theorem walks_list {a : Addr} {xs : List V} {ds : List D} (h : G a = some (.lst xs)) (k : DvA K G xs ds) : Walks K (Itl K a) ds G where
  go := fun i G' M F H e a1 hi => ⟨xs, xs[i]'(by rw [k.length]; exact hi), SqL.of (a1.ex _ _ (e _ _ h)), List.getElem?_eq_getElem _⟩
  stop := fun G' M F H e a1 => ⟨xs, SqL.of (a1.ex _ _ (e _ _ h)), by rw [k.length]; exact Nat.le_refl _⟩
  yld := fun i G' M F H x H' e a1 hi y => by
    obtain ⟨rfl, y⟩ := y
    obtain ⟨d, h1, h2⟩ := k.get' (y xs (SqL.of (a1.ex _ _ (e _ _ h))))
    exact ⟨G', d, Ex.refl _, a1, h1, h2.mono e⟩
theorem walks_scr {a : Addr} {ns : List Int} (h : SqL K G a (ns.map V.int)) : Walks K (Itl K a) (ns.map D.int) G where
  go := fun i G' M F H e a1 hi => by
    rw [List.length_map] at hi
    exact ⟨_, .int ns[i], ex_l (e.trans a1.ex) h, by simp [hi]⟩
  stop := fun G' M F H e a1 => ⟨_, ex_l (e.trans a1.ex) h, by rw [List.length_map, List.length_map]; exact Nat.le_refl _⟩
  yld := fun i G' M F H x H' e a1 hi y => by
    obtain ⟨rfl, y⟩ := y
    have q := y _ (ex_l (e.trans a1.ex) h)
    rw [List.length_map] at hi
    rw [List.getElem?_map, List.getElem?_eq_getElem hi] at q
    cases q
    exact ⟨G', .int ns[i], Ex.refl _, a1, by rw [List.getElem?_map, List.getElem?_eq_getElem hi]; rfl, .int _⟩
theorem walks_tup {a : Addr} {xs : List V} {ds : List D} (h : SqT K G a xs) (k : DvA K G xs ds) : Walks K (Itt K a) ds G where
  go := fun i G' M F H e a1 hi => ⟨xs, xs[i]'(by rw [k.length]; exact hi), ex_t (e.trans a1.ex) h, List.getElem?_eq_getElem _⟩
  stop := fun G' M F H e a1 => ⟨xs, ex_t (e.trans a1.ex) h, by rw [k.length]; exact Nat.le_refl _⟩
  yld := fun i G' M F H x H' e a1 hi y => by
    obtain ⟨rfl, y⟩ := y
    obtain ⟨d, h1, h2⟩ := k.get' (y xs (ex_t (e.trans a1.ex) h))
    exact ⟨G', d, Ex.refl _, a1, h1, h2.mono e⟩
def chars (l : List Nat) : List D := l.map fun c => D.str [c]
theorem walks_str (l : List Nat) : Walks K (Its (S l)) (chars l) G where
  go := fun i G' M F H e a1 hi => by
    unfold chars at hi
    rw [List.length_map] at hi
    show i < l.toArray.size
    rw [List.size_toArray]
    exact hi
  stop := fun G' M F H e a1 => by
    show l.toArray.size ≤ _
    unfold chars
    rw [List.size_toArray, List.length_map]
    exact Nat.le_refl _
  yld := fun i G' M F H x H' e a1 hi y => by
    obtain ⟨rfl, c, hc, rfl⟩ := y
    have hc' : l[i]? = some c := by simpa using hc
    exact ⟨G', .str [c], Ex.refl _, a1, by unfold chars; rw [List.getElem?_map, hc']; rfl, .str [c]⟩
def intsD (lo : Int) (n : Nat) : List D := (List.range n).map fun i : Nat => D.int (lo + i)
theorem intsD_len (lo : Int) (n : Nat) : (intsD lo n).length = n := by unfold intsD; rw [List.length_map, List.length_range]
theorem intsD_at {lo : Int} {n i : Nat} (h : i < n) : (intsD lo n)[i]? = some (.int (lo + i)) := by
  unfold intsD
  rw [List.getElem?_map, List.getElem?_range h]
  rfl
theorem walks_range (lo : Int) (n : Nat) : Walks K (Itr lo n) (intsD lo n) G where
  go := fun i G' M F H e a1 hi => by rw [intsD_len] at hi; exact hi
  stop := fun G' M F H e a1 => by rw [intsD_len]; exact Nat.le_refl _
  yld := fun i G' M F H x H' e a1 hi y => by
    obtain ⟨rfl, rfl⟩ := y
    rw [intsD_len] at hi
    exact ⟨G', _, Ex.refl _, a1, intsD_at hi, .int _⟩
def intsDC (lo c : Int) (n : Nat) : List D := (List.range n).map fun i : Nat => D.int (lo + i * c)
theorem intsDC_len (lo c : Int) (n : Nat) : (intsDC lo c n).length = n := by unfold intsDC; rw [List.length_map, List.length_range]
theorem walks_rangeC (lo c : Int) (n : Nat) : Walks K (Itc lo c n) (intsDC lo c n) G where
  go := fun i G' M F H e a1 hi => by rw [intsDC_len] at hi; exact hi
  stop := fun G' M F H e a1 => by rw [intsDC_len]; exact Nat.le_refl _
  yld := fun i G' M F H x H' e a1 hi y => by
    obtain ⟨rfl, rfl⟩ := y
    rw [intsDC_len] at hi
    refine ⟨G', .int (lo + i * c), Ex.refl _, a1, ?_, .int _⟩
    unfold intsDC
    rw [List.getElem?_map, List.getElem?_range hi]
    rfl
def enums (ds : List D) : List D := (List.range ds.length).map fun i : Nat => D.tup [.int i, ds.getD i .non]
theorem enums_len (ds : List D) : (enums ds).length = ds.length := by unfold enums; rw [List.length_map, List.length_range]
theorem enums_at {ds : List D} {i : Nat} {d : D} (h : ds[i]? = some d) : (enums ds)[i]? = some (.tup [.int i, d]) := by
  have hi := (List.getElem?_eq_some_iff.mp h).1
  unfold enums
  rw [List.getElem?_map, List.getElem?_range hi]
  simp [h]
/-- the pair (i, x) laid -/
theorem pair_dv {G' H : Hp} {M F : Mem} (a1 : At K G' M F H) {T : Addr} {i : Nat} {x : V} {d : D} (hT : H T = none) (dx : Dv K G' x d) : ∃ G2, Ex G' G2 ∧ At K G2 M F (upd H T (.tup [.int (i : Nat), x])) ∧ Dv K G2 (.ref T) (.tup [.int i, d]) := by
  obtain ⟨a2, e2⟩ := a1.frozen hT (.tup [.int (i : Nat), x])
  exact ⟨_, e2, a2, .tup (SqT.of upd_same) (.cons (.int _) (.cons (dx.mono e2) .nil))⟩
theorem walks_enumL {a : Addr} {xs : List V} {ds : List D} (h : G a = some (.lst xs)) (k : DvA K G xs ds) : Walks K (Ite K a) (enums ds) G where
  go := fun i G' M F H e a1 hi => by
    rw [enums_len] at hi
    exact ⟨xs, xs[i]'(by rw [k.length]; exact hi), SqL.of (a1.ex _ _ (e _ _ h)), List.getElem?_eq_getElem _⟩
  stop := fun G' M F H e a1 => ⟨xs, SqL.of (a1.ex _ _ (e _ _ h)), by rw [k.length, enums_len]; exact Nat.le_refl _⟩
  yld := fun i G' M F H x H' e a1 hi y => by
    obtain ⟨T, z, rfl, hT, rfl, y⟩ := y
    obtain ⟨d, h1, h2⟩ := k.get' (y xs (SqL.of (a1.ex _ _ (e _ _ h))))
    obtain ⟨G2, e2, a2, d2⟩ := pair_dv a1 (i := i) hT (h2.mono e)
    exact ⟨G2, _, e2, a2, enums_at h1, d2⟩
theorem walks_enumScr {a : Addr} {ns : List Int} (h : SqL K G a (ns.map V.int)) : Walks K (Ite K a) (enums (ns.map D.int)) G where
  go := fun i G' M F H e a1 hi => by
    rw [enums_len, List.length_map] at hi
    exact ⟨_, .int ns[i], ex_l (e.trans a1.ex) h, by simp [hi]⟩
  stop := fun G' M F H e a1 => ⟨_, ex_l (e.trans a1.ex) h, by rw [enums_len, List.length_map, List.length_map]; exact Nat.le_refl _⟩
  yld := fun i G' M F H x H' e a1 hi y => by
    obtain ⟨T, z, rfl, hT, rfl, y⟩ := y
    have q := y _ (ex_l (e.trans a1.ex) h)
    rw [enums_len, List.length_map] at hi
    rw [List.getElem?_map, List.getElem?_eq_getElem hi] at q
    cases q
    obtain ⟨G2, e2, a2, d2⟩ := pair_dv a1 (i := i) (x := .int ns[i]) hT (.int ns[i])
    exact ⟨G2, _, e2, a2, enums_at (by rw [List.getElem?_map, List.getElem?_eq_getElem hi]; rfl), d2⟩
theorem walks_enumT {a : Addr} {xs : List V} {ds : List D} (h : SqT K G a xs) (k : DvA K G xs ds) : Walks K (ItE (fun H => SqT K H a xs) xs.length (fun i x => xs[i]? = some x)) (enums ds) G where
  go := fun i G' M F H e a1 hi => by
    rw [enums_len] at hi
    exact ⟨ex_t (e.trans a1.ex) h, by rw [k.length]; exact hi⟩
  stop := fun G' M F H e a1 => ⟨ex_t (e.trans a1.ex) h, by rw [k.length, enums_len]⟩
  yld := fun i G' M F H x H' e a1 hi y => by
    obtain ⟨T, z, rfl, hT, rfl, y⟩ := y
    obtain ⟨d, h1, h2⟩ := k.get' y
    obtain ⟨G2, e2, a2, d2⟩ := pair_dv a1 (i := i) hT (h2.mono e)
    exact ⟨G2, _, e2, a2, enums_at h1, d2⟩
theorem walks_enumS (l : List Nat) : Walks K (ItE (fun _ => True) (S l).cps.size (fun i x => ∃ c, (S l).cps[i]? = some c ∧ x = .str ⟨#[c]⟩)) (enums (chars l)) G where
  go := fun i G' M F H e a1 hi => by
    rw [enums_len] at hi
    unfold chars at hi
    rw [List.length_map] at hi
    exact ⟨trivial, by show i < l.toArray.size; rw [List.size_toArray]; exact hi⟩
  stop := fun G' M F H e a1 => ⟨trivial, by
    rw [enums_len]
    unfold chars
    show _ = l.toArray.size
    rw [List.length_map, List.size_toArray]⟩
  yld := fun i G' M F H x H' e a1 hi y => by
    obtain ⟨T, z, rfl, hT, rfl, c, hc, rfl⟩ := y
    have hc' : l[i]? = some c := by simpa using hc
    obtain ⟨G2, e2, a2, d2⟩ := pair_dv a1 (i := i) (x := V.str ⟨#[c]⟩) hT (.str [c])
    exact ⟨G2, _, e2, a2, enums_at (by unfold chars; rw [List.getElem?_map, hc']; rfl), d2⟩
end
/-! ### what a for or a comprehension takes -/
def itemsOf : D → Option (List D)
  | .lst ds => some ds
  | .tup ds => some ds
  | .scr ns => some (ns.map .int)
  | .str l => some (chars l)
  | _ => none
abbrev DTI := DTA
def tiOf (X : Cx) (tg iter : Expr) : TI := fun σ H R => ∀ pins s, Inv X pins σ H s → wpAny (model X.prog X.w) X.A (eval iter X.env) (fun v s1 => wpAny (model X.prog X.w) X.A (pyIter v) (PIE X pins σ tg R) X.xe s1) X.xe s
theorem pi_of (X : Cx) (tg iter : Expr) : PI X tg iter (tiOf X tg iter) := ⟨fun pins s _ _ _ I h => h pins s I⟩
theorem PI.ti {X : Cx} {tg iter : Expr} {wi : TI} (h : PI X tg iter wi) {σ : L2.St} {H : Hp} {R : It → Hp → Prop} (q : wi σ H R) : tiOf X tg iter σ H R := fun pins s I => h.run pins s σ H R I q
structure DI (X : Cx) (tg iter : Expr) (t : DTI) : Prop where
  run : ∀ {δ M F Q Qx W σ G H} {R : It → Hp → Prop}, t δ M Q Qx → Here X W δ M F σ G H → (∀ J ds G' M' H', Ex G G' → At X.K G' M' F H' → Walks X.K J ds G' → Q ds M' → R J H') → ExcK X.K G F Qx (fun c d H => W c d σ H) → tiOf X tg iter σ H R
def dSeqI (te : DTE) : DTI := fun δ M Q Qx => te δ M (fun d M1 => frz d M1 fun d' M2 => ∃ ds, itemsOf d' = some ds ∧ Q ds M2) Qx
section
variable {X : Cx} {tg e : Expr} {te : DTE} {es : List Expr} {ta : DTA}
theorem di_seq (he : DE X e te) : DI X tg e (dSeqI te) :=
  ⟨fun {δ M F Q Qx W σ G H R} h hh kr kx => PI.ti (pi_any (pe_of X e)) (he.run h hh (RetK.frz fun v d G1 M1 H1 e1 a1 d1 q1 => by
    obtain ⟨ds, e2, q⟩ := q1
    cases d1 with
    | lst h1 h2 => cases e2; exact .inl ⟨_, rfl, ⟨_, SqL.of (a1.ex _ _ h1)⟩, kr _ _ _ _ _ e1 a1 (walks_list h1 h2) q⟩
    | scr h1 => cases e2; exact .inl ⟨_, rfl, ⟨_, ex_l a1.ex h1⟩, kr _ _ _ _ _ e1 a1 (walks_scr h1) q⟩
    | tup h1 h2 => cases e2; exact .inr (.inl ⟨_, rfl, ⟨_, ex_t a1.ex h1⟩, kr _ _ _ _ _ e1 a1 (walks_tup h1 h2) q⟩)
    | str l => cases e2; exact .inr (.inr ⟨_, rfl, kr _ _ _ _ _ e1 a1 (walks_str l) q⟩)
    | _ => cases e2) kx)⟩
/-- range(n) -/
def dRange1 (t : DTA) : DTI := fun δ M Q Qx => t δ M (fun xs M1 => ∃ j, xs = [.int j] ∧ -(2 ^ 62) ≤ j ∧ j < 2 ^ 62 ∧ Q (intsD 0 j.toNat) M1) Qx
theorem di_range1 {a : Expr} {p pos : Pos} (hm : X.mg "range" = none) (ha : DA X [a] ta) (hg : Gl X "range" := by rfl) (hs : starEach [a] X.env = [(false, eval a X.env)] := by rfl) : DI X tg (.Call (.Name "range" p) [a] [] pos) (dRange1 ta) :=
  ⟨fun {δ M F Q Qx W σ G H R} h hh kr kx => PI.ti (pi_range1 hg hm (pa_of X [a]) hs) (ha.run h hh (fun vs ds G1 M1 H1 e1 a1 d1 q1 => by
    obtain ⟨j, rfl, h1, h2, q⟩ := q1
    cases d1 with
    | cons r d1 =>
      cases d1
      cases r
      exact ⟨j, rfl, h1, h2, kr _ _ _ _ _ e1 a1 (walks_range 0 _) q⟩) kx)⟩
def dRange2 (t : DTA) : DTI := fun δ M Q Qx => t δ M (fun xs M1 => ∃ i j, xs = [.int i, .int j] ∧ (-(2 ^ 62) ≤ i ∧ i < 2 ^ 62 ∧ -(2 ^ 62) ≤ j ∧ j < 2 ^ 62) ∧ Q (intsD i (j - i).toNat) M1) Qx
theorem di_range2 {a b : Expr} {p pos : Pos} (hm : X.mg "range" = none) (ha : DA X [a, b] ta) (hg : Gl X "range" := by rfl) (hs : starEach [a, b] X.env = [(false, eval a X.env), (false, eval b X.env)] := by rfl) (hs2 : starEach [b] X.env = [(false, eval b X.env)] := by rfl) :
    DI X tg (.Call (.Name "range" p) [a, b] [] pos) (dRange2 ta) :=
  ⟨fun {δ M F Q Qx W σ G H R} h hh kr kx => PI.ti (pi_range2 hg hm (pa_of X [a, b]) hs hs2) (ha.run h hh (fun vs ds G1 M1 H1 e1 a1 d1 q1 => by
    obtain ⟨i, j, rfl, h1, q⟩ := q1
    cases d1 with
    | cons r d1 =>
      cases d1 with
      | cons r2 d1 =>
        cases d1
        cases r
        cases r2
        exact ⟨i, j, rfl, h1, kr _ _ _ _ _ e1 a1 (walks_range i _) q⟩) kx)⟩
def dRange3 (t : DTA) : DTI := fun δ M Q Qx => t δ M (fun xs M1 => ∃ i j c n, xs = [.int i, .int j, .int c] ∧ RgC i j c n ∧ Q (intsDC i c n) M1) Qx
theorem di_range3 {a b c : Expr} {p pos : Pos} (hm : X.mg "range" = none) (ha : DA X [a, b, c] ta) (hg : Gl X "range" := by rfl) (hs : starEach [a, b, c] X.env = [(false, eval a X.env), (false, eval b X.env), (false, eval c X.env)] := by rfl) (hs2 : starEach [b, c] X.env = [(false, eval b X.env), (false, eval c X.env)] := by rfl) (hs3 : starEach [c] X.env = [(false, eval c X.env)] := by rfl) :
    DI X tg (.Call (.Name "range" p) [a, b, c] [] pos) (dRange3 ta) :=
  ⟨fun {δ M F Q Qx W σ G H R} h hh kr kx => PI.ti (pi_range3 hg hm (pa_of X [a, b, c]) (hs.trans (by rw [hs2])) (by rw [hs2]; rfl)) (ha.run h hh (fun vs ds G1 M1 H1 e1 a1 d1 q1 => by
    obtain ⟨i, j, c, n, rfl, h1, q⟩ := q1
    cases d1 with
    | cons r d1 =>
      cases d1 with
      | cons r2 d1 =>
        cases d1 with
        | cons r3 d1 =>
          cases d1
          cases r
          cases r2
          cases r3
          exact ⟨i, j, c, n, rfl, h1, kr _ _ _ _ _ e1 a1 (walks_rangeC i c n) q⟩) kx)⟩
/-- enumerate -/
def dEnum (te : DTE) : DTI := fun δ M Q Qx => te δ M (fun d M1 => frz d M1 fun d' M2 => ∃ ds, itemsOf d' = some ds ∧ Q (enums ds) M2) Qx
theorem di_enum {p pos tpos : Pos} {elts : List Expr} {kk : Nat} (hm : X.mg "enumerate" = none) (he : DE X e te) (hg : Gl X "enumerate" := by rfl) (hs : starEach [e] X.env = [(false, eval e X.env)] := by rfl) :
    DI X (.Tuple elts kk tpos) (.Call (.Name "enumerate" p) [e] [] pos) (dEnum te) := by
  have hs' : starEach [e] X.env = (false, eval e X.env) :: starEach [] X.env := hs
  exact ⟨fun {δ M F Q Qx W σ G H R} h hh kr kx => PI.ti (pi_enumA hg hm (pa_cons (pe_of X e) pa_nil hs') hs) (he.run h hh (RetK.frz fun v d G1 M1 H1 e1 a1 d1 q1 => by
    obtain ⟨ds, e2, q⟩ := q1
    cases d1 with
    | lst h1 h2 => cases e2; exact .inl ⟨_, _, rfl, SqL.of (a1.ex _ _ h1), kr _ _ _ _ _ e1 a1 (walks_enumL h1 h2) q⟩
    | scr h1 => cases e2; exact .inl ⟨_, _, rfl, ex_l a1.ex h1, kr _ _ _ _ _ e1 a1 (walks_enumScr h1) q⟩
    | tup h1 h2 => cases e2; exact .inr (.inl ⟨_, _, rfl, ex_t a1.ex h1, kr _ _ _ _ _ e1 a1 (walks_enumT h1 h2) q⟩)
    | str l => cases e2; exact .inr (.inr ⟨_, rfl, kr _ _ _ _ _ e1 a1 (walks_enumS l) q⟩)
    | _ => cases e2) kx)⟩
end
/-! ### for -/
/-- P: what holds before each turn; ds the items -/
def dFor (wi : DTI) (g : DTG) (tb : DTS) : DTS := fun E δ M => wi δ M (fun ds M1 => ∃ P : Nat → Env → Mem → Prop, P 0 δ M1 ∧
  (∀ i d δ' M', ds[i]? = some d → P i δ' M' → g d δ' M' fun δ2 M2 => tb { E with nx := P (i + 1), ct := P (i + 1), bk := E.nx } δ2 M2) ∧ ∀ δ' M', P ds.length δ' M' → E.nx δ' M') (fun x M1 => E.ex x δ M1)
section
variable {X : Cx} {tg iter : Expr} {body : List Stmt} {wi : DTI} {g : DTG} {tb : DTS} {vs : List Nat} {pos : Pos}
theorem ds_for (hp : PassesOwn (model X.prog X.w) X.A X.env X.xe) (hc : X.calm = true) (hi : DI X tg iter wi) (hg : DG X tg g vs) (hb : DSs X body tb) (hs : ∀ x, foldedSetIterable iter X.env x = pure x := by intro _; rfl) : DS X (.For tg iter body [] pos) (dFor wi g tb) :=
  ⟨fun {δ M F E W σ G H D} h hh ek => PS.ts (ps_for hp hc (pi_of X tg iter) (pg_of X tg) (pss_of X body) hs) (hi.run h hh (fun J ds G1 M1 H1 e1 a1 wk q => by
    obtain ⟨P, p0, step, fin⟩ := q
    refine ⟨fun i m σ' H' => m = ds.length - i ∧ i ≤ ds.length ∧ ∃ δ' G' M', Ex G1 G' ∧ Sl X.K σ' G' δ' ∧ At X.K G' M' F H' ∧ P i δ' M', ⟨ds.length, by simp, Nat.zero_le _, δ, G1, M1, Ex.refl _, hh.sl.mono e1, a1, p0⟩, ?_⟩
    rintro i m σ' H' ⟨rfl, hi', δ', G', M', e2, s2, a2, p⟩
    by_cases hlt : i < ds.length
    · refine .inr ⟨wk.go i G' M' F H' e2 a2 hlt, fun σ3 H3 => ∃ δ3 G3 M3, Ex G1 G3 ∧ Sl X.K σ3 G3 δ3 ∧ At X.K G3 M3 F H3 ∧ P (i + 1) δ3 M3, fun σ3 H3 ⟨δ3, G3, M3, e3, s3, a3, p3⟩ => ⟨ds.length - (i + 1), by omega, rfl, hlt, δ3, G3, M3, e3, s3, a3, p3⟩, fun x H2 y => ?_⟩
      obtain ⟨G2, d, e3, a3, hd, dd⟩ := wk.yld i G' M' F H' x H2 e2 a2 hlt y
      refine hg.run (step i d δ' M' hd p) (hh.go (s2.mono e3) a3) dd fun σ4 δ4 G4 M4 H4 e4 s4 a4 _ q4 => ?_
      refine hb.run q4 (hh.go s4 a4) ⟨fun σ5 δ5 G5 M5 H5 e5 s5 a5 q5 => ⟨δ5, G5, M5, ((e2.trans e3).trans e4).trans e5, s5, a5, q5⟩, (ek.rt.mono e1).mono ((e2.trans e3).trans e4), (ek.nx.mono e1).mono ((e2.trans e3).trans e4),
        fun σ5 δ5 G5 M5 H5 e5 s5 a5 q5 => ⟨δ5, G5, M5, ((e2.trans e3).trans e4).trans e5, s5, a5, q5⟩, (ek.ex.mono e1).mono ((e2.trans e3).trans e4)⟩
    · have e : i = ds.length := by omega
      subst e
      exact .inl ⟨wk.stop G' M' F H' e2 a2, ek.nx _ _ _ _ _ (e1.trans e2) s2 a2 (fin δ' M' p)⟩) (ek.ex.at_ hh.sl))⟩
/-- while: P with its measure -/
def dWhile (c : DTT) (tb : DTS) : DTS := fun E δ M => ∃ P : Nat → Env → Mem → Prop, (∃ m, P m δ M) ∧ ∀ m δ' M', P m δ' M' →
  c δ' M' (fun b M1 => if b = true then tb { E with nx := fun δ2 M2 => ∃ m', m' < m ∧ P m' δ2 M2, ct := fun δ2 M2 => ∃ m', m' < m ∧ P m' δ2 M2, bk := E.nx } δ' M1 else E.nx δ' M1) (fun x M1 => E.ex x δ' M1)
theorem ds_while {c : Expr} {tc : DTT} (hp : PassesOwn (model X.prog X.w) X.A X.env X.xe) (hc : DT X c tc) (hb : DSs X body tb) : DS X (.While c body [] pos) (dWhile tc tb) :=
  ⟨fun {δ M F E W σ G H D} h hh ek => PS.ts (ps_while hp (pt_of X c) (pss_of X body)) (by
    obtain ⟨P, ⟨m0, p0⟩, step⟩ := h
    refine ⟨fun m σ' H' => ∃ δ' G' M', Ex G G' ∧ Sl X.K σ' G' δ' ∧ At X.K G' M' F H' ∧ P m δ' M', ⟨m0, δ, G, M, Ex.refl _, hh.sl, hh.at_, p0⟩, ?_⟩
    rintro m σ' H' ⟨δ', G', M', e2, s2, a2, p⟩
    refine hc.run (step m δ' M' p) (hh.go s2 a2) (fun b G3 M3 H3 e3 a3 q3 => ?_) ((ek.ex.mono e2).at_ s2)
    cases b with
    | true =>
      refine ⟨fun σ4 H4 => ∃ m', m' < m ∧ ∃ δ4 G4 M4, Ex G G4 ∧ Sl X.K σ4 G4 δ4 ∧ At X.K G4 M4 F H4 ∧ P m' δ4 M4, fun σ4 H4 ⟨m', hm, r⟩ => ⟨m', hm, r⟩, ?_⟩
      refine hb.run q3 (hh.go (s2.mono e3) a3) ⟨fun σ5 δ5 G5 M5 H5 e5 s5 a5 ⟨m', hm, q5⟩ => ⟨m', hm, δ5, G5, M5, (e2.trans e3).trans e5, s5, a5, q5⟩, ek.rt.mono (e2.trans e3), ek.nx.mono (e2.trans e3), fun σ5 δ5 G5 M5 H5 e5 s5 a5 ⟨m', hm, q5⟩ => ⟨m', hm, δ5, G5, M5, (e2.trans e3).trans e5, s5, a5, q5⟩, ek.ex.mono (e2.trans e3)⟩
    | false => exact ek.nx _ _ _ _ _ (e2.trans e3) (s2.mono e3) a3 q3)⟩
end
/-! ### comprehensions -/
/-- [elt for target in iter if ..]: P by the turn and what is made so far -/
def dLc (wi : DTI) (g : DTG) (tt : DTT) (te : DTE) (vs : List Nat) : DTE := fun δ M Q Qx => wi δ M (fun ds M1 => ∃ P : Nat → List D → Mem → Prop, P 0 [] M1 ∧
  (∀ i d acc M', ds[i]? = some d → P i acc M' → g d (dwipe δ vs) M' fun δ2 M2 => tt δ2 M2 (fun b M3 => if b = true then te δ2 M3 (fun y M4 => P (i + 1) (acc ++ [y]) M4) (fun _ _ => False) else P (i + 1) acc M3) (fun _ _ => False)) ∧
  ds.length ≤ 16777216 ∧ ∀ acc M', P ds.length acc M' → Q (.lst acc) M') Qx
/-- .. a list that will change -/
def dLcM (wi : DTI) (g : DTG) (tt : DTT) (te : DTE) (vs : List Nat) : DTE := fun δ M Q Qx => wi δ M (fun ds M1 => ∃ P : Nat → List D → Mem → Prop, P 0 [] M1 ∧
  (∀ i d acc M', ds[i]? = some d → P i acc M' → g d (dwipe δ vs) M' fun δ2 M2 => tt δ2 M2 (fun b M3 => if b = true then te δ2 M3 (fun y M4 => P (i + 1) (acc ++ [y]) M4) (fun _ _ => False) else P (i + 1) acc M3) (fun _ _ => False)) ∧
  ds.length ≤ 16777216 ∧ ∀ acc M', P ds.length acc M' → ∀ p, M' p = none → Q (.ref p) (mset M' p (.lst acc))) Qx
/-- a clause's tests, in whatever block -/
def ttsOf (X : Cx) (ifs : List Expr) : TT := fun σ H Q => ∀ pins s, Inv X pins σ H s → wpAny (model X.prog X.w) X.A (forIn ifs true fun c r => if r = true then do let ok ← isTrue c X.env (eval c X.env); pure (ForInStep.yield ok) else pure (ForInStep.yield r)) (TP X pins σ Q) X.xe s
theorem pts_of (X : Cx) (ifs : List Expr) : PTs X ifs (ttsOf X ifs) := ⟨fun pins s _ _ _ I h => h pins s I⟩
theorem PTs.tts {X : Cx} {ifs : List Expr} {t : TT} (h : PTs X ifs t) {σ : L2.St} {H : Hp} {Q : Bool → Hp → Prop} (q : t σ H Q) : ttsOf X ifs σ H Q := fun pins s I => h.run pins s σ H Q I q
structure DTs (X : Cx) (ifs : List Expr) (t : DTT) : Prop where
  run : ∀ {δ M F Q Qx W σ G H QV}, t δ M Q Qx → Here X W δ M F σ G H → RetT X.K G F Q QV → ExcK X.K G F Qx (fun c d H => W c d σ H) → ttsOf X ifs σ H QV
def dYes : DTT := fun _ M Q _ => Q true M
theorem dts_nil {X : Cx} : DTs X [] dYes := ⟨fun {δ M F Q Qx W σ G H QV} h hh kr kx => PTs.tts pts_nil (kr _ _ _ _ (Ex.refl G) hh.at_ h)⟩
theorem dts_one {X : Cx} {c : Expr} {t : DTT} (hc : DT X c t) : DTs X [c] t := ⟨fun {δ M F Q Qx W σ G H QV} h hh kr kx => PTs.tts (pts_one (pt_of X c)) (hc.run h hh kr kx)⟩
theorem wipe_get (σ : L2.St) (vs : List Nat) (j : Nat) : (L2.wipe σ vs)[j]? = if j ∈ vs then (σ[j]?).map (fun _ => none) else σ[j]? := by
  induction vs with
  | nil => simp [L2.wipe]
  | cons v vs ih =>
    show ((L2.wipe σ vs).set v none)[j]? = _
    rw [List.getElem?_set]
    by_cases e : v = j
    · subst e
      simp [L2.wipe_length]
      by_cases h : v < σ.length
      · simp [h]
      · simp [h]
    · rw [if_neg e, ih]
      simp [Ne.symm e]
theorem still_wipe {vs ws : List Nat} {σ σ2 : L2.St} (h : Still ws (L2.wipe σ vs) σ2) (hs : ∀ j ∈ ws, j ∈ vs) : L2.wipe σ2 vs = L2.wipe σ vs := by
  refine List.ext_getElem? fun j => ?_
  by_cases e : j ∈ vs
  · rw [wipe_get, wipe_get, if_pos e, if_pos e]
    have hl : σ2.length = σ.length := by rw [h.1, L2.wipe_length]
    by_cases q : j < σ.length
    · have q2 : j < σ2.length := by omega
      simp [q, q2]
    · have q2 : ¬ j < σ2.length := by omega
      simp [q, q2]
  · rw [wipe_get, if_neg e]
    exact h.2 j fun z => e (hs j z)
section
variable {X : Cx} {tg iter elt : Expr} {ifs : List Expr} {scope : Scope} {own : List (Str × Nat)} {ws : List Nat} {wi : DTI} {g : DTG} {tt : DTT} {te : DTE} {pos : Pos} {G H : Hp} {F M : Mem}
/-- the readings of a block, in whatever block context -/
def blG (X : Cx) (scope : Scope) (tg : Expr) : TG := fun v σ H Q => ∀ s H' C cl fp, tgOf (X.blk s H' scope (compEnvC scope cl C X.env) fp) tg v σ H Q
def blT (X : Cx) (scope : Scope) (ifs : List Expr) : TT := fun σ H Q => ∀ s H' C cl fp, ttsOf (X.blk s H' scope (compEnvC scope cl C X.env) fp) ifs σ H Q
def blE (X : Cx) (scope : Scope) (elt : Expr) : TE := fun σ H Q => ∀ s H' C cl fp, teOf (X.blk s H' scope (compEnvC scope cl C X.env) fp) elt σ H Q
/-- what the comprehension's readings come to: the new list is at L, of the frame -/
theorem lc_run {W : WX} {δ : Env} {σ : L2.St} {Qx : QX} {QV : VK} {Qe : List D → Mem → Prop}
    (hi : DI X tg iter wi)
    (hg : ∀ (s : Shared) (H : Hp) (C : Addr) (cl : List (Str × Addr)) (fp : List Addr), DG (X.blk s H scope (compEnvC scope cl C X.env) fp) tg g ws)
    (ht : ∀ (s : Shared) (H : Hp) (C : Addr) (cl : List (Str × Addr)) (fp : List Addr), DTs (X.blk s H scope (compEnvC scope cl C X.env) fp) ifs tt)
    (he : ∀ (s : Shared) (H : Hp) (C : Addr) (cl : List (Str × Addr)) (fp : List Addr), DE (X.blk s H scope (compEnvC scope cl C X.env) fp) elt te)
    (hws : ∀ j ∈ ws, j ∈ own.map (·.2))
    (h : wi δ M (fun ds M1 => ∃ P : Nat → List D → Mem → Prop, P 0 [] M1 ∧
      (∀ i d acc M', ds[i]? = some d → P i acc M' → g d (dwipe δ (own.map (·.2))) M' fun δ2 M2 => tt δ2 M2 (fun b M3 => if b = true then te δ2 M3 (fun y M4 => P (i + 1) (acc ++ [y]) M4) (fun _ _ => False) else P (i + 1) acc M3) (fun _ _ => False)) ∧
      ds.length ≤ 16777216 ∧ ∀ acc M', P ds.length acc M' → Qe acc M') Qx)
    (hh : Here X W δ M F σ G H)
    (kr : ∀ (L : Addr) acc (xs : List V) G' M' H', Ex G G' → F L = none → M' L = none → At X.K G' M' (mset F L (.lst acc)) H' → H' L = some (.lst xs) → DvA X.K G' xs acc → Qe acc M' → QV (.ref L) H')
    (kx : ExcK X.K G F Qx (fun c d H => W c d σ H)) :
    tLc (tiOf X tg iter) (blG X scope tg) (blT X scope ifs) (blE X scope elt) (own.map (·.2)) σ H QV := by
  refine hi.run h hh (fun J ds G1 M1 H1 e1 a1 wk q => ?_) kx
  obtain ⟨P, p0, step, hlen, fin⟩ := q
  intro L hL
  have hF : F L = none := (a1.free hL).2
  refine ⟨fun i m H' => m = ds.length - i ∧ i ≤ ds.length ∧ ∃ acc G' M', acc.length ≤ i ∧ Ex G1 G' ∧ At X.K G' M' (mset F L (.lst acc)) H' ∧ P i acc M', ⟨ds.length, by simp, Nat.zero_le _, [], G1, M1, Nat.le_refl _, Ex.refl _, a1.freshF hL (o := .lst []) (m := .lst []) DvA.nil, p0⟩, ?_⟩
  rintro i m H' ⟨rfl, hi', acc, G', M', hacc, e2, a2, p⟩
  by_cases hlt : i < ds.length
  · refine .inr ⟨wk.go i G' M' _ H' e2 a2 hlt, fun H3 => ∃ acc G3 M3, acc.length ≤ i + 1 ∧ Ex G1 G3 ∧ At X.K G3 M3 (mset F L (.lst acc)) H3 ∧ P (i + 1) acc M3, fun H3 ⟨acc, G3, M3, ha, e3, a3, p3⟩ => ⟨ds.length - (i + 1), by omega, rfl, hlt, acc, G3, M3, ha, e3, a3, p3⟩, fun x H2 y => ?_⟩
    obtain ⟨G2, d, e3, a3, hd, dd⟩ := wk.yld i G' M' _ H' x H2 e2 a2 hlt y
    intro s0 H0 C cl fp
    refine (hg s0 H0 C cl fp).run (step i d acc M' hd p) ⟨takes0, (hh.sl.wipe (own.map (·.2))).mono ((e1.trans e2).trans e3), a3⟩ dd fun σ4 δ4 G4 M4 H4 e4 s4 a4 st q4 => ⟨still_wipe st hws, fun s0 H0 C cl fp => ?_⟩
    refine (ht s0 H0 C cl fp).run (QV := fun b H3 => if b = true then blE X scope elt σ4 H3 fun y H4 => ∃ acc, H4 L = some (.lst acc) ∧ acc.length < sizeLine ∧ (fun H3 => ∃ acc G3 M3, acc.length ≤ i + 1 ∧ Ex G1 G3 ∧ At X.K G3 M3 (mset F L (.lst acc)) H3 ∧ P (i + 1) acc M3) (upd H4 L (.lst (acc ++ [y]))) else (fun H3 => ∃ acc G3 M3, acc.length ≤ i + 1 ∧ Ex G1 G3 ∧ At X.K G3 M3 (mset F L (.lst acc)) H3 ∧ P (i + 1) acc M3) H3) q4 ⟨takes0, s4, a4⟩ (fun b G5 M5 H5 e5 a5 q5 => ?_) ExcK.no
    cases b with
    | false =>
      simp only [Bool.false_eq_true, if_false] at q5 ⊢
      exact ⟨acc, G5, M5, by omega, ((e2.trans e3).trans e4).trans e5, a5, q5⟩
    | true =>
      simp only [if_true] at q5 ⊢
      intro s0 H0 C cl fp
      refine (he s0 H0 C cl fp).run q5 ⟨takes0, s4.mono e5, a5⟩ (fun v y G6 M6 H6 e6 a6 d6 q6 => ?_) ExcK.no
      have hm : M6 L = none := by
        cases e : M6 L with
        | none => rfl
        | some u =>
          have z := a6.mf L u e
          rw [mset_same] at z; cases z
      obtain ⟨ho, h1, h2⟩ := a6.a.mem L (.lst acc) (by rw [mor_r hm, mset_same])
      cases ho with
      | lst xs =>
        have h2 : DvA X.K G6 xs acc := h2
        have hx := h2.length
        refine ⟨xs, h1, by rw [hx]; show acc.length < 2 ^ 24; omega, acc ++ [y], G6, M6, by simp; omega, (((e2.trans e3).trans e4).trans e5).trans e6, ?_, q6⟩
        have z := a6.writeF (p := L) (m0 := .lst acc) mset_same (o := .lst (xs ++ [v])) (m := .lst (acc ++ [y])) (h2.append (.one d6))
        rw [mset_mset] at z
        exact z
      | _ => exact h2.elim
  · have e : i = ds.length := by omega
    subst e
    have hm : M' L = none := by
      cases e : M' L with
      | none => rfl
      | some u =>
        have z := a2.mf L u e
        rw [mset_same] at z; cases z
    obtain ⟨ho, h1, h2⟩ := a2.a.mem L (.lst acc) (by rw [mor_r hm, mset_same])
    cases ho with
    | lst xs => exact .inl ⟨wk.stop G' M' _ H' e2 a2, kr L acc xs G' M' H' (e1.trans e2) hF hm a2 h1 h2 (fin acc M' p)⟩
    | _ => exact h2.elim
/-- what a block's parts are to be -/
structure Blk (X : Cx) (scope : Scope) (own : List (Str × Nat)) (tg elt : Expr) (ifs : List Expr) (g : DTG) (tt : DTT) (te : DTE) : Prop where
  ok : BlkOk X.N X.env.scope scope own
  ws : ∃ ws : List Nat, (∀ j ∈ ws, j ∈ own.map (·.2)) ∧ ∀ (s : Shared) (H : Hp) (C : Addr) (cl : List (Str × Addr)) (fp : List Addr), DG (X.blk s H scope (compEnvC scope cl C X.env) fp) tg g ws
  ht : ∀ (s : Shared) (H : Hp) (C : Addr) (cl : List (Str × Addr)) (fp : List Addr), DTs (X.blk s H scope (compEnvC scope cl C X.env) fp) ifs tt
  he : ∀ (s : Shared) (H : Hp) (C : Addr) (cl : List (Str × Addr)) (fp : List Addr), DE (X.blk s H scope (compEnvC scope cl C X.env) fp) elt te
theorem pg_bl : ∀ (s : Shared) (H : Hp) (C : Addr) (cl : List (Str × Addr)) (fp : List Addr), PG (X.blk s H scope (compEnvC scope cl C X.env) fp) tg (blG X scope tg) := fun s H C cl fp => ⟨fun pins s' σ H' v u Q I r h => h s H C cl fp pins s' u I r⟩
theorem pt_bl : ∀ (s : Shared) (H : Hp) (C : Addr) (cl : List (Str × Addr)) (fp : List Addr), PTs (X.blk s H scope (compEnvC scope cl C X.env) fp) ifs (blT X scope ifs) := fun s H C cl fp => ⟨fun pins s' σ H' Q I h => h s H C cl fp pins s' I⟩
theorem pe_bl : ∀ (s : Shared) (H : Hp) (C : Addr) (cl : List (Str × Addr)) (fp : List Addr), PE (X.blk s H scope (compEnvC scope cl C X.env) fp) elt (blE X scope elt) := fun s H C cl fp => ⟨fun pins s' σ H' Q I h => h s H C cl fp pins s' I⟩
theorem de_lc (hc : X.calm = true) (hN : X.N.Nodup) (hi : DI X tg iter wi) (b : Blk X scope own tg elt ifs g tt te) (hs : ∀ x, foldedSetIterable iter X.env x = pure x := by intro _; rfl) :
    DE X (.ListComp elt [⟨tg, iter, ifs, 0⟩] scope pos) (dLc wi g tt te (own.map (·.2))) := by
  obtain ⟨ws, hws, hg⟩ := b.ws
  exact ⟨fun {δ M F Q Qx W σ G H QV} h hh kr kx => PE.te (pe_lc hc hN (pi_of X tg iter) b.ok pg_bl pt_bl pe_bl hs) (lc_run hi hg b.ht b.he hws h hh (fun L acc xs G' M' H' e1 hF hm a1 h1 h2 q => by
    obtain ⟨a2, e2⟩ := a1.freezeF (p := L) mset_same h1
    rw [mdel_mset hF] at a2
    exact kr _ (.lst acc) _ _ _ (e1.trans e2) a2 (.lst upd_same (h2.mono e2)) q) kx)⟩
theorem At.moveF {K : PySem.W.Frag} {p : Addr} {m : MO} (at_ : At K G M (mset F p m) H) (hF : F p = none) (hM : M p = none) : At K G (mset M p m) F H := by
  refine ⟨?_, fun q u e => ?_⟩
  · have z : mor (mset M p m) F = mor M (mset F p m) := by rw [mor_set, mor_set_r hM]
    rw [z]; exact at_.a
  · by_cases z : q = p
    · subst z; exact hF
    · rw [mset_ne z] at e
      have w := at_.mf q u e
      rw [mset_ne z] at w; exact w
theorem de_lcM (hc : X.calm = true) (hN : X.N.Nodup) (hi : DI X tg iter wi) (b : Blk X scope own tg elt ifs g tt te) (hs : ∀ x, foldedSetIterable iter X.env x = pure x := by intro _; rfl) :
    DE X (.ListComp elt [⟨tg, iter, ifs, 0⟩] scope pos) (dLcM wi g tt te (own.map (·.2))) := by
  obtain ⟨ws, hws, hg⟩ := b.ws
  exact ⟨fun {δ M F Q Qx W σ G H QV} h hh kr kx => PE.te (pe_lc hc hN (pi_of X tg iter) b.ok pg_bl pt_bl pe_bl hs) (lc_run (Qe := fun acc M' => ∀ p, M' p = none → Q (.ref p) (mset M' p (.lst acc))) hi hg b.ht b.he hws h hh (fun L acc xs G' M' H' e1 hF hm a1 h1 h2 q => kr _ (.ref L) _ _ _ e1 (a1.moveF hF hm) (.ref L) (q L hm)) kx)⟩
theorem ds_setLc {y : Str} {py spos : Pos} (i : Nat) (hc : X.calm = true) (hN : X.N.Nodup) (hi : DI X tg iter wi) (b : Blk X scope own tg elt ifs g tt te) (hy : X.N[i]? = some y := by rfl) (hyl : X.env.scope.names.lookup y = some .local := by rfl)
    (hsw : swapsWith (.ListComp elt [⟨tg, iter, ifs, 0⟩] scope pos) (some (.Name y py)) spos.line X.env = pure true := by first | exact sw_true rfl rfl rfl (by decide +kernel)) (hs : ∀ x, foldedSetIterable iter X.env x = pure x := by intro _; rfl) :
    DS X (.Assign [.Name y py] (.ListComp elt [⟨tg, iter, ifs, 0⟩] scope pos) spos) (dAsg (dLc wi g tt te (own.map (·.2))) (gNm i)) := by
  obtain ⟨ws, hws, hg⟩ := b.ws
  exact ⟨fun {δ M F E W σ G H D} h hh ek => PS.ts (ps_setLc hc hN hy hyl hsw (pi_of X tg iter) b.ok pg_bl pt_bl pe_bl hs) (lc_run hi hg b.ht b.he hws h hh (fun L acc xs G' M' H' e1 hF hm a1 h1 h2 q => by
    obtain ⟨a2, e2⟩ := a1.freezeF (p := L) mset_same h1
    rw [mdel_mset hF] at a2
    exact ek.nx _ _ _ _ _ (e1.trans e2) ((hh.sl.mono (e1.trans e2)).set i (.lst upd_same (h2.mono e2))) a2 q) (ek.ex.at_ hh.sl))⟩
theorem ds_setLcM {y : Str} {py spos : Pos} (i : Nat) (hc : X.calm = true) (hN : X.N.Nodup) (hi : DI X tg iter wi) (b : Blk X scope own tg elt ifs g tt te) (hy : X.N[i]? = some y := by rfl) (hyl : X.env.scope.names.lookup y = some .local := by rfl)
    (hsw : swapsWith (.ListComp elt [⟨tg, iter, ifs, 0⟩] scope pos) (some (.Name y py)) spos.line X.env = pure true := by first | exact sw_true rfl rfl rfl (by decide +kernel)) (hs : ∀ x, foldedSetIterable iter X.env x = pure x := by intro _; rfl) :
    DS X (.Assign [.Name y py] (.ListComp elt [⟨tg, iter, ifs, 0⟩] scope pos) spos) (dAsg (dLcM wi g tt te (own.map (·.2))) (gNm i)) := by
  obtain ⟨ws, hws, hg⟩ := b.ws
  exact ⟨fun {δ M F E W σ G H D} h hh ek => PS.ts (ps_setLc hc hN hy hyl hsw (pi_of X tg iter) b.ok pg_bl pt_bl pe_bl hs) (lc_run (Qe := fun acc M' => ∀ p, M' p = none → E.nx (δ.set i (some (.ref p))) (mset M' p (.lst acc))) hi hg b.ht b.he hws h hh (fun L acc xs G' M' H' e1 hF hm a1 h1 h2 q => ek.nx _ _ _ _ _ e1 ((hh.sl.mono e1).set i (.ref L)) (a1.moveF hF hm) (q L hm)) (ek.ex.at_ hh.sl))⟩
end
end DL

set_option Elab.async false
set_option linter.all false
set_option maxRecDepth 100000
set_option maxHeartbeats 4000000
/-! DL7: calls, defs, the law. -/
namespace DL
open PySem L2 PySem.Spec PyProof.Rows
/-- what a def answers: its arguments, the memory, the wanted end, the wanted exception -/
abbrev SpD := List D → Mem → QE → QX → Prop
def toSp (K : PySem.W.Frag) (sp : SpD) : Sp := fun vs H QV E => ∃ G M F ds Q Qx, DvA K G vs ds ∧ At K G M F H ∧ sp ds M Q Qx ∧ RetK K G F Q QV ∧ ExcK K G F Qx E
def noG : Hp := fun _ => none
theorem noG_ex (G : Hp) : Ex noG G := fun a o h => by cases h
section
variable {P : Program} {w : World} {K : PySem.W.Frag} {mg : Str → Option Value} {base : Heap}
structure FnD (P : Program) (w : World) (K : PySem.W.Frag) (mg : Str → Option Value) (base : Heap) (k : Nat) (f : Addr) (n : Nat) (sp : SpD) (dds : List D) : Prop where
  ex : ∃ (fd : FuncData) (ps : List Str) (ds : List Value) (dvs : List V), FnOk P w K mg base (L2.CX P w) k f fd ps (toSp K sp) ∧ Binds K fd ps ds ∧ Vals dvs ds ∧ DvA K noG dvs dds ∧ ps.length = n
  len : ∀ ds M Q Qx, sp ds M Q Qx → ds.length = n
structure CallD (P : Program) (w : World) (K : PySem.W.Frag) (mg : Str → Option Value) (base : Heap) (k : Nat) (x : Str) (sp : SpD) (dds : List D) : Prop where
  ex : ∃ f n, FnD P w K mg base k f n sp dds ∧ mg x = some (.ref f) ∧ PySem.W.keepIn K (.ref f) = true
structure MethD (P : Program) (w : World) (K : PySem.W.Frag) (mg : Str → Option Value) (base : Heap) (k : Nat) (C : Addr) (m : Str) (sp : SpD) (dds : List D) : Prop where
  ex : ∃ f n, FnD P w K mg base k f n sp dds ∧ Cls K C ∧ Meth K C m f
structure MakD (P : Program) (w : World) (K : PySem.W.Frag) (mg : Str → Option Value) (base : Heap) (k : Nat) (x : Str) (C : Addr) (sp : SpD) (dds : List D) : Prop where
  ex : ∃ f n, FnD P w K mg base k f n sp dds ∧ mg x = some (.ref C) ∧ Mk K C f
theorem FnD.imp {k f n dds} {sp sp' : SpD} (c : FnD P w K mg base k f n sp dds) (h : ∀ ds M Q Qx, sp' ds M Q Qx → sp ds M Q Qx) : FnD P w K mg base k f n sp' dds := by
  obtain ⟨⟨fd, ps, ds, dvs, F, hb, hd, hv, hl⟩, len⟩ := c
  exact ⟨⟨fd, ps, ds, dvs, F.imp fun vs H Q E ⟨G, M, F, ds, Qd, Qx, a, b, c, d⟩ => ⟨G, M, F, ds, Qd, Qx, a, b, h _ _ _ _ c, d⟩, hb, hd, hv, hl⟩, fun _ _ _ _ q => len _ _ _ _ (h _ _ _ _ q)⟩
theorem CallD.imp {k x dds} {sp sp' : SpD} (c : CallD P w K mg base k x sp dds) (h : ∀ ds M Q Qx, sp' ds M Q Qx → sp ds M Q Qx) : CallD P w K mg base k x sp' dds :=
  let ⟨f, n, a, b⟩ := c.ex
  ⟨f, n, a.imp h, b⟩
theorem MethD.imp {k C m dds} {sp sp' : SpD} (c : MethD P w K mg base k C m sp dds) (h : ∀ ds M Q Qx, sp' ds M Q Qx → sp ds M Q Qx) : MethD P w K mg base k C m sp' dds :=
  let ⟨f, n, a, b⟩ := c.ex
  ⟨f, n, a.imp h, b⟩
theorem MakD.imp {k x C dds} {sp sp' : SpD} (c : MakD P w K mg base k x C sp dds) (h : ∀ ds M Q Qx, sp' ds M Q Qx → sp ds M Q Qx) : MakD P w K mg base k x C sp' dds :=
  let ⟨f, n, a, b⟩ := c.ex
  ⟨f, n, a.imp h, b⟩
end
section
variable {X : Cx}
/-- a callee, run -/
theorem run_d {W : WX} {M F : Mem} {σ : L2.St} {G H : Hp} {k f n : Nat} {sp : SpD} {dds : List D} {Q : QE} {Qx : QX} {QV : VK} {pins : List (Addr × Obj)} {s : Shared} {us : List Value} {vs : List V} {ds : List D}
    (c : FnD X.prog X.w X.K X.mg X.base k f n sp dds) (hr : Room k X.A) (tk : Takes X W) (at_ : At X.K G M F H) (kr : RetK X.K G F Q QV) (kx : ExcK X.K G F Qx (fun c d H => W c d σ H)) (I : Inv X pins σ H s) (r : Vals vs us) (dv : DvA X.K G vs ds) (h : sp (ds ++ dds) M Q Qx) :
    wpAny (model X.prog X.w) X.A (call (.ref f) us) (EP X pins σ QV) X.xe s := by
  obtain ⟨⟨fd, ps, dfs, dvs, F, hb, hd, hv, hl⟩, len⟩ := c
  exact run_fnSD F hr hb hd (passAt tk σ) I r ⟨G, M, _, ds ++ dds, Q, Qx, dv.append (hv.mono (noG_ex G)), at_, h, kr, kx⟩
def dCall (sp : SpD) (dds : List D) (t : DTA) : DTE := fun δ M Q Qx => t δ M (fun ds M1 => sp (ds ++ dds) M1 Q Qx) Qx
variable {k j : Nat} {x m : Str} {sp : SpD} {dds : List D} {p pos apos : Pos} {e o : Expr} {es : List Expr} {ta : DTA} {to : DTE}
theorem de_call (c : CallD X.prog X.w X.K X.mg X.base k x sp dds) (hr : Room j X.A) (hk : k ≤ j) (ha : DA X (e :: es) ta) (hg : Gl X x := by rfl) (hdb : (x == ("__debug__" : Str)) = false := by decide)
    (hs : starEach (e :: es) X.env = (false, eval e X.env) :: starEach es X.env := by rfl) (hpl : (backTo pos (starEach es X.env)).any (·.1) = false := by rfl) : DE X (.Call (.Name x p) (e :: es) [] pos) (dCall sp dds ta) := by
  obtain ⟨f, n, F, hm, kp⟩ := c.ex
  refine ⟨fun {δ M F0 Q Qx W σ G H QV} h hh kr kx pins s I => wpAny_Call_Name_kw (ld_glob I hg hm ?_ hdb)⟩
  exact PySem.W.callWith_K (h₀ := X.base) I.ok.mod.kin kp (thn (ha.run h hh (QV := fun vs H1 => ∃ ds G1 M1, Ex G G1 ∧ At X.K G1 M1 F0 H1 ∧ DvA X.K G1 vs ds ∧ sp (ds ++ dds) M1 Q Qx) (fun vs ds G1 M1 H1 e1 a1 d1 q => ⟨ds, G1, M1, e1, a1, d1, q⟩) kx pos pins s I)
    fun us s1 ⟨vs, H1, I1, r, ds, G1, M1, e1, a1, d1, q⟩ => ⟨I1.kIn, run_d F (hr.mono hk) hh.tk a1 (kr.mono e1) (kx.mono e1) I1 r d1 q⟩) hs hpl
theorem de_call0 (c : CallD X.prog X.w X.K X.mg X.base k x sp dds) (hr : Room j X.A) (hk : k ≤ j) (hg : Gl X x := by rfl) (hdb : (x == ("__debug__" : Str)) = false := by decide) : DE X (.Call (.Name x p) [] [] pos) (dCall sp dds dNil) := by
  obtain ⟨f, n, F, hm, kp⟩ := c.ex
  refine ⟨fun {δ M F0 Q Qx W σ G H QV} h hh kr kx pins s I => wpAny_Call_Name_kw (ld_glob I hg hm ?_ hdb)⟩
  exact PySem.W.callWith_K0 I.kIn kp (run_d (us := []) (vs := []) (ds := []) F (hr.mono hk) hh.tk hh.at_ kr kx I .nil .nil h)
/-- o.m(..) -/
def dMeth (C : Addr) (m : Str) (sp : SpD) (dds : List D) (to : DTE) (ta : DTA) : DTE := fun δ M Q Qx => to δ M (fun x M1 => ∃ a dx fs, x = .ref a ∧ M1 a = some (.ins C dx fs) ∧ fs.lookup m = none ∧ ta δ M1 (fun ds M2 => sp (.ref a :: (ds ++ dds)) M2 Q Qx) Qx) Qx
theorem de_meth {pl : Sem Bool} {C : Addr} (c : MethD X.prog X.w X.K X.mg X.base k C m sp dds) (hr : Room j X.A) (hk : k ≤ j) (ho : DE X o to) (ha : DA X (e :: es) ta)
    (hst : starEach (e :: es) X.env = (false, eval e X.env) :: starEach es X.env := by rfl) (hpl : (backTo pos (starEach es X.env)).any (·.1) = false := by rfl)
    (ht : eval (.Call (.Attribute o m apos) (e :: es) [] pos) X.env = (do let ov ← eval o X.env; standAt apos.atName; let (f, first) ← holding [ov] (getMethod ov m pl); callWith pos f first (backTo pos (starEach (e :: es) X.env)) (backToKw pos (keywordEach [] X.env))) := by rfl) :
    DE X (.Call (.Attribute o m apos) (e :: es) [] pos) (dMeth C m sp dds to ta) := by
  obtain ⟨f, n, F, hc, hm⟩ := c.ex
  refine ⟨fun {δ M F0 Q Qx W σ G H QV} h hh kr kx pins s I => ?_⟩
  refine PySem.W.methodCall_KW (pl := pl) (thn (ho.run h hh (QV := fun v H1 => ∃ d G1 M1, Ex G G1 ∧ At X.K G1 M1 F0 H1 ∧ Dv X.K G1 v d ∧ _) (fun v d G1 M1 H1 e1 a1 d1 q => ⟨d, G1, M1, e1, a1, d1, q⟩) kx pins s I) fun u s1 ⟨v, H1, I1, rx, d, G1, M1, e1, a1, d1, a, dx, fs, ed, ma, lf, q⟩ => ?_) ht
  subst ed
  cases d1
  obtain rfl : u = Value.ref a := rx
  obtain ⟨gs, ha1, hkd⟩ := a1.ins ma
  refine getmeth_ok I1 ha1 hc hm (KD.lookup0 hkd lf) ?_
  exact PySem.W.callWith_K (first := [.ref a]) (h₀ := X.base) I1.ok.mod.kin hm.kp (thn (ha.run q (hh.on e1 a1) (QV := fun vs H2 => ∃ ds G2 M2, Ex G1 G2 ∧ At X.K G2 M2 F0 H2 ∧ DvA X.K G2 vs ds ∧ sp (.ref a :: (ds ++ dds)) M2 Q Qx) (fun vs ds G2 M2 H2 e2 a2 d2 q => ⟨ds, G2, M2, e2, a2, d2, q⟩) (kx.mono e1) pos pins s1 I1)
    fun us s2 ⟨vs, H2, I2, r, ds, G2, M2, e2, a2, d2, q2⟩ => ⟨I2.kIn, run_d (us := .ref a :: us) (vs := .ref a :: vs) (ds := .ref a :: ds) F (hr.mono hk) hh.tk a2 (kr.mono (e1.trans e2)) (kx.mono (e1.trans e2)) I2 (.cons rfl r) (.cons (.ref a) d2) q2⟩) hst hpl
theorem de_meth0 {pl : Sem Bool} {C : Addr} (c : MethD X.prog X.w X.K X.mg X.base k C m sp dds) (hr : Room j X.A) (hk : k ≤ j) (ho : DE X o to)
    (ht : eval (.Call (.Attribute o m apos) [] [] pos) X.env = (do let ov ← eval o X.env; standAt apos.atName; let (f, first) ← holding [ov] (getMethod ov m pl); callWith pos f first (backTo pos (starEach [] X.env)) (backToKw pos (keywordEach [] X.env))) := by rfl) :
    DE X (.Call (.Attribute o m apos) [] [] pos) (dMeth C m sp dds to dNil) := by
  obtain ⟨f, n, F, hc, hm⟩ := c.ex
  refine ⟨fun {δ M F0 Q Qx W σ G H QV} h hh kr kx pins s I => ?_⟩
  refine PySem.W.methodCall_KW (pl := pl) (thn (ho.run h hh (QV := fun v H1 => ∃ d G1 M1, Ex G G1 ∧ At X.K G1 M1 F0 H1 ∧ Dv X.K G1 v d ∧ _) (fun v d G1 M1 H1 e1 a1 d1 q => ⟨d, G1, M1, e1, a1, d1, q⟩) kx pins s I) fun u s1 ⟨v, H1, I1, rx, d, G1, M1, e1, a1, d1, a, dx, fs, ed, ma, lf, q⟩ => ?_) ht
  subst ed
  cases d1
  obtain rfl : u = Value.ref a := rx
  obtain ⟨gs, ha1, hkd⟩ := a1.ins ma
  refine getmeth_ok I1 ha1 hc hm (KD.lookup0 hkd lf) ?_
  exact PySem.W.callWith_K0 (first := [.ref a]) I1.kIn hm.kp (run_d (us := [.ref a]) (vs := [.ref a]) (ds := [.ref a]) F (hr.mono hk) hh.tk a1 (kr.mono e1) (kx.mono e1) I1 (.cons rfl .nil) (.cons (.ref a) .nil) q)
/-- C(..) -/
def dMake (C : Addr) (sp : SpD) (dds : List D) (ta : DTA) : DTE := fun δ M Q Qx => ta δ M (fun ds M1 => ∀ p dx, M1 p = none → sp (.ref p :: (ds ++ dds)) (mset M1 p (.ins C dx [])) (fun d M2 => d = .non ∧ Q (.ref p) M2) Qx) Qx
theorem run_mk {C : Addr} {W : WX} {M F : Mem} {σ : L2.St} {G H : Hp} {Q : QE} {Qx : QX} {QV : VK} {pins : List (Addr × Obj)} {s : Shared} {us : List Value} {vs : List V} {ds : List D}
    (c : MakD X.prog X.w X.K X.mg X.base k x C sp dds) (hr : Room (k + 1) X.A) (tk : Takes X W) (at_ : At X.K G M F H) (kr : RetK X.K G F Q QV) (kx : ExcK X.K G F Qx (fun c d H => W c d σ H)) (I : Inv X pins σ H s) (r : Vals vs us) (dv : DvA X.K G vs ds)
    (h : ∀ p dx, M p = none → sp (.ref p :: (ds ++ dds)) (mset M p (.ins C dx [])) (fun d M2 => d = .non ∧ Q (.ref p) M2) Qx) :
    wpAny (model X.prog X.w) X.A (call (.ref C) us) (EP X pins σ QV) X.xe s := by
  obtain ⟨f, n, ⟨⟨fd, ps, dfs, dvs, Fn, hb, hd, hv, hl⟩, len⟩, hm, Mc⟩ := c.ex
  have n1 : H (s.heap.objs.size + 1) = none := I.hok.fresh (Nat.le_succ _)
  have n0 : H s.heap.objs.size = none := I.hok.fresh (Nat.le_refl _)
  have h' := h (s.heap.objs.size + 1) s.heap.objs.size (at_.free n1).1
  have a2 : At X.K G (mset M (s.heap.objs.size + 1) (.ins C s.heap.objs.size [])) F (upd (upd H s.heap.objs.size (.own (s.heap.objs.size + 1))) (s.heap.objs.size + 1) (.ins C s.heap.objs.size [])) :=
    (at_.extra n0 _).fresh (by rw [upd_ne (Nat.succ_ne_self _)]; exact n1) ⟨rfl, rfl, .nil⟩
  have I2 := Inv.made (C := C) I
  have r2 : Vals (V.ref (s.heap.objs.size + 1) :: (vs ++ dvs)) (Value.ref (s.heap.objs.size + 1) :: (us ++ dfs)) := .cons rfl (r.append hd)
  have hq : toSp X.K sp (V.ref (s.heap.objs.size + 1) :: (vs ++ dvs)) (upd (upd H s.heap.objs.size (.own (s.heap.objs.size + 1))) (s.heap.objs.size + 1) (.ins C s.heap.objs.size [])) (fun v H2 => v = .non ∧ QV (.ref (s.heap.objs.size + 1)) H2) (fun c d H => W c d σ H) :=
    ⟨G, _, F, _, _, Qx, .cons (.ref _) (dv.append (hv.mono (noG_ex G))), a2, h', fun v d G' M' H' e' a' d' ⟨z, q⟩ => by
      subst z
      cases d'
      exact ⟨rfl, kr _ _ _ _ _ e' a' (.ref _) q⟩, kx⟩
  have hlen : (Value.ref (s.heap.objs.size + 1) :: us ++ dfs).length = ps.length := by
    have z := r2.length
    rw [Fn.len _ _ _ _ hq] at z
    exact z.symm
  have nest := (Fn.run _ X.stack _ _ ⟨Value.ref (s.heap.objs.size + 1) :: us, []⟩ (Value.ref (s.heap.objs.size + 1) :: (us ++ dfs)) _ _ _ (hr.make C us []) (I2.env0.make C us []) (hb _ (Value.ref (s.heap.objs.size + 1) :: us) I2.kIn hlen) r2 hq)
  refine wpAny_call (make_map (f := f) I.kIn Mc.makes Mc.init (beq_iff_eq.mp Mc.fn) (codeAny_mono nest fun r s' hz => ?_))
  match r, hz with
  | .error e, hz => exact passAt tk σ pins _ _ e s' I2 hz
  | .ok (.ret u), hz =>
    obtain ⟨v, H', I3, rv, ev, q3⟩ := I2.after hz
    subst ev
    exact ⟨rv, V.ref (s.heap.objs.size + 1), H', I3, rfl, q3⟩
theorem de_make {C : Addr} (c : MakD X.prog X.w X.K X.mg X.base k x C sp dds) (hr : Room j X.A) (hk : k + 1 ≤ j) (ha : DA X (e :: es) ta) (hg : Gl X x := by rfl) (hdb : (x == ("__debug__" : Str)) = false := by decide)
    (hs : starEach (e :: es) X.env = (false, eval e X.env) :: starEach es X.env := by rfl) (hpl : (backTo pos (starEach es X.env)).any (·.1) = false := by rfl) : DE X (.Call (.Name x p) (e :: es) [] pos) (dMake C sp dds ta) := by
  obtain ⟨f, n, F, hm, Mc⟩ := id c.ex
  refine ⟨fun {δ M F0 Q Qx W σ G H QV} h hh kr kx pins s I => wpAny_Call_Name_kw (ld_glob I hg hm ?_ hdb)⟩
  exact PySem.W.callWith_K (h₀ := X.base) I.ok.mod.kin Mc.kp (thn (ha.run h hh (QV := fun vs H1 => ∃ ds G1 M1, Ex G G1 ∧ At X.K G1 M1 F0 H1 ∧ DvA X.K G1 vs ds ∧ _) (fun vs ds G1 M1 H1 e1 a1 d1 q => ⟨ds, G1, M1, e1, a1, d1, q⟩) kx pos pins s I)
    fun us s1 ⟨vs, H1, I1, r, ds, G1, M1, e1, a1, d1, q⟩ => ⟨I1.kIn, run_mk c (hr.mono hk) hh.tk a1 (kr.mono e1) (kx.mono e1) I1 r d1 q⟩) hs hpl
theorem de_make0 {C : Addr} (c : MakD X.prog X.w X.K X.mg X.base k x C sp dds) (hr : Room j X.A) (hk : k + 1 ≤ j) (hg : Gl X x := by rfl) (hdb : (x == ("__debug__" : Str)) = false := by decide) : DE X (.Call (.Name x p) [] [] pos) (dMake C sp dds dNil) := by
  obtain ⟨f, n, F, hm, Mc⟩ := id c.ex
  refine ⟨fun {δ M F0 Q Qx W σ G H QV} h hh kr kx pins s I => wpAny_Call_Name_kw (ld_glob I hg hm ?_ hdb)⟩
  exact PySem.W.callWith_K0 I.kIn Mc.kp (run_mk (us := []) (vs := []) (ds := []) c (hr.mono hk) hh.tk hh.at_ kr kx I .nil .nil h)
end
/-! ### a def -/
def dstart (n : Nat) (ds : List D) : Env := ds.map some ++ List.replicate (n - ds.length) none
theorem sl_start {K : PySem.W.Frag} {G : Hp} : ∀ {vs : List V} {ds : List D}, DvA K G vs ds → ∀ m : Nat, Sl K (vs.map some ++ List.replicate m none) G (ds.map some ++ List.replicate m none)
  | _, _, .nil, m => ⟨by simp, fun i d h => by
      simp only [List.map_nil, List.nil_append] at h
      rw [List.getElem?_replicate] at h
      split at h <;> cases h⟩
  | _, _, .cons (v := v) (vs := vs) (d := d) (ds := ds) a b, m => ⟨by simp [b.length], fun i e h => by
      cases i with
      | zero =>
        simp at h
        subst h
        exact ⟨v, by simp, a⟩
      | succ i =>
        have h' : (ds.map some ++ List.replicate m none)[i]? = some (some e) := by simpa using h
        obtain ⟨u, h1, h2⟩ := (sl_start b m).at_ i e h'
        exact ⟨u, by simpa using h1, h2⟩⟩
section
variable {P : Program} {w : World} {K : PySem.W.Frag} {mg : Str → Option Value} {base : Heap}
theorem fn_d {x qual : Str} {st : Stmt} {f : Addr} {fd : FuncData} {N ps : List Str} {k : Nat} {sp : SpD} {ds : List Value} {dvs : List V} {dds : List D} (F : L2.Fun K x qual st f fd) (S : FnScope N ps (defScope st)) (hb : Binds K fd ps ds) (hd : Vals dvs ds) (hv : DvA K noG dvs dds)
    (len : ∀ ds M Q Qx, sp ds M Q Qx → ds.length = ps.length)
    (hbody : ∀ (cdv : Value) (A : Around) (outer : List PySem.Env) (s : Shared) (H : Hp) (E : XK), Room k (A.deeper (envOfC qual (defScope st) s.heap.objs.size f cdv)) →
      ∃ tb, DSs (cxOf (L2.CX P w) P w K mg base N qual (defScope st) f cdv A outer s H E) (defBody st) tb ∧
        ∀ ds M Q Qx, sp ds M Q Qx → tb { nx := fun _ M1 => Q .non M1, rt := Q, ex := fun x _ M1 => Qx x M1 } (dstart N.length ds) M) : FnD P w K mg base (k + 1) f ps.length sp dds := by
  refine ⟨⟨fd, ps, ds, dvs, F.okX S (fun vs H Q E ⟨G, M, F0, ds, Qd, Qx, dv, a, h, kr, kx⟩ => by rw [dv.length]; exact len _ _ _ _ h) (fun cdv A outer s H vs QV E hr h => ?_), hb, hd, hv, rfl⟩, len⟩
  obtain ⟨G, M, F0, ds, Q, Qx, dv, a, h, kr, kx⟩ := h
  obtain ⟨tb, hB, q⟩ := hbody cdv A outer s H E hr
  refine ⟨_, pss_of _ _, hB.run (W := fun cls d _ H => E cls d H) (q ds M Q Qx h) ⟨takes_of rfl rfl rfl rfl, ?_, a⟩ ⟨fun σ' δ' G' M' H' e' s' a' q' => kr _ _ _ _ _ e' a' .non q', kr, fun _ _ _ _ _ _ _ _ z => z.elim, fun _ _ _ _ _ _ _ _ z => z.elim, fun cls dd x σ' δ' G' M' H' e' s' a' x' q' => kx _ _ _ _ _ _ e' a' x' q'⟩⟩
  have z := sl_start dv (N.length - vs.length)
  unfold dstart L2.start
  rw [← dv.length]
  exact z
/-- the law's promise -/
def spLaw (n : Nat) : SpD := fun ds M Q _ => ∃ ns : List Int, ds = [.scr ns] ∧ ns.length ≤ n ∧ ∀ M1, Q (.bl true) M1
theorem toSp_law {n : Nat} {H : Hp} {a : Addr} {ns : List Int} (hl : ns.length ≤ n) (hS : SqL K H a (ns.map V.int)) : toSp K (spLaw n) [.ref a] H (fun v _ => v = .bl true) fun _ _ _ => False := by
  refine ⟨H, fun _ => none, fun _ => none, [.scr ns], fun d _ => d = .bl true, fun _ _ => False, .cons (.scr hS) .nil, ⟨⟨Ex.refl H, fun a o h => ?_, fun a o h => ?_⟩, fun p o h => by cases h⟩, ⟨ns, rfl, hl, fun _ => rfl⟩, fun v d G' M' H' e' a' d' q => ?_, ExcK.no⟩
  · unfold mor at h; cases h
  · unfold mor at h; cases h
  · subst q; cases d'; rfl
end
end DL

set_option Elab.async false
set_option linter.all false
set_option maxRecDepth 100000
set_option maxHeartbeats 4000000
/-! DL8: turned texts and lists, texts multiplied. -/
namespace DL
open PySem L2 PySem.Spec PyProof.Rows
theorem rev_at (x : Str) : ((Builtin.Str.strSliceIndices none none (-1) x.length).filterMap (x.cps[·]?)) = x.cps.toList.reverse := by
  have e : Builtin.Str.strSliceIndices none none (-1) x.length = (List.range x.length).reverse := by
    show sliceRange ((x.length : Int) - 1) (-1) (-1) = _
    rw [PySem.W.krv_sliceRange, PySem.W.krv_range]
  rw [e, List.filterMap_reverse]
  have z : (List.range x.length).filterMap (x.cps[·]?) = x.cps.toList := PySem.W.krv_all x.cps
  rw [z]
def tRevS (te : TE) : TE := fun σ H Q => te σ H fun x H1 => ∃ z, x = .str z ∧ z.length ≤ sizeLine ∧ Q (.str ⟨z.cps.toList.reverse.toArray⟩) H1
theorem pe_revS {X : Cx} {e : Expr} {te : TE} {k : Nat} {p1 p2 p3 pos : Pos} (he : PE X e te) : PE X (.Subscript e (.Slice none none (some (.UnaryOp .USub (.Constant (.int 1) k p1) p2)) p3) pos) (tRevS te) := by
  refine ⟨fun pins s σ H Q I h => Subscript_ (thn (he.run pins s σ H _ I h) fun v s1 ⟨x, H1, I1, r1, z, ex, hz, q⟩ => ?_)⟩
  subst ex
  obtain ⟨t, rfl⟩ := r1
  have hst : PO X (some (.UnaryOp .USub (.Constant (.int 1) k p1) p2)) (tPart (tUn (rU fun i => .int (-i)) (tC (.int 1)))) := po_some (pe_un un_neg pe_int)
  refine wpAny_Slice (thn (po_none.run pins s1 σ H1 (fun o J => o = none ∧ J = H1) I1 ⟨rfl, rfl⟩) fun vl s2 ⟨l, J2, I2, pl, el, e2⟩ => ?_)
  subst el e2
  refine thn (po_none.run pins s2 σ J2 (fun o J => o = none ∧ J = J2) I2 ⟨rfl, rfl⟩) fun vu s3 ⟨u, J3, I3, pu, eu, e3⟩ => ?_
  subst eu e3
  refine thn (hst.run pins s3 σ J3 (fun o J => o = some (-1) ∧ J = J3) I3 ⟨1, rfl, -1, rfl, rfl, rfl⟩) fun vs s4 ⟨o, J4, I4, ps, eo, e4⟩ => ?_
  subst eo e4
  have I5 : Inv X pins σ J4 { s4 with heap := s4.heap.push { cls := .type "slice", data := .fields #[vl, vu, vs] } } := I4.kept (t' := s4.toks) fun b ob q => Heap.get?_push_of_some _ q
  obtain ⟨l1, rfl, el1⟩ := IsPart.raw pl
  obtain ⟨l2, rfl, el2⟩ := IsPart.raw pu
  obtain ⟨l3, rfl, el3⟩ := IsPart.raw ps
  cases l1 with
  | some => cases el1
  | none =>
  cases l2 with
  | some => cases el2
  | none =>
  cases l3 with
  | none => cases el3
  | some sp =>
  obtain ⟨j, tj⟩ := sp
  cases el3
  show wpAny (model X.prog X.w) X.A (subscriptTail e (.Slice none none (some (.UnaryOp .USub (.Constant (.int 1) k p1) p2)) p3) (.str z t) (.ref s4.heap.objs.size)) (EP X pins σ Q) X.xe _
  refine tail_any (ops := [.ref s4.heap.objs.size, .str z t]) (typeIs_str _ _ _) (F.slot_str_getitem.lookup) ?_ (by with_unfolding_all rfl)
  refine wpAny_getItem_str_slice (l := none) (u := none) (st := some (-1, tj)) ⟨_, Heap.get?_push_size _ rfl, rfl, rfl⟩ rfl ?_
  show Made.post (if ((-1 : Int) == 1 && (Builtin.Str.strSliceIndices none none (-1) z.length).length == z.length) = true then Made.val (.str z t) else Made.str ⟨((Builtin.Str.strSliceIndices none none (-1) z.length).filterMap (z.cps[·]?)).toArray⟩) (EP X pins σ Q) _
  rw [if_neg (by simp), rev_at]
  exact ⟨by show (z.cps.toList.reverse.toArray).size ≤ sizeLine; rw [List.size_toArray, List.length_reverse]; exact hz, .str _, J4, I5.tok _, ⟨_, rfl⟩, q⟩
section
variable {X : Cx} {e : Expr} {te : DTE} {k : Nat} {p1 p2 p3 pos : Pos}
def dRevS (te : DTE) : DTE := fun δ M Q Qx => te δ M (fun d M1 => ∃ l, d = .str l ∧ l.length ≤ 16777216 ∧ Q (.str l.reverse) M1) Qx
theorem de_revS (he : DE X e te) : DE X (.Subscript e (.Slice none none (some (.UnaryOp .USub (.Constant (.int 1) k p1) p2)) p3) pos) (dRevS te) :=
  ⟨fun {δ M F Q Qx W σ G H QV} h hh kr kx => PE.te (pe_revS (pe_of X e)) (he.run h hh (fun v d G1 M1 H1 e1 a1 d1 ⟨l, ed, hl, q⟩ => by
    subst ed
    cases d1
    exact ⟨S l, rfl, by rw [S_len]; exact hl, kr _ _ _ _ _ e1 a1 (.str l.reverse) q⟩) kx)⟩
def dRevL (te : DTE) : DTE := fun δ M Q Qx => te δ M (fun d M1 => ∃ ds, vw M1 d = .lst ds ∧ Q (.lst ds.reverse) M1) Qx
theorem DvA.reverse {K : PySem.W.Frag} {G : Hp} : ∀ {xs : List V} {ds : List D}, DvA K G xs ds → DvA K G xs.reverse ds.reverse
  | _, _, .nil => .nil
  | _, _, .cons a b => by
    rw [List.reverse_cons, List.reverse_cons]
    exact b.reverse.append (.one a)
theorem de_revL (he : DE X e te) : DE X (.Subscript e (.Slice none none (some (.UnaryOp .USub (.Constant (.int 1) k p1) p2)) p3) pos) (dRevL te) :=
  ⟨fun {δ M F Q Qx W σ G H QV} h hh kr kx => PE.te (pe_revL (pe_of X e)) (he.run h hh (fun v d G1 M1 H1 e1 a1 d1 ⟨ds, ed, q⟩ => by
    have z := vw_ok a1 d1
    rw [ed] at z
    obtain ⟨a, xs, rfl, h1, h2⟩ := z.lst a1.ex
    exact ⟨a, xs, rfl, SqL.of h1, fun p hp => (kr.mono e1).newL a1 hp h2.reverse q⟩) kx)⟩
theorem rep_len (z : List Nat) : ∀ m : Nat, ((List.replicate m z).flatten).length = m * z.length
  | 0 => by simp
  | m + 1 => by rw [List.replicate_succ, List.flatten_cons, List.length_append, rep_len z m, Nat.succ_mul, Nat.add_comm]
/-- text * int -/
theorem op_mulS : OpR X (binaryOp .Mult) (fun x y H Q => ∃ (z : List Nat) (n : Int), x = .str (S z) ∧ y = .int n ∧ -(2 ^ 31) ≤ n ∧ n < 2 ^ 31 ∧ z.length * n.toNat ≤ 16777216 ∧ Q (.str (S (List.replicate n.toNat z).flatten)) H) := by
  intro pins s σ H x y v u Q I rx ry h
  obtain ⟨z, n, rfl, rfl, h1, h2, hz, q⟩ := h
  obtain ⟨t, rfl⟩ := rx
  obtain ⟨t', rfl⟩ := ry
  have hsz : (S z).length = z.length := S_len z
  refine P.mul_str (by rw [decide_eq_false (show ¬ n < -(2 ^ 63 : Int) by omega), decide_eq_false (show ¬ n ≥ 2 ^ 63 by omega)]; rfl) (fun a b => ?_) (fun a b => ?_) ?_
  · rw [hsz]
    have hn : 0 < n := by omega
    have w : (z.length : Int) * n ≤ 16777216 := by
      have e := Int.ofNat_le.mpr hz
      rw [Int.natCast_mul, Int.toNat_of_nonneg (by omega)] at e
      exact e
    have : (z.length : Int) ≤ (2 ^ 63 - 1) / n := by
      refine Int.le_ediv_of_mul_le hn ?_
      omega
    omega
  · rw [hsz]
    exact short24 (by omega)
  · have flat : ∀ (m : Nat) (acc : Array Nat), ((List.replicate m z.toArray).foldl (· ++ ·) acc) = acc ++ ((List.replicate m z).flatten).toArray := by
      intro m
      induction m with
      | zero => intro acc; simp
      | succ m ih => intro acc; rw [List.replicate_succ, List.foldl_cons, ih, List.replicate_succ, List.flatten_cons]; simp
    by_cases c1 : n < 1
    · rw [if_pos c1]
      have e0 : n.toNat = 0 := by omega
      rw [e0] at q
      exact ⟨by decide, .str _, H, I.tok _, ⟨_, rfl⟩, q⟩
    · rw [if_neg c1]
      by_cases c2 : (n == 1 || (S z).length == 0) = true
      · rw [if_pos c2]
        have e1 : S ((List.replicate n.toNat z).flatten) = S z := by
          rw [Bool.or_eq_true, beq_iff_eq, beq_iff_eq, hsz] at c2
          rcases c2 with c2 | c2
          · subst c2; simp
          · have : z = [] := List.eq_nil_of_length_eq_zero c2
            subst this; simp
        rw [e1] at q
        exact ⟨.str _, H, I, ⟨t, rfl⟩, q⟩
      · rw [if_neg c2]
        have e2 : (⟨(List.replicate n.toNat (S z).cps).foldl (· ++ ·) #[]⟩ : Str) = S ((List.replicate n.toNat z).flatten) := by
          show (⟨(List.replicate n.toNat z.toArray).foldl (· ++ ·) #[]⟩ : Str) = _
          rw [flat, Array.empty_append]
        rw [e2]
        refine ⟨?_, .str _, H, I.tok _, ⟨_, rfl⟩, q⟩
        have hl : ((List.replicate n.toNat z).flatten).length = n.toNat * z.length := rep_len z n.toNat
        rw [S_len, hl, Nat.mul_comm]
        exact hz
def aMulS : A2
  | .str z, .int n => fun M Q => -(2 ^ 31) ≤ n ∧ n < 2 ^ 31 ∧ z.length * n.toNat ≤ 16777216 ∧ Q (.str (List.replicate n.toNat z).flatten) M
  | _, _ => fun _ _ => False
theorem op_MulS : DOp X (binaryOp .Mult) aMulS := ⟨_, op_mulS, fun {G M F H x y dx dy Q QV} at_ h1 h2 h kr => by
  unfold aMulS at h
  split at h
  · obtain ⟨a, b, c, q⟩ := h
    exact ⟨_, _, h1.str, h2.int, a, b, c, kr.to at_ (.str _) q⟩
  · exact h.elim⟩
/-- a list times an int, the new list to be changed -/
def aMulM : A2
  | .lst ds, .int n => fun M Q => -(2 ^ 63) ≤ n ∧ n < 2 ^ 63 ∧ ds.length * n.toNat ≤ 16777216 ∧ ∀ p, M p = none → Q (.ref p) (mset M p (.lst (List.replicate n.toNat ds).flatten))
  | _, _ => fun _ _ => False
theorem op_MulM : DOp X (binaryOp .Mult) aMulM := ⟨_, op_rep, fun {G M F H x y dx dy Q QV} at_ h1 h2 h kr => by
  unfold aMulM at h
  split at h
  · obtain ⟨a, b, c, q⟩ := h
    obtain ⟨l, xs, rfl, hl, hx⟩ := h1.lst at_.ex
    exact ⟨l, _, xs, rfl, h2.int, hl, a, b, by rw [hx.length]; exact c, fun p hp => kr.newM at_ hp (hx.rep _) (q p (at_.free hp).1)⟩
  · exact h.elim⟩
variable {o i : Expr} {to ti : DTE} {tpos : Pos}
/-- o[i] = e of a list -/
def dSetIx (to ti te : DTE) : DTS := fun E δ M => te δ M (fun y M1 => to δ M1 (fun x M2 => ∃ a, x = .ref a ∧ ti δ M2 (fun z M3 => ∃ k ds j, z = .int k ∧ M3 a = some (.lst ds) ∧ ixN ds.length k = some j ∧ E.nx δ (mset M3 a (.lst (ds.set j y)))) (fun x M1 => E.ex x δ M1)) (fun x M1 => E.ex x δ M1)) (fun x M1 => E.ex x δ M1)
theorem ds_setIx (ho : DE X o to) (hi : DE X i ti) (he : DE X e te) (hs : swapsWithSole [.Subscript o i tpos] e pos.line X.env = pure false := by rfl) (hw : swappedStores [.Subscript o i tpos] e X.env = pure none := by rfl)
    (h1 : (assignEach [.Subscript o i tpos] X.env).map (·.2) = [assign (.Subscript o i tpos) X.env] := by rfl)
    (ha : ∀ v, assign (.Subscript o i tpos) X.env v = (do let ov ← holding [v] (eval o X.env); let iv ← holding [v, ov] (eval i X.env); standAt tpos; holding [v, ov, iv] (setItem ov iv v); release [v, ov, iv] []) := by intro _; rfl) :
    DS X (.Assign [.Subscript o i tpos] e pos) (dSetIx to ti te) :=
  ⟨fun {δ M F E W σ G H D} h hh ek => PS.ts (ps_asg (pe_of X e) (pg_sub (pe_of X o) (pe_of X i) set_list ha) hs hw h1) (he.run h hh (fun v y G1 M1 H1 e1 a1 d1 q1 => ho.run q1 (hh.on e1 a1) (fun x dx G2 M2 H2 e2 a2 d2 q2 => by
    obtain ⟨a, rfl, q⟩ := q2
    cases d2
    exact hi.run q (hh.on (e1.trans e2) a2) (fun z dz G3 M3 H3 e3 a3 d3 q3 => by
      obtain ⟨k, ds, j, rfl, hm, hj, q⟩ := q3
      cases d3
      obtain ⟨xs, hx, kk⟩ := a3.lst hm
      exact ⟨a, xs, k, j, rfl, rfl, hx, by rw [kk.length]; exact hj, ek.nx _ _ _ _ _ ((e1.trans e2).trans e3) (hh.sl.mono ((e1.trans e2).trans e3)) (a3.write hm (o := .lst (xs.set j v)) (m := .lst (ds.set j y)) (kk.set (d1.mono (e2.trans e3)) j)) q⟩) ((ek.ex.at_ hh.sl).mono (e1.trans e2))) ((ek.ex.at_ hh.sl).mono e1)) (ek.ex.at_ hh.sl))⟩
def dPar3 (i j l : Nat) (ta : DTA) : DTS := fun E δ M => ta δ M (fun ds M1 => ∃ a b c, ds = [a, b, c] ∧ E.nx (((δ.set i (some a)).set j (some b)).set l (some c)) M1) (fun x M1 => E.ex x δ M1)
theorem ds_par3 {x y z : Str} {a b c : Expr} {px py pz pt : Pos} {kt k2 pt2} (i j l : Nat) (hc : X.calm = true) (hN : X.N.Nodup) (ha : DA X [a, b, c] ta)
    (hw : swappedStores [.Tuple [.Name x px, .Name y py, .Name z pz] kt pt] (.Tuple [a, b, c] k2 pt2) X.env = pure (some [x, y, z]) := by rfl)
    (hs : swapsWithSole [.Tuple [.Name x px, .Name y py, .Name z pz] kt pt] (.Tuple [a, b, c] k2 pt2) pos.line X.env = pure false := by rfl) (hi : X.N[i]? = some x := by rfl) (hj : X.N[j]? = some y := by rfl) (hl : X.N[l]? = some z := by rfl)
    (hij : i ≠ j := by decide) (hil : i ≠ l := by decide) (hjl : j ≠ l := by decide)
    (hx : X.env.scope.names.lookup x = some .local := by rfl) (hy : X.env.scope.names.lookup y = some .local := by rfl) (hz : X.env.scope.names.lookup z = some .local := by rfl) :
    DS X (.Assign [.Tuple [.Name x px, .Name y py, .Name z pz] kt pt] (.Tuple [a, b, c] k2 pt2) pos) (dPar3 i j l ta) :=
  ⟨fun {δ M F E W σ G H D} h hh ek => PS.ts (ps_par3 hc hN hi hj hl hij hil hjl hx hy hz (pa_of X [a, b, c]) hw hs) (ha.run h hh (fun vs ds G1 M1 H1 e1 a1 d1 q => by
    obtain ⟨d, e', f', rfl, q⟩ := q
    cases d1 with
    | cons r1 d1 =>
      cases d1 with
      | cons r2 d1 =>
        cases d1 with
        | cons r3 d1 =>
          cases d1
          exact ⟨_, _, _, rfl, ek.nx _ _ _ _ _ e1 ((((hh.sl.mono e1).set i r1).set j r2).set l r3) a1 q⟩) (ek.ex.at_ hh.sl))⟩
end
end DL

set_option Elab.async false
set_option linter.all false
set_option maxRecDepth 100000
set_option maxHeartbeats 4000000
/-! DL9: what the top has written: defs, classes, constants; the law's end. -/
namespace DL
open PySem L2 PySem.Spec PyProof.Rows
abbrev kOf {K : PySem.W.Frag} {h : Heap} (_ : K.In h) : PySem.W.Frag := K
section
variable {P : Program} {w : World} {K : PySem.W.Frag} {mg : Str → Option Value} {base h : Heap}
/-- a def of the module without defaults -/
def DefAt (K : PySem.W.Frag) (mg : Str → Option Value) (x : Str) (st : Stmt) : Prop := ∃ (f : Addr) (fd : FuncData), L2.Fun K x x st f fd ∧ mg x = some (.ref f)
theorem def_at (X : K.In h) (G : h.Ns mainGlobals mg) {x : Str} (st : Stmt) {f : Addr} {oc : Value} {od an : Option Addr} {osl : Array (Option Value)} {kV doc pm cdv ct : Value} (a : PySem.W.nsIn K mainGlobals x = some (some (.ref f)))
    (l : K.lookup f = some ⟨oc, od, .func (PySem.W.fnOf x x (defArgs st) (defBody st) (defScope st) .none kV doc pm an cdv ct), osl⟩) (c : PySem.W.codeIn K cdv x = true) (k : PySem.W.keepIn K (.ref f) = true) : DefAt K mg x st :=
  ⟨f, _, fun_mk l c k, PySem.W.mg_of X G a⟩
/-- a class and its methods -/
def ClsAt (K : PySem.W.Frag) (mg : Str → Option Value) (x : Str) (C : Addr) : Prop := mg x = some (.ref C) ∧ Cls K C ∧ PySem.W.makesIn K C = true ∧ PySem.W.keepIn K (.ref C) = true
theorem cls_at (X : K.In h) (G : h.Ns mainGlobals mg) {x : Str} {C : Addr} (a : PySem.W.nsIn K mainGlobals x = some (some (.ref C))) (pg : PySem.W.plainGet K C Str.empty = true) (hd : PySem.W.hasDictIn K C = true) (po : PySem.W.plainOver K C = true) (sa : PySem.W.findIn K (.ref C) "__setattr__" = some (some (.builtin "object.__setattr__")))
    (mk : PySem.W.makesIn K C = true) (kc : PySem.W.keepIn K (.ref C) = true) : ClsAt K mg x C := ⟨PySem.W.mg_of X G a, ⟨pg, hd, po, sa⟩, mk, kc⟩
def MethAt (K : PySem.W.Frag) (C : Addr) (m qual : Str) (st : Stmt) : Prop := ∃ (f : Addr) (fd : FuncData), L2.Fun K m qual st f fd ∧ PySem.W.findIn K (.ref C) m = some (some (.ref f)) ∧ PySem.W.isFn K (.ref f) = true
theorem meth_at {C : Addr} {m qual : Str} (st : Stmt) {f : Addr} {oc : Value} {od an : Option Addr} {osl : Array (Option Value)} {kV doc pm cdv ct : Value} (a : PySem.W.findIn K (.ref C) m = some (some (.ref f))) (i : PySem.W.isFn K (.ref f) = true)
    (l : K.lookup f = some ⟨oc, od, .func (PySem.W.fnOf m qual (defArgs st) (defBody st) (defScope st) .none kV doc pm an cdv ct), osl⟩) (c : PySem.W.codeIn K cdv qual = true) (k : PySem.W.keepIn K (.ref f) = true) : MethAt K C m qual st :=
  ⟨f, _, fun_mk l c k, a, i⟩
theorem glob_int (X : K.In h) (G : h.Ns mainGlobals mg) {x : Str} {n : Int} {t : Tok} (a : PySem.W.nsIn K mainGlobals x = some (some (.int n t))) : GlobD K mg x (.int n) := ⟨_, .int n, PySem.W.mg_of X G a, ⟨t, rfl⟩, fun _ => .int n⟩
theorem glob_str (X : K.In h) (G : h.Ns mainGlobals mg) {x : Str} {s : String} {t : Tok} (a : PySem.W.nsIn K mainGlobals x = some (some (.str (Str.ofString s) t))) : GlobD K mg x (.str (cs s)) := ⟨_, .str (Str.ofString s), PySem.W.mg_of X G a, ⟨t, rfl⟩, fun _ => .cs s⟩
theorem call_false {x : Str} {st : Stmt} {ps : List Str} (d : DefAt K mg x st) (b : ∀ {f : Addr} {fd : FuncData}, L2.Fun K x x st f fd → Binds K fd ps []) (k : Nat) : CallD P w K mg base k x (fun _ _ _ _ => False) [] :=
  let ⟨f, fd, F, m⟩ := d
  ⟨f, ps.length, ⟨⟨fd, ps, [], [], ⟨fun _ _ _ _ ⟨_, _, _, _, _, _, _, _, z, _⟩ => z.elim, fun _ _ _ _ _ _ _ _ _ _ _ _ _ ⟨_, _, _, _, _, _, _, _, z, _⟩ => z.elim⟩, b F, .nil, .nil, rfl⟩, fun _ _ _ _ z => z.elim⟩, m, F.kp⟩
/-- a def's promise from its body -/
theorem call_of {x : Str} {st : Stmt} {N ps : List Str} {k : Nat} {sp : SpD} (d : DefAt K mg x st) (S : FnScope N ps (defScope st)) (b : ∀ {f : Addr} {fd : FuncData}, L2.Fun K x x st f fd → Binds K fd ps []) (len : ∀ ds M Q Qx, sp ds M Q Qx → ds.length = ps.length)
    (hbody : ∀ (f : Addr) (cdv : Value) (A : Around) (outer : List PySem.Env) (s : Shared) (H : Hp) (E : XK), Room k (A.deeper (envOfC x (defScope st) s.heap.objs.size f cdv)) →
      ∃ tb, DSs (cxOf (L2.CX P w) P w K mg base N x (defScope st) f cdv A outer s H E) (defBody st) tb ∧
        ∀ ds M Q Qx, sp ds M Q Qx → tb { nx := fun _ M1 => Q .non M1, rt := Q, ex := fun x _ M1 => Qx x M1 } (dstart N.length ds) M) : CallD P w K mg base (k + 1) x sp [] :=
  let ⟨f, fd, F, m⟩ := d
  ⟨f, _, fn_d F S (b F) .nil .nil len (hbody f), m, F.kp⟩
theorem meth_fn {C : Addr} {m qual : Str} {st : Stmt} {N ps : List Str} {k : Nat} {sp : SpD} {f : Addr} {fd : FuncData} (F : L2.Fun K m qual st f fd) (S : FnScope N ps (defScope st)) (b : Binds K fd ps []) (len : ∀ ds M Q Qx, sp ds M Q Qx → ds.length = ps.length)
    (hbody : ∀ (f : Addr) (cdv : Value) (A : Around) (outer : List PySem.Env) (s : Shared) (H : Hp) (E : XK), Room k (A.deeper (envOfC qual (defScope st) s.heap.objs.size f cdv)) →
      ∃ tb, DSs (cxOf (L2.CX P w) P w K mg base N qual (defScope st) f cdv A outer s H E) (defBody st) tb ∧
        ∀ ds M Q Qx, sp ds M Q Qx → tb { nx := fun _ M1 => Q .non M1, rt := Q, ex := fun x _ M1 => Qx x M1 } (dstart N.length ds) M) : FnD P w K mg base (k + 1) f ps.length sp [] :=
  fn_d F S b .nil .nil len (hbody f)
theorem meth_of {C : Addr} {m qual : Str} {st : Stmt} {N ps : List Str} {k : Nat} {sp : SpD} (c : Cls K C) (d : MethAt K C m qual st) (S : FnScope N ps (defScope st)) (b : ∀ {f : Addr} {fd : FuncData}, L2.Fun K m qual st f fd → Binds K fd ps []) (len : ∀ ds M Q Qx, sp ds M Q Qx → ds.length = ps.length)
    (hbody : ∀ (f : Addr) (cdv : Value) (A : Around) (outer : List PySem.Env) (s : Shared) (H : Hp) (E : XK), Room k (A.deeper (envOfC qual (defScope st) s.heap.objs.size f cdv)) →
      ∃ tb, DSs (cxOf (L2.CX P w) P w K mg base N qual (defScope st) f cdv A outer s H E) (defBody st) tb ∧
        ∀ ds M Q Qx, sp ds M Q Qx → tb { nx := fun _ M1 => Q .non M1, rt := Q, ex := fun x _ M1 => Qx x M1 } (dstart N.length ds) M) : MethD P w K mg base (k + 1) C m sp [] :=
  let ⟨f, fd, F, a, i⟩ := d
  ⟨f, _, meth_fn (C := C) F S (b F) len hbody, c, ⟨a, i, F.kp⟩⟩
theorem mak_of {C : Addr} {x qual : Str} {st : Stmt} {N ps : List Str} {k : Nat} {sp : SpD} (c : ClsAt K mg x C) (d : MethAt K C "__init__" qual st) (S : FnScope N ps (defScope st)) (b : ∀ {f : Addr} {fd : FuncData}, L2.Fun K "__init__" qual st f fd → Binds K fd ps []) (len : ∀ ds M Q Qx, sp ds M Q Qx → ds.length = ps.length)
    (hbody : ∀ (f : Addr) (cdv : Value) (A : Around) (outer : List PySem.Env) (s : Shared) (H : Hp) (E : XK), Room k (A.deeper (envOfC qual (defScope st) s.heap.objs.size f cdv)) →
      ∃ tb, DSs (cxOf (L2.CX P w) P w K mg base N qual (defScope st) f cdv A outer s H E) (defBody st) tb ∧
        ∀ ds M Q Qx, sp ds M Q Qx → tb { nx := fun _ M1 => Q .non M1, rt := Q, ex := fun x _ M1 => Qx x M1 } (dstart N.length ds) M) : MakD P w K mg base (k + 1) x C sp [] :=
  let ⟨f, fd, F, a, i⟩ := d
  ⟨f, _, meth_fn (C := C) F S (b F) len hbody, c.1, ⟨c.2.2.1, a, i, c.2.2.2⟩⟩
/-- the law's end -/
theorem law_end {x p : Str} {st : Stmt} {N : List Str} {fa : Addr} {n k : Nat} (hfa : mg x = some (.ref fa)) (d : DefAt K mg x st) (S : FnScope N [p] (defScope st))
    (b : ∀ (kV doc pm : Value) (an : Option Addr) (cdv ct : Value) (u : Value), bindArgs (PySem.W.fnOf x x (defArgs st) (defBody st) (defScope st) .none kV doc pm an cdv ct) ⟨[u], []⟩ = pure [(p, u)])
    (hbody : ∀ base : Heap, K.In base → base.Ns mainGlobals mg → ∀ (f : Addr) (cdv : Value) (A : Around) (outer : List PySem.Env) (s : Shared) (H : Hp) (E : XK), Room k (A.deeper (envOfC x (defScope st) s.heap.objs.size f cdv)) →
      ∃ tb, DSs (cxOf (L2.CX P w) P w K mg base N x (defScope st) f cdv A outer s H E) (defBody st) tb ∧
        ∀ ds M Q Qx, spLaw n ds M Q Qx → tb { nx := fun _ M1 => Q .non M1, rt := Q, ex := fun x _ M1 => Qx x M1 } (dstart N.length ds) M) :
    ∃ fd : FuncData, (∀ (s : Shared) (v : Value), BindsTo s fd ⟨[v], []⟩ [(p, v)]) ∧ ∀ base : Heap, K.In base → base.Ns mainGlobals mg → FnOk P w K mg base (L2.CX P w) (k + 1) fa fd [p] (toSp K (spLaw n)) := by
  obtain ⟨f, fd, F, m⟩ := d
  have e := hfa.symm.trans m
  cases e
  refine ⟨fd, fun s v => ?_, fun base h1 h2 => ?_⟩
  · obtain ⟨oc, od, kV, doc, pm, an, cdv, ct, osl, rfl, lk, hcd⟩ := F.ex
    exact .of_eq (b _ _ _ _ _ _ v)
  · refine F.okX S (fun vs H Q E ⟨G, M, F0, ds, Qd, Qx, dv, a, h, kr, kx⟩ => ?_) (fun cdv A outer s H vs QV E hr h => ?_)
    · obtain ⟨ns, rfl, _⟩ := h
      rw [dv.length]
      rfl
    · obtain ⟨G, M, F0, ds, Q, Qx, dv, a, h, kr, kx⟩ := h
      obtain ⟨tb, hB, q⟩ := hbody base h1 h2 fa cdv A outer s H E hr
      refine ⟨_, pss_of _ _, hB.run (W := fun cls d _ H => E cls d H) (q ds M Q Qx h) ⟨takes_of rfl rfl rfl rfl, ?_, a⟩ ⟨fun σ' δ' G' M' H' e' s' a' q' => kr _ _ _ _ _ e' a' .non q', kr, fun _ _ _ _ _ _ _ _ z => z.elim, fun _ _ _ _ _ _ _ _ z => z.elim, fun cls dd x σ' δ' G' M' H' e' s' a' x' q' => kx _ _ _ _ _ _ e' a' x' q'⟩⟩
      have z := sl_start dv (N.length - vs.length)
      unfold dstart L2.start
      rw [← dv.length]
      exact z
theorem walk_d {l : PySem.W.OpenLaw} {n k : Nat} {q : Program} {loose : List Str} {XP : (Str → Option Value) → Heap → Prop} {YP : World → Heap → Prop} {d : DefRec} {K : Params → PySem.W.Frag} {p : Str} (hn : l.most = some n) (hn2 : n ≤ sizeLine) (hdf : d.params.defaults = []) (hr : Room k callerA)
    (hY : ∀ (w : World) (h : Heap), YP w h → (K w.params).In h)
    (F : ∀ (w : World) (mg : Str → Option Value) (fa : Addr) (h : Heap), (K w.params).In h → h.Ns mainGlobals mg → mg d.name = some (.ref fa) →
      ∃ fd : FuncData, (∀ (s : Shared) (u : Value), BindsTo s fd ⟨[u], []⟩ [(p, u)]) ∧ ∀ base : Heap, (K w.params).In base → base.Ns mainGlobals mg → FnOk l.prog w (K w.params) mg base (L2.CX l.prog w) k fa fd [p] (toSp (K w.params) (spLaw n))) :
    PySem.W.WalkO q loose XP YP l.row.toRowW d [] (fun f vs => PySem.call f vs) :=
  L2.walk_of (CX := fun w => L2.CX l.prog w) (sp := fun w => toSp (K w.params) (spLaw n)) hn hn2 hdf hr hY F (fun _ _ _ _ hl _ hS => toSp_law hl hS) fun _ _ _ _ _ h => by
    obtain ⟨_, _, _, _, _, _, _, _, _, _, _, _, z⟩ := h
    exact z.elim
end
end DL

set_option Elab.async false
set_option linter.all false
set_option maxRecDepth 100000
set_option maxHeartbeats 4000000
/-! DL10: rows for simp: what the readings' parts are on known data. -/
namespace DL
open PySem L2 PySem.Spec PyProof.Rows
section
variable {M : Mem} {Q : QE} {i j : Int} {a b : List Nat} {p q : Bool} {x y z : D} {xs ys : List D} {ns : List Int} {ad : Addr}
theorem e_vw1 : vw M (.int i) = .int i := rfl
theorem e_vw2 : vw M (.str a) = .str a := rfl
theorem e_vw3 : vw M (.bl p) = .bl p := rfl
theorem e_vw4 : vw M .non = .non := rfl
theorem e_vw5 : vw M (.lst xs) = .lst xs := rfl
theorem e_vw6 : vw M (.tup xs) = .tup xs := rfl
theorem e_vw7 : vw M (.scr ns) = .scr ns := rfl
theorem e_vw8 {n : String} : vw M (.ty n) = .ty n := rfl
theorem e_vwl (h : M ad = some (.lst xs)) : vw M (.ref ad) = .lst xs := vw_lst h
theorem e_vws0 : vws M [] = [] := rfl
theorem e_vws1 : vws M (x :: xs) = vw M x :: vws M xs := rfl
theorem e_gC {t : DTG} {u : DTGs} {δ : Env} {R : Env → Mem → Prop} : gConsD t u (x :: xs) δ M R ↔ t x δ M fun δ' M' => u xs δ' M' R :=
  ⟨fun ⟨_, _, e, h⟩ => by cases e; exact h, fun h => ⟨_, _, rfl, h⟩⟩
theorem e_gN {δ : Env} {R : Env → Mem → Prop} : gNilD [] δ M R ↔ R δ M := ⟨fun h => h.2, fun h => ⟨rfl, h⟩⟩
theorem e_gT {t : DTGs} {n : Nat} {δ : Env} {R : Env → Mem → Prop} : gTupD n t (.tup xs) δ M R ↔ xs.length = n ∧ t xs δ M R := ⟨fun ⟨_, e, h⟩ => by cases e; exact h, fun h => ⟨_, rfl, h⟩⟩
theorem e_eq1 : aEq (.int i) (.int j) M Q = Q (.bl (decide (i = j))) M := rfl
theorem e_eq2 : aEq (.str a) (.str b) M Q = Q (.bl (decide (a = b))) M := rfl
theorem e_eq3 : aEq (.bl p) (.bl q) M Q = Q (.bl (decide (p = q))) M := rfl
theorem e_eq4 : aEq (.lst xs) y M Q = (sm (.lst xs) ∧ sm y ∧ Q (.bl (deq (.lst xs) y)) M) := by cases y <;> rfl
theorem e_eq5 : aEq (.tup xs) y M Q = (sm (.tup xs) ∧ sm y ∧ Q (.bl (deq (.tup xs) y)) M) := by cases y <;> rfl
theorem e_ne1 : aNe (.int i) (.int j) M Q = Q (.bl (!decide (i = j))) M := rfl
theorem e_ne2 : aNe (.str a) (.str b) M Q = Q (.bl (!decide (a = b))) M := rfl
theorem e_ne3 : aNe (.bl p) (.bl q) M Q = Q (.bl (!decide (p = q))) M := rfl
theorem e_ne4 : aNe (.lst xs) y M Q = (sm (.lst xs) ∧ sm y ∧ Q (.bl (!deq (.lst xs) y)) M) := by cases y <;> rfl
theorem e_ne5 : aNe (.tup xs) y M Q = (sm (.tup xs) ∧ sm y ∧ Q (.bl (!deq (.tup xs) y)) M) := by cases y <;> rfl
theorem e_lt : aLt (.int i) (.int j) M Q = Q (.bl (decide (i < j))) M := rfl
theorem e_gt : aGt (.int i) (.int j) M Q = Q (.bl (decide (j < i))) M := rfl
theorem e_le : aLe (.int i) (.int j) M Q = Q (.bl (decide (i ≤ j))) M := rfl
theorem e_ge : aGe (.int i) (.int j) M Q = Q (.bl (decide (j ≤ i))) M := rfl
theorem e_in1 : aIn (.str a) (.str b) M Q = Q (.bl (sub a b)) M := rfl
theorem e_in2 : aNotIn (.str a) (.str b) M Q = Q (.bl (!sub a b)) M := rfl
theorem e_in3 : aIn x (.lst xs) M Q = (sm x ∧ sm (.lst xs) ∧ Q (.bl (has x xs)) M) := by cases x <;> rfl
theorem e_in4 : aNotIn x (.lst xs) M Q = (sm x ∧ sm (.lst xs) ∧ Q (.bl (!has x xs)) M) := by cases x <;> rfl
theorem e_in5 : aIn x (.tup xs) M Q = (sm x ∧ sm (.tup xs) ∧ Q (.bl (has x xs)) M) := by cases x <;> rfl
theorem e_in6 : aNotIn x (.tup xs) M Q = (sm x ∧ sm (.tup xs) ∧ Q (.bl (!has x xs)) M) := by cases x <;> rfl
theorem e_add1 : aAdd (.int i) (.int j) M Q = Q (.int (i + j)) M := rfl
theorem e_add2 : aAdd (.str a) (.str b) M Q = (a.length + b.length ≤ 16777216 ∧ Q (.str (a ++ b)) M) := rfl
theorem e_add3 : aAdd (.lst xs) (.lst ys) M Q = (xs.length + ys.length ≤ 16777216 ∧ Q (.lst (xs ++ ys)) M) := rfl
theorem e_add4 : aAdd (.tup xs) (.tup ys) M Q = (xs ≠ [] ∧ ys ≠ [] ∧ xs.length + ys.length ≤ 16777216 ∧ Q (.tup (xs ++ ys)) M) := rfl
theorem e_iadd1 : aIAdd (.int i) (.int j) M Q = Q (.int (i + j)) M := rfl
theorem e_iadd2 : aIAdd (.str a) (.str b) M Q = (a.length + b.length ≤ 16777216 ∧ Q (.str (a ++ b)) M) := rfl
theorem e_sub : aSub (.int i) (.int j) M Q = Q (.int (i - j)) M := rfl
theorem e_mul1 : aMul (.int i) (.int j) M Q = (CMul i j ∧ Q (.int (i * j)) M) := rfl
theorem e_mul2 : aMul (.lst xs) (.int j) M Q = (-(2 ^ 63) ≤ j ∧ j < 2 ^ 63 ∧ xs.length * j.toNat ≤ 16777216 ∧ Q (.lst (List.replicate j.toNat xs).flatten) M) := rfl
theorem e_mulS : aMulS (.str a) (.int j) M Q = (-(2 ^ 31) ≤ j ∧ j < 2 ^ 31 ∧ a.length * j.toNat ≤ 16777216 ∧ Q (.str (List.replicate j.toNat a).flatten) M) := rfl
theorem e_mulM : aMulM (.lst xs) (.int j) M Q = (-(2 ^ 63) ≤ j ∧ j < 2 ^ 63 ∧ xs.length * j.toNat ≤ 16777216 ∧ ∀ p, M p = none → Q (.ref p) (mset M p (.lst (List.replicate j.toNat xs).flatten))) := rfl
theorem e_mod : aMod (.int i) (.int j) M Q = (0 < j ∧ Q (.int (i % j)) M) := rfl
theorem e_div : aDiv (.int i) (.int j) M Q = (CDiv i j ∧ Q (.int (i / j)) M) := rfl
theorem e_pow : aPow (.int i) (.int j) M Q = (CPow i j ∧ Q (.int (i ^ j.toNat)) M) := rfl
theorem e_neg : aNeg (.int i) M Q = Q (.int (-i)) M := rfl
theorem e_ix1 : aIx (.lst xs) (.int i) M Q = (∃ d, atI xs i = some d ∧ Q d M) := rfl
theorem e_ix2 : aIx (.tup xs) (.int i) M Q = (∃ d, atI xs i = some d ∧ Q d M) := rfl
theorem e_ix3 : aIx (.scr ns) (.int i) M Q = (∃ n, atI ns i = some n ∧ Q (.int n) M) := rfl
theorem e_ix4 : aIx (.str a) (.int i) M Q = (a.length ≤ 16777216 ∧ ∃ c, atI a i = some c ∧ Q (.str [c]) M) := rfl
theorem e_sl1 {lo hi : Option Int} : aSl (.lst xs) lo hi M Q = Q (.lst (cut xs lo hi)) M := rfl
theorem e_sl2 {lo hi : Option Int} : aSl (.str a) lo hi M Q = (a.length ≤ 16777216 ∧ Q (.str (cut a lo hi)) M) := rfl
theorem e_sl3 {lo hi : Option Int} : aSl (.scr ns) lo hi M Q = Q (.lst ((cut ns lo hi).map .int)) M := rfl
theorem e_sl4 {lo hi : Option Int} : aSl (.tup xs) lo hi M Q = (¬ (HT.sIx xs.length 0 lo = 0 ∧ HT.sIx xs.length xs.length hi = xs.length) ∧ Q (.tup (cut xs lo hi)) M) := rfl
theorem e_len1 : aLen [.lst xs] M Q = Q (.int xs.length) M := rfl
theorem e_len2 : aLen [.tup xs] M Q = Q (.int xs.length) M := rfl
theorem e_len3 : aLen [.scr ns] M Q = Q (.int ns.length) M := rfl
theorem e_len4 : aLen [.str a] M Q = (a.length ≤ 16777216 ∧ Q (.int a.length) M) := rfl
theorem e_int1 : aInt [.int i] M Q = Q (.int i) M := rfl
theorem e_int2 : aInt [.bl p] M Q = Q (.int (if p then 1 else 0)) M := rfl
theorem e_all {bs : List Bool} (h : Q (.bl (bs.all fun b => b)) M) : aAll [.lst (bs.map D.bl)] M Q := ⟨bs, rfl, h⟩
theorem e_any {bs : List Bool} (h : Q (.bl (bs.any fun b => b)) M) : aAny [.lst (bs.map D.bl)] M Q := ⟨bs, rfl, h⟩
theorem e_tru1 : tru .non = some false := rfl
theorem e_tru2 : tru (.bl p) = some p := rfl
theorem e_tru3 : tru (.int i) = some (i != 0) := rfl
theorem e_tru4 : tru (.str a) = some (!a.isEmpty) := rfl
theorem e_tru5 : tru (.lst xs) = some (!xs.isEmpty) := rfl
theorem e_tru6 : tru (.tup xs) = some (!xs.isEmpty) := rfl
theorem e_okS1 : okS .non = True := rfl
theorem e_okS2 : okS (.bl p) = True := rfl
theorem e_okS3 : okS (.int i) = True := rfl
theorem e_okS4 : okS (.str a) = (a.length ≤ 16777216) := rfl
theorem e_okS5 : okS (.lst xs) = True := rfl
theorem e_okS6 : okS (.tup xs) = True := rfl
theorem e_isi {n : String} {t : String} {c : Bool} (h1 : tyN x = some t) (h2 : isT t n = some c) : aIsi [x, .ty n] M Q = Q (.bl c) M := by
  apply propext
  constructor
  · rintro ⟨t', b', e1, e2, h⟩
    rw [h1] at e1
    cases e1
    rw [h2] at e2
    cases e2
    exact h
  · exact fun h => ⟨t, c, h1, h2, h⟩
theorem isT_ss : isT "str" "str" = some true := by decide +kernel
theorem isT_si : isT "str" "int" = some false := by decide +kernel
theorem isT_sl : isT "str" "list" = some false := by decide +kernel
theorem isT_st : isT "str" "tuple" = some false := by decide +kernel
theorem isT_sb : isT "str" "bool" = some false := by decide +kernel
theorem isT_is : isT "int" "str" = some false := by decide +kernel
theorem isT_ii : isT "int" "int" = some true := by decide +kernel
theorem isT_il : isT "int" "list" = some false := by decide +kernel
theorem isT_it : isT "int" "tuple" = some false := by decide +kernel
theorem isT_ib : isT "int" "bool" = some false := by decide +kernel
theorem isT_bs : isT "bool" "str" = some false := by decide +kernel
theorem isT_bi : isT "bool" "int" = some true := by decide +kernel
theorem isT_bl : isT "bool" "list" = some false := by decide +kernel
theorem isT_bt : isT "bool" "tuple" = some false := by decide +kernel
theorem isT_bb : isT "bool" "bool" = some true := by decide +kernel
theorem isT_ls : isT "list" "str" = some false := by decide +kernel
theorem isT_li : isT "list" "int" = some false := by decide +kernel
theorem isT_ll : isT "list" "list" = some true := by decide +kernel
theorem isT_lt : isT "list" "tuple" = some false := by decide +kernel
theorem isT_lb : isT "list" "bool" = some false := by decide +kernel
theorem isT_ts : isT "tuple" "str" = some false := by decide +kernel
theorem isT_ti : isT "tuple" "int" = some false := by decide +kernel
theorem isT_tl : isT "tuple" "list" = some false := by decide +kernel
theorem isT_tt : isT "tuple" "tuple" = some true := by decide +kernel
theorem isT_tb : isT "tuple" "bool" = some false := by decide +kernel
theorem e_ty1 : tyN .non = some "NoneType" := rfl
theorem e_ty2 : tyN (.bl p) = some "bool" := rfl
theorem e_ty3 : tyN (.int i) = some "int" := rfl
theorem e_ty4 : tyN (.str a) = some "str" := rfl
theorem e_ty5 : tyN (.lst xs) = some "list" := rfl
theorem e_ty6 : tyN (.tup xs) = some "tuple" := rfl
theorem e_ty7 : tyN (.scr ns) = some "list" := rfl
theorem e_isi1 : aIsi [.str a, .ty "str"] M Q = Q (.bl true) M := e_isi rfl isT_ss
theorem e_isi2 : aIsi [.str a, .ty "int"] M Q = Q (.bl false) M := e_isi rfl isT_si
theorem e_isi3 : aIsi [.str a, .ty "list"] M Q = Q (.bl false) M := e_isi rfl isT_sl
theorem e_isi4 : aIsi [.str a, .ty "tuple"] M Q = Q (.bl false) M := e_isi rfl isT_st
theorem e_isi5 : aIsi [.str a, .ty "bool"] M Q = Q (.bl false) M := e_isi rfl isT_sb
theorem e_isi6 : aIsi [.int i, .ty "str"] M Q = Q (.bl false) M := e_isi rfl isT_is
theorem e_isi7 : aIsi [.int i, .ty "int"] M Q = Q (.bl true) M := e_isi rfl isT_ii
theorem e_isi8 : aIsi [.int i, .ty "bool"] M Q = Q (.bl false) M := e_isi rfl isT_ib
theorem e_isi9 : aIsi [.bl p, .ty "bool"] M Q = Q (.bl true) M := e_isi rfl isT_bb
theorem e_isi10 : aIsi [.lst xs, .ty "list"] M Q = Q (.bl true) M := e_isi rfl isT_ll
theorem e_isi11 : aIsi [.lst xs, .ty "tuple"] M Q = Q (.bl false) M := e_isi rfl isT_lt
theorem e_isi12 : aIsi [.lst xs, .ty "bool"] M Q = Q (.bl false) M := e_isi rfl isT_lb
theorem e_isi13 : aIsi [.tup xs, .ty "tuple"] M Q = Q (.bl true) M := e_isi rfl isT_tt
theorem e_isi14 : aIsi [.tup xs, .ty "list"] M Q = Q (.bl false) M := e_isi rfl isT_tl
theorem e_isi15 : aIsi [.tup xs, .ty "bool"] M Q = Q (.bl false) M := e_isi rfl isT_tb
theorem e_isi16 : aIsi [.tup xs, .ty "str"] M Q = Q (.bl false) M := e_isi rfl isT_ts
theorem e_isi17 : aIsi [.lst xs, .ty "str"] M Q = Q (.bl false) M := e_isi rfl isT_ls
theorem e_frz1 : frz (.str a) M Q = Q (.str a) M := rfl
theorem e_frz2 : frz (.lst xs) M Q = Q (.lst xs) M := rfl
theorem e_frz3 : frz (.tup xs) M Q = Q (.tup xs) M := rfl
theorem e_frz4 : frz (.scr ns) M Q = Q (.scr ns) M := rfl
theorem e_frzl (h : M ad = some (.lst xs)) : frz (.ref ad) M Q = Q (.lst xs) (mdel M ad) := by simp [frz, h]
theorem e_it1 : itemsOf (.str a) = some (chars a) := rfl
theorem e_it2 : itemsOf (.lst xs) = some xs := rfl
theorem e_it3 : itemsOf (.tup xs) = some xs := rfl
theorem e_it4 : itemsOf (.scr ns) = some (ns.map .int) := rfl
/-- isinstance of two -/
theorem e_isi2a {A B : String} {te : DTE} {δ : Env} {Qx : QX} : dIsi2 A B te δ M Q Qx = te δ M (fun d M1 => ∃ t b1 b2, tyN (vw M1 d) = some t ∧ isT t A = some b1 ∧ isT t B = some b2 ∧ Q (.bl (b1 || b2)) M1) Qx := rfl
end
/-! ### items -/
theorem chars_len (l : List Nat) : (chars l).length = l.length := by unfold chars; rw [List.length_map]
theorem chars_at {l : List Nat} {i : Nat} {d : D} (h : (chars l)[i]? = some d) : ∃ c, l[i]? = some c ∧ d = .str [c] := by
  unfold chars at h
  rw [List.getElem?_map] at h
  cases e : l[i]? with
  | none => rw [e] at h; cases h
  | some c => rw [e] at h; cases h; exact ⟨c, rfl, rfl⟩
theorem enums_inv {ds : List D} {i : Nat} {d : D} (h : (enums ds)[i]? = some d) : ∃ e, ds[i]? = some e ∧ d = .tup [.int i, e] := by
  have hi := (List.getElem?_eq_some_iff.mp h).1
  rw [enums_len] at hi
  have z := enums_at (List.getElem?_eq_getElem hi)
  rw [h] at z
  cases z
  exact ⟨_, List.getElem?_eq_getElem hi, rfl⟩
theorem map_at {α : Type} {f : α → D} {l : List α} {i : Nat} {d : D} (h : (l.map f)[i]? = some d) : ∃ c, l[i]? = some c ∧ d = f c := by
  rw [List.getElem?_map] at h
  cases e : l[i]? with
  | none => rw [e] at h; cases h
  | some c => rw [e] at h; cases h; exact ⟨c, rfl, rfl⟩
theorem ints_inv {lo : Int} {n i : Nat} {d : D} (h : (intsD lo n)[i]? = some d) : i < n ∧ d = .int (lo + i) := by
  have hi := (List.getElem?_eq_some_iff.mp h).1
  rw [intsD_len] at hi
  rw [intsD_at hi] at h
  cases h
  exact ⟨hi, rfl⟩
theorem mem_at {α : Type} {l : List α} {i : Nat} {c : α} (h : l[i]? = some c) : c ∈ l ∧ i < l.length := ⟨List.mem_of_getElem? h, (List.getElem?_eq_some_iff.mp h).1⟩
abbrev fin (Q : QE) (Qx : QX) : DL.Ends := { nx := fun _ M1 => Q .non M1, rt := Q, ex := fun x _ M1 => Qx x M1 }
/-- index -/
theorem atI_n {α : Type} {l : List α} {i : Nat} {c : α} (h : l[i]? = some c) : atI l (i : Int) = some c := by
  have hi := (List.getElem?_eq_some_iff.mp h).1
  have e : ixN l.length (i : Int) = some i := by
    unfold ixN
    rw [if_pos (by omega), if_pos (by omega)]
    simp
  unfold atI
  rw [e]
  exact h
theorem ixN_nat {n i : Nat} (h : i < n) : ixN n (i : Int) = some i := by
  unfold ixN
  rw [if_pos (by omega), if_pos (by omega)]
  simp
/-- the memory grows -/
def Mx (M M' : Mem) : Prop := ∀ a o, M a = some o → M' a = some o
theorem Mx.refl (M : Mem) : Mx M M := fun _ _ h => h
theorem Mx.trans {M M' M'' : Mem} (a : Mx M M') (b : Mx M' M'') : Mx M M'' := fun c o h => b c o (a c o h)
theorem mne {M : Mem} {a p : Addr} {o : MO} (h : M a = some o) (hp : M p = none) : a ≠ p := fun e => by rw [e, hp] at h; cases h
theorem Mx.new {M : Mem} {p : Addr} {o : MO} (h : M p = none) : Mx M (mset M p o) := fun a u e => by rw [mset_ne (mne e h)]; exact e
theorem Mx.upd {M M' : Mem} {p : Addr} {o : MO} (x : Mx M M') (h : M p = none) : Mx M (mset M' p o) := fun a u e => by rw [mset_ne (mne e h)]; exact x a u e
theorem Mx.del {M M' : Mem} {p : Addr} (x : Mx M M') (h : M p = none) : Mx M (mdel M' p) := fun a u e => by rw [mdel_ne (mne e h)]; exact x a u e
/-- .. but for what stands at a -/
def Mxa (a : Addr) (M M' : Mem) : Prop := ∀ b o, b ≠ a → M b = some o → M' b = some o
theorem Mxa.refl (a : Addr) (M : Mem) : Mxa a M M := fun _ _ _ h => h
theorem Mxa.trans {a : Addr} {M M' M'' : Mem} (x : Mxa a M M') (y : Mxa a M' M'') : Mxa a M M'' := fun c o n h => y c o n (x c o n h)
theorem Mx.a {a : Addr} {M M' : Mem} (x : Mx M M') : Mxa a M M' := fun b o _ h => x b o h
theorem Mxa.set {a : Addr} {M M' : Mem} {o : MO} (x : Mxa a M M') : Mxa a M (mset M' a o) := fun b u n h => by rw [mset_ne n]; exact x b u n h
theorem Mxa.upd {a p : Addr} {M M' : Mem} {o : MO} (x : Mxa a M M') (h : M p = none) : Mxa a M (mset M' p o) := fun b u n e => by rw [mset_ne (mne e h)]; exact x b u n e
end DL

set_option Elab.async false
set_option linter.all false
set_option maxRecDepth 100000
set_option maxHeartbeats 4000000
/-! DL11: the bodies of loops, least (length, text). -/
namespace DL
open PySem L2 PySem.Spec PyProof.Rows
def LcB (g : DTG) (tt : DTT) (te : DTE) (vs : List Nat) (δ : Env) (ds : List D) (M1 : Mem) (Q : QE) : Prop := ∃ P : Nat → List D → Mem → Prop, P 0 [] M1 ∧
  (∀ i d acc M', ds[i]? = some d → P i acc M' → g d (dwipe δ vs) M' fun δ2 M2 => tt δ2 M2 (fun b M3 => if b = true then te δ2 M3 (fun y M4 => P (i + 1) (acc ++ [y]) M4) (fun _ _ => False) else P (i + 1) acc M3) (fun _ _ => False)) ∧
  ds.length ≤ 16777216 ∧ ∀ acc M', P ds.length acc M' → Q (.lst acc) M'
theorem u_lc {wi : DTI} {g : DTG} {tt : DTT} {te : DTE} {vs : List Nat} {δ : Env} {M : Mem} {Q : QE} {Qx : QX} : dLc wi g tt te vs δ M Q Qx = wi δ M (fun ds M1 => LcB g tt te vs δ ds M1 Q) Qx := rfl
def ForB (g : DTG) (tb : DTS) (E : Ends) (δ : Env) (ds : List D) (M1 : Mem) : Prop := ∃ P : Nat → Env → Mem → Prop, P 0 δ M1 ∧
  (∀ i d δ' M', ds[i]? = some d → P i δ' M' → g d δ' M' fun δ2 M2 => tb { E with nx := P (i + 1), ct := P (i + 1), bk := E.nx } δ2 M2) ∧ ∀ δ' M', P ds.length δ' M' → E.nx δ' M'
theorem u_for {wi : DTI} {g : DTG} {tb : DTS} {E : Ends} {δ : Env} {M : Mem} : dFor wi g tb E δ M = wi δ M (fun ds M1 => ForB g tb E δ ds M1) (fun x M1 => E.ex x δ M1) := rfl
section
variable {g : DTG} {te : DTE} {vs : List Nat} {δ : Env} {ds : List D} {M : Mem} {Q : QE}
/-- [f x for x in ds], I of the memory -/
theorem lc_map (I : Nat → Mem → Prop) (f : D → D) (hl : ds.length ≤ 16777216) (h0 : I 0 M)
    (step : ∀ i d M' (R : QE), ds[i]? = some d → I i M' → (∀ M'', I (i + 1) M'' → R (f d) M'') → g d (dwipe δ vs) M' fun δ2 M2 => te δ2 M2 R (fun _ _ => False)) (q : ∀ M', I ds.length M' → Q (.lst (ds.map f)) M') : LcB g dYes te vs δ ds M Q := by
  refine ⟨fun i acc M' => acc = (ds.take i).map f ∧ I i M', ⟨rfl, h0⟩, ?_, hl, fun acc M' ⟨e, z⟩ => ?_⟩
  · rintro i d acc M' hd ⟨rfl, z⟩
    have hi := (List.getElem?_eq_some_iff.mp hd).1
    have e : (ds.take (i + 1)).map f = (ds.take i).map f ++ [f d] := by
      rw [List.take_succ, hd, List.map_append]
      rfl
    simp only [dYes, if_true]
    exact step i d M' _ hd z fun M'' z2 => ⟨e.symm, z2⟩
  · rw [e, List.take_length]
    exact q M' z
/-- .. that leaves the memory -/
theorem lc_pure (f : D → D) (hl : ds.length ≤ 16777216) (step : ∀ d (R : QE), d ∈ ds → R (f d) M → g d (dwipe δ vs) M fun δ2 M2 => te δ2 M2 R (fun _ _ => False)) (q : Q (.lst (ds.map f)) M) : LcB g dYes te vs δ ds M Q :=
  lc_map (fun _ M' => M' = M) f hl rfl (fun i d M' R hd e k => by
    subst e
    exact step d R (List.mem_of_getElem? hd) (k _ rfl)) fun M' e => by rw [e]; exact q
end
/-! ### the least of (length, text) -/
def wl (x y : List Nat) : Prop := x.length < y.length ∨ (x.length = y.length ∧ x < y)
theorem wl_irr (x : List Nat) : ¬ wl x x := by
  rintro (h | h)
  · omega
  · exact List.lt_irrefl _ h.2
theorem wl_trans {x y z : List Nat} (h1 : wl x y) (h2 : wl y z) : wl x z := by
  rcases h1 with h1 | ⟨h1, k1⟩ <;> rcases h2 with h2 | ⟨h2, k2⟩
  · exact .inl (by omega)
  · exact .inl (by omega)
  · exact .inl (by omega)
  · exact .inr ⟨by omega, List.lt_trans k1 k2⟩
theorem wl_tot {x y : List Nat} (h1 : ¬ wl x y) (h2 : ¬ wl y x) : x = y := by
  have hl : x.length = y.length := by
    apply Nat.le_antisymm <;> (apply Nat.le_of_not_lt; intro h)
    · exact h2 (.inl h)
    · exact h1 (.inl h)
  refine List.le_antisymm (List.not_lt.mp fun h => h2 (.inr ⟨hl.symm, h⟩)) (List.not_lt.mp fun h => h1 (.inr ⟨hl, h⟩))
theorem wl_neg {x y z : List Nat} (h1 : ¬ wl x y) (h2 : ¬ wl y z) : ¬ wl x z := fun h => by
  by_cases e : x = y
  · subst e; exact h2 h
  · by_cases k : wl y x
    · exact h2 (wl_trans k h)
    · exact e (wl_tot h1 k)
theorem wl_pre (p : List Nat) {x y : List Nat} : wl (p ++ x) (p ++ y) ↔ wl x y := by
  unfold wl
  simp only [List.length_append]
  have : (p ++ x < p ++ y) ↔ x < y := by
    induction p with
    | nil => simp
    | cons a p ih => simp [List.cons_lt_cons_iff, ih]
  rw [this, Nat.add_lt_add_iff_left, Nat.add_left_cancel_iff]
/-- m is least of S -/
def Best (m : List Nat) (S : List Nat → Prop) : Prop := S m ∧ ∀ y, S y → ¬ wl y m
theorem Best.uni {m m' : List Nat} {S : List Nat → Prop} (h : Best m S) (h' : Best m' S) : m = m' := wl_tot (h'.2 m h.1) (h.2 m' h'.1)
theorem Best.pre {m : List Nat} {S : List Nat → Prop} (p : List Nat) (h : Best m S) : Best (p ++ m) (fun y => ∃ x, S x ∧ y = p ++ x) := by
  refine ⟨⟨m, h.1, rfl⟩, ?_⟩
  rintro y ⟨x, hx, rfl⟩ k
  exact h.2 x hx ((wl_pre p).mp k)
theorem Best.or {a b m : List Nat} {S T : List Nat → Prop} (ha : Best a S) (hb : Best b T) (h : Best m (fun y => y = a ∨ y = b)) : Best m (fun y => S y ∨ T y) := by
  refine ⟨?_, ?_⟩
  · rcases h.1 with e | e
    · rw [e]; exact .inl ha.1
    · rw [e]; exact .inr hb.1
  · rintro y (hy | hy)
    · exact wl_neg (ha.2 y hy) (h.2 a (.inl rfl))
    · exact wl_neg (hb.2 y hy) (h.2 b (.inr rfl))
/-- the least of many -/
theorem Best.many {xs : List (List Nat)} {m : List Nat} {S : List Nat → Prop} (h : Best m (· ∈ xs)) (h1 : ∀ x ∈ xs, S x) (h2 : ∀ y, S y → ∃ x ∈ xs, ¬ wl y x) : Best m S :=
  ⟨h1 m h.1, fun y hy => by
    obtain ⟨x, hx, k⟩ := h2 y hy
    exact wl_neg k (h.2 x hx)⟩
open Classical in
theorem best_ex : ∀ {xs : List (List Nat)}, xs ≠ [] → ∃ m, Best m (· ∈ xs)
  | [], h => absurd rfl h
  | [x], _ => ⟨x, by simp [Best], fun y hy => by
      simp at hy
      subst hy
      exact wl_irr _⟩
  | x :: y :: xs, _ => by
    obtain ⟨m, h1, h2⟩ := best_ex (xs := y :: xs) (by simp)
    by_cases k : wl x m
    · refine ⟨x, by simp, fun z hz => ?_⟩
      rcases List.mem_cons.mp hz with e | hz
      · subst e; exact wl_irr _
      · exact fun w => h2 z hz (wl_trans w k)
    · refine ⟨m, List.mem_cons_of_mem _ h1, fun z hz => ?_⟩
      rcases List.mem_cons.mp hz with e | hz
      · subst e; exact k
      · exact h2 z hz
def pr (x : List Nat) : D := .tup [.int x.length, .str x]
theorem lt_pr (x y : List Nat) : PySem.W.dataLt (py (pr x)) (py (pr y)) = true ↔ wl x y := by
  unfold PySem.W.dataLt pr wl
  simp only [py, pys, PySem.W.keyToks, PySem.W.keyToksAll, List.cons_append, List.nil_append, List.append_nil]
  rw [PyProof.Rows.lex_self]
  simp only [PyProof.Rows.lexLt, PyProof.Rows.itemLt, PyProof.Rows.strKind]
  simp
  constructor
  · rintro (h | ⟨h, k⟩)
    · exact .inl h
    · by_cases e : x.length = y.length
      · exact .inr ⟨e, k⟩
      · exact .inl (by omega)
  · rintro (h | ⟨h, k⟩)
    · exact .inl h
    · exact .inr ⟨by omega, k⟩
theorem minD_low : ∀ (xs : List PyData) (x y : PyData), y ∈ x :: xs → PySem.W.dataLt y (PySem.W.minD x xs) = false
  | [], x, y, h => by
    simp at h
    subst h
    exact PyProof.Rows.lex_irrefl _
  | z :: zs, x, y, h => by
    have e : PySem.W.minD x (z :: zs) = PySem.W.minD (if PySem.W.dataLt z x then z else x) zs := rfl
    rw [e]
    have low := minD_low zs (if PySem.W.dataLt z x then z else x)
    have tr : ∀ a b c : PyData, PySem.W.dataLt a b = false → PySem.W.dataLt b c = false → PySem.W.dataLt a c = false := fun a b c h1 h2 => by
      cases q : PySem.W.dataLt a c with
      | false => rfl
      | true =>
        rcases PyProof.Rows.lex_negTrans (O := PyProof.Rows.itemOrd) _ (PySem.W.keyToks b) _ q with k | k
        · exact absurd (h1.symm.trans k) Bool.false_ne_true
        · exact absurd (h2.symm.trans k) Bool.false_ne_true
    have base := low _ (List.mem_cons_self ..)
    rcases List.mem_cons.mp h with rfl | h
    · by_cases k : PySem.W.dataLt z y = true
      · rw [if_pos k] at base ⊢
        refine tr _ _ _ ?_ base
        cases q : PySem.W.dataLt y z with
        | false => rfl
        | true =>
          have w : PySem.W.dataLt y y = true := PyProof.Rows.lex_trans (O := PyProof.Rows.itemOrd) _ _ _ q k
          have w2 : PySem.W.dataLt y y = false := PyProof.Rows.lex_irrefl (O := PyProof.Rows.itemOrd) _
          rw [w] at w2
          cases w2
      · rw [if_neg k] at base ⊢
        exact base
    · rcases List.mem_cons.mp h with rfl | h
      · by_cases k : PySem.W.dataLt y x = true
        · rw [if_pos k] at base ⊢
          exact base
        · rw [if_neg k] at base ⊢
          exact tr _ _ _ (by simpa using k) base
      · exact low y (List.mem_cons_of_mem _ h)
theorem alike_pr (x y : List Nat) : PySem.W.alike (py (pr x)) (py (pr y)) = true := by
  unfold pr
  simp only [py, pys, PySem.W.alike, PySem.W.alikeAll, Bool.and_true]
theorem depth_prs : ∀ xs : List (List Nat), PyData.depthAll (pys (xs.map pr)) ≤ 60
  | [] => by simp [pys, PyData.depthAll]
  | x :: xs => by
    have h := depth_prs xs
    simp only [List.map_cons, pys, PyData.depthAll, pr, py, PyData.depth] at h ⊢
    omega
theorem min_prs {xs : List (List Nat)} {M : Mem} {Q : QE} (hx : xs ≠ []) (h : ∀ m, Best m (· ∈ xs) → Q (pr m) M) : aMinL [.lst (xs.map pr)] M Q := by
  cases xs with
  | nil => exact absurd rfl hx
  | cons x xs =>
    refine ⟨⟨?_, depth_prs (x :: xs), ?_, ?_⟩, fun m hm e => ?_⟩
    · rw [pls_all, List.all_eq_true]
      intro d hd
      obtain ⟨y, _, rfl⟩ := List.mem_map.mp (show d ∈ (x :: xs).map pr from hd)
      simp [pr, pl, pls]
    · intro a ha b hb
      rw [pys_map] at ha hb
      obtain ⟨d, hd, rfl⟩ := List.mem_map.mp ha
      obtain ⟨y, _, rfl⟩ := List.mem_map.mp (show d ∈ (x :: xs).map pr from hd)
      obtain ⟨d', hd', rfl⟩ := List.mem_map.mp hb
      obtain ⟨y', _, rfl⟩ := List.mem_map.mp (show d' ∈ (x :: xs).map pr from hd')
      exact alike_pr _ _
    · intro a ha
      rw [pys_map] at ha
      obtain ⟨d, hd, rfl⟩ := List.mem_map.mp ha
      obtain ⟨y, _, rfl⟩ := List.mem_map.mp (show d ∈ (x :: xs).map pr from hd)
      simp [pr, py]
    · obtain ⟨y, hy, rfl⟩ := List.mem_map.mp (show m ∈ (x :: xs).map pr from hm)
      refine h y ⟨hy, fun z hz w => ?_⟩
      have k := minD_low (pys (xs.map pr)) (py (pr x)) (py (pr z)) (by
        have : py (pr z) ∈ pys ((x :: xs).map pr) := by
          rw [pys_map, List.map_map]
          exact List.mem_map.mpr ⟨z, hz, rfl⟩
        simpa [pys] using this)
      rw [← e, Bool.eq_false_iff] at k
      exact k ((lt_pr z y).mpr w)
end DL

set_option Elab.async false
set_option linter.all false
set_option maxRecDepth 100000
set_option maxHeartbeats 4000000
/-! Lx: splitting and quoting, over lists of codes. -/
namespace Lx
open DL (wl Best)
/-- behind an opening quote: the content, the rest; none: not closed -/
def rdq (q : Nat) : List Nat → Option (List Nat × List Nat)
  | [] => none
  | [c] => if c = q then some ([], []) else none
  | c :: d :: r => if c = q then some ([], d :: r) else if c = 92 ∧ q = 34 then (rdq q r).map fun p => (d :: p.1, p.2) else (rdq q (d :: r)).map fun p => (c :: p.1, p.2)
theorem rdq_nil (q : Nat) : rdq q [] = none := by rw [rdq]
theorem rdq_close (q : Nat) (r : List Nat) : rdq q (q :: r) = some ([], r) := by cases r <;> simp [rdq]
theorem rdq_esc (d : Nat) (r : List Nat) : rdq 34 (92 :: d :: r) = (rdq 34 r).map fun p => (d :: p.1, p.2) := by rw [rdq]; simp
theorem rdq_esc0 : rdq 34 [92] = none := by rw [rdq]; simp
theorem rdq_ch {q c : Nat} (h : c ≠ q) (h2 : ¬ (c = 92 ∧ q = 34)) (r : List Nat) : rdq q (c :: r) = (rdq q r).map fun p => (c :: p.1, p.2) := by
  cases r with
  | nil => simp [rdq, h]
  | cons d r => rw [rdq, if_neg h, if_neg h2]
theorem rdq_len (q : Nat) : ∀ (n : Nat) (r : List Nat), r.length ≤ n → ∀ x z, rdq q r = some (x, z) → z.length < r.length ∧ x.length ≤ r.length := by
  intro n
  induction n with
  | zero =>
    intro r hr x z h
    have : r = [] := List.eq_nil_of_length_eq_zero (by omega)
    subst this
    rw [rdq] at h
    cases h
  | succ n ih =>
    intro r hr x z h
    match r, hr, h with
    | [c], hr, h =>
      rw [rdq] at h
      split at h
      · cases h; simp
      · cases h
    | c :: d :: r, hr, h =>
      rw [rdq] at h
      simp only [List.length_cons] at hr ⊢
      split at h
      · cases h; simp
      · split at h
        · cases e : rdq q r with
          | none => rw [e] at h; cases h
          | some p =>
            rw [e] at h
            cases h
            have := ih r (by omega) p.1 p.2 e
            simp
            omega
        · cases e : rdq q (d :: r) with
          | none => rw [e] at h; cases h
          | some p =>
            rw [e] at h
            cases h
            have := ih (d :: r) (by simp; omega) p.1 p.2 e
            simp at this ⊢
            omega
theorem rdq_suf (q : Nat) : ∀ (n : Nat) (r : List Nat), r.length ≤ n → ∀ x z, rdq q r = some (x, z) → z <:+ r := by
  intro n
  induction n with
  | zero =>
    intro r hr x z h
    have : r = [] := List.eq_nil_of_length_eq_zero (by omega)
    subst this
    rw [rdq] at h
    cases h
  | succ n ih =>
    intro r hr x z h
    match r, hr, h with
    | [c], hr, h =>
      rw [rdq] at h
      split at h
      · cases h; exact List.suffix_cons _ _
      · cases h
    | c :: d :: r, hr, h =>
      rw [rdq] at h
      simp only [List.length_cons] at hr
      split at h
      · cases h; exact List.suffix_cons _ _
      · split at h
        · cases e : rdq q r with
          | none => rw [e] at h; cases h
          | some p =>
            rw [e] at h
            cases h
            exact (ih r (by omega) p.1 p.2 e).trans ((List.suffix_cons _ _).trans (List.suffix_cons _ _))
        · cases e : rdq q (d :: r) with
          | none => rw [e] at h; cases h
          | some p =>
            rw [e] at h
            cases h
            exact (ih (d :: r) (by simp; omega) p.1 p.2 e).trans (List.suffix_cons _ _)
/-- a token: its text, the rest; the error's place by what remains -/
def rdt : Nat → List Nat → Except Nat (List Nat × List Nat)
  | _, [] => .ok ([], [])
  | 0, _ => .error 0
  | n + 1, c :: r => if c = 32 then .ok ([], c :: r) else if c = 39 ∨ c = 34 then (match rdq c r with | none => .error (r.length + 1) | some p => (rdt n p.2).map fun z => (p.1 ++ z.1, z.2))
    else if c = 92 then (match r with | [] => .error 1 | d :: r' => (rdt n r').map fun z => (d :: z.1, z.2)) else (rdt n r).map fun z => (c :: z.1, z.2)
/-- the fuel does not matter -/
theorem rdt_fuel : ∀ (n m : Nat) (r : List Nat), r.length ≤ n → r.length ≤ m → rdt n r = rdt m r := by
  intro n
  induction n with
  | zero =>
    intro m r h1 h2
    have : r = [] := List.eq_nil_of_length_eq_zero (by omega)
    subst this
    cases m <;> simp [rdt]
  | succ n ih =>
    intro m r h1 h2
    cases r with
    | nil => cases m <;> simp [rdt]
    | cons c r =>
      cases m with
      | zero => simp at h2
      | succ m =>
        simp only [List.length_cons] at h1 h2
        unfold rdt
        by_cases c1 : c = 32
        · rw [if_pos c1, if_pos c1]
        · rw [if_neg c1, if_neg c1]
          by_cases c2 : c = 39 ∨ c = 34
          · rw [if_pos c2, if_pos c2]
            cases e : rdq c r with
            | none => rfl
            | some p =>
              have := rdq_len c _ r (Nat.le_refl _) p.1 p.2 e
              simp only []
              rw [ih m p.2 (by omega) (by omega)]
          · rw [if_neg c2, if_neg c2]
            by_cases c3 : c = 92
            · rw [if_pos c3, if_pos c3]
              cases r with
              | nil => rfl
              | cons d r =>
                simp only [List.length_cons] at h1 h2
                simp only []
                rw [ih m r (by omega) (by omega)]
            · rw [if_neg c3, if_neg c3, ih m r (by omega) (by omega)]
/-- a token at the head of l -/
def tok (l : List Nat) : Except Nat (List Nat × List Nat) := rdt l.length l
def cat (x : List Nat) (e : Except Nat (List Nat × List Nat)) : Except Nat (List Nat × List Nat) := e.map fun z => (x ++ z.1, z.2)
theorem cat_cat (x y : List Nat) (e : Except Nat (List Nat × List Nat)) : cat x (cat y e) = cat (x ++ y) e := by
  cases e with
  | error _ => rfl
  | ok z => simp [cat, Except.map]
theorem cat_nil (e : Except Nat (List Nat × List Nat)) : cat [] e = e := by
  cases e with
  | error _ => rfl
  | ok z => rfl
theorem tok_nil : tok [] = .ok ([], []) := by simp [tok, rdt]
theorem tok_sp (r : List Nat) : tok (32 :: r) = .ok ([], 32 :: r) := by simp [tok, rdt]
theorem tok_q {c : Nat} (h : c = 39 ∨ c = 34) {r x z : List Nat} (e : rdq c r = some (x, z)) : tok (c :: r) = cat x (tok z) := by
  have n : ¬ c = 32 := by omega
  have := rdq_len c _ r (Nat.le_refl _) x z e
  simp only [tok, List.length_cons, rdt, if_neg n, if_pos h, e]
  rw [rdt_fuel r.length z.length z (by omega) (Nat.le_refl _)]
  rfl
theorem tok_q0 {c : Nat} (h : c = 39 ∨ c = 34) {r : List Nat} (e : rdq c r = none) : tok (c :: r) = .error (r.length + 1) := by
  have n : ¬ c = 32 := by omega
  simp only [tok, List.length_cons, rdt, if_neg n, if_pos h, e]
theorem tok_esc (d : Nat) (r : List Nat) : tok (92 :: d :: r) = cat [d] (tok r) := by
  simp only [tok, List.length_cons, rdt, if_neg (show ¬ (92 : Nat) = 32 by decide), if_neg (show ¬ ((92 : Nat) = 39 ∨ (92 : Nat) = 34) by decide), if_true]
  rw [rdt_fuel (r.length + 1) r.length r (by omega) (Nat.le_refl _)]
  rfl
theorem tok_esc0 : tok [92] = .error 1 := by simp [tok, rdt]
theorem tok_ch {c : Nat} (h1 : c ≠ 32) (h2 : ¬ (c = 39 ∨ c = 34)) (h3 : c ≠ 92) (r : List Nat) : tok (c :: r) = cat [c] (tok r) := by
  simp only [tok, List.length_cons, rdt, if_neg h1, if_neg h2, if_neg h3]
  rfl
theorem rdt_len : ∀ (n : Nat) (r t z : List Nat), rdt n r = .ok (t, z) → z.length ≤ r.length ∧ t.length ≤ r.length ∧ (z = [] ∨ z.head? = some 32) ∧ (∀ c r', r = c :: r' → c ≠ 32 → z.length < r.length) := by
  intro n
  induction n with
  | zero =>
    intro r t z h
    cases r with
    | nil => simp [rdt] at h; obtain ⟨rfl, rfl⟩ := h; simp
    | cons c r => simp [rdt] at h
  | succ n ih =>
    intro r t z h
    cases r with
    | nil => simp [rdt] at h; obtain ⟨rfl, rfl⟩ := h; simp
    | cons c r =>
      unfold rdt at h
      by_cases c1 : c = 32
      · rw [if_pos c1] at h
        cases h
        simp [c1]
      · rw [if_neg c1] at h
        have fin : ∀ (r' x : List Nat) (t z : List Nat), r'.length ≤ r.length → x.length + r'.length ≤ r.length + 1 → (rdt n r').map (fun z => (x ++ z.1, z.2)) = .ok (t, z) → z.length ≤ (c :: r).length ∧ t.length ≤ (c :: r).length ∧ (z = [] ∨ z.head? = some 32) ∧ (∀ c' r'', c :: r = c' :: r'' → c' ≠ 32 → z.length < (c :: r).length) := by
          intro r' x t z hr hx h
          cases e : rdt n r' with
          | error _ => rw [e] at h; cases h
          | ok p =>
            rw [e] at h
            cases h
            obtain ⟨a, b, d, _⟩ := ih r' p.1 p.2 e
            refine ⟨by simp; omega, by simp; omega, d, fun _ _ _ _ => by simp; omega⟩
        by_cases c2 : c = 39 ∨ c = 34
        · rw [if_pos c2] at h
          cases e : rdq c r with
          | none => rw [e] at h; cases h
          | some p =>
            rw [e] at h
            obtain ⟨a, b⟩ := rdq_len c _ r (Nat.le_refl _) p.1 p.2 e
            have hs : p.1.length + p.2.length ≤ r.length + 1 := rdq_sum c _ r (Nat.le_refl _) p.1 p.2 e
            exact fin p.2 p.1 t z (by omega) hs h
        · rw [if_neg c2] at h
          by_cases c3 : c = 92
          · rw [if_pos c3] at h
            cases r with
            | nil => cases h
            | cons d r =>
              exact fin r [d] t z (by simp) (by simp; omega) h
          · rw [if_neg c3] at h
            exact fin r [c] t z (by omega) (by simp; omega) h
where
  rdq_sum (q : Nat) : ∀ (n : Nat) (r : List Nat), r.length ≤ n → ∀ x z, rdq q r = some (x, z) → x.length + z.length ≤ r.length + 1 := by
    intro n
    induction n with
    | zero =>
      intro r hr x z h
      have : r = [] := List.eq_nil_of_length_eq_zero (by omega)
      subst this
      rw [rdq] at h
      cases h
    | succ n ih =>
      intro r hr x z h
      match r, hr, h with
      | [c], hr, h =>
        rw [rdq] at h
        split at h
        · cases h; simp
        · cases h
      | c :: d :: r, hr, h =>
        rw [rdq] at h
        simp only [List.length_cons] at hr ⊢
        split at h
        · cases h; simp
        · split at h
          · cases e : rdq q r with
            | none => rw [e] at h; cases h
            | some p =>
              rw [e] at h
              cases h
              have := ih r (by omega) p.1 p.2 e
              simp
              omega
          · cases e : rdq q (d :: r) with
            | none => rw [e] at h; cases h
            | some p =>
              rw [e] at h
              cases h
              have := ih (d :: r) (by simp; omega) p.1 p.2 e
              simp at this ⊢
              omega
theorem rdt_suf : ∀ (n : Nat) (r t z : List Nat), rdt n r = .ok (t, z) → z <:+ r := by
  intro n
  induction n with
  | zero =>
    intro r t z h
    cases r with
    | nil => simp [rdt] at h; obtain ⟨rfl, rfl⟩ := h; exact List.suffix_refl _
    | cons c r => simp [rdt] at h
  | succ n ih =>
    intro r t z h
    cases r with
    | nil => simp [rdt] at h; obtain ⟨rfl, rfl⟩ := h; exact List.suffix_refl _
    | cons c r =>
      have fin : ∀ (r' : List Nat) (f : List Nat × List Nat → List Nat × List Nat), (∀ p, (f p).2 = p.2) → r' <:+ (c :: r) → (rdt n r').map f = .ok (t, z) → z <:+ (c :: r) := by
        intro r' f hf hs h
        cases e : rdt n r' with
        | error _ => rw [e] at h; cases h
        | ok p =>
          rw [e] at h
          simp only [Except.map, Except.ok.injEq] at h
          have h2 : (f p).2 = z := by rw [h]
          rw [hf] at h2
          exact h2 ▸ (ih r' p.1 p.2 e).trans hs
      unfold rdt at h
      by_cases c1 : c = 32
      · rw [if_pos c1] at h
        cases h
        exact List.suffix_refl _
      · rw [if_neg c1] at h
        by_cases c2 : c = 39 ∨ c = 34
        · rw [if_pos c2] at h
          cases e : rdq c r with
          | none => rw [e] at h; cases h
          | some p =>
            rw [e] at h
            exact fin p.2 (fun z => (p.1 ++ z.1, z.2)) (fun _ => rfl) ((rdq_suf c _ r (Nat.le_refl _) p.1 p.2 e).trans (List.suffix_cons _ _)) h
        · rw [if_neg c2] at h
          by_cases c3 : c = 92
          · rw [if_pos c3] at h
            cases r with
            | nil => cases h
            | cons d r => exact fin r (fun z => (d :: z.1, z.2)) (fun _ => rfl) ((List.suffix_cons _ _).trans (List.suffix_cons _ _)) h
          · rw [if_neg c3] at h
            exact fin r (fun z => (c :: z.1, z.2)) (fun _ => rfl) (List.suffix_cons _ _) h
theorem tok_suf (n : Nat) (r t z : List Nat) (h : rdt n r = .ok (t, z)) : z <:+ r := rdt_suf n r t z h
/-- a whole line -/
def spf : Nat → List Nat → Except Nat (List (List Nat))
  | _, [] => .ok []
  | 0, _ => .error 0
  | n + 1, c :: r => if c = 32 then spf n r else match tok (c :: r) with
    | .error e => .error e
    | .ok p => (spf n p.2).map fun ts => p.1 :: ts
theorem spf_fuel : ∀ (n m : Nat) (r : List Nat), r.length ≤ n → r.length ≤ m → spf n r = spf m r := by
  intro n
  induction n with
  | zero =>
    intro m r h1 h2
    have : r = [] := List.eq_nil_of_length_eq_zero (by omega)
    subst this
    cases m <;> simp [spf]
  | succ n ih =>
    intro m r h1 h2
    cases r with
    | nil => cases m <;> simp [spf]
    | cons c r =>
      cases m with
      | zero => simp at h2
      | succ m =>
        simp only [List.length_cons] at h1 h2
        unfold spf
        by_cases c1 : c = 32
        · rw [if_pos c1, if_pos c1, ih m r (by omega) (by omega)]
        · rw [if_neg c1, if_neg c1]
          cases e : tok (c :: r) with
          | error _ => rfl
          | ok p =>
            obtain ⟨_, _, _, k⟩ := rdt_len _ _ p.1 p.2 e
            have := k c r rfl c1
            simp only [List.length_cons] at this
            simp only []
            rw [ih m p.2 (by omega) (by omega)]
def spl (l : List Nat) : Except Nat (List (List Nat)) := spf l.length l
theorem spl_nil : spl [] = .ok [] := by simp [spl, spf]
theorem spl_sp (r : List Nat) : spl (32 :: r) = spl r := by simp [spl, spf]
theorem spl_tok {c : Nat} {r t z : List Nat} (h : c ≠ 32) (e : tok (c :: r) = .ok (t, z)) : spl (c :: r) = (spl z).map fun ts => t :: ts := by
  obtain ⟨_, _, _, k⟩ := rdt_len _ _ t z e
  have := k c r rfl h
  simp only [List.length_cons] at this
  simp only [spl, List.length_cons, spf, if_neg h, e]
  rw [spf_fuel r.length z.length z (by omega) (Nat.le_refl _)]
theorem spl_err {c e : Nat} {r : List Nat} (h : c ≠ 32) (k : tok (c :: r) = .error e) : spl (c :: r) = .error e := by
  simp only [spl, List.length_cons, spf, if_neg h, k]
/-! ### quoting -/
/-- one step of the table, from the right: outside, within '..', within ".." -/
structure Qs where
  p : List Nat
  s : List Nat
  d : List Nat
def inD (c : Nat) (d : List Nat) : List (List Nat) := [92 :: c :: d] ++ (if c ≠ 34 ∧ c ≠ 92 then [c :: d] else [])
def inS (c : Nat) (s : List Nat) : List (List Nat) := if c ≠ 39 then [c :: s] else []
def outs (c : Nat) (q : Qs) : List (List Nat) := ([92 :: c :: q.p] ++ (if c ≠ 32 ∧ c ≠ 39 ∧ c ≠ 34 ∧ c ≠ 92 then [c :: q.p] else [])) ++ ((inS c q.s).map (39 :: ·) ++ (inD c q.d).map (34 :: ·))
structure Step (c : Nat) (q q' : Qs) : Prop where
  p : Best q'.p (· ∈ outs c q)
  s : Best q'.s (· ∈ inS c q.s ++ [39 :: q'.p])
  d : Best q'.d (· ∈ inD c q.d ++ [34 :: q'.p])
inductive Table : List Nat → Qs → Prop
  | nil : Table [] ⟨[], [39], [34]⟩
  | cons {c : Nat} {t : List Nat} {q q' : Qs} : Table t q → Step c q q' → Table (c :: t) q'
/-- read on within quotes -/
def qon (q : Nat) (l : List Nat) : Except Nat (List Nat × List Nat) := match rdq q l with
  | none => .error 0
  | some p => cat p.1 (tok p.2)
theorem qon_close (q : Nat) (r : List Nat) : qon q (q :: r) = tok r := by
  unfold qon
  rw [rdq_close]
  exact cat_nil _
theorem qon_cons {q : Nat} {r r' x : List Nat} (h : rdq q r' = (rdq q r).map fun p => (x ++ p.1, p.2)) : (∃ e, qon q r = .error e) ∨ qon q r' = cat x (qon q r) := by
  unfold qon
  rw [h]
  cases rdq q r with
  | none => exact .inl ⟨_, rfl⟩
  | some p => exact .inr (cat_cat _ _ _).symm
theorem qon_ok {q c : Nat} {r r' t z : List Nat} (h : rdq q r' = (rdq q r).map fun p => ([c] ++ p.1, p.2)) (k : qon q r = .ok (t, z)) : qon q r' = .ok (c :: t, z) := by
  rcases qon_cons h with ⟨e, he⟩ | he
  · rw [he] at k; cases k
  · rw [he, k]; rfl
theorem tok_qon {q : Nat} (h : q = 39 ∨ q = 34) {r t z : List Nat} (k : qon q r = .ok (t, z)) : tok (q :: r) = .ok (t, z) := by
  unfold qon at k
  cases e : rdq q r with
  | none => rw [e] at k; cases k
  | some p => rw [e] at k; rw [tok_q h e]; exact k
/-- w outside reads as t; within q -/
def Gd (t w : List Nat) : Prop := ∀ z, (z = [] ∨ z.head? = some 32) → tok (w ++ z) = .ok (t, z)
def Gq (q : Nat) (t w : List Nat) : Prop := ∀ z, (z = [] ∨ z.head? = some 32) → qon q (w ++ z) = .ok (t, z)
structure Good (t : List Nat) (q : Qs) : Prop where
  p : Gd t q.p
  s : Gq 39 t q.s
  d : Gq 34 t q.d
theorem good_nil : Good [] ⟨[], [39], [34]⟩ := by
  have e : ∀ z : List Nat, (z = [] ∨ z.head? = some 32) → tok z = .ok ([], z) := fun z hz => by
    cases z with
    | nil => exact tok_nil
    | cons c r =>
      rcases hz with h | h
      · cases h
      · simp at h
        subst h
        exact tok_sp r
  exact ⟨fun z hz => e z hz, fun z hz => by show qon 39 (39 :: z) = _; rw [qon_close]; exact e z hz, fun z hz => by show qon 34 (34 :: z) = _; rw [qon_close]; exact e z hz⟩
theorem good_step {c : Nat} {t : List Nat} {q q' : Qs} (h : Good t q) (k : Step c q q') : Good (c :: t) q' := by
  have hD : ∀ w ∈ inD c q.d, Gq 34 (c :: t) w := fun w hw z hz => by
    unfold inD at hw
    rcases List.mem_append.mp hw with hw | hw
    · simp at hw
      subst hw
      exact qon_ok (rdq_esc c (q.d ++ z)) (h.d z hz)
    · split at hw
      · simp at hw
        subst hw
        rename_i n
        exact qon_ok (rdq_ch (q := 34) (c := c) n.1 (by omega) (q.d ++ z)) (h.d z hz)
      · cases hw
  have hS : ∀ w ∈ inS c q.s, Gq 39 (c :: t) w := fun w hw z hz => by
    unfold inS at hw
    split at hw
    · simp at hw
      subst hw
      rename_i n
      exact qon_ok (rdq_ch (q := 39) (c := c) n (by omega) (q.s ++ z)) (h.s z hz)
    · cases hw
  have hP : Gd (c :: t) q'.p := fun z hz => by
    have m := k.p.1
    unfold outs at m
    rcases List.mem_append.mp m with m | m
    · rcases List.mem_append.mp m with m | m
      · simp at m
        rw [m]
        show tok (92 :: c :: (q.p ++ z)) = _
        rw [tok_esc, h.p z hz]
        rfl
      · split at m
        · simp at m
          rename_i n
          rw [m]
          show tok (c :: (q.p ++ z)) = _
          rw [tok_ch n.1 (by omega) n.2.2.2, h.p z hz]
          rfl
        · cases m
    · rcases List.mem_append.mp m with m | m
      · obtain ⟨w, hw, e⟩ := List.mem_map.mp m
        rw [← e]
        exact tok_qon (.inl rfl) (hS w hw z hz)
      · obtain ⟨w, hw, e⟩ := List.mem_map.mp m
        rw [← e]
        exact tok_qon (.inr rfl) (hD w hw z hz)
  refine ⟨hP, fun z hz => ?_, fun z hz => ?_⟩
  · rcases List.mem_append.mp k.s.1 with m | m
    · exact hS _ m z hz
    · simp at m
      rw [m]
      show qon 39 (39 :: (q'.p ++ z)) = _
      rw [qon_close]
      exact hP z hz
  · rcases List.mem_append.mp k.d.1 with m | m
    · exact hD _ m z hz
    · simp at m
      rw [m]
      show qon 34 (34 :: (q'.p ++ z)) = _
      rw [qon_close]
      exact hP z hz
theorem Table.good {t : List Nat} {q : Qs} (h : Table t q) : Good t q := by
  induction h with
  | nil => exact good_nil
  | cons _ k ih => exact good_step ih k
/-! lengths -/
def n1 (t : List Nat) : Nat := (t.filter fun c => c == 34 || c == 92).length
def n2 (t : List Nat) : Nat := (t.filter fun c => c == 39).length
theorem n1_c (c : Nat) (t : List Nat) : n1 (c :: t) = n1 t + if c = 34 ∨ c = 92 then 1 else 0 := by
  unfold n1
  rw [List.filter_cons]
  by_cases h : c = 34 ∨ c = 92
  · rw [if_pos h, if_pos (by simpa using h)]; simp
  · rw [if_neg h, if_neg (by simpa using h)]; simp
theorem n2_c (c : Nat) (t : List Nat) : n2 (c :: t) = n2 t + if c = 39 then 1 else 0 := by
  unfold n2
  rw [List.filter_cons]
  by_cases h : c = 39
  · rw [if_pos h, if_pos (by simpa using h)]; simp
  · rw [if_neg h, if_neg (by simpa using h)]; simp
theorem n12 (t : List Nat) : n1 t + n2 t ≤ t.length := by
  induction t with
  | nil => simp [n1, n2]
  | cons c t ih =>
    rw [n1_c, n2_c, List.length_cons]
    by_cases h : c = 39
    · subst h; simp; omega
    · rw [if_neg h]; split <;> omega
theorem best_le {m w : List Nat} {S : List Nat → Prop} (h : Best m S) (k : S w) : m.length ≤ w.length := by
  apply Nat.le_of_not_lt
  intro z
  exact h.2 w k (.inl z)
structure Lens (t : List Nat) (q : Qs) : Prop where
  d : q.d.length ≤ 1 + t.length + n1 t
  s : q.s.length ≤ 1 + t.length + 3 * n2 t
  p1 : q.p.length ≤ 2 + t.length + n1 t
  p2 : q.p.length ≤ 2 + t.length + 3 * n2 t
theorem Table.lens {t : List Nat} {q : Qs} (h : Table t q) : Lens t q := by
  induction h with
  | nil => exact ⟨by simp, by simp, by simp, by simp⟩
  | @cons c t q q' _ k ih =>
    obtain ⟨a, b, e, f⟩ := ih
    have iD : ∃ w ∈ inD c q.d, w.length ≤ 1 + (c :: t).length + n1 (c :: t) := by
      unfold inD
      rw [n1_c]
      by_cases z : c = 34 ∨ c = 92
      · exact ⟨92 :: c :: q.d, by simp, by rw [if_pos z]; simp; omega⟩
      · exact ⟨c :: q.d, by rw [if_pos (by omega)]; simp, by rw [if_neg z]; simp; omega⟩
    obtain ⟨w, hw, lw⟩ := iD
    have P1 : q'.p.length ≤ 2 + (c :: t).length + n1 (c :: t) := by
      have := best_le k.p (w := 34 :: w) (List.mem_append_right _ (List.mem_append_right _ (List.mem_map.mpr ⟨w, hw, rfl⟩)))
      simp at this lw ⊢
      omega
    have P2 : q'.p.length ≤ 2 + (c :: t).length + 3 * n2 (c :: t) ∧ (c = 39 → q'.p.length ≤ 2 + q.p.length) := by
      rw [n2_c]
      by_cases z : c = 39
      · have := best_le k.p (w := 92 :: c :: q.p) (List.mem_append_left _ (List.mem_append_left _ (by simp)))
        rw [if_pos z]
        simp at this ⊢
        exact ⟨by omega, fun _ => by omega⟩
      · have := best_le k.p (w := 39 :: c :: q.s) (List.mem_append_right _ (List.mem_append_left _ (List.mem_map.mpr ⟨c :: q.s, by unfold inS; rw [if_pos z]; simp, rfl⟩)))
        rw [if_neg z]
        simp at this ⊢
        exact ⟨by omega, fun y => absurd y z⟩
    refine ⟨?_, ?_, P1, P2.1⟩
    · exact Nat.le_trans (best_le k.d (List.mem_append_left _ hw)) lw
    · rw [n2_c]
      by_cases z : c = 39
      · have := best_le k.s (w := 39 :: q'.p) (List.mem_append_right _ (by simp))
        have p2 := P2.2 z
        rw [if_pos z]
        simp at this ⊢
        omega
      · have := best_le k.s (w := c :: q.s) (List.mem_append_left _ (by unfold inS; rw [if_pos z]; simp))
        rw [if_neg z]
        simp at this ⊢
        omega
/-- no such text begins with a space, or is empty -/
theorem Table.head {c : Nat} {t : List Nat} {q : Qs} (h : Table (c :: t) q) : ∃ a r, q.p = a :: r ∧ a ≠ 32 := by
  cases h with
  | cons _ k =>
    have m := k.p.1
    unfold outs at m
    rcases List.mem_append.mp m with m | m
    · rcases List.mem_append.mp m with m | m
      · simp at m
        exact ⟨92, _, m, by decide⟩
      · split at m
        · simp at m
          rename_i n
          exact ⟨c, _, m, n.1⟩
        · cases m
    · rcases List.mem_append.mp m with m | m
      · obtain ⟨w, _, e⟩ := List.mem_map.mp m
        exact ⟨39, _, e.symm, by decide⟩
      · obtain ⟨w, _, e⟩ := List.mem_map.mp m
        exact ⟨34, _, e.symm, by decide⟩
/-- a token as text -/
inductive Quo : List Nat → List Nat → Prop
  | nil : Quo [] [34, 34]
  | cons {c : Nat} {t : List Nat} {q : Qs} : Table (c :: t) q → Quo (c :: t) q.p
theorem Quo.good {t w : List Nat} (h : Quo t w) : Gd t w := by
  cases h with
  | nil =>
    intro z hz
    show tok (34 :: 34 :: z) = _
    refine tok_qon (.inr rfl) ?_
    rw [qon_close]
    exact good_nil.p z hz
  | cons h => exact h.good.p
theorem Quo.head {t w : List Nat} (h : Quo t w) : ∃ a r, w = a :: r ∧ a ≠ 32 := by
  cases h with
  | nil => exact ⟨34, [34], rfl, by decide⟩
  | cons h => exact h.head
theorem Quo.len1 {t w : List Nat} (h : Quo t w) : w.length ≤ 2 + t.length + n1 t := by
  cases h with
  | nil => simp
  | cons h => exact h.lens.p1
theorem Quo.len2 {t w : List Nat} (h : Quo t w) : w.length ≤ 2 + t.length + 3 * n2 t := by
  cases h with
  | nil => simp
  | cons h => exact h.lens.p2
theorem Quo.spl {t w z : List Nat} (h : Quo t w) (hz : z = [] ∨ z.head? = some 32) : Lx.spl (w ++ z) = (Lx.spl z).map fun ts => t :: ts := by
  have g := h.good z hz
  obtain ⟨a, r, rfl, n⟩ := h.head
  exact spl_tok n g
end Lx

set_option Elab.async false
set_option linter.all false
set_option maxRecDepth 100000
set_option maxHeartbeats 4000000
/-! what the defs of k42_shortest_quoting read as, over data -/
namespace K42
open PySem L2 DL
abbrev d_MAX_LINE : D := .int 200
abbrev d_ALPHABET : D := .str (cs " !\"#$&'()*+,-./0123456789:;<=>?@ABCDEFGHIJKLMNOPQRSTUVWXYZ[\\]^_`abcdefghijklmnopqrstuvwxyz{|}~")
abbrev d_SPACE : D := .str (cs " ")
abbrev d_SINGLE : D := .str (cs "'")
abbrev d_DOUBLE : D := .str (cs "\"")
abbrev d_BACKSLASH : D := .str (cs "\\")
structure CF_Splitter (K : PySem.W.Frag) (C : Addr) : Prop where
  cl : Cls K C
  n_line : NoAttr K C "line"
  n_position : NoAttr K C "position"
  n_found : NoAttr K C "found"
def rd_check_line : DTS :=
  (dSeq (dIfS (dNot (dTru (dCB aIsi (dCons (dVar 0) (dCons (dC (.ty "str")) dNil))))) dNever dNext)
    (dFor (dEnum (dVar 0)) (gTupD 2 (gConsD (gNm 1) (gConsD (gNm 2) gNilD))) (dIfS (dOr (dB (dOp aEq (dVar 1) (dC d_MAX_LINE))) (dB (dOp aNotIn (dVar 2) (dC d_ALPHABET)))) dNever dNext)))
def rd_is_token : DTS :=
  (dRet (dAndV (dCB aIsi (dCons (dVar 0) (dCons (dC (.ty "str")) dNil))) (dAndV (dOp aLe (dCB aLen (dCons (dVar 0) dNil)) (dC d_MAX_LINE)) (dCB aAll (dCons (dLc (dSeqI (dVar 0)) (gNm 1) dYes (dOp aIn (dVar 1) (dC d_ALPHABET)) [1]) dNil)))))
def rd_check_tokens (sp_is_token : SpD) : DTS :=
  (dSeq (dIfS (dNot (dTru (dIsi2 "list" "tuple" (dVar 0)))) dNever dNext)
    (dFor (dEnum (dVar 0)) (gTupD 2 (gConsD (gNm 1) (gConsD (gNm 2) gNilD))) (dIfS (dNot (dTru (dCall sp_is_token [] (dCons (dVar 2) dNil)))) dNever dNext)))
def rd_Splitter_init (K : PySem.W.Frag) : DTS :=
  (dSeq (dSetF K "line" (dVar 0) (dVar 1))
    (dSeq (dSetF K "position" (dVar 0) (dC (.int 0)))
    (dSetF K "found" (dVar 0) (dLstM dNil))))
def rd_Splitter_run (K : PySem.W.Frag) (C_Splitter : Addr) (sp_Splitter_read_token : SpD) : DTS :=
  (dSeq (dWhile (dB (dOp aLt (dFld K "position" (dVar 0)) (dCB aLen (dCons (dFld K "line" (dVar 0)) dNil)))) (dIfS (dB (dOp aEq (dOp aIx (dFld K "line" (dVar 0)) (dFld K "position" (dVar 0))) (dC d_SPACE))) (dAugF K "position" aIAdd (dVar 0) (dC (.int 1))) (dDrop (dAppend (dFld K "found" (dVar 0)) (dCons (dMeth C_Splitter "read_token" sp_Splitter_read_token [] (dVar 0) dNil) dNil)))))
    (dRet (dFld K "found" (dVar 0))))
def rd_Splitter_read_token (K : PySem.W.Frag) (C_Splitter : Addr) (sp_Splitter_read_quoted : SpD) (sp_Splitter_read_escaped : SpD) : DTS :=
  (dSeq (dAsg (dLstM dNil) (gNm 1))
    (dSeq (dWhile (dAnd (dB (dOp aLt (dFld K "position" (dVar 0)) (dCB aLen (dCons (dFld K "line" (dVar 0)) dNil)))) (dB (dOp aNe (dOp aIx (dFld K "line" (dVar 0)) (dFld K "position" (dVar 0))) (dC d_SPACE)))) (dSeq (dAsg (dOp aIx (dFld K "line" (dVar 0)) (dFld K "position" (dVar 0))) (gNm 2))
    (dIfS (dB (dOp aIn (dVar 2) (dTup (dCons (dC d_SINGLE) (dCons (dC d_DOUBLE) dNil))))) (dDrop (dAppend (dVar 1) (dCons (dMeth C_Splitter "read_quoted" sp_Splitter_read_quoted [] (dVar 0) (dCons (dVar 2) dNil)) dNil))) (dIfS (dB (dOp aEq (dVar 2) (dC d_BACKSLASH))) (dDrop (dAppend (dVar 1) (dCons (dMeth C_Splitter "read_escaped" sp_Splitter_read_escaped [] (dVar 0) dNil) dNil))) (dSeq (dDrop (dAppend (dVar 1) (dCons (dVar 2) dNil)))
    (dAugF K "position" aIAdd (dVar 0) (dC (.int 1))))))))
    (dRet (dJoin (dC (.str (cs ""))) (dVar 1)))))
def rd_Splitter_read_escaped (K : PySem.W.Frag) : DTS :=
  (dSeq (dIfS (dB (dOp aEq (dOp aAdd (dFld K "position" (dVar 0)) (dC (.int 1))) (dCB aLen (dCons (dFld K "line" (dVar 0)) dNil)))) dNever dNext)
    (dSeq (dAugF K "position" aIAdd (dVar 0) (dC (.int 2)))
    (dRet (dOp aIx (dFld K "line" (dVar 0)) (dOp aSub (dFld K "position" (dVar 0)) (dC (.int 1)))))))
def rd_Splitter_read_quoted (K : PySem.W.Frag) (C_Splitter : Addr) (sp_Splitter_read_escaped : SpD) : DTS :=
  (dSeq (dPar 2 3 (dCons (dFld K "position" (dVar 0)) (dCons (dLstM dNil) dNil)))
    (dSeq (dAugF K "position" aIAdd (dVar 0) (dC (.int 1)))
    (dSeq (dWhile (dB (dOp aLt (dFld K "position" (dVar 0)) (dCB aLen (dCons (dFld K "line" (dVar 0)) dNil)))) (dSeq (dAsg (dOp aIx (dFld K "line" (dVar 0)) (dFld K "position" (dVar 0))) (gNm 4))
    (dSeq (dIfS (dB (dOp aEq (dVar 4) (dVar 1))) (dSeq (dAugF K "position" aIAdd (dVar 0) (dC (.int 1)))
    (dRet (dJoin (dC (.str (cs ""))) (dVar 3)))) dNext)
    (dIfS (dAnd (dB (dOp aEq (dVar 4) (dC d_BACKSLASH))) (dB (dOp aEq (dVar 1) (dC d_DOUBLE)))) (dSeq (dIfS (dB (dOp aEq (dOp aAdd (dFld K "position" (dVar 0)) (dC (.int 1))) (dCB aLen (dCons (dFld K "line" (dVar 0)) dNil)))) dBreak dNext)
    (dDrop (dAppend (dVar 3) (dCons (dMeth C_Splitter "read_escaped" sp_Splitter_read_escaped [] (dVar 0) dNil) dNil)))) (dSeq (dDrop (dAppend (dVar 3) (dCons (dVar 4) dNil)))
    (dAugF K "position" aIAdd (dVar 0) (dC (.int 1))))))))
    dNever)))
def rd_split_line (sp_check_line : SpD) (C_Splitter : Addr) (sp_Splitter_run : SpD) (sp_Splitter_init : SpD) : DTS :=
  (dSeq (dDrop (dCall sp_check_line [] (dCons (dVar 0) dNil)))
    (dRet (dMeth C_Splitter "run" sp_Splitter_run [] (dMake C_Splitter sp_Splitter_init [] (dCons (dVar 0) dNil)) dNil)))
def rd_better : DTS :=
  (dRet (dOp aIx (dCB aMinL (dCons (dLc (dSeqI (dVar 0)) (gNm 1) dYes (dTup (dCons (dCB aLen (dCons (dVar 1) dNil)) (dCons (dVar 1) dNil))) [1]) dNil)) (dC (.int 1))))
def rd_quote_token (sp_better : SpD) : DTS :=
  (dSeq (dIfS (dB (dOp aEq (dVar 0) (dC (.str (cs ""))))) (dRet (dOp aAdd (dC d_DOUBLE) (dC d_DOUBLE))) dNext)
    (dSeq (dPar3 1 2 3 (dCons (dC (.str (cs ""))) (dCons (dC d_SINGLE) (dCons (dC d_DOUBLE) dNil))))
    (dSeq (dFor (dSeqI (dRevS (dVar 0))) (gNm 4) (dSeq (dAsg (dOp aAdd (dC d_BACKSLASH) (dVar 4)) (gNm 5))
    (dSeq (dAsg (dOp aAdd (dLst (dCons (dOp aAdd (dVar 5) (dVar 3)) dNil)) (dIf (dB (dOp aNotIn (dVar 4) (dTup (dCons (dC d_DOUBLE) (dCons (dC d_BACKSLASH) dNil))))) (dLst (dCons (dOp aAdd (dVar 4) (dVar 3)) dNil)) (dLst dNil))) (gNm 6))
    (dSeq (dAsg (dIf (dB (dOp aNe (dVar 4) (dC d_SINGLE))) (dLst (dCons (dOp aAdd (dVar 4) (dVar 2)) dNil)) (dLst dNil)) (gNm 7))
    (dSeq (dAsg (dLstM (dCons (dOp aAdd (dVar 5) (dVar 1)) dNil)) (gNm 8))
    (dSeq (dIfS (dB (dOp aNotIn (dVar 4) (dTup (dCons (dC d_SPACE) (dCons (dC d_SINGLE) (dCons (dC d_DOUBLE) (dCons (dC d_BACKSLASH) dNil))))))) (dDrop (dAppend (dVar 8) (dCons (dOp aAdd (dVar 4) (dVar 1)) dNil))) dNext)
    (dSeq (dDrop (dExtend (dVar 8) (dCons (dOp aAdd (dLc (dSeqI (dVar 7)) (gNm 9) dYes (dOp aAdd (dC d_SINGLE) (dVar 9)) [9]) (dLc (dSeqI (dVar 6)) (gNm 9) dYes (dOp aAdd (dC d_DOUBLE) (dVar 9)) [9])) dNil)))
    (dSeq (dAsg (dCall sp_better [] (dCons (dVar 8) dNil)) (gNm 1))
    (dSeq (dAsg (dCall sp_better [] (dCons (dOp aAdd (dVar 7) (dLst (dCons (dOp aAdd (dC d_SINGLE) (dVar 1)) dNil))) dNil)) (gNm 2))
    (dAsg (dCall sp_better [] (dCons (dOp aAdd (dVar 6) (dLst (dCons (dOp aAdd (dC d_DOUBLE) (dVar 1)) dNil))) dNil)) (gNm 3)))))))))))
    (dRet (dVar 1)))))
def rd_quote (sp_check_tokens : SpD) (sp_quote_token : SpD) : DTS :=
  (dSeq (dDrop (dCall sp_check_tokens [] (dCons (dLst (dCons (dVar 0) dNil)) dNil)))
    (dRet (dCall sp_quote_token [] (dCons (dVar 0) dNil))))
def rd_join_line (sp_check_tokens : SpD) (sp_quote_token : SpD) : DTS :=
  (dSeq (dDrop (dCall sp_check_tokens [] (dCons (dVar 0) dNil)))
    (dSeq (dAsg (dJoin (dC d_SPACE) (dLc (dSeqI (dVar 0)) (gNm 2) dYes (dCall sp_quote_token [] (dCons (dVar 2) dNil)) [2])) (gNm 1))
    (dSeq (dIfS (dB (dOp aGt (dCB aLen (dCons (dVar 1) dNil)) (dC d_MAX_LINE))) dNever dNext)
    (dRet (dVar 1)))))
def rd__law_taken : DTS :=
  (dSeq (dIfS (dB (dOp aGt (dOp aIx (dVar 0) (dC (.int 3))) (dC (.int 0)))) (dSeq (dAsg (dOp aMod (dCB aInt (dCons (dOp aIx (dVar 0) (dC (.int 3))) dNil)) (dVar 1)) (gNm 2))
    (dSeq (dSetIx (dVar 0) (dC (.int 3)) (dOp aDiv (dOp aIx (dVar 0) (dC (.int 3))) (dVar 1)))
    (dRet (dVar 2)))) dNext)
    (dSeq (dSetIx (dVar 0) (dC (.int 1)) (dOp aAdd (dOp aIx (dVar 0) (dC (.int 1))) (dC (.int 1))))
    (dSeq (dIfS (dB (dOp aGt (dOp aIx (dVar 0) (dC (.int 1))) (dCB aLen (dCons (dOp aIx (dVar 0) (dC (.int 0))) dNil)))) (dSeq (dSetIx (dVar 0) (dC (.int 2)) (dOp aMod (dOp aAdd (dOp aMul (dOp aIx (dVar 0) (dC (.int 2))) (dC (.int 48271))) (dC (.int 11))) (dC (.int 2147483647))))
    (dRet (dOp aMod (dOp aDiv (dOp aIx (dVar 0) (dC (.int 2))) (dC (.int 7))) (dVar 1)))) dNext)
    (dSeq (dAsg (dOp aIx (dOp aIx (dVar 0) (dC (.int 0))) (dOp aSub (dOp aIx (dVar 0) (dC (.int 1))) (dC (.int 1)))) (gNm 3))
    (dSeq (dSetIx (dVar 0) (dC (.int 2)) (dOp aMod (dOp aAdd (dOp aAdd (dOp aMul (dOp aIx (dVar 0) (dC (.int 2))) (dC (.int 48271))) (dVar 3)) (dC (.int 11))) (dC (.int 2147483647))))
    (dSeq (dIfS (dB (dOp aGe (dVar 3) (dOp aPow (dC (.int 10)) (dC (.int 18))))) (dSetIx (dVar 0) (dC (.int 3)) (dOp aDiv (dVar 3) (dVar 1))) dNext)
    (dRet (dOp aMod (dCB aInt (dCons (dVar 3) dNil)) (dVar 1)))))))))
def rd__law_alike (sp__law_alike : SpD) : DTS :=
  (dSeq (dIfS (dAnd (dTru (dIsi2 "tuple" "list" (dVar 0))) (dTru (dIsi2 "tuple" "list" (dVar 1)))) (dSeq (dIfS (dOr (dB (dOp aNe (dCB aIsi (dCons (dVar 0) (dCons (dC (.ty "tuple")) dNil))) (dCB aIsi (dCons (dVar 1) (dCons (dC (.ty "tuple")) dNil))))) (dB (dOp aNe (dCB aLen (dCons (dVar 0) dNil)) (dCB aLen (dCons (dVar 1) dNil))))) (dRet (dC (.bl false))) dNext)
    (dRet (dOp aEq (dLc (dRange1 (dCons (dCB aLen (dCons (dVar 0) dNil)) dNil)) (gNm 2) (dNot (dTru (dCall sp__law_alike [] (dCons (dOp aIx (dVar 0) (dVar 2)) (dCons (dOp aIx (dVar 1) (dVar 2)) dNil))))) (dVar 2) [2]) (dLst dNil)))) dNext)
    (dRet (dAndV (dOp aEq (dVar 0) (dVar 1)) (dOp aEq (dCB aIsi (dCons (dVar 0) (dCons (dC (.ty "bool")) dNil))) (dCB aIsi (dCons (dVar 1) (dCons (dC (.ty "bool")) dNil)))))))
def rd__law_signs : DTS :=
  (dRet (dC (.str (cs " !\"#$&'()*+,-./0123456789:;<=>?@ABCDEFGHIJKLMNOPQRSTUVWXYZ[\\]^_`abcdefghijklmnopqrstuvwxyz{|}~"))))
def rd__law_word (sp__law_signs : SpD) (sp__law_taken : SpD) : DTS :=
  (dSeq (dAsg (dOp aIx (dLst (dCons (dC (.str (cs "ab"))) (dCons (dC (.str (cs " '\"\\"))) (dCons (dC (.str (cs "a '\"\\b"))) (dCons (dC (.str (cs "-=a"))) (dCons (dCall sp__law_signs [] dNil) dNil)))))) (dCall sp__law_taken [] (dCons (dVar 0) (dCons (dC (.int 5)) dNil)))) (gNm 2))
    (dRet (dJoin (dC (.str (cs ""))) (dLc (dRange1 (dCons (dCall sp__law_taken [] (dCons (dVar 0) (dCons (dOp aAdd (dVar 1) (dC (.int 1))) dNil))) dNil)) (gNm 3) dYes (dOp aIx (dVar 2) (dCall sp__law_taken [] (dCons (dVar 0) (dCons (dCB aLen (dCons (dVar 2) dNil)) dNil)))) [3]))))
def rd__law_ways (sp__law_ways : SpD) : DTS :=
  (dSeq (dIfS (dB (dOp aEq (dVar 0) (dC (.str (cs ""))))) (dRet (dLst (dCons (dVar 1) dNil))) dNext)
    (dSeq (dPar 2 3 (dCons (dOp aIx (dVar 0) (dC (.int 0))) (dCons (dLst dNil) dNil)))
    (dSeq (dAsg (dOp aAdd (dLst (dCons (dC (.str (cs ""))) dNil)) (dOp aMul (dLst (dCons (dC (.str (cs "'"))) (dCons (dC (.str (cs "\""))) dNil))) (dCB aInt (dCons (dOp aEq (dVar 1) (dC (.str (cs "")))) dNil)))) (gNm 4))
    (dSeq (dFor (dSeqI (dVar 4)) (gNm 5) (dSeq (dAsg (dOp aAdd (dVar 1) (dVar 5)) (gNm 6))
    (dSeq (dAsg (dOp aMulM (dLst (dCons (dOp aAdd (dC (.str (cs "\\"))) (dVar 2)) dNil)) (dCB aInt (dCons (dOp aNe (dVar 6) (dC (.str (cs "'")))) dNil))) (gNm 7))
    (dSeq (dIfS (dOr (dAnd (dB (dOp aEq (dVar 6) (dC (.str (cs ""))))) (dB (dOp aNotIn (dVar 2) (dC (.str (cs " '\"\\")))))) (dOr (dAnd (dB (dOp aEq (dVar 6) (dC (.str (cs "'"))))) (dB (dOp aNe (dVar 2) (dC (.str (cs "'")))))) (dAnd (dB (dOp aEq (dVar 6) (dC (.str (cs "\""))))) (dB (dOp aNotIn (dVar 2) (dC (.str (cs "\"\\")))))))) (dDrop (dAppend (dVar 7) (dCons (dVar 2) dNil))) dNext)
    (dFor (dSeqI (dVar 7)) (gNm 8) (dSeq (dAsg (dOp aAdd (dVar 3) (dLc (dSeqI (dCall sp__law_ways [] (dCons (dSl aSl (dVar 0) (dPart (dC (.int 1))) dNo) (dCons (dVar 6) dNil)))) (gNm 9) dYes (dOp aAdd (dOp aAdd (dVar 5) (dVar 8)) (dVar 9)) [9])) (gNm 3))
    (dIfS (dB (dOp aNe (dVar 6) (dC (.str (cs ""))))) (dAsg (dOp aAdd (dVar 3) (dLc (dSeqI (dCall sp__law_ways [] (dCons (dSl aSl (dVar 0) (dPart (dC (.int 1))) dNo) (dCons (dC (.str (cs ""))) dNil)))) (gNm 9) dYes (dOp aAdd (dOp aAdd (dOp aAdd (dVar 5) (dVar 8)) (dVar 6)) (dVar 9)) [9])) (gNm 3)) dNext)))))))
    (dRet (dVar 3))))))
def rd_law (sp__law_word : SpD) (sp__law_ways : SpD) (sp__law_alike : SpD) (sp_quote : SpD) (sp__law_taken : SpD) (sp_split_line : SpD) (sp_join_line : SpD) : DTS :=
  (dSeq (dAsg (dLstM (dCons (dVar 0) (dCons (dC (.int 0)) (dCons (dC (.int 0)) (dCons (dC (.int 0)) dNil))))) (gNm 1))
    (dSeq (dFor (dRange1 (dCons (dC (.int 4)) dNil)) (gNm 2) (dSeq (dAsg (dCall sp__law_word [] (dCons (dVar 1) (dCons (dC (.int 4)) dNil))) (gNm 3))
    (dSeq (dAsg (dIf (dB (dOp aEq (dVar 3) (dC (.str (cs ""))))) (dLst (dCons (dC (.str (cs "\"\""))) dNil)) (dCall sp__law_ways [] (dCons (dVar 3) (dCons (dC (.str (cs ""))) dNil)))) (gNm 4))
    (dIfS (dNot (dTru (dCall sp__law_alike [] (dCons (dCall sp_quote [] (dCons (dVar 3) dNil)) (dCons (dOp aIx (dCB aMinL (dCons (dLc (dSeqI (dVar 4)) (gNm 5) dYes (dTup (dCons (dCB aLen (dCons (dVar 5) dNil)) (dCons (dVar 5) dNil))) [5]) dNil)) (dC (.int 1))) dNil))))) (dRet (dC (.bl false))) dNext))))
    (dSeq (dAsg (dLc (dRange1 (dCons (dCall sp__law_taken [] (dCons (dVar 1) (dCons (dC (.int 6)) dNil))) dNil)) (gNm 7) dYes (dCall sp__law_word [] (dCons (dVar 1) (dCons (dC (.int 20)) dNil))) [7]) (gNm 6))
    (dSeq (dFor (dSeqI (dVar 6)) (gNm 3) (dSeq (dAsg (dOp aAdd (dOp aAdd (dC (.str (cs "\""))) (dJoin (dC (.str (cs ""))) (dLc (dSeqI (dVar 3)) (gNm 9) dYes (dOp aAdd (dOp aMulS (dC (.str (cs "\\"))) (dCB aInt (dCons (dOp aIn (dVar 9) (dC (.str (cs "\"\\")))) dNil))) (dVar 9)) [9]))) (dC (.str (cs "\"")))) (gNm 8))
    (dSeq (dIfS (dOr (dB (dOp aNe (dCall sp_split_line [] (dCons (dCall sp_quote [] (dCons (dVar 3) dNil)) dNil)) (dLst (dCons (dVar 3) dNil)))) (dB (dOp aGt (dCB aLen (dCons (dCall sp_quote [] (dCons (dVar 3) dNil)) dNil)) (dCB aLen (dCons (dVar 8) dNil))))) (dRet (dC (.bl false))) dNext)
    (dIfS (dAnd (dB (dOp aNotIn (dC (.str (cs "'"))) (dVar 3))) (dB (dOp aGt (dCB aLen (dCons (dCall sp_quote [] (dCons (dVar 3) dNil)) dNil)) (dOp aAdd (dCB aLen (dCons (dVar 3) dNil)) (dC (.int 2)))))) (dRet (dC (.bl false))) dNext))))
    (dSeq (dAsg (dCall sp_join_line [] (dCons (dVar 6) dNil)) (gNm 10))
    (dRet (dAndV (dOp aEq (dCall sp_split_line [] (dCons (dVar 10) dNil)) (dVar 6)) (dOp aEq (dVar 10) (dJoin (dC (.str (cs " "))) (dLc (dSeqI (dVar 6)) (gNm 3) dYes (dCall sp_quote [] (dCons (dVar 3) dNil)) [3]))))))))))
end K42

set_option Elab.async false
set_option linter.all false
set_option maxRecDepth 100000
set_option maxHeartbeats 4000000
/-! the defs of k42_shortest_quoting walked -/
namespace K42
open PySem L2 DL PySem.Spec PyProof.Rows
def top (i : Nat) : Stmt := PySem.Challenge.pw_flagclause_k42_shortest_quoting.main.body.getD i (.Pass ⟨0, 0, 0, 0⟩)
/-- what the top has written under the names that are read -/
structure Txt (K : PySem.W.Frag) (mg : Str → Option Value) : Prop where
  b_all : mg "all" = none
  b_bool : mg "bool" = none
  b_enumerate : mg "enumerate" = none
  b_int : mg "int" = none
  b_isinstance : mg "isinstance" = none
  b_len : mg "len" = none
  b_list : mg "list" = none
  b_min : mg "min" = none
  b_range : mg "range" = none
  b_str : mg "str" = none
  b_tuple : mg "tuple" = none
  g_ALPHABET : GlobD K mg "ALPHABET" d_ALPHABET
  g_BACKSLASH : GlobD K mg "BACKSLASH" d_BACKSLASH
  g_DOUBLE : GlobD K mg "DOUBLE" d_DOUBLE
  g_MAX_LINE : GlobD K mg "MAX_LINE" d_MAX_LINE
  g_SINGLE : GlobD K mg "SINGLE" d_SINGLE
  g_SPACE : GlobD K mg "SPACE" d_SPACE
section
variable {P : Program} {w : World} {K : PySem.W.Frag} {mg : Str → Option Value} {base : Heap}
abbrev s_check_line : Stmt := top 11
theorem sc_check_line : FnScope ["line", "index", "character"] ["line"] (defScope s_check_line) := ⟨rfl, rfl, rfl, by decide +kernel, rfl, by decide +kernel, by decide +kernel⟩
theorem wk_check_line (T : Txt K mg) {j : Nat} {f : Addr} {cdv : Value} {A : Around} {outer : List PySem.Env} {s : Shared} {H : Hp} {E : XK} (hr : Room j (A.deeper (envOfC "check_line" (defScope s_check_line) s.heap.objs.size f cdv))) :
    DSs (cxOf (L2.CX P w) P w K mg base ["line", "index", "character"] "check_line" (defScope s_check_line) f cdv A outer s H E) (defBody s_check_line) (rd_check_line) :=
  (dss_cons (ds_if (dt_not (dt_tru (de_callB call_Isi T.b_isinstance rfl (da_cons (de_var 0) (da_cons (de_ty T.b_str rfl) da_nil))))) (dss_one ds_never) dss_nil)
    (dss_one (ds_for (passes_of rfl) rfl (di_enum T.b_enumerate (de_var 0)) (dg_tup rfl (dgs_cons (dg_name 1 sc_check_line.nd) (dgs_cons (dg_name 2 sc_check_line.nd) dgs_nil))) (dss_one (ds_if (dw_or (dt_cmp (op_Eq hr.units) (de_var 1) (de_g T.g_MAX_LINE)) (dw_or1 (dt_cmp (op_NotIn hr.units) (de_var 2) (de_g T.g_ALPHABET)))).dt (dss_one ds_never) dss_nil)))))
abbrev s_is_token : Stmt := top 12
theorem sc_is_token : FnScope ["value", "character"] ["value"] (defScope s_is_token) := ⟨rfl, rfl, rfl, by decide +kernel, rfl, by decide +kernel, by decide +kernel⟩
theorem wk_is_token (T : Txt K mg) {j : Nat} {f : Addr} {cdv : Value} {A : Around} {outer : List PySem.Env} {s : Shared} {H : Hp} {E : XK} (hr : Room j (A.deeper (envOfC "is_token" (defScope s_is_token) s.heap.objs.size f cdv))) :
    DSs (cxOf (L2.CX P w) P w K mg base ["value", "character"] "is_token" (defScope s_is_token) f cdv A outer s H E) (defBody s_is_token) (rd_is_token) :=
  (dss_one (ds_ret (de_and (de_callB call_Isi T.b_isinstance rfl (da_cons (de_var 0) (da_cons (de_ty T.b_str rfl) da_nil))) (de_and (de_cmp (op_Le hr.units) (de_callB call_Len T.b_len rfl (da_cons (de_var 0) da_nil)) (de_g T.g_MAX_LINE)) (de_one (de_callB (call_All rfl) T.b_all rfl (da_cons (de_lc (own := [("character", 1)]) rfl sc_is_token.nd (di_seq (de_var 0)) ⟨blkOk_by (N := ["value", "character"]) (sc := defScope s_is_token) (by decide +kernel), ⟨_, by decide, fun _ _ _ _ _ => (dg_name 1 sc_is_token.nd)⟩, fun _ _ _ _ _ => dts_nil, fun _ _ _ _ _ => (de_cmp (op_In hr.units) (de_var 1) (de_g T.g_ALPHABET))⟩) da_nil)))))))
abbrev s_check_tokens : Stmt := top 13
theorem sc_check_tokens : FnScope ["tokens", "index", "token"] ["tokens"] (defScope s_check_tokens) := ⟨rfl, rfl, rfl, by decide +kernel, rfl, by decide +kernel, by decide +kernel⟩
theorem wk_check_tokens (T : Txt K mg) {j : Nat} {sp_is_token : SpD} {k_is_token : Nat} (c_is_token : CallD P w K mg base k_is_token "is_token" sp_is_token []) (h_is_token : k_is_token ≤ j) {f : Addr} {cdv : Value} {A : Around} {outer : List PySem.Env} {s : Shared} {H : Hp} {E : XK} (hr : Room j (A.deeper (envOfC "check_tokens" (defScope s_check_tokens) s.heap.objs.size f cdv))) :
    DSs (cxOf (L2.CX P w) P w K mg base ["tokens", "index", "token"] "check_tokens" (defScope s_check_tokens) f cdv A outer s H E) (defBody s_check_tokens) (rd_check_tokens sp_is_token) :=
  (dss_cons (ds_if (dt_not (dt_tru (de_isi2 (de_var 0) T.b_isinstance T.b_list rfl T.b_tuple rfl))) (dss_one ds_never) dss_nil)
    (dss_one (ds_for (passes_of rfl) rfl (di_enum T.b_enumerate (de_var 0)) (dg_tup rfl (dgs_cons (dg_name 1 sc_check_tokens.nd) (dgs_cons (dg_name 2 sc_check_tokens.nd) dgs_nil))) (dss_one (ds_if (dt_not (dt_tru (de_call c_is_token hr h_is_token (da_cons (de_var 2) da_nil)))) (dss_one ds_never) dss_nil)))))
abbrev s_Splitter_init : Stmt := inClass (top 14) 0
theorem sc_Splitter_init : FnScope ["self", "line"] ["self", "line"] (defScope s_Splitter_init) := ⟨rfl, rfl, rfl, by decide +kernel, rfl, by decide +kernel, by decide +kernel⟩
theorem wk_Splitter_init (T : Txt K mg) {j : Nat} {f : Addr} {cdv : Value} {A : Around} {outer : List PySem.Env} {s : Shared} {H : Hp} {E : XK} (hr : Room j (A.deeper (envOfC "Splitter.__init__" (defScope s_Splitter_init) s.heap.objs.size f cdv))) :
    DSs (cxOf (L2.CX P w) P w K mg base ["self", "line"] "Splitter.__init__" (defScope s_Splitter_init) f cdv A outer s H E) (defBody s_Splitter_init) (rd_Splitter_init K) :=
  (dss_cons (ds_setF (de_var 0) (de_var 1))
    (dss_cons (ds_setF (de_var 0) de_int)
    (dss_one (ds_setF (de_var 0) (de_lstM da_nil)))))
abbrev s_Splitter_run : Stmt := inClass (top 14) 1
theorem sc_Splitter_run : FnScope ["self"] ["self"] (defScope s_Splitter_run) := ⟨rfl, rfl, rfl, by decide +kernel, rfl, by decide +kernel, by decide +kernel⟩
theorem wk_Splitter_run (T : Txt K mg) {j : Nat} {C_Splitter : Addr} {sp_Splitter_read_token : SpD} {k_Splitter_read_token : Nat} (m_Splitter_read_token : MethD P w K mg base k_Splitter_read_token C_Splitter "read_token" sp_Splitter_read_token []) (h_Splitter_read_token : k_Splitter_read_token ≤ j) {f : Addr} {cdv : Value} {A : Around} {outer : List PySem.Env} {s : Shared} {H : Hp} {E : XK} (hr : Room j (A.deeper (envOfC "Splitter.run" (defScope s_Splitter_run) s.heap.objs.size f cdv))) :
    DSs (cxOf (L2.CX P w) P w K mg base ["self"] "Splitter.run" (defScope s_Splitter_run) f cdv A outer s H E) (defBody s_Splitter_run) (rd_Splitter_run K C_Splitter sp_Splitter_read_token) :=
  (dss_cons (ds_while (passes_of rfl) (dt_cmp (op_Lt hr.units) (de_fld (de_var 0)) (de_callB call_Len T.b_len rfl (da_cons (de_fld (de_var 0)) da_nil))) (dss_one (ds_if (dt_cmp (op_Eq hr.units) (de_ix ix_All (de_fld (de_var 0)) (de_fld (de_var 0))) (de_g T.g_SPACE)) (dss_one (ds_augF iop_Add (de_var 0) de_int)) (dss_one (ds_expr (de_append (de_fld (de_var 0)) (da_cons (de_meth0 m_Splitter_read_token hr h_Splitter_read_token (de_var 0)) da_nil)))))))
    (dss_one (ds_ret (de_fld (de_var 0)))))
abbrev s_Splitter_read_token : Stmt := inClass (top 14) 2
theorem sc_Splitter_read_token : FnScope ["self", "parts", "character"] ["self"] (defScope s_Splitter_read_token) := ⟨rfl, rfl, rfl, by decide +kernel, rfl, by decide +kernel, by decide +kernel⟩
theorem wk_Splitter_read_token (T : Txt K mg) {j : Nat} {C_Splitter : Addr} {sp_Splitter_read_quoted : SpD} {sp_Splitter_read_escaped : SpD} {k_Splitter_read_quoted : Nat} (m_Splitter_read_quoted : MethD P w K mg base k_Splitter_read_quoted C_Splitter "read_quoted" sp_Splitter_read_quoted []) (h_Splitter_read_quoted : k_Splitter_read_quoted ≤ j) {k_Splitter_read_escaped : Nat} (m_Splitter_read_escaped : MethD P w K mg base k_Splitter_read_escaped C_Splitter "read_escaped" sp_Splitter_read_escaped []) (h_Splitter_read_escaped : k_Splitter_read_escaped ≤ j) {f : Addr} {cdv : Value} {A : Around} {outer : List PySem.Env} {s : Shared} {H : Hp} {E : XK} (hr : Room j (A.deeper (envOfC "Splitter.read_token" (defScope s_Splitter_read_token) s.heap.objs.size f cdv))) :
    DSs (cxOf (L2.CX P w) P w K mg base ["self", "parts", "character"] "Splitter.read_token" (defScope s_Splitter_read_token) f cdv A outer s H E) (defBody s_Splitter_read_token) (rd_Splitter_read_token K C_Splitter sp_Splitter_read_quoted sp_Splitter_read_escaped) :=
  (dss_cons (ds_set 1 sc_Splitter_read_token.nd (de_lstM da_nil))
    (dss_cons (ds_while (passes_of rfl) (dw_and (dt_cmp (op_Lt hr.units) (de_fld (de_var 0)) (de_callB call_Len T.b_len rfl (da_cons (de_fld (de_var 0)) da_nil))) (dw_and1 (dt_cmp (op_Ne hr.units) (de_ix ix_All (de_fld (de_var 0)) (de_fld (de_var 0))) (de_g T.g_SPACE)))).dt (dss_cons (ds_set 2 sc_Splitter_read_token.nd (de_ix ix_All (de_fld (de_var 0)) (de_fld (de_var 0))))
    (dss_one (ds_if (dt_cmp (op_In hr.units) (de_var 2) (de_tup (da_cons (de_g T.g_SINGLE) (da_cons (de_g T.g_DOUBLE) da_nil)))) (dss_one (ds_expr (de_append (de_var 1) (da_cons (de_meth m_Splitter_read_quoted hr h_Splitter_read_quoted (de_var 0) (da_cons (de_var 2) da_nil)) da_nil)))) (dss_one (ds_if (dt_cmp (op_Eq hr.units) (de_var 2) (de_g T.g_BACKSLASH)) (dss_one (ds_expr (de_append (de_var 1) (da_cons (de_meth0 m_Splitter_read_escaped hr h_Splitter_read_escaped (de_var 0)) da_nil)))) (dss_cons (ds_expr (de_append (de_var 1) (da_cons (de_var 2) da_nil)))
    (dss_one (ds_augF iop_Add (de_var 0) de_int)))))))))
    (dss_one (ds_ret (de_join de_str (de_var 1))))))
abbrev s_Splitter_read_escaped : Stmt := inClass (top 14) 3
theorem sc_Splitter_read_escaped : FnScope ["self"] ["self"] (defScope s_Splitter_read_escaped) := ⟨rfl, rfl, rfl, by decide +kernel, rfl, by decide +kernel, by decide +kernel⟩
theorem wk_Splitter_read_escaped (T : Txt K mg) {j : Nat} {f : Addr} {cdv : Value} {A : Around} {outer : List PySem.Env} {s : Shared} {H : Hp} {E : XK} (hr : Room j (A.deeper (envOfC "Splitter.read_escaped" (defScope s_Splitter_read_escaped) s.heap.objs.size f cdv))) :
    DSs (cxOf (L2.CX P w) P w K mg base ["self"] "Splitter.read_escaped" (defScope s_Splitter_read_escaped) f cdv A outer s H E) (defBody s_Splitter_read_escaped) (rd_Splitter_read_escaped K) :=
  (dss_cons (ds_if (dt_cmp (op_Eq hr.units) (de_op op_Add (de_fld (de_var 0)) de_int) (de_callB call_Len T.b_len rfl (da_cons (de_fld (de_var 0)) da_nil))) (dss_one ds_never) dss_nil)
    (dss_cons (ds_augF iop_Add (de_var 0) de_int)
    (dss_one (ds_ret (de_ix ix_All (de_fld (de_var 0)) (de_op op_Sub (de_fld (de_var 0)) de_int))))))
abbrev s_Splitter_read_quoted : Stmt := inClass (top 14) 4
theorem sc_Splitter_read_quoted : FnScope ["self", "quote_character", "start", "parts", "character"] ["self", "quote_character"] (defScope s_Splitter_read_quoted) := ⟨rfl, rfl, rfl, by decide +kernel, rfl, by decide +kernel, by decide +kernel⟩
theorem wk_Splitter_read_quoted (T : Txt K mg) {j : Nat} {C_Splitter : Addr} {sp_Splitter_read_escaped : SpD} {k_Splitter_read_escaped : Nat} (m_Splitter_read_escaped : MethD P w K mg base k_Splitter_read_escaped C_Splitter "read_escaped" sp_Splitter_read_escaped []) (h_Splitter_read_escaped : k_Splitter_read_escaped ≤ j) {f : Addr} {cdv : Value} {A : Around} {outer : List PySem.Env} {s : Shared} {H : Hp} {E : XK} (hr : Room j (A.deeper (envOfC "Splitter.read_quoted" (defScope s_Splitter_read_quoted) s.heap.objs.size f cdv))) :
    DSs (cxOf (L2.CX P w) P w K mg base ["self", "quote_character", "start", "parts", "character"] "Splitter.read_quoted" (defScope s_Splitter_read_quoted) f cdv A outer s H E) (defBody s_Splitter_read_quoted) (rd_Splitter_read_quoted K C_Splitter sp_Splitter_read_escaped) :=
  (dss_cons (ds_par 2 3 rfl sc_Splitter_read_quoted.nd (da_cons (de_fld (de_var 0)) (da_cons (de_lstM da_nil) da_nil)))
    (dss_cons (ds_augF iop_Add (de_var 0) de_int)
    (dss_cons (ds_while (passes_of rfl) (dt_cmp (op_Lt hr.units) (de_fld (de_var 0)) (de_callB call_Len T.b_len rfl (da_cons (de_fld (de_var 0)) da_nil))) (dss_cons (ds_set 4 sc_Splitter_read_quoted.nd (de_ix ix_All (de_fld (de_var 0)) (de_fld (de_var 0))))
    (dss_cons (ds_if (dt_cmp (op_Eq hr.units) (de_var 4) (de_var 1)) (dss_cons (ds_augF iop_Add (de_var 0) de_int)
    (dss_one (ds_ret (de_join de_str (de_var 3))))) dss_nil)
    (dss_one (ds_if (dw_and (dt_cmp (op_Eq hr.units) (de_var 4) (de_g T.g_BACKSLASH)) (dw_and1 (dt_cmp (op_Eq hr.units) (de_var 1) (de_g T.g_DOUBLE)))).dt (dss_cons (ds_if (dt_cmp (op_Eq hr.units) (de_op op_Add (de_fld (de_var 0)) de_int) (de_callB call_Len T.b_len rfl (da_cons (de_fld (de_var 0)) da_nil))) (dss_one ds_break) dss_nil)
    (dss_one (ds_expr (de_append (de_var 3) (da_cons (de_meth0 m_Splitter_read_escaped hr h_Splitter_read_escaped (de_var 0)) da_nil))))) (dss_cons (ds_expr (de_append (de_var 3) (da_cons (de_var 4) da_nil)))
    (dss_one (ds_augF iop_Add (de_var 0) de_int))))))))
    (dss_one ds_never))))
abbrev s_split_line : Stmt := top 15
theorem sc_split_line : FnScope ["line"] ["line"] (defScope s_split_line) := ⟨rfl, rfl, rfl, by decide +kernel, rfl, by decide +kernel, by decide +kernel⟩
theorem wk_split_line (T : Txt K mg) {j : Nat} {sp_check_line : SpD} {C_Splitter : Addr} {sp_Splitter_run : SpD} {sp_Splitter_init : SpD} {k_check_line : Nat} (c_check_line : CallD P w K mg base k_check_line "check_line" sp_check_line []) (h_check_line : k_check_line ≤ j) {k_Splitter_run : Nat} (m_Splitter_run : MethD P w K mg base k_Splitter_run C_Splitter "run" sp_Splitter_run []) (h_Splitter_run : k_Splitter_run ≤ j) {k_Splitter_init : Nat} (k_Splitter : MakD P w K mg base k_Splitter_init "Splitter" C_Splitter sp_Splitter_init []) (h_Splitter_init : k_Splitter_init + 1 ≤ j) {f : Addr} {cdv : Value} {A : Around} {outer : List PySem.Env} {s : Shared} {H : Hp} {E : XK} (hr : Room j (A.deeper (envOfC "split_line" (defScope s_split_line) s.heap.objs.size f cdv))) :
    DSs (cxOf (L2.CX P w) P w K mg base ["line"] "split_line" (defScope s_split_line) f cdv A outer s H E) (defBody s_split_line) (rd_split_line sp_check_line C_Splitter sp_Splitter_run sp_Splitter_init) :=
  (dss_cons (ds_expr (de_call c_check_line hr h_check_line (da_cons (de_var 0) da_nil)))
    (dss_one (ds_ret (de_meth0 m_Splitter_run hr h_Splitter_run (de_make k_Splitter hr h_Splitter_init (da_cons (de_var 0) da_nil))))))
abbrev s_better : Stmt := top 16
theorem sc_better : FnScope ["options", "option"] ["options"] (defScope s_better) := ⟨rfl, rfl, rfl, by decide +kernel, rfl, by decide +kernel, by decide +kernel⟩
theorem wk_better (T : Txt K mg) {j : Nat} {f : Addr} {cdv : Value} {A : Around} {outer : List PySem.Env} {s : Shared} {H : Hp} {E : XK} (hr : Room j (A.deeper (envOfC "better" (defScope s_better) s.heap.objs.size f cdv))) :
    DSs (cxOf (L2.CX P w) P w K mg base ["options", "option"] "better" (defScope s_better) f cdv A outer s H E) (defBody s_better) (rd_better) :=
  (dss_one (ds_ret (de_ix ix_All (de_callB (call_MinL rfl hr.units) T.b_min rfl (da_cons (de_lc (own := [("option", 1)]) rfl sc_better.nd (di_seq (de_var 0)) ⟨blkOk_by (N := ["options", "option"]) (sc := defScope s_better) (by decide +kernel), ⟨_, by decide, fun _ _ _ _ _ => (dg_name 1 sc_better.nd)⟩, fun _ _ _ _ _ => dts_nil, fun _ _ _ _ _ => (de_tup (da_cons (de_callB call_Len T.b_len rfl (da_cons (de_var 1) da_nil)) (da_cons (de_var 1) da_nil)))⟩) da_nil)) de_int)))
abbrev s_quote_token : Stmt := top 17
theorem sc_quote_token : FnScope ["token", "plain", "single", "double", "character", "escaped", "in_double", "in_single", "outside", "rest"] ["token"] (defScope s_quote_token) := ⟨rfl, rfl, rfl, by decide +kernel, rfl, by decide +kernel, by decide +kernel⟩
theorem wk_quote_token (T : Txt K mg) {j : Nat} {sp_better : SpD} {k_better : Nat} (c_better : CallD P w K mg base k_better "better" sp_better []) (h_better : k_better ≤ j) {f : Addr} {cdv : Value} {A : Around} {outer : List PySem.Env} {s : Shared} {H : Hp} {E : XK} (hr : Room j (A.deeper (envOfC "quote_token" (defScope s_quote_token) s.heap.objs.size f cdv))) :
    DSs (cxOf (L2.CX P w) P w K mg base ["token", "plain", "single", "double", "character", "escaped", "in_double", "in_single", "outside", "rest"] "quote_token" (defScope s_quote_token) f cdv A outer s H E) (defBody s_quote_token) (rd_quote_token sp_better) :=
  (dss_cons (ds_if (dt_cmp (op_Eq hr.units) (de_var 0) de_str) (dss_one (ds_ret (de_op op_Add (de_g T.g_DOUBLE) (de_g T.g_DOUBLE)))) dss_nil)
    (dss_cons (ds_par3 1 2 3 rfl sc_quote_token.nd (da_cons de_str (da_cons (de_g T.g_SINGLE) (da_cons (de_g T.g_DOUBLE) da_nil))))
    (dss_cons (ds_for (passes_of rfl) rfl (di_seq (de_revS (de_var 0))) (dg_name 4 sc_quote_token.nd) (dss_cons (ds_set 5 sc_quote_token.nd (de_op op_Add (de_g T.g_BACKSLASH) (de_var 4)))
    (dss_cons (ds_set 6 sc_quote_token.nd (de_op op_Add (de_lst (da_cons (de_op op_Add (de_var 5) (de_var 3)) da_nil)) (de_if (dt_cmp (op_NotIn hr.units) (de_var 4) (de_tup (da_cons (de_g T.g_DOUBLE) (da_cons (de_g T.g_BACKSLASH) da_nil)))) (de_lst (da_cons (de_op op_Add (de_var 4) (de_var 3)) da_nil)) (de_lst da_nil))))
    (dss_cons (ds_set 7 sc_quote_token.nd (de_if (dt_cmp (op_Ne hr.units) (de_var 4) (de_g T.g_SINGLE)) (de_lst (da_cons (de_op op_Add (de_var 4) (de_var 2)) da_nil)) (de_lst da_nil)))
    (dss_cons (ds_set 8 sc_quote_token.nd (de_lstM (da_cons (de_op op_Add (de_var 5) (de_var 1)) da_nil)))
    (dss_cons (ds_if (dt_cmp (op_NotIn hr.units) (de_var 4) (de_tup (da_cons (de_g T.g_SPACE) (da_cons (de_g T.g_SINGLE) (da_cons (de_g T.g_DOUBLE) (da_cons (de_g T.g_BACKSLASH) da_nil)))))) (dss_one (ds_expr (de_append (de_var 8) (da_cons (de_op op_Add (de_var 4) (de_var 1)) da_nil)))) dss_nil)
    (dss_cons (ds_expr (de_extend (de_var 8) (da_cons (de_op op_Add (de_lc (own := [("rest", 9)]) rfl sc_quote_token.nd (di_seq (de_var 7)) ⟨blkOk_by (N := ["token", "plain", "single", "double", "character", "escaped", "in_double", "in_single", "outside", "rest"]) (sc := defScope s_quote_token) (by decide +kernel), ⟨_, by decide, fun _ _ _ _ _ => (dg_name 9 sc_quote_token.nd)⟩, fun _ _ _ _ _ => dts_nil, fun _ _ _ _ _ => (de_op op_Add (de_g T.g_SINGLE) (de_var 9))⟩) (de_lc (own := [("rest", 9)]) rfl sc_quote_token.nd (di_seq (de_var 6)) ⟨blkOk_by (N := ["token", "plain", "single", "double", "character", "escaped", "in_double", "in_single", "outside", "rest"]) (sc := defScope s_quote_token) (by decide +kernel), ⟨_, by decide, fun _ _ _ _ _ => (dg_name 9 sc_quote_token.nd)⟩, fun _ _ _ _ _ => dts_nil, fun _ _ _ _ _ => (de_op op_Add (de_g T.g_DOUBLE) (de_var 9))⟩)) da_nil)))
    (dss_cons (ds_set 1 sc_quote_token.nd (de_call c_better hr h_better (da_cons (de_var 8) da_nil)))
    (dss_cons (ds_set 2 sc_quote_token.nd (de_call c_better hr h_better (da_cons (de_op op_Add (de_var 7) (de_lst (da_cons (de_op op_Add (de_g T.g_SINGLE) (de_var 1)) da_nil))) da_nil)))
    (dss_one (ds_set 3 sc_quote_token.nd (de_call c_better hr h_better (da_cons (de_op op_Add (de_var 6) (de_lst (da_cons (de_op op_Add (de_g T.g_DOUBLE) (de_var 1)) da_nil))) da_nil)))))))))))))
    (dss_one (ds_ret (de_var 1))))))
abbrev s_quote : Stmt := top 18
theorem sc_quote : FnScope ["token"] ["token"] (defScope s_quote) := ⟨rfl, rfl, rfl, by decide +kernel, rfl, by decide +kernel, by decide +kernel⟩
theorem wk_quote (T : Txt K mg) {j : Nat} {sp_check_tokens : SpD} {sp_quote_token : SpD} {k_check_tokens : Nat} (c_check_tokens : CallD P w K mg base k_check_tokens "check_tokens" sp_check_tokens []) (h_check_tokens : k_check_tokens ≤ j) {k_quote_token : Nat} (c_quote_token : CallD P w K mg base k_quote_token "quote_token" sp_quote_token []) (h_quote_token : k_quote_token ≤ j) {f : Addr} {cdv : Value} {A : Around} {outer : List PySem.Env} {s : Shared} {H : Hp} {E : XK} (hr : Room j (A.deeper (envOfC "quote" (defScope s_quote) s.heap.objs.size f cdv))) :
    DSs (cxOf (L2.CX P w) P w K mg base ["token"] "quote" (defScope s_quote) f cdv A outer s H E) (defBody s_quote) (rd_quote sp_check_tokens sp_quote_token) :=
  (dss_cons (ds_expr (de_call c_check_tokens hr h_check_tokens (da_cons (de_lst (da_cons (de_var 0) da_nil)) da_nil)))
    (dss_one (ds_ret (de_call c_quote_token hr h_quote_token (da_cons (de_var 0) da_nil)))))
abbrev s_join_line : Stmt := top 19
theorem sc_join_line : FnScope ["tokens", "line", "token"] ["tokens"] (defScope s_join_line) := ⟨rfl, rfl, rfl, by decide +kernel, rfl, by decide +kernel, by decide +kernel⟩
theorem wk_join_line (T : Txt K mg) {j : Nat} {sp_check_tokens : SpD} {sp_quote_token : SpD} {k_check_tokens : Nat} (c_check_tokens : CallD P w K mg base k_check_tokens "check_tokens" sp_check_tokens []) (h_check_tokens : k_check_tokens ≤ j) {k_quote_token : Nat} (c_quote_token : CallD P w K mg base k_quote_token "quote_token" sp_quote_token []) (h_quote_token : k_quote_token ≤ j) {f : Addr} {cdv : Value} {A : Around} {outer : List PySem.Env} {s : Shared} {H : Hp} {E : XK} (hr : Room j (A.deeper (envOfC "join_line" (defScope s_join_line) s.heap.objs.size f cdv))) :
    DSs (cxOf (L2.CX P w) P w K mg base ["tokens", "line", "token"] "join_line" (defScope s_join_line) f cdv A outer s H E) (defBody s_join_line) (rd_join_line sp_check_tokens sp_quote_token) :=
  (dss_cons (ds_expr (de_call c_check_tokens hr h_check_tokens (da_cons (de_var 0) da_nil)))
    (dss_cons (ds_set 1 sc_join_line.nd (de_join (de_g T.g_SPACE) (de_lc (own := [("token", 2)]) rfl sc_join_line.nd (di_seq (de_var 0)) ⟨blkOk_by (N := ["tokens", "line", "token"]) (sc := defScope s_join_line) (by decide +kernel), ⟨_, by decide, fun _ _ _ _ _ => (dg_name 2 sc_join_line.nd)⟩, fun _ _ _ _ _ => dts_nil, fun _ _ _ _ _ => (de_call c_quote_token hr h_quote_token (da_cons (de_var 2) da_nil))⟩)))
    (dss_cons (ds_if (dt_cmp (op_Gt hr.units) (de_callB call_Len T.b_len rfl (da_cons (de_var 1) da_nil)) (de_g T.g_MAX_LINE)) (dss_one ds_never) dss_nil)
    (dss_one (ds_ret (de_var 1))))))
abbrev s__law_taken : Stmt := top 21
theorem sc__law_taken : FnScope ["_law_row", "_law_many", "_law_found", "_law_cell"] ["_law_row", "_law_many"] (defScope s__law_taken) := ⟨rfl, rfl, rfl, by decide +kernel, rfl, by decide +kernel, by decide +kernel⟩
theorem wk__law_taken (T : Txt K mg) {j : Nat} {f : Addr} {cdv : Value} {A : Around} {outer : List PySem.Env} {s : Shared} {H : Hp} {E : XK} (hr : Room j (A.deeper (envOfC "_law_taken" (defScope s__law_taken) s.heap.objs.size f cdv))) :
    DSs (cxOf (L2.CX P w) P w K mg base ["_law_row", "_law_many", "_law_found", "_law_cell"] "_law_taken" (defScope s__law_taken) f cdv A outer s H E) (defBody s__law_taken) (rd__law_taken) :=
  (dss_cons (ds_if (dt_cmp (op_Gt hr.units) (de_ix ix_All (de_var 0) de_int) de_int) (dss_cons (ds_set 2 sc__law_taken.nd (de_op op_Mod (de_callTy call_Int T.b_int rfl (da_cons (de_ix ix_All (de_var 0) de_int) da_nil)) (de_var 1)))
    (dss_cons (ds_setIx (de_var 0) de_int (de_op op_Div (de_ix ix_All (de_var 0) de_int) (de_var 1)))
    (dss_one (ds_ret (de_var 2))))) dss_nil)
    (dss_cons (ds_setIx (de_var 0) de_int (de_op op_Add (de_ix ix_All (de_var 0) de_int) de_int))
    (dss_cons (ds_if (dt_cmp (op_Gt hr.units) (de_ix ix_All (de_var 0) de_int) (de_callB call_Len T.b_len rfl (da_cons (de_ix ix_All (de_var 0) de_int) da_nil))) (dss_cons (ds_setIx (de_var 0) de_int (de_op op_Mod (de_op op_Add (de_op op_Mul (de_ix ix_All (de_var 0) de_int) de_int) de_int) de_int))
    (dss_one (ds_ret (de_op op_Mod (de_op op_Div (de_ix ix_All (de_var 0) de_int) de_int) (de_var 1))))) dss_nil)
    (dss_cons (ds_set 3 sc__law_taken.nd (de_ix ix_All (de_ix ix_All (de_var 0) de_int) (de_op op_Sub (de_ix ix_All (de_var 0) de_int) de_int)))
    (dss_cons (ds_setIx (de_var 0) de_int (de_op op_Mod (de_op op_Add (de_op op_Add (de_op op_Mul (de_ix ix_All (de_var 0) de_int) de_int) (de_var 3)) de_int) de_int))
    (dss_cons (ds_if (dt_cmp (op_Ge hr.units) (de_var 3) (de_op op_Pow de_int de_int)) (dss_one (ds_setIx (de_var 0) de_int (de_op op_Div (de_var 3) (de_var 1)))) dss_nil)
    (dss_one (ds_ret (de_op op_Mod (de_callTy call_Int T.b_int rfl (da_cons (de_var 3) da_nil)) (de_var 1))))))))))
abbrev s__law_alike : Stmt := top 22
theorem sc__law_alike : FnScope ["_law_one", "_law_due", "_law_k"] ["_law_one", "_law_due"] (defScope s__law_alike) := ⟨rfl, rfl, rfl, by decide +kernel, rfl, by decide +kernel, by decide +kernel⟩
theorem wk__law_alike (T : Txt K mg) {j : Nat} {sp__law_alike : SpD} {k__law_alike : Nat} (c__law_alike : CallD P w K mg base k__law_alike "_law_alike" sp__law_alike []) (h__law_alike : k__law_alike ≤ j) {f : Addr} {cdv : Value} {A : Around} {outer : List PySem.Env} {s : Shared} {H : Hp} {E : XK} (hr : Room j (A.deeper (envOfC "_law_alike" (defScope s__law_alike) s.heap.objs.size f cdv))) :
    DSs (cxOf (L2.CX P w) P w K mg base ["_law_one", "_law_due", "_law_k"] "_law_alike" (defScope s__law_alike) f cdv A outer s H E) (defBody s__law_alike) (rd__law_alike sp__law_alike) :=
  (dss_cons (ds_if (dw_and (dt_tru (de_isi2 (de_var 0) T.b_isinstance T.b_tuple rfl T.b_list rfl)) (dw_and1 (dt_tru (de_isi2 (de_var 1) T.b_isinstance T.b_tuple rfl T.b_list rfl)))).dt (dss_cons (ds_if (dw_or (dt_cmp (op_Ne hr.units) (de_callB call_Isi T.b_isinstance rfl (da_cons (de_var 0) (da_cons (de_ty T.b_tuple rfl) da_nil))) (de_callB call_Isi T.b_isinstance rfl (da_cons (de_var 1) (da_cons (de_ty T.b_tuple rfl) da_nil)))) (dw_or1 (dt_cmp (op_Ne hr.units) (de_callB call_Len T.b_len rfl (da_cons (de_var 0) da_nil)) (de_callB call_Len T.b_len rfl (da_cons (de_var 1) da_nil))))).dt (dss_one (ds_ret de_bl)) dss_nil)
    (dss_one (ds_ret (de_cmp (op_Eq hr.units) (de_lc (own := [("_law_k", 2)]) rfl sc__law_alike.nd (di_range1 T.b_range (da_cons (de_callB call_Len T.b_len rfl (da_cons (de_var 0) da_nil)) da_nil)) ⟨blkOk_by (N := ["_law_one", "_law_due", "_law_k"]) (sc := defScope s__law_alike) (by decide +kernel), ⟨_, by decide, fun _ _ _ _ _ => (dg_name 2 sc__law_alike.nd)⟩, fun _ _ _ _ _ => (dts_one (dt_not (dt_tru (de_call c__law_alike hr h__law_alike (da_cons (de_ix ix_All (de_var 0) (de_var 2)) (da_cons (de_ix ix_All (de_var 1) (de_var 2)) da_nil)))))), fun _ _ _ _ _ => (de_var 2)⟩) (de_lst da_nil))))) dss_nil)
    (dss_one (ds_ret (de_and (de_cmp (op_Eq hr.units) (de_var 0) (de_var 1)) (de_one (de_cmp (op_Eq hr.units) (de_callB call_Isi T.b_isinstance rfl (da_cons (de_var 0) (da_cons (de_ty T.b_bool rfl) da_nil))) (de_callB call_Isi T.b_isinstance rfl (da_cons (de_var 1) (da_cons (de_ty T.b_bool rfl) da_nil)))))))))
abbrev s__law_signs : Stmt := top 23
theorem sc__law_signs : FnScope [] [] (defScope s__law_signs) := ⟨rfl, rfl, rfl, by decide +kernel, rfl, by decide +kernel, by decide +kernel⟩
theorem wk__law_signs (T : Txt K mg) {j : Nat} {f : Addr} {cdv : Value} {A : Around} {outer : List PySem.Env} {s : Shared} {H : Hp} {E : XK} (hr : Room j (A.deeper (envOfC "_law_signs" (defScope s__law_signs) s.heap.objs.size f cdv))) :
    DSs (cxOf (L2.CX P w) P w K mg base [] "_law_signs" (defScope s__law_signs) f cdv A outer s H E) (defBody s__law_signs) (rd__law_signs) :=
  (dss_one (ds_ret de_str))
abbrev s__law_word : Stmt := top 24
theorem sc__law_word : FnScope ["_law_row", "_law_most", "_law_some", "_law_k"] ["_law_row", "_law_most"] (defScope s__law_word) := ⟨rfl, rfl, rfl, by decide +kernel, rfl, by decide +kernel, by decide +kernel⟩
theorem wk__law_word (T : Txt K mg) {j : Nat} {sp__law_signs : SpD} {sp__law_taken : SpD} {k__law_signs : Nat} (c__law_signs : CallD P w K mg base k__law_signs "_law_signs" sp__law_signs []) (h__law_signs : k__law_signs ≤ j) {k__law_taken : Nat} (c__law_taken : CallD P w K mg base k__law_taken "_law_taken" sp__law_taken []) (h__law_taken : k__law_taken ≤ j) {f : Addr} {cdv : Value} {A : Around} {outer : List PySem.Env} {s : Shared} {H : Hp} {E : XK} (hr : Room j (A.deeper (envOfC "_law_word" (defScope s__law_word) s.heap.objs.size f cdv))) :
    DSs (cxOf (L2.CX P w) P w K mg base ["_law_row", "_law_most", "_law_some", "_law_k"] "_law_word" (defScope s__law_word) f cdv A outer s H E) (defBody s__law_word) (rd__law_word sp__law_signs sp__law_taken) :=
  (dss_cons (ds_set 2 sc__law_word.nd (de_ix ix_All (de_lst (da_cons de_str (da_cons de_str (da_cons de_str (da_cons de_str (da_cons (de_call0 c__law_signs hr h__law_signs) da_nil)))))) (de_call c__law_taken hr h__law_taken (da_cons (de_var 0) (da_cons de_int da_nil)))))
    (dss_one (ds_ret (de_join de_str (de_lc (own := [("_law_k", 3)]) rfl sc__law_word.nd (di_range1 T.b_range (da_cons (de_call c__law_taken hr h__law_taken (da_cons (de_var 0) (da_cons (de_op op_Add (de_var 1) de_int) da_nil))) da_nil)) ⟨blkOk_by (N := ["_law_row", "_law_most", "_law_some", "_law_k"]) (sc := defScope s__law_word) (by decide +kernel), ⟨_, by decide, fun _ _ _ _ _ => (dg_name 3 sc__law_word.nd)⟩, fun _ _ _ _ _ => dts_nil, fun _ _ _ _ _ => (de_ix ix_All (de_var 2) (de_call c__law_taken hr h__law_taken (da_cons (de_var 0) (da_cons (de_callB call_Len T.b_len rfl (da_cons (de_var 2) da_nil)) da_nil))))⟩)))))
abbrev s__law_ways : Stmt := top 25
theorem sc__law_ways : FnScope ["_law_token", "_law_mode", "_law_first", "_law_ways_here", "_law_rest", "_law_opened", "_law_here", "_law_forms", "_law_form", "_law_tail"] ["_law_token", "_law_mode"] (defScope s__law_ways) := ⟨rfl, rfl, rfl, by decide +kernel, rfl, by decide +kernel, by decide +kernel⟩
theorem wk__law_ways (T : Txt K mg) {j : Nat} {sp__law_ways : SpD} {k__law_ways : Nat} (c__law_ways : CallD P w K mg base k__law_ways "_law_ways" sp__law_ways []) (h__law_ways : k__law_ways ≤ j) {f : Addr} {cdv : Value} {A : Around} {outer : List PySem.Env} {s : Shared} {H : Hp} {E : XK} (hr : Room j (A.deeper (envOfC "_law_ways" (defScope s__law_ways) s.heap.objs.size f cdv))) :
    DSs (cxOf (L2.CX P w) P w K mg base ["_law_token", "_law_mode", "_law_first", "_law_ways_here", "_law_rest", "_law_opened", "_law_here", "_law_forms", "_law_form", "_law_tail"] "_law_ways" (defScope s__law_ways) f cdv A outer s H E) (defBody s__law_ways) (rd__law_ways sp__law_ways) :=
  (dss_cons (ds_if (dt_cmp (op_Eq hr.units) (de_var 0) de_str) (dss_one (ds_ret (de_lst (da_cons (de_var 1) da_nil)))) dss_nil)
    (dss_cons (ds_par 2 3 rfl sc__law_ways.nd (da_cons (de_ix ix_All (de_var 0) de_int) (da_cons (de_lst da_nil) da_nil)))
    (dss_cons (ds_set 4 sc__law_ways.nd (de_op op_Add (de_lst (da_cons de_str da_nil)) (de_op op_Mul (de_lst (da_cons de_str (da_cons de_str da_nil))) (de_callTy call_Int T.b_int rfl (da_cons (de_cmp (op_Eq hr.units) (de_var 1) de_str) da_nil)))))
    (dss_cons (ds_for (passes_of rfl) rfl (di_seq (de_var 4)) (dg_name 5 sc__law_ways.nd) (dss_cons (ds_set 6 sc__law_ways.nd (de_op op_Add (de_var 1) (de_var 5)))
    (dss_cons (ds_set 7 sc__law_ways.nd (de_op op_MulM (de_lst (da_cons (de_op op_Add de_str (de_var 2)) da_nil)) (de_callTy call_Int T.b_int rfl (da_cons (de_cmp (op_Ne hr.units) (de_var 6) de_str) da_nil))))
    (dss_cons (ds_if (dw_or (dw_and (dt_cmp (op_Eq hr.units) (de_var 6) de_str) (dw_and1 (dt_cmp (op_NotIn hr.units) (de_var 2) de_str))).dt (dw_or (dw_and (dt_cmp (op_Eq hr.units) (de_var 6) de_str) (dw_and1 (dt_cmp (op_Ne hr.units) (de_var 2) de_str))).dt (dw_or1 (dw_and (dt_cmp (op_Eq hr.units) (de_var 6) de_str) (dw_and1 (dt_cmp (op_NotIn hr.units) (de_var 2) de_str))).dt))).dt (dss_one (ds_expr (de_append (de_var 7) (da_cons (de_var 2) da_nil)))) dss_nil)
    (dss_one (ds_for (passes_of rfl) rfl (di_seq (de_var 7)) (dg_name 8 sc__law_ways.nd) (dss_cons (ds_set 3 sc__law_ways.nd (de_op op_Add (de_var 3) (de_lc (own := [("_law_tail", 9)]) rfl sc__law_ways.nd (di_seq (de_call c__law_ways hr h__law_ways (da_cons (de_slice (de_var 0) (do_some de_int) do_none) (da_cons (de_var 6) da_nil)))) ⟨blkOk_by (N := ["_law_token", "_law_mode", "_law_first", "_law_ways_here", "_law_rest", "_law_opened", "_law_here", "_law_forms", "_law_form", "_law_tail"]) (sc := defScope s__law_ways) (by decide +kernel), ⟨_, by decide, fun _ _ _ _ _ => (dg_name 9 sc__law_ways.nd)⟩, fun _ _ _ _ _ => dts_nil, fun _ _ _ _ _ => (de_op op_Add (de_op op_Add (de_var 5) (de_var 8)) (de_var 9))⟩)))
    (dss_one (ds_if (dt_cmp (op_Ne hr.units) (de_var 6) de_str) (dss_one (ds_set 3 sc__law_ways.nd (de_op op_Add (de_var 3) (de_lc (own := [("_law_tail", 9)]) rfl sc__law_ways.nd (di_seq (de_call c__law_ways hr h__law_ways (da_cons (de_slice (de_var 0) (do_some de_int) do_none) (da_cons de_str da_nil)))) ⟨blkOk_by (N := ["_law_token", "_law_mode", "_law_first", "_law_ways_here", "_law_rest", "_law_opened", "_law_here", "_law_forms", "_law_form", "_law_tail"]) (sc := defScope s__law_ways) (by decide +kernel), ⟨_, by decide, fun _ _ _ _ _ => (dg_name 9 sc__law_ways.nd)⟩, fun _ _ _ _ _ => dts_nil, fun _ _ _ _ _ => (de_op op_Add (de_op op_Add (de_op op_Add (de_var 5) (de_var 8)) (de_var 6)) (de_var 9))⟩)))) dss_nil)))))))))
    (dss_one (ds_ret (de_var 3)))))))
abbrev s_law : Stmt := top 26
theorem sc_law : FnScope ["_law_script", "_law_row", "_law_turn", "_law_token", "_law_ways_here", "_law_way", "_law_tokens", "_law_k", "_law_simple", "_law_sign", "_law_line"] ["_law_script"] (defScope s_law) := ⟨rfl, rfl, rfl, by decide +kernel, rfl, by decide +kernel, by decide +kernel⟩
theorem wk_law (T : Txt K mg) {j : Nat} {sp__law_word : SpD} {sp__law_ways : SpD} {sp__law_alike : SpD} {sp_quote : SpD} {sp__law_taken : SpD} {sp_split_line : SpD} {sp_join_line : SpD} {k__law_word : Nat} (c__law_word : CallD P w K mg base k__law_word "_law_word" sp__law_word []) (h__law_word : k__law_word ≤ j) {k__law_ways : Nat} (c__law_ways : CallD P w K mg base k__law_ways "_law_ways" sp__law_ways []) (h__law_ways : k__law_ways ≤ j) {k__law_alike : Nat} (c__law_alike : CallD P w K mg base k__law_alike "_law_alike" sp__law_alike []) (h__law_alike : k__law_alike ≤ j) {k_quote : Nat} (c_quote : CallD P w K mg base k_quote "quote" sp_quote []) (h_quote : k_quote ≤ j) {k__law_taken : Nat} (c__law_taken : CallD P w K mg base k__law_taken "_law_taken" sp__law_taken []) (h__law_taken : k__law_taken ≤ j) {k_split_line : Nat} (c_split_line : CallD P w K mg base k_split_line "split_line" sp_split_line []) (h_split_line : k_split_line ≤ j) {k_join_line : Nat} (c_join_line : CallD P w K mg base k_join_line "join_line" sp_join_line []) (h_join_line : k_join_line ≤ j) {f : Addr} {cdv : Value} {A : Around} {outer : List PySem.Env} {s : Shared} {H : Hp} {E : XK} (hr : Room j (A.deeper (envOfC "law" (defScope s_law) s.heap.objs.size f cdv))) :
    DSs (cxOf (L2.CX P w) P w K mg base ["_law_script", "_law_row", "_law_turn", "_law_token", "_law_ways_here", "_law_way", "_law_tokens", "_law_k", "_law_simple", "_law_sign", "_law_line"] "law" (defScope s_law) f cdv A outer s H E) (defBody s_law) (rd_law sp__law_word sp__law_ways sp__law_alike sp_quote sp__law_taken sp_split_line sp_join_line) :=
  (dss_cons (ds_set 1 sc_law.nd (de_lstM (da_cons (de_var 0) (da_cons de_int (da_cons de_int (da_cons de_int da_nil))))))
    (dss_cons (ds_for (passes_of rfl) rfl (di_range1 T.b_range (da_cons de_int da_nil)) (dg_name 2 sc_law.nd) (dss_cons (ds_set 3 sc_law.nd (de_call c__law_word hr h__law_word (da_cons (de_var 1) (da_cons de_int da_nil))))
    (dss_cons (ds_set 4 sc_law.nd (de_if (dt_cmp (op_Eq hr.units) (de_var 3) de_str) (de_lst (da_cons de_str da_nil)) (de_call c__law_ways hr h__law_ways (da_cons (de_var 3) (da_cons de_str da_nil)))))
    (dss_one (ds_if (dt_not (dt_tru (de_call c__law_alike hr h__law_alike (da_cons (de_call c_quote hr h_quote (da_cons (de_var 3) da_nil)) (da_cons (de_ix ix_All (de_callB (call_MinL rfl hr.units) T.b_min rfl (da_cons (de_lc (own := [("_law_way", 5)]) rfl sc_law.nd (di_seq (de_var 4)) ⟨blkOk_by (N := ["_law_script", "_law_row", "_law_turn", "_law_token", "_law_ways_here", "_law_way", "_law_tokens", "_law_k", "_law_simple", "_law_sign", "_law_line"]) (sc := defScope s_law) (by decide +kernel), ⟨_, by decide, fun _ _ _ _ _ => (dg_name 5 sc_law.nd)⟩, fun _ _ _ _ _ => dts_nil, fun _ _ _ _ _ => (de_tup (da_cons (de_callB call_Len T.b_len rfl (da_cons (de_var 5) da_nil)) (da_cons (de_var 5) da_nil)))⟩) da_nil)) de_int) da_nil))))) (dss_one (ds_ret de_bl)) dss_nil)))))
    (dss_cons (ds_setLc (own := [("_law_k", 7)]) 6 rfl sc_law.nd (di_range1 T.b_range (da_cons (de_call c__law_taken hr h__law_taken (da_cons (de_var 1) (da_cons de_int da_nil))) da_nil)) ⟨blkOk_by (N := ["_law_script", "_law_row", "_law_turn", "_law_token", "_law_ways_here", "_law_way", "_law_tokens", "_law_k", "_law_simple", "_law_sign", "_law_line"]) (sc := defScope s_law) (by decide +kernel), ⟨_, by decide, fun _ _ _ _ _ => (dg_name 7 sc_law.nd)⟩, fun _ _ _ _ _ => dts_nil, fun _ _ _ _ _ => (de_call c__law_word hr h__law_word (da_cons (de_var 1) (da_cons de_int da_nil)))⟩)
    (dss_cons (ds_for (passes_of rfl) rfl (di_seq (de_var 6)) (dg_name 3 sc_law.nd) (dss_cons (ds_set 8 sc_law.nd (de_op op_Add (de_op op_Add de_str (de_join de_str (de_lc (own := [("_law_sign", 9)]) rfl sc_law.nd (di_seq (de_var 3)) ⟨blkOk_by (N := ["_law_script", "_law_row", "_law_turn", "_law_token", "_law_ways_here", "_law_way", "_law_tokens", "_law_k", "_law_simple", "_law_sign", "_law_line"]) (sc := defScope s_law) (by decide +kernel), ⟨_, by decide, fun _ _ _ _ _ => (dg_name 9 sc_law.nd)⟩, fun _ _ _ _ _ => dts_nil, fun _ _ _ _ _ => (de_op op_Add (de_op op_MulS de_str (de_callTy call_Int T.b_int rfl (da_cons (de_cmp (op_In hr.units) (de_var 9) de_str) da_nil))) (de_var 9))⟩))) de_str))
    (dss_cons (ds_if (dw_or (dt_cmp (op_Ne hr.units) (de_call c_split_line hr h_split_line (da_cons (de_call c_quote hr h_quote (da_cons (de_var 3) da_nil)) da_nil)) (de_lst (da_cons (de_var 3) da_nil))) (dw_or1 (dt_cmp (op_Gt hr.units) (de_callB call_Len T.b_len rfl (da_cons (de_call c_quote hr h_quote (da_cons (de_var 3) da_nil)) da_nil)) (de_callB call_Len T.b_len rfl (da_cons (de_var 8) da_nil))))).dt (dss_one (ds_ret de_bl)) dss_nil)
    (dss_one (ds_if (dw_and (dt_cmp (op_NotIn hr.units) de_str (de_var 3)) (dw_and1 (dt_cmp (op_Gt hr.units) (de_callB call_Len T.b_len rfl (da_cons (de_call c_quote hr h_quote (da_cons (de_var 3) da_nil)) da_nil)) (de_op op_Add (de_callB call_Len T.b_len rfl (da_cons (de_var 3) da_nil)) de_int)))).dt (dss_one (ds_ret de_bl)) dss_nil)))))
    (dss_cons (ds_set 10 sc_law.nd (de_call c_join_line hr h_join_line (da_cons (de_var 6) da_nil)))
    (dss_one (ds_ret (de_and (de_cmp (op_Eq hr.units) (de_call c_split_line hr h_split_line (da_cons (de_var 10) da_nil)) (de_var 6)) (de_one (de_cmp (op_Eq hr.units) (de_var 10) (de_join de_str (de_lc (own := [("_law_token", 3)]) rfl sc_law.nd (di_seq (de_var 6)) ⟨blkOk_by (N := ["_law_script", "_law_row", "_law_turn", "_law_token", "_law_ways_here", "_law_way", "_law_tokens", "_law_k", "_law_simple", "_law_sign", "_law_line"]) (sc := defScope s_law) (by decide +kernel), ⟨_, by decide, fun _ _ _ _ _ => (dg_name 3 sc_law.nd)⟩, fun _ _ _ _ _ => dts_nil, fun _ _ _ _ _ => (de_call c_quote hr h_quote (da_cons (de_var 3) da_nil))⟩))))))))))))
end
end K42

set_option Elab.async false
set_option linter.all false
set_option maxRecDepth 100000
set_option maxHeartbeats 4000000
namespace K42
open PySem L2 DL
def ALPH : List Nat := cs " !\"#$&'()*+,-./0123456789:;<=>?@ABCDEFGHIJKLMNOPQRSTUVWXYZ[\\]^_`abcdefghijklmnopqrstuvwxyz{|}~"
theorem d_alph : d_ALPHABET = .str ALPH := rfl
theorem c_sp : cs " " = [32] := by decide +kernel
theorem c_sq : cs "'" = [39] := by decide +kernel
theorem c_dq : cs "\"" = [34] := by decide +kernel
theorem c_bs : cs "\\" = [92] := by decide +kernel
theorem c_em : cs "" = [] := by decide +kernel
theorem d_sp : d_SPACE = .str [32] := congrArg D.str c_sp
theorem d_sq : d_SINGLE = .str [39] := congrArg D.str c_sq
theorem d_dq : d_DOUBLE = .str [34] := congrArg D.str c_dq
theorem d_bs : d_BACKSLASH = .str [92] := congrArg D.str c_bs
def okb (l : List Nat) : Bool := decide (l.length ≤ 200) && l.all fun c => decide (c ∈ ALPH)
theorem okb_iff {l : List Nat} : okb l = true ↔ l.length ≤ 200 ∧ ∀ c ∈ l, c ∈ ALPH := by simp [okb]
def sp_check_line : SpD := fun ds M Q _ => ∃ l, ds = [.str l] ∧ okb l = true ∧ Q .non M
theorem len_check_line (ds : List D) (M : Mem) (Q : QE) (Qx : QX) (h : sp_check_line ds M Q Qx) : ds.length = 1 := by obtain ⟨l, rfl, _⟩ := h; rfl
theorem rk_check_line {ds M Q Qx} (h : sp_check_line ds M Q Qx) : rd_check_line (fin Q Qx) (dstart 3 ds) M := by
  obtain ⟨l, rfl, hk, q⟩ := h
  obtain ⟨h1, h2⟩ := okb_iff.mp hk
  show rd_check_line _ [some (.str l), none, none] M
  simp only [rd_check_line, u_for, dSeq, dIfS, dNot, dTru, dB, dCB, dOp, dCons, dNil, dVar, dC, dNever, dNext, dRet, dRetN, dAsg, gNm, dAndV, dOrV, dNotV, dAnd, dOr, dIf, dLst, dLstM, dTup, dFld, dSetF, dAugF, dAug, dDrop, dAppend, dExtend, dPop, dPopAt, dPar, dPar3, dCall, dMeth, dMake, dJoin, dSl, dNo, dPart, dSeqI, dRange1, dRange2, dRange3, dEnum, dRevS, dRevL, dIsi2, dYes, dUn, dSetIx, dBreak, dCont, dChain, dFrz, e_vw1, e_vw2, e_vw3, e_vw4, e_vw5, e_vw6, e_vw7, e_vw8, e_vws0, e_vws1, e_gC, e_gN, e_gT, e_eq1, e_eq2, e_eq3, e_eq4, e_eq5, e_ne1, e_ne2, e_ne3, e_ne4, e_ne5, e_lt, e_gt, e_le, e_ge, e_in1, e_in2, e_in3, e_in4, e_in5, e_in6, e_add1, e_add2, e_add3, e_add4, e_iadd1, e_iadd2, e_sub, e_mul1, e_mul2, e_mulS, e_mulM, e_mod, e_div, e_pow, e_neg, e_ix1, e_ix2, e_ix3, e_ix4, e_sl1, e_sl2, e_sl3, e_sl4, e_len1, e_len2, e_len3, e_len4, e_int1, e_int2, e_tru1, e_tru2, e_tru3, e_tru4, e_tru5, e_tru6, e_okS1, e_okS2, e_okS3, e_okS4, e_okS5, e_okS6, e_ty1, e_ty2, e_ty3, e_ty4, e_ty5, e_ty6, e_ty7, e_isi1, e_isi2, e_isi3, e_isi4, e_isi5, e_isi6, e_isi7, e_isi8, e_isi9, e_isi10, e_isi11, e_isi12, e_isi13, e_isi14, e_isi15, e_isi16, e_isi17, e_frz1, e_frz2, e_frz3, e_frz4, e_it1, e_it2, e_it3, e_it4, isT_ss, isT_si, isT_sl, isT_st, isT_sb, isT_is, isT_ii, isT_il, isT_it, isT_ib, isT_bs, isT_bi, isT_bl, isT_bt, isT_bb, isT_ls, isT_li, isT_ll, isT_lt, isT_lb, isT_ts, isT_ti, isT_tl, isT_tt, isT_tb, List.getElem?_cons_zero, List.getElem?_cons_succ, List.set_cons_zero, List.set_cons_succ, List.cons_append, List.nil_append, List.length_cons, List.length_nil, dwipe, List.append_nil, List.cons.injEq, exists_eq_left, exists_eq_left', Option.some.injEq, D.str.injEq, D.int.injEq, D.bl.injEq, D.lst.injEq, D.tup.injEq, D.ref.injEq, D.scr.injEq, MO.lst.injEq, MO.ins.injEq, true_and, and_true, if_true, Bool.not_true, Bool.not_false, Bool.false_eq_true, if_false, exists_const, exists_eq, exists_eq', exists_and_left, and_self, reduceCtorEq, decide_true, decide_false, decide_eq_true_eq, Bool.not_eq_true', decide_eq_false_iff_not, and_assoc, Bool.true_or, Bool.or_true, Bool.false_or, Bool.or_false, Bool.true_and, Bool.false_and]
  refine ⟨fun i δ' M' => (∃ x y, δ' = [some (.str l), x, y]) ∧ M' = M, ⟨⟨none, none, rfl⟩, rfl⟩, ?_, fun δ' M' ⟨_, e⟩ => by rw [e]; exact q⟩
  rintro i d δ' M' hd ⟨⟨x, y, rfl⟩, rfl⟩
  obtain ⟨e, he, rfl⟩ := enums_inv hd
  obtain ⟨c, hc, rfl⟩ := chars_at he
  obtain ⟨m1, m2⟩ := mem_at hc
  have n1 : ¬ ((i : Int) = 200) := by omega
  simp only [dSeq, dIfS, dNot, dTru, dB, dCB, dOp, dCons, dNil, dVar, dC, dNever, dNext, dRet, dRetN, dAsg, gNm, dAndV, dOrV, dNotV, dAnd, dOr, dIf, dLst, dLstM, dTup, dFld, dSetF, dAugF, dAug, dDrop, dAppend, dExtend, dPop, dPopAt, dPar, dPar3, dCall, dMeth, dMake, dJoin, dSl, dNo, dPart, dSeqI, dRange1, dRange2, dRange3, dEnum, dRevS, dRevL, dIsi2, dYes, dUn, dSetIx, dBreak, dCont, dChain, dFrz, e_vw1, e_vw2, e_vw3, e_vw4, e_vw5, e_vw6, e_vw7, e_vw8, e_vws0, e_vws1, e_gC, e_gN, e_gT, e_eq1, e_eq2, e_eq3, e_eq4, e_eq5, e_ne1, e_ne2, e_ne3, e_ne4, e_ne5, e_lt, e_gt, e_le, e_ge, e_in1, e_in2, e_in3, e_in4, e_in5, e_in6, e_add1, e_add2, e_add3, e_add4, e_iadd1, e_iadd2, e_sub, e_mul1, e_mul2, e_mulS, e_mulM, e_mod, e_div, e_pow, e_neg, e_ix1, e_ix2, e_ix3, e_ix4, e_sl1, e_sl2, e_sl3, e_sl4, e_len1, e_len2, e_len3, e_len4, e_int1, e_int2, e_tru1, e_tru2, e_tru3, e_tru4, e_tru5, e_tru6, e_okS1, e_okS2, e_okS3, e_okS4, e_okS5, e_okS6, e_ty1, e_ty2, e_ty3, e_ty4, e_ty5, e_ty6, e_ty7, e_isi1, e_isi2, e_isi3, e_isi4, e_isi5, e_isi6, e_isi7, e_isi8, e_isi9, e_isi10, e_isi11, e_isi12, e_isi13, e_isi14, e_isi15, e_isi16, e_isi17, e_frz1, e_frz2, e_frz3, e_frz4, e_it1, e_it2, e_it3, e_it4, isT_ss, isT_si, isT_sl, isT_st, isT_sb, isT_is, isT_ii, isT_il, isT_it, isT_ib, isT_bs, isT_bi, isT_bl, isT_bt, isT_bb, isT_ls, isT_li, isT_ll, isT_lt, isT_lb, isT_ts, isT_ti, isT_tl, isT_tt, isT_tb, List.getElem?_cons_zero, List.getElem?_cons_succ, List.set_cons_zero, List.set_cons_succ, List.cons_append, List.nil_append, List.length_cons, List.length_nil, dwipe, List.append_nil, List.cons.injEq, exists_eq_left, exists_eq_left', Option.some.injEq, D.str.injEq, D.int.injEq, D.bl.injEq, D.lst.injEq, D.tup.injEq, D.ref.injEq, D.scr.injEq, MO.lst.injEq, MO.ins.injEq, true_and, and_true, if_true, Bool.not_true, Bool.not_false, Bool.false_eq_true, if_false, exists_const, exists_eq, exists_eq', exists_and_left, and_self, reduceCtorEq, decide_true, decide_false, decide_eq_true_eq, Bool.not_eq_true', decide_eq_false_iff_not, and_assoc, Bool.true_or, Bool.or_true, Bool.false_or, Bool.or_false, Bool.true_and, Bool.false_and, d_alph, sub_one, n1, h2 c m1, d_MAX_LINE]
def sp_is_token : SpD := fun ds M Q _ => ∃ l, ds = [.str l] ∧ l.length ≤ 16777216 ∧ Q (.bl (okb l)) M
theorem len_is_token (ds : List D) (M : Mem) (Q : QE) (Qx : QX) (h : sp_is_token ds M Q Qx) : ds.length = 1 := by obtain ⟨l, rfl, _⟩ := h; rfl
theorem rk_is_token {ds M Q Qx} (h : sp_is_token ds M Q Qx) : rd_is_token (fin Q Qx) (dstart 2 ds) M := by
  obtain ⟨l, rfl, h1, q⟩ := h
  show rd_is_token _ [some (.str l), none] M
  simp only [rd_is_token, u_lc, dSeq, dIfS, dNot, dTru, dB, dCB, dOp, dCons, dNil, dVar, dC, dNever, dNext, dRet, dRetN, dAsg, gNm, dAndV, dOrV, dNotV, dAnd, dOr, dIf, dLst, dLstM, dTup, dFld, dSetF, dAugF, dAug, dDrop, dAppend, dExtend, dPop, dPopAt, dPar, dPar3, dCall, dMeth, dMake, dJoin, dSl, dNo, dPart, dSeqI, dRange1, dRange2, dRange3, dEnum, dRevS, dRevL, dIsi2, dYes, dUn, dSetIx, dBreak, dCont, dChain, dFrz, e_vw1, e_vw2, e_vw3, e_vw4, e_vw5, e_vw6, e_vw7, e_vw8, e_vws0, e_vws1, e_gC, e_gN, e_gT, e_eq1, e_eq2, e_eq3, e_eq4, e_eq5, e_ne1, e_ne2, e_ne3, e_ne4, e_ne5, e_lt, e_gt, e_le, e_ge, e_in1, e_in2, e_in3, e_in4, e_in5, e_in6, e_add1, e_add2, e_add3, e_add4, e_iadd1, e_iadd2, e_sub, e_mul1, e_mul2, e_mulS, e_mulM, e_mod, e_div, e_pow, e_neg, e_ix1, e_ix2, e_ix3, e_ix4, e_sl1, e_sl2, e_sl3, e_sl4, e_len1, e_len2, e_len3, e_len4, e_int1, e_int2, e_tru1, e_tru2, e_tru3, e_tru4, e_tru5, e_tru6, e_okS1, e_okS2, e_okS3, e_okS4, e_okS5, e_okS6, e_ty1, e_ty2, e_ty3, e_ty4, e_ty5, e_ty6, e_ty7, e_isi1, e_isi2, e_isi3, e_isi4, e_isi5, e_isi6, e_isi7, e_isi8, e_isi9, e_isi10, e_isi11, e_isi12, e_isi13, e_isi14, e_isi15, e_isi16, e_isi17, e_frz1, e_frz2, e_frz3, e_frz4, e_it1, e_it2, e_it3, e_it4, isT_ss, isT_si, isT_sl, isT_st, isT_sb, isT_is, isT_ii, isT_il, isT_it, isT_ib, isT_bs, isT_bi, isT_bl, isT_bt, isT_bb, isT_ls, isT_li, isT_ll, isT_lt, isT_lb, isT_ts, isT_ti, isT_tl, isT_tt, isT_tb, List.getElem?_cons_zero, List.getElem?_cons_succ, List.set_cons_zero, List.set_cons_succ, List.cons_append, List.nil_append, List.length_cons, List.length_nil, dwipe, List.append_nil, List.cons.injEq, exists_eq_left, exists_eq_left', Option.some.injEq, D.str.injEq, D.int.injEq, D.bl.injEq, D.lst.injEq, D.tup.injEq, D.ref.injEq, D.scr.injEq, MO.lst.injEq, MO.ins.injEq, true_and, and_true, if_true, Bool.not_true, Bool.not_false, Bool.false_eq_true, if_false, exists_const, exists_eq, exists_eq', exists_and_left, and_self, reduceCtorEq, decide_true, decide_false, decide_eq_true_eq, Bool.not_eq_true', decide_eq_false_iff_not, and_assoc, Bool.true_or, Bool.or_true, Bool.false_or, Bool.or_false, Bool.true_and, Bool.false_and, d_MAX_LINE, h1]
  by_cases hl : l.length ≤ 200
  · rw [if_pos (by omega)]
    refine lc_pure (fun d => match d with | .str [c] => .bl (decide (c ∈ ALPH)) | d => d) (by rw [chars_len]; omega) (fun d R hd k => ?_) ?_
    · obtain ⟨i, hi⟩ := List.mem_iff_getElem?.mp hd
      obtain ⟨c, hc, rfl⟩ := chars_at hi
      simp only [dSeq, dIfS, dNot, dTru, dB, dCB, dOp, dCons, dNil, dVar, dC, dNever, dNext, dRet, dRetN, dAsg, gNm, dAndV, dOrV, dNotV, dAnd, dOr, dIf, dLst, dLstM, dTup, dFld, dSetF, dAugF, dAug, dDrop, dAppend, dExtend, dPop, dPopAt, dPar, dPar3, dCall, dMeth, dMake, dJoin, dSl, dNo, dPart, dSeqI, dRange1, dRange2, dRange3, dEnum, dRevS, dRevL, dIsi2, dYes, dUn, dSetIx, dBreak, dCont, dChain, dFrz, e_vw1, e_vw2, e_vw3, e_vw4, e_vw5, e_vw6, e_vw7, e_vw8, e_vws0, e_vws1, e_gC, e_gN, e_gT, e_eq1, e_eq2, e_eq3, e_eq4, e_eq5, e_ne1, e_ne2, e_ne3, e_ne4, e_ne5, e_lt, e_gt, e_le, e_ge, e_in1, e_in2, e_in3, e_in4, e_in5, e_in6, e_add1, e_add2, e_add3, e_add4, e_iadd1, e_iadd2, e_sub, e_mul1, e_mul2, e_mulS, e_mulM, e_mod, e_div, e_pow, e_neg, e_ix1, e_ix2, e_ix3, e_ix4, e_sl1, e_sl2, e_sl3, e_sl4, e_len1, e_len2, e_len3, e_len4, e_int1, e_int2, e_tru1, e_tru2, e_tru3, e_tru4, e_tru5, e_tru6, e_okS1, e_okS2, e_okS3, e_okS4, e_okS5, e_okS6, e_ty1, e_ty2, e_ty3, e_ty4, e_ty5, e_ty6, e_ty7, e_isi1, e_isi2, e_isi3, e_isi4, e_isi5, e_isi6, e_isi7, e_isi8, e_isi9, e_isi10, e_isi11, e_isi12, e_isi13, e_isi14, e_isi15, e_isi16, e_isi17, e_frz1, e_frz2, e_frz3, e_frz4, e_it1, e_it2, e_it3, e_it4, isT_ss, isT_si, isT_sl, isT_st, isT_sb, isT_is, isT_ii, isT_il, isT_it, isT_ib, isT_bs, isT_bi, isT_bl, isT_bt, isT_bb, isT_ls, isT_li, isT_ll, isT_lt, isT_lb, isT_ts, isT_ti, isT_tl, isT_tt, isT_tb, List.getElem?_cons_zero, List.getElem?_cons_succ, List.set_cons_zero, List.set_cons_succ, List.cons_append, List.nil_append, List.length_cons, List.length_nil, dwipe, List.append_nil, List.cons.injEq, exists_eq_left, exists_eq_left', Option.some.injEq, D.str.injEq, D.int.injEq, D.bl.injEq, D.lst.injEq, D.tup.injEq, D.ref.injEq, D.scr.injEq, MO.lst.injEq, MO.ins.injEq, true_and, and_true, if_true, Bool.not_true, Bool.not_false, Bool.false_eq_true, if_false, exists_const, exists_eq, exists_eq', exists_and_left, and_self, reduceCtorEq, decide_true, decide_false, decide_eq_true_eq, Bool.not_eq_true', decide_eq_false_iff_not, and_assoc, Bool.true_or, Bool.or_true, Bool.false_or, Bool.or_false, Bool.true_and, Bool.false_and, d_alph, sub_one]
      exact k
    · have e : (chars l).map (fun d => match d with | .str [c] => D.bl (decide (c ∈ ALPH)) | d => d) = (l.map fun c => decide (c ∈ ALPH)).map D.bl := by
        unfold chars
        rw [List.map_map, List.map_map]
        rfl
      rw [e]
      simp only [dSeq, dIfS, dNot, dTru, dB, dCB, dOp, dCons, dNil, dVar, dC, dNever, dNext, dRet, dRetN, dAsg, gNm, dAndV, dOrV, dNotV, dAnd, dOr, dIf, dLst, dLstM, dTup, dFld, dSetF, dAugF, dAug, dDrop, dAppend, dExtend, dPop, dPopAt, dPar, dPar3, dCall, dMeth, dMake, dJoin, dSl, dNo, dPart, dSeqI, dRange1, dRange2, dRange3, dEnum, dRevS, dRevL, dIsi2, dYes, dUn, dSetIx, dBreak, dCont, dChain, dFrz, e_vw1, e_vw2, e_vw3, e_vw4, e_vw5, e_vw6, e_vw7, e_vw8, e_vws0, e_vws1, e_gC, e_gN, e_gT, e_eq1, e_eq2, e_eq3, e_eq4, e_eq5, e_ne1, e_ne2, e_ne3, e_ne4, e_ne5, e_lt, e_gt, e_le, e_ge, e_in1, e_in2, e_in3, e_in4, e_in5, e_in6, e_add1, e_add2, e_add3, e_add4, e_iadd1, e_iadd2, e_sub, e_mul1, e_mul2, e_mulS, e_mulM, e_mod, e_div, e_pow, e_neg, e_ix1, e_ix2, e_ix3, e_ix4, e_sl1, e_sl2, e_sl3, e_sl4, e_len1, e_len2, e_len3, e_len4, e_int1, e_int2, e_tru1, e_tru2, e_tru3, e_tru4, e_tru5, e_tru6, e_okS1, e_okS2, e_okS3, e_okS4, e_okS5, e_okS6, e_ty1, e_ty2, e_ty3, e_ty4, e_ty5, e_ty6, e_ty7, e_isi1, e_isi2, e_isi3, e_isi4, e_isi5, e_isi6, e_isi7, e_isi8, e_isi9, e_isi10, e_isi11, e_isi12, e_isi13, e_isi14, e_isi15, e_isi16, e_isi17, e_frz1, e_frz2, e_frz3, e_frz4, e_it1, e_it2, e_it3, e_it4, isT_ss, isT_si, isT_sl, isT_st, isT_sb, isT_is, isT_ii, isT_il, isT_it, isT_ib, isT_bs, isT_bi, isT_bl, isT_bt, isT_bb, isT_ls, isT_li, isT_ll, isT_lt, isT_lb, isT_ts, isT_ti, isT_tl, isT_tt, isT_tb, List.getElem?_cons_zero, List.getElem?_cons_succ, List.set_cons_zero, List.set_cons_succ, List.cons_append, List.nil_append, List.length_cons, List.length_nil, dwipe, List.append_nil, List.cons.injEq, exists_eq_left, exists_eq_left', Option.some.injEq, D.str.injEq, D.int.injEq, D.bl.injEq, D.lst.injEq, D.tup.injEq, D.ref.injEq, D.scr.injEq, MO.lst.injEq, MO.ins.injEq, true_and, and_true, if_true, Bool.not_true, Bool.not_false, Bool.false_eq_true, if_false, exists_const, exists_eq, exists_eq', exists_and_left, and_self, reduceCtorEq, decide_true, decide_false, decide_eq_true_eq, Bool.not_eq_true', decide_eq_false_iff_not, and_assoc, Bool.true_or, Bool.or_true, Bool.false_or, Bool.or_false, Bool.true_and, Bool.false_and]
      refine e_all ?_
      have e2 : ((l.map fun c => decide (c ∈ ALPH)).all fun b => b) = okb l := by
        unfold okb
        rw [decide_eq_true hl, List.all_map]
        rfl
      rw [e2]
      exact q
  · rw [if_neg (by omega)]
    have e2 : okb l = decide ((l.length : Int) ≤ 200) := by
      unfold okb
      rw [decide_eq_false hl, decide_eq_false (by omega)]
      rfl
    rw [← e2]
    exact q
def sp_check_tokens : SpD := fun ds M Q _ => ∃ ts : List (List Nat), ds = [.lst (ts.map .str)] ∧ (∀ t ∈ ts, okb t = true) ∧ Q .non M
theorem len_check_tokens (ds : List D) (M : Mem) (Q : QE) (Qx : QX) (h : sp_check_tokens ds M Q Qx) : ds.length = 1 := by obtain ⟨l, rfl, _⟩ := h; rfl
theorem okb_small {l : List Nat} (h : okb l = true) : l.length ≤ 200 := (okb_iff.mp h).1
theorem rk_check_tokens {ds M Q Qx} (h : sp_check_tokens ds M Q Qx) : rd_check_tokens sp_is_token (fin Q Qx) (dstart 3 ds) M := by
  obtain ⟨ts, rfl, h2, q⟩ := h
  show rd_check_tokens _ _ [some (.lst (ts.map .str)), none, none] M
  simp only [rd_check_tokens, u_for, dSeq, dIfS, dNot, dTru, dB, dCB, dOp, dCons, dNil, dVar, dC, dNever, dNext, dRet, dRetN, dAsg, gNm, dAndV, dOrV, dNotV, dAnd, dOr, dIf, dLst, dLstM, dTup, dFld, dSetF, dAugF, dAug, dDrop, dAppend, dExtend, dPop, dPopAt, dPar, dPar3, dCall, dMeth, dMake, dJoin, dSl, dNo, dPart, dSeqI, dRange1, dRange2, dRange3, dEnum, dRevS, dRevL, dIsi2, dYes, dUn, dSetIx, dBreak, dCont, dChain, dFrz, e_vw1, e_vw2, e_vw3, e_vw4, e_vw5, e_vw6, e_vw7, e_vw8, e_vws0, e_vws1, e_gC, e_gN, e_gT, e_eq1, e_eq2, e_eq3, e_eq4, e_eq5, e_ne1, e_ne2, e_ne3, e_ne4, e_ne5, e_lt, e_gt, e_le, e_ge, e_in1, e_in2, e_in3, e_in4, e_in5, e_in6, e_add1, e_add2, e_add3, e_add4, e_iadd1, e_iadd2, e_sub, e_mul1, e_mul2, e_mulS, e_mulM, e_mod, e_div, e_pow, e_neg, e_ix1, e_ix2, e_ix3, e_ix4, e_sl1, e_sl2, e_sl3, e_sl4, e_len1, e_len2, e_len3, e_len4, e_int1, e_int2, e_tru1, e_tru2, e_tru3, e_tru4, e_tru5, e_tru6, e_okS1, e_okS2, e_okS3, e_okS4, e_okS5, e_okS6, e_ty1, e_ty2, e_ty3, e_ty4, e_ty5, e_ty6, e_ty7, e_isi1, e_isi2, e_isi3, e_isi4, e_isi5, e_isi6, e_isi7, e_isi8, e_isi9, e_isi10, e_isi11, e_isi12, e_isi13, e_isi14, e_isi15, e_isi16, e_isi17, e_frz1, e_frz2, e_frz3, e_frz4, e_it1, e_it2, e_it3, e_it4, isT_ss, isT_si, isT_sl, isT_st, isT_sb, isT_is, isT_ii, isT_il, isT_it, isT_ib, isT_bs, isT_bi, isT_bl, isT_bt, isT_bb, isT_ls, isT_li, isT_ll, isT_lt, isT_lb, isT_ts, isT_ti, isT_tl, isT_tt, isT_tb, List.getElem?_cons_zero, List.getElem?_cons_succ, List.set_cons_zero, List.set_cons_succ, List.cons_append, List.nil_append, List.length_cons, List.length_nil, dwipe, List.append_nil, List.cons.injEq, exists_eq_left, exists_eq_left', Option.some.injEq, D.str.injEq, D.int.injEq, D.bl.injEq, D.lst.injEq, D.tup.injEq, D.ref.injEq, D.scr.injEq, MO.lst.injEq, MO.ins.injEq, true_and, and_true, if_true, Bool.not_true, Bool.not_false, Bool.false_eq_true, if_false, exists_const, exists_eq, exists_eq', exists_and_left, and_self, reduceCtorEq, decide_true, decide_false, decide_eq_true_eq, Bool.not_eq_true', decide_eq_false_iff_not, and_assoc, Bool.true_or, Bool.or_true, Bool.false_or, Bool.or_false, Bool.true_and, Bool.false_and]
  refine ⟨fun i δ' M' => (∃ x y, δ' = [some (.lst (ts.map .str)), x, y]) ∧ M' = M, ⟨⟨none, none, rfl⟩, rfl⟩, ?_, fun δ' M' ⟨_, e⟩ => by rw [e]; exact q⟩
  rintro i d δ' M' hd ⟨⟨x, y, rfl⟩, rfl⟩
  obtain ⟨e, he, rfl⟩ := enums_inv hd
  obtain ⟨c, hc, rfl⟩ := map_at he
  obtain ⟨m1, m2⟩ := mem_at hc
  have hk := h2 c m1
  have hz := okb_small hk
  simp only [dSeq, dIfS, dNot, dTru, dB, dCB, dOp, dCons, dNil, dVar, dC, dNever, dNext, dRet, dRetN, dAsg, gNm, dAndV, dOrV, dNotV, dAnd, dOr, dIf, dLst, dLstM, dTup, dFld, dSetF, dAugF, dAug, dDrop, dAppend, dExtend, dPop, dPopAt, dPar, dPar3, dCall, dMeth, dMake, dJoin, dSl, dNo, dPart, dSeqI, dRange1, dRange2, dRange3, dEnum, dRevS, dRevL, dIsi2, dYes, dUn, dSetIx, dBreak, dCont, dChain, dFrz, e_vw1, e_vw2, e_vw3, e_vw4, e_vw5, e_vw6, e_vw7, e_vw8, e_vws0, e_vws1, e_gC, e_gN, e_gT, e_eq1, e_eq2, e_eq3, e_eq4, e_eq5, e_ne1, e_ne2, e_ne3, e_ne4, e_ne5, e_lt, e_gt, e_le, e_ge, e_in1, e_in2, e_in3, e_in4, e_in5, e_in6, e_add1, e_add2, e_add3, e_add4, e_iadd1, e_iadd2, e_sub, e_mul1, e_mul2, e_mulS, e_mulM, e_mod, e_div, e_pow, e_neg, e_ix1, e_ix2, e_ix3, e_ix4, e_sl1, e_sl2, e_sl3, e_sl4, e_len1, e_len2, e_len3, e_len4, e_int1, e_int2, e_tru1, e_tru2, e_tru3, e_tru4, e_tru5, e_tru6, e_okS1, e_okS2, e_okS3, e_okS4, e_okS5, e_okS6, e_ty1, e_ty2, e_ty3, e_ty4, e_ty5, e_ty6, e_ty7, e_isi1, e_isi2, e_isi3, e_isi4, e_isi5, e_isi6, e_isi7, e_isi8, e_isi9, e_isi10, e_isi11, e_isi12, e_isi13, e_isi14, e_isi15, e_isi16, e_isi17, e_frz1, e_frz2, e_frz3, e_frz4, e_it1, e_it2, e_it3, e_it4, isT_ss, isT_si, isT_sl, isT_st, isT_sb, isT_is, isT_ii, isT_il, isT_it, isT_ib, isT_bs, isT_bi, isT_bl, isT_bt, isT_bb, isT_ls, isT_li, isT_ll, isT_lt, isT_lb, isT_ts, isT_ti, isT_tl, isT_tt, isT_tb, List.getElem?_cons_zero, List.getElem?_cons_succ, List.set_cons_zero, List.set_cons_succ, List.cons_append, List.nil_append, List.length_cons, List.length_nil, dwipe, List.append_nil, List.cons.injEq, exists_eq_left, exists_eq_left', Option.some.injEq, D.str.injEq, D.int.injEq, D.bl.injEq, D.lst.injEq, D.tup.injEq, D.ref.injEq, D.scr.injEq, MO.lst.injEq, MO.ins.injEq, true_and, and_true, if_true, Bool.not_true, Bool.not_false, Bool.false_eq_true, if_false, exists_const, exists_eq, exists_eq', exists_and_left, and_self, reduceCtorEq, decide_true, decide_false, decide_eq_true_eq, Bool.not_eq_true', decide_eq_false_iff_not, and_assoc, Bool.true_or, Bool.or_true, Bool.false_or, Bool.or_false, Bool.true_and, Bool.false_and]
  refine ⟨c, rfl, by omega, ?_⟩
  simp only [dSeq, dIfS, dNot, dTru, dB, dCB, dOp, dCons, dNil, dVar, dC, dNever, dNext, dRet, dRetN, dAsg, gNm, dAndV, dOrV, dNotV, dAnd, dOr, dIf, dLst, dLstM, dTup, dFld, dSetF, dAugF, dAug, dDrop, dAppend, dExtend, dPop, dPopAt, dPar, dPar3, dCall, dMeth, dMake, dJoin, dSl, dNo, dPart, dSeqI, dRange1, dRange2, dRange3, dEnum, dRevS, dRevL, dIsi2, dYes, dUn, dSetIx, dBreak, dCont, dChain, dFrz, e_vw1, e_vw2, e_vw3, e_vw4, e_vw5, e_vw6, e_vw7, e_vw8, e_vws0, e_vws1, e_gC, e_gN, e_gT, e_eq1, e_eq2, e_eq3, e_eq4, e_eq5, e_ne1, e_ne2, e_ne3, e_ne4, e_ne5, e_lt, e_gt, e_le, e_ge, e_in1, e_in2, e_in3, e_in4, e_in5, e_in6, e_add1, e_add2, e_add3, e_add4, e_iadd1, e_iadd2, e_sub, e_mul1, e_mul2, e_mulS, e_mulM, e_mod, e_div, e_pow, e_neg, e_ix1, e_ix2, e_ix3, e_ix4, e_sl1, e_sl2, e_sl3, e_sl4, e_len1, e_len2, e_len3, e_len4, e_int1, e_int2, e_tru1, e_tru2, e_tru3, e_tru4, e_tru5, e_tru6, e_okS1, e_okS2, e_okS3, e_okS4, e_okS5, e_okS6, e_ty1, e_ty2, e_ty3, e_ty4, e_ty5, e_ty6, e_ty7, e_isi1, e_isi2, e_isi3, e_isi4, e_isi5, e_isi6, e_isi7, e_isi8, e_isi9, e_isi10, e_isi11, e_isi12, e_isi13, e_isi14, e_isi15, e_isi16, e_isi17, e_frz1, e_frz2, e_frz3, e_frz4, e_it1, e_it2, e_it3, e_it4, isT_ss, isT_si, isT_sl, isT_st, isT_sb, isT_is, isT_ii, isT_il, isT_it, isT_ib, isT_bs, isT_bi, isT_bl, isT_bt, isT_bb, isT_ls, isT_li, isT_ll, isT_lt, isT_lb, isT_ts, isT_ti, isT_tl, isT_tt, isT_tb, List.getElem?_cons_zero, List.getElem?_cons_succ, List.set_cons_zero, List.set_cons_succ, List.cons_append, List.nil_append, List.length_cons, List.length_nil, dwipe, List.append_nil, List.cons.injEq, exists_eq_left, exists_eq_left', Option.some.injEq, D.str.injEq, D.int.injEq, D.bl.injEq, D.lst.injEq, D.tup.injEq, D.ref.injEq, D.scr.injEq, MO.lst.injEq, MO.ins.injEq, true_and, and_true, if_true, Bool.not_true, Bool.not_false, Bool.false_eq_true, if_false, exists_const, exists_eq, exists_eq', exists_and_left, and_self, reduceCtorEq, decide_true, decide_false, decide_eq_true_eq, Bool.not_eq_true', decide_eq_false_iff_not, and_assoc, Bool.true_or, Bool.or_true, Bool.false_or, Bool.or_false, Bool.true_and, Bool.false_and, hk]
/-! the splitter -/
def fsS (L : List Nat) (p : Nat) (F : D) : List (Str × D) := [("line", .str L), ("position", .int p), ("found", F)]
section
variable {L : List Nat} {p : Nat} {F : D}
theorem lk_line : (fsS L p F).lookup ("line" : Str) = some (.str L) := by rfl
theorem lk_pos : (fsS L p F).lookup ("position" : Str) = some (.int p) := by rfl
theorem lk_found : (fsS L p F).lookup ("found" : Str) = some F := by rfl
theorem lk_q : (fsS L p F).lookup ("read_quoted" : Str) = none := by rfl
theorem lk_e : (fsS L p F).lookup ("read_escaped" : Str) = none := by rfl
theorem lk_t : (fsS L p F).lookup ("read_token" : Str) = none := by rfl
theorem lk_r : (fsS L p F).lookup ("run" : Str) = none := by rfl
theorem pt_1 : putD ("position" : Str) (.int ((p : Int) + 1)) (fsS L p F) = fsS L (p + 1) F := by rfl
theorem pt_2 : putD ("position" : Str) (.int ((p : Int) + 2)) (fsS L p F) = fsS L (p + 2) F := by rfl
theorem fs_len : (fsS L p F).length = 3 := rfl
end
theorem drop_at {L : List Nat} {p : Nat} (h : p < L.length) : ∃ c, L[p]? = some c ∧ L.drop p = c :: L.drop (p + 1) := ⟨L[p], List.getElem?_eq_getElem h, by rw [List.drop_eq_getElem_cons h]⟩
def sp_Splitter_read_escaped (C : Addr) : SpD := fun ds M Q _ => ∃ a dx L p F d, ds = [.ref a] ∧ M a = some (.ins C dx (fsS L p F)) ∧ L.length ≤ 200 ∧ L[p + 1]? = some d ∧ Q (.str [d]) (mset M a (.ins C dx (fsS L (p + 2) F)))
theorem len_Splitter_read_escaped (C : Addr) (ds : List D) (M : Mem) (Q : QE) (Qx : QX) (h : sp_Splitter_read_escaped C ds M Q Qx) : ds.length = 1 := by obtain ⟨_, _, _, _, _, _, rfl, _⟩ := h; rfl
theorem rk_Splitter_read_escaped {K C ds M Q Qx} (q : CF_Splitter K C) (h : sp_Splitter_read_escaped C ds M Q Qx) : rd_Splitter_read_escaped K (fin Q Qx) (dstart 1 ds) M := by
  obtain ⟨a, dx, L, p, F, d, rfl, hM, hL, hd, k⟩ := h
  have hp := (mem_at hd).2
  show rd_Splitter_read_escaped K _ [some (.ref a)] M
  have n1 : ¬ ((p : Int) + 1 = (L.length : Int)) := by omega
  have e1 : ((p + 2 : Nat) : Int) - 1 = ((p + 1 : Nat) : Int) := by omega
  have hL' : L.length ≤ 16777216 := by omega
  simp only [rd_Splitter_read_escaped, dSeq, dIfS, dNot, dTru, dB, dCB, dOp, dCons, dNil, dVar, dC, dNever, dNext, dRet, dRetN, dAsg, gNm, dAndV, dOrV, dNotV, dAnd, dOr, dIf, dLst, dLstM, dTup, dFld, dSetF, dAugF, dAug, dDrop, dAppend, dExtend, dPop, dPopAt, dPar, dPar3, dCall, dMeth, dMake, dJoin, dSl, dNo, dPart, dSeqI, dRange1, dRange2, dRange3, dEnum, dRevS, dRevL, dIsi2, dYes, dUn, dSetIx, dBreak, dCont, dChain, dFrz, e_vw1, e_vw2, e_vw3, e_vw4, e_vw5, e_vw6, e_vw7, e_vw8, e_vws0, e_vws1, e_gC, e_gN, e_gT, e_eq1, e_eq2, e_eq3, e_eq4, e_eq5, e_ne1, e_ne2, e_ne3, e_ne4, e_ne5, e_lt, e_gt, e_le, e_ge, e_in1, e_in2, e_in3, e_in4, e_in5, e_in6, e_add1, e_add2, e_add3, e_add4, e_iadd1, e_iadd2, e_sub, e_mul1, e_mul2, e_mulS, e_mulM, e_mod, e_div, e_pow, e_neg, e_ix1, e_ix2, e_ix3, e_ix4, e_sl1, e_sl2, e_sl3, e_sl4, e_len1, e_len2, e_len3, e_len4, e_int1, e_int2, e_tru1, e_tru2, e_tru3, e_tru4, e_tru5, e_tru6, e_okS1, e_okS2, e_okS3, e_okS4, e_okS5, e_okS6, e_ty1, e_ty2, e_ty3, e_ty4, e_ty5, e_ty6, e_ty7, e_isi1, e_isi2, e_isi3, e_isi4, e_isi5, e_isi6, e_isi7, e_isi8, e_isi9, e_isi10, e_isi11, e_isi12, e_isi13, e_isi14, e_isi15, e_isi16, e_isi17, e_frz1, e_frz2, e_frz3, e_frz4, e_it1, e_it2, e_it3, e_it4, isT_ss, isT_si, isT_sl, isT_st, isT_sb, isT_is, isT_ii, isT_il, isT_it, isT_ib, isT_bs, isT_bi, isT_bl, isT_bt, isT_bb, isT_ls, isT_li, isT_ll, isT_lt, isT_lb, isT_ts, isT_ti, isT_tl, isT_tt, isT_tb, List.getElem?_cons_zero, List.getElem?_cons_succ, List.set_cons_zero, List.set_cons_succ, List.cons_append, List.nil_append, List.length_cons, List.length_nil, dwipe, List.append_nil, List.cons.injEq, exists_eq_left, exists_eq_left', Option.some.injEq, D.str.injEq, D.int.injEq, D.bl.injEq, D.lst.injEq, D.tup.injEq, D.ref.injEq, D.scr.injEq, MO.lst.injEq, MO.ins.injEq, true_and, and_true, if_true, Bool.not_true, Bool.not_false, Bool.false_eq_true, if_false, exists_const, exists_eq, exists_eq', exists_and_left, and_self, reduceCtorEq, decide_true, decide_false, decide_eq_true_eq, Bool.not_eq_true', decide_eq_false_iff_not, and_assoc, Bool.true_or, Bool.or_true, Bool.false_or, Bool.or_false, Bool.true_and, Bool.false_and, hM, q.cl, q.n_position, q.n_line, lk_line, lk_pos, pt_2, mset_same, hL', n1, fs_len, e1]
  exact ⟨by decide, d, atI_n hd, k⟩
def sp_Splitter_read_quoted (C : Addr) : SpD := fun ds M Q _ => ∃ a dx L p F c x r, ds = [.ref a, .str [c]] ∧ M a = some (.ins C dx (fsS L p F)) ∧ L.length ≤ 200 ∧ p < L.length ∧ (c = 39 ∨ c = 34) ∧ Lx.rdq c (L.drop (p + 1)) = some (x, r) ∧
  ∀ M', Mxa a M M' → M' a = some (.ins C dx (fsS L (L.length - r.length) F)) → Q (.str x) M'
theorem len_Splitter_read_quoted (C : Addr) (ds : List D) (M : Mem) (Q : QE) (Qx : QX) (h : sp_Splitter_read_quoted C ds M Q Qx) : ds.length = 2 := by obtain ⟨_, _, _, _, _, _, _, _, rfl, _⟩ := h; rfl
theorem join_nil (ys : List (List Nat)) : TL.joinL [] ys = ys.flatten := by
  induction ys with
  | nil => rfl
  | cons y ys ih =>
    cases ys with
    | nil => simp [TL.joinL]
    | cons z zs =>
      have e : TL.joinL [] (y :: z :: zs) = y ++ [] ++ TL.joinL [] (z :: zs) := by
        first | rfl | simp [TL.joinL]
      rw [e, ih]
      simp
structure IRq (C a dx : Addr) (L : List Nat) (F : D) (pa : Addr) (c p : Nat) (M : Mem) (p' : Nat) (xs : List (List Nat)) (M' : Mem) : Prop where
  ma : M' a = some (.ins C dx (fsS L p' F))
  mp : M' pa = some (.lst (xs.map .str))
  mx : Mxa a M M'
  h1 : p < p'
  h2 : p' ≤ L.length
  h3 : xs.length ≤ p'
  h4 : xs.flatten.length ≤ p'
  rd : Lx.rdq c (L.drop (p + 1)) = (Lx.rdq c (L.drop p')).map fun z => (xs.flatten ++ z.1, z.2)
def PRq (C a dx : Addr) (L : List Nat) (F : D) (pa : Addr) (c p : Nat) (M : Mem) (m : Nat) (δ' : DL.Env) (M' : Mem) : Prop :=
  ∃ p' xs y, δ' = [some (.ref a), some (.str [c]), some (.int p), some (.ref pa), y] ∧ m = L.length - p' ∧ IRq C a dx L F pa c p M p' xs M'
theorem sum_len (xs : List (List Nat)) : (List.map (fun x => x.length) xs).sum = xs.flatten.length := by rw [List.length_flatten]
theorem IRq.push {C a dx : Addr} {L : List Nat} {F : D} {pa : Addr} {c p : Nat} {M : Mem} {p' : Nat} {xs : List (List Nat)} {M' : Mem} (I : IRq C a dx L F pa c p M p' xs M') (ne : a ≠ pa) (hpa : M pa = none) {w p2 : Nat} {M2 : Mem} (h : p' < p2) (h' : p2 ≤ L.length) (ma : M2 a = some (.ins C dx (fsS L p2 F))) (mp : M2 pa = some (.lst (xs.map .str ++ [.str [w]]))) (mx : Mxa a M M2)
    (hw : Lx.rdq c (L.drop p') = (Lx.rdq c (L.drop p2)).map fun z => (w :: z.1, z.2)) : IRq C a dx L F pa c p M p2 (xs ++ [[w]]) M2 := by
  have h3 := I.h3
  have h4 := I.h4
  have h1 := I.h1
  refine ⟨ma, by rw [mp]; simp, mx, by omega, h', by simp; omega, by simp at h4 ⊢; omega, ?_⟩
  rw [I.rd, hw]
  cases Lx.rdq c (L.drop p2) with
  | none => rfl
  | some z => simp
theorem rk_Splitter_read_quoted {K C ds M Q Qx} (q : CF_Splitter K C) (h : sp_Splitter_read_quoted C ds M Q Qx) : rd_Splitter_read_quoted K C (sp_Splitter_read_escaped C) (fin Q Qx) (dstart 5 ds) M := by
  obtain ⟨a, dx, L, p, F, c, x, r, rfl, hM, hL, hp, hc, hr, k⟩ := h
  show rd_Splitter_read_quoted K _ _ _ [some (.ref a), some (.str [c]), none, none, none] M
  simp only [rd_Splitter_read_quoted, dSeq, dIfS, dNot, dTru, dB, dCB, dOp, dCons, dNil, dVar, dC, dNever, dNext, dRet, dRetN, dAsg, gNm, dAndV, dOrV, dNotV, dAnd, dOr, dIf, dLst, dLstM, dTup, dFld, dSetF, dAugF, dAug, dDrop, dAppend, dExtend, dPop, dPopAt, dPar, dPar3, dCall, dMeth, dMake, dJoin, dSl, dNo, dPart, dSeqI, dRange1, dRange2, dRange3, dEnum, dRevS, dRevL, dIsi2, dYes, dUn, dSetIx, dBreak, dCont, dChain, dFrz, e_vw1, e_vw2, e_vw3, e_vw4, e_vw5, e_vw6, e_vw7, e_vw8, e_vws0, e_vws1, e_gC, e_gN, e_gT, e_eq1, e_eq2, e_eq3, e_eq4, e_eq5, e_ne1, e_ne2, e_ne3, e_ne4, e_ne5, e_lt, e_gt, e_le, e_ge, e_in1, e_in2, e_in3, e_in4, e_in5, e_in6, e_add1, e_add2, e_add3, e_add4, e_iadd1, e_iadd2, e_sub, e_mul1, e_mul2, e_mulS, e_mulM, e_mod, e_div, e_pow, e_neg, e_ix1, e_ix2, e_ix3, e_ix4, e_sl1, e_sl2, e_sl3, e_sl4, e_len1, e_len2, e_len3, e_len4, e_int1, e_int2, e_tru1, e_tru2, e_tru3, e_tru4, e_tru5, e_tru6, e_okS1, e_okS2, e_okS3, e_okS4, e_okS5, e_okS6, e_ty1, e_ty2, e_ty3, e_ty4, e_ty5, e_ty6, e_ty7, e_isi1, e_isi2, e_isi3, e_isi4, e_isi5, e_isi6, e_isi7, e_isi8, e_isi9, e_isi10, e_isi11, e_isi12, e_isi13, e_isi14, e_isi15, e_isi16, e_isi17, e_frz1, e_frz2, e_frz3, e_frz4, e_it1, e_it2, e_it3, e_it4, isT_ss, isT_si, isT_sl, isT_st, isT_sb, isT_is, isT_ii, isT_il, isT_it, isT_ib, isT_bs, isT_bi, isT_bl, isT_bt, isT_bb, isT_ls, isT_li, isT_ll, isT_lt, isT_lb, isT_ts, isT_ti, isT_tl, isT_tt, isT_tb, List.getElem?_cons_zero, List.getElem?_cons_succ, List.set_cons_zero, List.set_cons_succ, List.cons_append, List.nil_append, List.length_cons, List.length_nil, dwipe, List.append_nil, List.cons.injEq, exists_eq_left, exists_eq_left', Option.some.injEq, D.str.injEq, D.int.injEq, D.bl.injEq, D.lst.injEq, D.tup.injEq, D.ref.injEq, D.scr.injEq, MO.lst.injEq, MO.ins.injEq, true_and, and_true, if_true, Bool.not_true, Bool.not_false, Bool.false_eq_true, if_false, exists_const, exists_eq, exists_eq', exists_and_left, and_self, reduceCtorEq, decide_true, decide_false, decide_eq_true_eq, Bool.not_eq_true', decide_eq_false_iff_not, and_assoc, Bool.true_or, Bool.or_true, Bool.false_or, Bool.or_false, Bool.true_and, Bool.false_and, hM, q.cl, q.n_position, q.n_line, lk_line, lk_pos, pt_1, mset_same, fs_len]
  refine ⟨by decide, fun pa hpa => ?_⟩
  have ne : a ≠ pa := mne hM hpa
  simp only [dSeq, dIfS, dNot, dTru, dB, dCB, dOp, dCons, dNil, dVar, dC, dNever, dNext, dRet, dRetN, dAsg, gNm, dAndV, dOrV, dNotV, dAnd, dOr, dIf, dLst, dLstM, dTup, dFld, dSetF, dAugF, dAug, dDrop, dAppend, dExtend, dPop, dPopAt, dPar, dPar3, dCall, dMeth, dMake, dJoin, dSl, dNo, dPart, dSeqI, dRange1, dRange2, dRange3, dEnum, dRevS, dRevL, dIsi2, dYes, dUn, dSetIx, dBreak, dCont, dChain, dFrz, e_vw1, e_vw2, e_vw3, e_vw4, e_vw5, e_vw6, e_vw7, e_vw8, e_vws0, e_vws1, e_gC, e_gN, e_gT, e_eq1, e_eq2, e_eq3, e_eq4, e_eq5, e_ne1, e_ne2, e_ne3, e_ne4, e_ne5, e_lt, e_gt, e_le, e_ge, e_in1, e_in2, e_in3, e_in4, e_in5, e_in6, e_add1, e_add2, e_add3, e_add4, e_iadd1, e_iadd2, e_sub, e_mul1, e_mul2, e_mulS, e_mulM, e_mod, e_div, e_pow, e_neg, e_ix1, e_ix2, e_ix3, e_ix4, e_sl1, e_sl2, e_sl3, e_sl4, e_len1, e_len2, e_len3, e_len4, e_int1, e_int2, e_tru1, e_tru2, e_tru3, e_tru4, e_tru5, e_tru6, e_okS1, e_okS2, e_okS3, e_okS4, e_okS5, e_okS6, e_ty1, e_ty2, e_ty3, e_ty4, e_ty5, e_ty6, e_ty7, e_isi1, e_isi2, e_isi3, e_isi4, e_isi5, e_isi6, e_isi7, e_isi8, e_isi9, e_isi10, e_isi11, e_isi12, e_isi13, e_isi14, e_isi15, e_isi16, e_isi17, e_frz1, e_frz2, e_frz3, e_frz4, e_it1, e_it2, e_it3, e_it4, isT_ss, isT_si, isT_sl, isT_st, isT_sb, isT_is, isT_ii, isT_il, isT_it, isT_ib, isT_bs, isT_bi, isT_bl, isT_bt, isT_bb, isT_ls, isT_li, isT_ll, isT_lt, isT_lb, isT_ts, isT_ti, isT_tl, isT_tt, isT_tb, List.getElem?_cons_zero, List.getElem?_cons_succ, List.set_cons_zero, List.set_cons_succ, List.cons_append, List.nil_append, List.length_cons, List.length_nil, dwipe, List.append_nil, List.cons.injEq, exists_eq_left, exists_eq_left', Option.some.injEq, D.str.injEq, D.int.injEq, D.bl.injEq, D.lst.injEq, D.tup.injEq, D.ref.injEq, D.scr.injEq, MO.lst.injEq, MO.ins.injEq, true_and, and_true, if_true, Bool.not_true, Bool.not_false, Bool.false_eq_true, if_false, exists_const, exists_eq, exists_eq', exists_and_left, and_self, reduceCtorEq, decide_true, decide_false, decide_eq_true_eq, Bool.not_eq_true', decide_eq_false_iff_not, and_assoc, Bool.true_or, Bool.or_true, Bool.false_or, Bool.or_false, Bool.true_and, Bool.false_and, mset_ne ne, hM, q.cl, q.n_position, lk_pos, pt_1, fs_len]
  refine ⟨by decide, PRq C a dx L F pa c p M, ⟨_, p + 1, [], none, rfl, rfl, mset_same, by rw [mset_ne ne.symm, mset_same]; rfl, ((Mxa.refl a M).upd hpa).set, by omega, by omega, by simp, by simp, by cases Lx.rdq c (L.drop (p + 1)) <;> simp⟩, ?_⟩
  rintro m δ' M' ⟨p', xs, y, rfl, rfl, I⟩
  have hM' := I.ma
  have hX := I.mp
  have hz := I.rd
  have h1 := I.h1
  have h3 := I.h3
  have h4 := I.h4
  have hL' : L.length ≤ 16777216 := by omega
  have npa : pa ≠ a := ne.symm
  have le : (Lx.rdq c (L.drop p')) ≠ none := fun z => by rw [hz, z] at hr; cases hr
  have hp' : p' < L.length := by
    apply Nat.lt_of_not_le
    intro z
    rw [List.drop_eq_nil_of_le z] at le
    exact le (Lx.rdq_nil c)
  obtain ⟨e, he, hdr⟩ := drop_at hp'
  have hlt : (p' : Int) < (L.length : Int) := by omega
  simp only [dSeq, dIfS, dNot, dTru, dB, dCB, dOp, dCons, dNil, dVar, dC, dNever, dNext, dRet, dRetN, dAsg, gNm, dAndV, dOrV, dNotV, dAnd, dOr, dIf, dLst, dLstM, dTup, dFld, dSetF, dAugF, dAug, dDrop, dAppend, dExtend, dPop, dPopAt, dPar, dPar3, dCall, dMeth, dMake, dJoin, dSl, dNo, dPart, dSeqI, dRange1, dRange2, dRange3, dEnum, dRevS, dRevL, dIsi2, dYes, dUn, dSetIx, dBreak, dCont, dChain, dFrz, e_vw1, e_vw2, e_vw3, e_vw4, e_vw5, e_vw6, e_vw7, e_vw8, e_vws0, e_vws1, e_gC, e_gN, e_gT, e_eq1, e_eq2, e_eq3, e_eq4, e_eq5, e_ne1, e_ne2, e_ne3, e_ne4, e_ne5, e_lt, e_gt, e_le, e_ge, e_in1, e_in2, e_in3, e_in4, e_in5, e_in6, e_add1, e_add2, e_add3, e_add4, e_iadd1, e_iadd2, e_sub, e_mul1, e_mul2, e_mulS, e_mulM, e_mod, e_div, e_pow, e_neg, e_ix1, e_ix2, e_ix3, e_ix4, e_sl1, e_sl2, e_sl3, e_sl4, e_len1, e_len2, e_len3, e_len4, e_int1, e_int2, e_tru1, e_tru2, e_tru3, e_tru4, e_tru5, e_tru6, e_okS1, e_okS2, e_okS3, e_okS4, e_okS5, e_okS6, e_ty1, e_ty2, e_ty3, e_ty4, e_ty5, e_ty6, e_ty7, e_isi1, e_isi2, e_isi3, e_isi4, e_isi5, e_isi6, e_isi7, e_isi8, e_isi9, e_isi10, e_isi11, e_isi12, e_isi13, e_isi14, e_isi15, e_isi16, e_isi17, e_frz1, e_frz2, e_frz3, e_frz4, e_it1, e_it2, e_it3, e_it4, isT_ss, isT_si, isT_sl, isT_st, isT_sb, isT_is, isT_ii, isT_il, isT_it, isT_ib, isT_bs, isT_bi, isT_bl, isT_bt, isT_bb, isT_ls, isT_li, isT_ll, isT_lt, isT_lb, isT_ts, isT_ti, isT_tl, isT_tt, isT_tb, List.getElem?_cons_zero, List.getElem?_cons_succ, List.set_cons_zero, List.set_cons_succ, List.cons_append, List.nil_append, List.length_cons, List.length_nil, dwipe, List.append_nil, List.cons.injEq, exists_eq_left, exists_eq_left', Option.some.injEq, D.str.injEq, D.int.injEq, D.bl.injEq, D.lst.injEq, D.tup.injEq, D.ref.injEq, D.scr.injEq, MO.lst.injEq, MO.ins.injEq, true_and, and_true, if_true, Bool.not_true, Bool.not_false, Bool.false_eq_true, if_false, exists_const, exists_eq, exists_eq', exists_and_left, and_self, reduceCtorEq, decide_true, decide_false, decide_eq_true_eq, Bool.not_eq_true', decide_eq_false_iff_not, and_assoc, Bool.true_or, Bool.or_true, Bool.false_or, Bool.or_false, Bool.true_and, Bool.false_and, hM', q.cl, q.n_position, q.n_line, lk_line, lk_pos, hL', hlt, atI_n he, pt_1, fs_len, c_em, c_bs, c_dq, join_nil, d_bs, d_dq]
  rw [hdr] at le
  by_cases c1 : e = c
  · subst c1
    rw [if_pos rfl]
    rw [hdr, Lx.rdq_close, hr] at hz
    simp only [Option.map_some, Option.some.injEq, Prod.mk.injEq, List.append_nil] at hz
    obtain ⟨z1, z2⟩ := hz
    have e1 : L.length - r.length = p' + 1 := by rw [z2, List.length_drop]; omega
    rw [e1, z1] at k
    refine ⟨by decide, xs, by rw [e_vwl (by rw [mset_ne npa]; exact hX)], ?_, k _ I.mx.set mset_same⟩
    rw [sum_len]
    simp only [List.length_nil, Nat.mul_zero, Nat.add_zero]
    omega
  · rw [if_neg c1]
    by_cases c2 : e = 92 ∧ c = 34
    · obtain ⟨rfl, rfl⟩ := c2
      rw [if_pos rfl, if_pos rfl]
      by_cases c3 : p' + 1 = L.length
      · exfalso
        rw [List.drop_eq_nil_of_le (by omega : L.length ≤ p' + 1), Lx.rdq_esc0] at le
        exact le rfl
      · rw [if_neg (by omega)]
        obtain ⟨d, hd, hd2⟩ := drop_at (L := L) (p := p' + 1) (by omega)
        refine ⟨_, hX, lk_e, a, dx, L, p', F, d, rfl, hM', hL, hd, _, by rw [mset_ne npa]; exact hX, by rw [List.length_map]; omega, L.length - (p' + 2), by omega, p' + 2, xs ++ [[d]], _, rfl, rfl, ?_⟩
        exact I.push ne hpa (by omega) (by omega) (by rw [mset_ne ne, mset_same]) mset_same (I.mx.set.upd hpa) (by rw [hdr, hd2, Lx.rdq_esc])
    · have hq := Lx.rdq_ch (q := c) c1 c2 (L.drop (p' + 1))
      split
      · split
        · rename_i b1 b2
          exact absurd ⟨b1, b2⟩ c2
        · skip
          refine ⟨_, hX, _, hX, by rw [List.length_map]; omega, ?_⟩
          simp only [dSeq, dIfS, dNot, dTru, dB, dCB, dOp, dCons, dNil, dVar, dC, dNever, dNext, dRet, dRetN, dAsg, gNm, dAndV, dOrV, dNotV, dAnd, dOr, dIf, dLst, dLstM, dTup, dFld, dSetF, dAugF, dAug, dDrop, dAppend, dExtend, dPop, dPopAt, dPar, dPar3, dCall, dMeth, dMake, dJoin, dSl, dNo, dPart, dSeqI, dRange1, dRange2, dRange3, dEnum, dRevS, dRevL, dIsi2, dYes, dUn, dSetIx, dBreak, dCont, dChain, dFrz, e_vw1, e_vw2, e_vw3, e_vw4, e_vw5, e_vw6, e_vw7, e_vw8, e_vws0, e_vws1, e_gC, e_gN, e_gT, e_eq1, e_eq2, e_eq3, e_eq4, e_eq5, e_ne1, e_ne2, e_ne3, e_ne4, e_ne5, e_lt, e_gt, e_le, e_ge, e_in1, e_in2, e_in3, e_in4, e_in5, e_in6, e_add1, e_add2, e_add3, e_add4, e_iadd1, e_iadd2, e_sub, e_mul1, e_mul2, e_mulS, e_mulM, e_mod, e_div, e_pow, e_neg, e_ix1, e_ix2, e_ix3, e_ix4, e_sl1, e_sl2, e_sl3, e_sl4, e_len1, e_len2, e_len3, e_len4, e_int1, e_int2, e_tru1, e_tru2, e_tru3, e_tru4, e_tru5, e_tru6, e_okS1, e_okS2, e_okS3, e_okS4, e_okS5, e_okS6, e_ty1, e_ty2, e_ty3, e_ty4, e_ty5, e_ty6, e_ty7, e_isi1, e_isi2, e_isi3, e_isi4, e_isi5, e_isi6, e_isi7, e_isi8, e_isi9, e_isi10, e_isi11, e_isi12, e_isi13, e_isi14, e_isi15, e_isi16, e_isi17, e_frz1, e_frz2, e_frz3, e_frz4, e_it1, e_it2, e_it3, e_it4, isT_ss, isT_si, isT_sl, isT_st, isT_sb, isT_is, isT_ii, isT_il, isT_it, isT_ib, isT_bs, isT_bi, isT_bl, isT_bt, isT_bb, isT_ls, isT_li, isT_ll, isT_lt, isT_lb, isT_ts, isT_ti, isT_tl, isT_tt, isT_tb, List.getElem?_cons_zero, List.getElem?_cons_succ, List.set_cons_zero, List.set_cons_succ, List.cons_append, List.nil_append, List.length_cons, List.length_nil, dwipe, List.append_nil, List.cons.injEq, exists_eq_left, exists_eq_left', Option.some.injEq, D.str.injEq, D.int.injEq, D.bl.injEq, D.lst.injEq, D.tup.injEq, D.ref.injEq, D.scr.injEq, MO.lst.injEq, MO.ins.injEq, true_and, and_true, if_true, Bool.not_true, Bool.not_false, Bool.false_eq_true, if_false, exists_const, exists_eq, exists_eq', exists_and_left, and_self, reduceCtorEq, decide_true, decide_false, decide_eq_true_eq, Bool.not_eq_true', decide_eq_false_iff_not, and_assoc, Bool.true_or, Bool.or_true, Bool.false_or, Bool.or_false, Bool.true_and, Bool.false_and, mset_ne ne, hM', q.cl, q.n_position, lk_pos, pt_1, fs_len]
          refine ⟨by decide, L.length - (p' + 1), by omega, p' + 1, xs ++ [[e]], _, rfl, rfl, ?_⟩
          exact I.push ne hpa (by omega) (by omega) mset_same (by rw [mset_ne npa, mset_same]) (I.mx.upd hpa).set (by rw [hdr, hq])
      · skip
        refine ⟨_, hX, _, hX, by rw [List.length_map]; omega, ?_⟩
        simp only [dSeq, dIfS, dNot, dTru, dB, dCB, dOp, dCons, dNil, dVar, dC, dNever, dNext, dRet, dRetN, dAsg, gNm, dAndV, dOrV, dNotV, dAnd, dOr, dIf, dLst, dLstM, dTup, dFld, dSetF, dAugF, dAug, dDrop, dAppend, dExtend, dPop, dPopAt, dPar, dPar3, dCall, dMeth, dMake, dJoin, dSl, dNo, dPart, dSeqI, dRange1, dRange2, dRange3, dEnum, dRevS, dRevL, dIsi2, dYes, dUn, dSetIx, dBreak, dCont, dChain, dFrz, e_vw1, e_vw2, e_vw3, e_vw4, e_vw5, e_vw6, e_vw7, e_vw8, e_vws0, e_vws1, e_gC, e_gN, e_gT, e_eq1, e_eq2, e_eq3, e_eq4, e_eq5, e_ne1, e_ne2, e_ne3, e_ne4, e_ne5, e_lt, e_gt, e_le, e_ge, e_in1, e_in2, e_in3, e_in4, e_in5, e_in6, e_add1, e_add2, e_add3, e_add4, e_iadd1, e_iadd2, e_sub, e_mul1, e_mul2, e_mulS, e_mulM, e_mod, e_div, e_pow, e_neg, e_ix1, e_ix2, e_ix3, e_ix4, e_sl1, e_sl2, e_sl3, e_sl4, e_len1, e_len2, e_len3, e_len4, e_int1, e_int2, e_tru1, e_tru2, e_tru3, e_tru4, e_tru5, e_tru6, e_okS1, e_okS2, e_okS3, e_okS4, e_okS5, e_okS6, e_ty1, e_ty2, e_ty3, e_ty4, e_ty5, e_ty6, e_ty7, e_isi1, e_isi2, e_isi3, e_isi4, e_isi5, e_isi6, e_isi7, e_isi8, e_isi9, e_isi10, e_isi11, e_isi12, e_isi13, e_isi14, e_isi15, e_isi16, e_isi17, e_frz1, e_frz2, e_frz3, e_frz4, e_it1, e_it2, e_it3, e_it4, isT_ss, isT_si, isT_sl, isT_st, isT_sb, isT_is, isT_ii, isT_il, isT_it, isT_ib, isT_bs, isT_bi, isT_bl, isT_bt, isT_bb, isT_ls, isT_li, isT_ll, isT_lt, isT_lb, isT_ts, isT_ti, isT_tl, isT_tt, isT_tb, List.getElem?_cons_zero, List.getElem?_cons_succ, List.set_cons_zero, List.set_cons_succ, List.cons_append, List.nil_append, List.length_cons, List.length_nil, dwipe, List.append_nil, List.cons.injEq, exists_eq_left, exists_eq_left', Option.some.injEq, D.str.injEq, D.int.injEq, D.bl.injEq, D.lst.injEq, D.tup.injEq, D.ref.injEq, D.scr.injEq, MO.lst.injEq, MO.ins.injEq, true_and, and_true, if_true, Bool.not_true, Bool.not_false, Bool.false_eq_true, if_false, exists_const, exists_eq, exists_eq', exists_and_left, and_self, reduceCtorEq, decide_true, decide_false, decide_eq_true_eq, Bool.not_eq_true', decide_eq_false_iff_not, and_assoc, Bool.true_or, Bool.or_true, Bool.false_or, Bool.or_false, Bool.true_and, Bool.false_and, mset_ne ne, hM', q.cl, q.n_position, lk_pos, pt_1, fs_len]
        refine ⟨by decide, L.length - (p' + 1), by omega, p' + 1, xs ++ [[e]], _, rfl, rfl, ?_⟩
        exact I.push ne hpa (by omega) (by omega) mset_same (by rw [mset_ne npa, mset_same]) (I.mx.upd hpa).set (by rw [hdr, hq])
def sp_Splitter_read_token (C : Addr) : SpD := fun ds M Q _ => ∃ a dx L p F t r, ds = [.ref a] ∧ M a = some (.ins C dx (fsS L p F)) ∧ L.length ≤ 200 ∧ p ≤ L.length ∧ Lx.tok (L.drop p) = .ok (t, r) ∧
  ∀ M', Mxa a M M' → M' a = some (.ins C dx (fsS L (L.length - r.length) F)) → Q (.str t) M'
theorem len_Splitter_read_token (C : Addr) (ds : List D) (M : Mem) (Q : QE) (Qx : QX) (h : sp_Splitter_read_token C ds M Q Qx) : ds.length = 1 := by obtain ⟨_, _, _, _, _, _, _, rfl, _⟩ := h; rfl
structure ITk (C a dx : Addr) (L : List Nat) (F : D) (pa : Addr) (p : Nat) (M : Mem) (p' : Nat) (xs : List (List Nat)) (M' : Mem) : Prop where
  ma : M' a = some (.ins C dx (fsS L p' F))
  mp : M' pa = some (.lst (xs.map .str))
  mx : Mxa a M M'
  h2 : p' ≤ L.length
  h3 : xs.length ≤ p'
  h4 : xs.flatten.length ≤ p'
  rd : Lx.tok (L.drop p) = Lx.cat xs.flatten (Lx.tok (L.drop p'))
def PTk (C a dx : Addr) (L : List Nat) (F : D) (pa : Addr) (p : Nat) (M : Mem) (m : Nat) (δ' : DL.Env) (M' : Mem) : Prop :=
  ∃ p' xs y, δ' = [some (.ref a), some (.ref pa), y] ∧ m = L.length - p' ∧ ITk C a dx L F pa p M p' xs M'
theorem ITk.push {C a dx : Addr} {L : List Nat} {F : D} {pa : Addr} {p : Nat} {M : Mem} {p' : Nat} {xs : List (List Nat)} {M' : Mem} (I : ITk C a dx L F pa p M p' xs M') {w : List Nat} {p2 : Nat} {M2 : Mem} (h : p' < p2) (h' : p2 ≤ L.length) (hl : p' + w.length ≤ p2) (ma : M2 a = some (.ins C dx (fsS L p2 F))) (mp : M2 pa = some (.lst (xs.map .str ++ [.str w]))) (mx : Mxa a M M2)
    (hw : Lx.tok (L.drop p') = Lx.cat w (Lx.tok (L.drop p2))) : ITk C a dx L F pa p M p2 (xs ++ [w]) M2 := by
  have h3 := I.h3
  have h4 := I.h4
  refine ⟨ma, by rw [mp]; simp, mx, h', by simp; omega, by simp at h4 ⊢; omega, ?_⟩
  rw [I.rd, hw, Lx.cat_cat]
  simp
theorem deq_q (c : Nat) : has (.str [c]) [.str [39], .str [34]] = decide (c = 39 ∨ c = 34) := by
  simp only [has, List.any_cons, List.any_nil, deq_str, Bool.or_false]
  by_cases h1 : c = 39
  · simp [h1]
  · by_cases h2 : c = 34
    · simp [h2]
    · simp [h1, h2, Ne.symm h1, Ne.symm h2]
theorem sm_q : sm (.tup [.str [39], .str [34]]) := ⟨by decide +kernel, by decide +kernel⟩
theorem rk_Splitter_read_token {K C ds M Q Qx} (q : CF_Splitter K C) (h : sp_Splitter_read_token C ds M Q Qx) : rd_Splitter_read_token K C (sp_Splitter_read_quoted C) (sp_Splitter_read_escaped C) (fin Q Qx) (dstart 3 ds) M := by
  obtain ⟨a, dx, L, p, F, t, r, rfl, hM, hL, hp, hr, k⟩ := h
  show rd_Splitter_read_token K _ _ _ _ [some (.ref a), none, none] M
  simp only [rd_Splitter_read_token, dSeq, dIfS, dNot, dTru, dB, dCB, dOp, dCons, dNil, dVar, dC, dNever, dNext, dRet, dRetN, dAsg, gNm, dAndV, dOrV, dNotV, dAnd, dOr, dIf, dLst, dLstM, dTup, dFld, dSetF, dAugF, dAug, dDrop, dAppend, dExtend, dPop, dPopAt, dPar, dPar3, dCall, dMeth, dMake, dJoin, dSl, dNo, dPart, dSeqI, dRange1, dRange2, dRange3, dEnum, dRevS, dRevL, dIsi2, dYes, dUn, dSetIx, dBreak, dCont, dChain, dFrz, e_vw1, e_vw2, e_vw3, e_vw4, e_vw5, e_vw6, e_vw7, e_vw8, e_vws0, e_vws1, e_gC, e_gN, e_gT, e_eq1, e_eq2, e_eq3, e_eq4, e_eq5, e_ne1, e_ne2, e_ne3, e_ne4, e_ne5, e_lt, e_gt, e_le, e_ge, e_in1, e_in2, e_in3, e_in4, e_in5, e_in6, e_add1, e_add2, e_add3, e_add4, e_iadd1, e_iadd2, e_sub, e_mul1, e_mul2, e_mulS, e_mulM, e_mod, e_div, e_pow, e_neg, e_ix1, e_ix2, e_ix3, e_ix4, e_sl1, e_sl2, e_sl3, e_sl4, e_len1, e_len2, e_len3, e_len4, e_int1, e_int2, e_tru1, e_tru2, e_tru3, e_tru4, e_tru5, e_tru6, e_okS1, e_okS2, e_okS3, e_okS4, e_okS5, e_okS6, e_ty1, e_ty2, e_ty3, e_ty4, e_ty5, e_ty6, e_ty7, e_isi1, e_isi2, e_isi3, e_isi4, e_isi5, e_isi6, e_isi7, e_isi8, e_isi9, e_isi10, e_isi11, e_isi12, e_isi13, e_isi14, e_isi15, e_isi16, e_isi17, e_frz1, e_frz2, e_frz3, e_frz4, e_it1, e_it2, e_it3, e_it4, isT_ss, isT_si, isT_sl, isT_st, isT_sb, isT_is, isT_ii, isT_il, isT_it, isT_ib, isT_bs, isT_bi, isT_bl, isT_bt, isT_bb, isT_ls, isT_li, isT_ll, isT_lt, isT_lb, isT_ts, isT_ti, isT_tl, isT_tt, isT_tb, List.getElem?_cons_zero, List.getElem?_cons_succ, List.set_cons_zero, List.set_cons_succ, List.cons_append, List.nil_append, List.length_cons, List.length_nil, dwipe, List.append_nil, List.cons.injEq, exists_eq_left, exists_eq_left', Option.some.injEq, D.str.injEq, D.int.injEq, D.bl.injEq, D.lst.injEq, D.tup.injEq, D.ref.injEq, D.scr.injEq, MO.lst.injEq, MO.ins.injEq, true_and, and_true, if_true, Bool.not_true, Bool.not_false, Bool.false_eq_true, if_false, exists_const, exists_eq, exists_eq', exists_and_left, and_self, reduceCtorEq, decide_true, decide_false, decide_eq_true_eq, Bool.not_eq_true', decide_eq_false_iff_not, and_assoc, Bool.true_or, Bool.or_true, Bool.false_or, Bool.or_false, Bool.true_and, Bool.false_and]
  refine ⟨by decide, fun pa hpa => ?_⟩
  have ne : a ≠ pa := mne hM hpa
  have npa : pa ≠ a := ne.symm
  refine ⟨PTk C a dx L F pa p M, ⟨_, p, [], none, rfl, rfl, by rw [mset_ne ne]; exact hM, mset_same, (Mxa.refl a M).upd hpa, hp, by simp, by simp, (Lx.cat_nil _).symm⟩, ?_⟩
  rintro m δ' M' ⟨p', xs, y, rfl, rfl, I⟩
  have hM' := I.ma
  have hX := I.mp
  have hz := I.rd
  have h2 := I.h2
  have h3 := I.h3
  have h4 := I.h4
  have hL' : L.length ≤ 16777216 := by omega
  simp only [dSeq, dIfS, dNot, dTru, dB, dCB, dOp, dCons, dNil, dVar, dC, dNever, dNext, dRet, dRetN, dAsg, gNm, dAndV, dOrV, dNotV, dAnd, dOr, dIf, dLst, dLstM, dTup, dFld, dSetF, dAugF, dAug, dDrop, dAppend, dExtend, dPop, dPopAt, dPar, dPar3, dCall, dMeth, dMake, dJoin, dSl, dNo, dPart, dSeqI, dRange1, dRange2, dRange3, dEnum, dRevS, dRevL, dIsi2, dYes, dUn, dSetIx, dBreak, dCont, dChain, dFrz, e_vw1, e_vw2, e_vw3, e_vw4, e_vw5, e_vw6, e_vw7, e_vw8, e_vws0, e_vws1, e_gC, e_gN, e_gT, e_eq1, e_eq2, e_eq3, e_eq4, e_eq5, e_ne1, e_ne2, e_ne3, e_ne4, e_ne5, e_lt, e_gt, e_le, e_ge, e_in1, e_in2, e_in3, e_in4, e_in5, e_in6, e_add1, e_add2, e_add3, e_add4, e_iadd1, e_iadd2, e_sub, e_mul1, e_mul2, e_mulS, e_mulM, e_mod, e_div, e_pow, e_neg, e_ix1, e_ix2, e_ix3, e_ix4, e_sl1, e_sl2, e_sl3, e_sl4, e_len1, e_len2, e_len3, e_len4, e_int1, e_int2, e_tru1, e_tru2, e_tru3, e_tru4, e_tru5, e_tru6, e_okS1, e_okS2, e_okS3, e_okS4, e_okS5, e_okS6, e_ty1, e_ty2, e_ty3, e_ty4, e_ty5, e_ty6, e_ty7, e_isi1, e_isi2, e_isi3, e_isi4, e_isi5, e_isi6, e_isi7, e_isi8, e_isi9, e_isi10, e_isi11, e_isi12, e_isi13, e_isi14, e_isi15, e_isi16, e_isi17, e_frz1, e_frz2, e_frz3, e_frz4, e_it1, e_it2, e_it3, e_it4, isT_ss, isT_si, isT_sl, isT_st, isT_sb, isT_is, isT_ii, isT_il, isT_it, isT_ib, isT_bs, isT_bi, isT_bl, isT_bt, isT_bb, isT_ls, isT_li, isT_ll, isT_lt, isT_lb, isT_ts, isT_ti, isT_tl, isT_tt, isT_tb, List.getElem?_cons_zero, List.getElem?_cons_succ, List.set_cons_zero, List.set_cons_succ, List.cons_append, List.nil_append, List.length_cons, List.length_nil, dwipe, List.append_nil, List.cons.injEq, exists_eq_left, exists_eq_left', Option.some.injEq, D.str.injEq, D.int.injEq, D.bl.injEq, D.lst.injEq, D.tup.injEq, D.ref.injEq, D.scr.injEq, MO.lst.injEq, MO.ins.injEq, true_and, and_true, if_true, Bool.not_true, Bool.not_false, Bool.false_eq_true, if_false, exists_const, exists_eq, exists_eq', exists_and_left, and_self, reduceCtorEq, decide_true, decide_false, decide_eq_true_eq, Bool.not_eq_true', decide_eq_false_iff_not, and_assoc, Bool.true_or, Bool.or_true, Bool.false_or, Bool.or_false, Bool.true_and, Bool.false_and, hM', q.cl, q.n_position, q.n_line, lk_line, lk_pos, hL', d_sp, d_sq, d_dq, d_bs, c_em, join_nil]
  have out : (∀ c r', L.drop p' = c :: r' → c = 32) → ∃ ys, vw M' (.ref pa) = .lst (List.map D.str ys) ∧ (List.map (fun x => x.length) ys).sum + ys.length * 0 ≤ 16777216 ∧ Q (.str ys.flatten) M' := fun h => by
    refine ⟨xs, by rw [e_vwl hX], by rw [sum_len]; omega, ?_⟩
    have : Lx.tok (L.drop p') = .ok ([], L.drop p') := by
      cases e : L.drop p' with
      | nil => exact Lx.tok_nil
      | cons c r' =>
        have := h c r' e
        subst this
        exact Lx.tok_sp r'
    rw [this, hr] at hz
    simp only [Lx.cat, Except.map, Except.ok.injEq, Prod.mk.injEq, List.append_nil] at hz
    obtain ⟨z1, z2⟩ := hz
    rw [← z1]
    refine k M' I.mx ?_
    rw [hM', z2, List.length_drop]
    have : L.length - (L.length - p') = p' := by omega
    rw [this]
  by_cases hlt : p' < L.length
  · rw [if_pos (by omega)]
    obtain ⟨e, he, hdr⟩ := drop_at hlt
    refine ⟨e, atI_n he, ?_⟩
    rw [hdr] at out
    by_cases c0 : e = 32
    · rw [if_neg (by simp [c0])]
      exact out fun c r' z => by cases z; exact c0
    rw [if_pos c0]
    refine ⟨e, atI_n he, by omega, sm_str _, sm_q, ?_⟩
    rw [deq_q]
    rw [hr, hdr] at hz
    by_cases c1 : e = 39 ∨ e = 34
    · rw [if_pos (by simpa using c1)]
      cases hq : Lx.rdq e (L.drop (p' + 1)) with
      | none =>
        rw [Lx.tok_q0 c1 hq] at hz
        cases hz
      | some z =>
        have hl := Lx.rdq_len e _ _ (Nat.le_refl _) z.1 z.2 hq
        have hs := Lx.rdt_len.rdq_sum e _ _ (Nat.le_refl _) z.1 z.2 hq
        rw [List.length_drop] at hl hs
        have hk : Lx.tok (L.drop p') = Lx.cat z.1 (Lx.tok z.2) := by rw [hdr]; exact Lx.tok_q c1 hq
        have hsuf : z.2 = L.drop (L.length - z.2.length) := by
          have := Lx.rdq_suf e _ _ (Nat.le_refl _) z.1 z.2 hq
          have := this.trans (List.drop_suffix _ _)
          exact (List.suffix_iff_eq_drop.mp this)
        refine ⟨_, hX, lk_q, a, dx, L, p', F, e, z.1, z.2, rfl, hM', hL, hlt, c1, hq, fun M2 x2 m2 => ⟨_, x2 _ _ npa hX, by rw [List.length_map]; omega, L.length - (L.length - z.2.length), by omega, _, xs ++ [z.1], _, rfl, rfl, ?_⟩⟩
        refine I.push (by omega) (by omega) (by omega) (by rw [mset_ne ne]; exact m2) mset_same ((I.mx.trans x2).upd hpa) ?_
        rw [hk, ← hsuf]
    · rw [if_neg (by simpa using c1)]
      by_cases c2 : e = 92
      · rw [if_pos c2]
        subst c2
        by_cases c3 : p' + 1 = L.length
        · rw [List.drop_eq_nil_of_le (by omega : L.length ≤ p' + 1), Lx.tok_esc0] at hz
          cases hz
        · obtain ⟨d, hd, hd2⟩ := drop_at (L := L) (p := p' + 1) (by omega)
          refine ⟨_, hX, lk_e, a, dx, L, p', F, d, rfl, hM', hL, hd, _, by rw [mset_ne npa]; exact hX, by rw [List.length_map]; omega, L.length - (p' + 2), by omega, p' + 2, xs ++ [[d]], _, rfl, rfl, ?_⟩
          exact I.push (by omega) (by omega) (by simp) (by rw [mset_ne ne, mset_same]) mset_same (I.mx.set.upd hpa) (by rw [hdr, hd2, Lx.tok_esc])
      · rw [if_neg c2]
        refine ⟨_, hX, _, hX, by rw [List.length_map]; omega, ?_⟩
        simp only [dSeq, dIfS, dNot, dTru, dB, dCB, dOp, dCons, dNil, dVar, dC, dNever, dNext, dRet, dRetN, dAsg, gNm, dAndV, dOrV, dNotV, dAnd, dOr, dIf, dLst, dLstM, dTup, dFld, dSetF, dAugF, dAug, dDrop, dAppend, dExtend, dPop, dPopAt, dPar, dPar3, dCall, dMeth, dMake, dJoin, dSl, dNo, dPart, dSeqI, dRange1, dRange2, dRange3, dEnum, dRevS, dRevL, dIsi2, dYes, dUn, dSetIx, dBreak, dCont, dChain, dFrz, e_vw1, e_vw2, e_vw3, e_vw4, e_vw5, e_vw6, e_vw7, e_vw8, e_vws0, e_vws1, e_gC, e_gN, e_gT, e_eq1, e_eq2, e_eq3, e_eq4, e_eq5, e_ne1, e_ne2, e_ne3, e_ne4, e_ne5, e_lt, e_gt, e_le, e_ge, e_in1, e_in2, e_in3, e_in4, e_in5, e_in6, e_add1, e_add2, e_add3, e_add4, e_iadd1, e_iadd2, e_sub, e_mul1, e_mul2, e_mulS, e_mulM, e_mod, e_div, e_pow, e_neg, e_ix1, e_ix2, e_ix3, e_ix4, e_sl1, e_sl2, e_sl3, e_sl4, e_len1, e_len2, e_len3, e_len4, e_int1, e_int2, e_tru1, e_tru2, e_tru3, e_tru4, e_tru5, e_tru6, e_okS1, e_okS2, e_okS3, e_okS4, e_okS5, e_okS6, e_ty1, e_ty2, e_ty3, e_ty4, e_ty5, e_ty6, e_ty7, e_isi1, e_isi2, e_isi3, e_isi4, e_isi5, e_isi6, e_isi7, e_isi8, e_isi9, e_isi10, e_isi11, e_isi12, e_isi13, e_isi14, e_isi15, e_isi16, e_isi17, e_frz1, e_frz2, e_frz3, e_frz4, e_it1, e_it2, e_it3, e_it4, isT_ss, isT_si, isT_sl, isT_st, isT_sb, isT_is, isT_ii, isT_il, isT_it, isT_ib, isT_bs, isT_bi, isT_bl, isT_bt, isT_bb, isT_ls, isT_li, isT_ll, isT_lt, isT_lb, isT_ts, isT_ti, isT_tl, isT_tt, isT_tb, List.getElem?_cons_zero, List.getElem?_cons_succ, List.set_cons_zero, List.set_cons_succ, List.cons_append, List.nil_append, List.length_cons, List.length_nil, dwipe, List.append_nil, List.cons.injEq, exists_eq_left, exists_eq_left', Option.some.injEq, D.str.injEq, D.int.injEq, D.bl.injEq, D.lst.injEq, D.tup.injEq, D.ref.injEq, D.scr.injEq, MO.lst.injEq, MO.ins.injEq, true_and, and_true, if_true, Bool.not_true, Bool.not_false, Bool.false_eq_true, if_false, exists_const, exists_eq, exists_eq', exists_and_left, and_self, reduceCtorEq, decide_true, decide_false, decide_eq_true_eq, Bool.not_eq_true', decide_eq_false_iff_not, and_assoc, Bool.true_or, Bool.or_true, Bool.false_or, Bool.or_false, Bool.true_and, Bool.false_and, mset_ne ne, hM', q.cl, q.n_position, lk_pos, pt_1, fs_len]
        refine ⟨by decide, L.length - (p' + 1), by omega, p' + 1, xs ++ [[e]], _, rfl, rfl, ?_⟩
        exact I.push (by omega) (by omega) (by simp) mset_same (by rw [mset_ne npa, mset_same]) (I.mx.upd hpa).set (by rw [hdr, Lx.tok_ch c0 c1 c2])
  · rw [if_neg (by omega)]
    exact out fun c r' z => by rw [List.drop_eq_nil_of_le (by omega)] at z; cases z
end K42

set_option Elab.async false
set_option linter.all false
set_option maxRecDepth 100000
set_option maxHeartbeats 4000000
namespace K42
open PySem L2 DL
def sp_Splitter_init (C : Addr) : SpD := fun ds M Q _ => ∃ a dx L, ds = [.ref a, .str L] ∧ M a = some (.ins C dx []) ∧ ∀ M' fa, Mxa a M M' → M fa = none → M' a = some (.ins C dx (fsS L 0 (.ref fa))) → M' fa = some (.lst []) → Q .non M'
theorem len_Splitter_init (C : Addr) (ds : List D) (M : Mem) (Q : QE) (Qx : QX) (h : sp_Splitter_init C ds M Q Qx) : ds.length = 2 := by obtain ⟨_, _, _, rfl, _⟩ := h; rfl
theorem rk_Splitter_init {K C ds M Q Qx} (q : CF_Splitter K C) (h : sp_Splitter_init C ds M Q Qx) : rd_Splitter_init K (fin Q Qx) (dstart 2 ds) M := by
  obtain ⟨a, dx, L, rfl, hM, k⟩ := h
  show rd_Splitter_init K _ [some (.ref a), some (.str L)] M
  simp only [rd_Splitter_init, dSeq, dIfS, dNot, dTru, dB, dCB, dOp, dCons, dNil, dVar, dC, dNever, dNext, dRet, dRetN, dAsg, gNm, dAndV, dOrV, dNotV, dAnd, dOr, dIf, dLst, dLstM, dTup, dFld, dSetF, dAugF, dAug, dDrop, dAppend, dExtend, dPop, dPopAt, dPar, dPar3, dCall, dMeth, dMake, dJoin, dSl, dNo, dPart, dSeqI, dRange1, dRange2, dRange3, dEnum, dRevS, dRevL, dIsi2, dYes, dUn, dSetIx, dBreak, dCont, dChain, dFrz, e_vw1, e_vw2, e_vw3, e_vw4, e_vw5, e_vw6, e_vw7, e_vw8, e_vws0, e_vws1, e_gC, e_gN, e_gT, e_eq1, e_eq2, e_eq3, e_eq4, e_eq5, e_ne1, e_ne2, e_ne3, e_ne4, e_ne5, e_lt, e_gt, e_le, e_ge, e_in1, e_in2, e_in3, e_in4, e_in5, e_in6, e_add1, e_add2, e_add3, e_add4, e_iadd1, e_iadd2, e_sub, e_mul1, e_mul2, e_mulS, e_mulM, e_mod, e_div, e_pow, e_neg, e_ix1, e_ix2, e_ix3, e_ix4, e_sl1, e_sl2, e_sl3, e_sl4, e_len1, e_len2, e_len3, e_len4, e_int1, e_int2, e_tru1, e_tru2, e_tru3, e_tru4, e_tru5, e_tru6, e_okS1, e_okS2, e_okS3, e_okS4, e_okS5, e_okS6, e_ty1, e_ty2, e_ty3, e_ty4, e_ty5, e_ty6, e_ty7, e_isi1, e_isi2, e_isi3, e_isi4, e_isi5, e_isi6, e_isi7, e_isi8, e_isi9, e_isi10, e_isi11, e_isi12, e_isi13, e_isi14, e_isi15, e_isi16, e_isi17, e_frz1, e_frz2, e_frz3, e_frz4, e_it1, e_it2, e_it3, e_it4, isT_ss, isT_si, isT_sl, isT_st, isT_sb, isT_is, isT_ii, isT_il, isT_it, isT_ib, isT_bs, isT_bi, isT_bl, isT_bt, isT_bb, isT_ls, isT_li, isT_ll, isT_lt, isT_lb, isT_ts, isT_ti, isT_tl, isT_tt, isT_tb, List.getElem?_cons_zero, List.getElem?_cons_succ, List.set_cons_zero, List.set_cons_succ, List.cons_append, List.nil_append, List.length_cons, List.length_nil, dwipe, List.append_nil, List.cons.injEq, exists_eq_left, exists_eq_left', Option.some.injEq, D.str.injEq, D.int.injEq, D.bl.injEq, D.lst.injEq, D.tup.injEq, D.ref.injEq, D.scr.injEq, MO.lst.injEq, MO.ins.injEq, true_and, and_true, if_true, Bool.not_true, Bool.not_false, Bool.false_eq_true, if_false, exists_const, exists_eq, exists_eq', exists_and_left, and_self, reduceCtorEq, decide_true, decide_false, decide_eq_true_eq, Bool.not_eq_true', decide_eq_false_iff_not, and_assoc, Bool.true_or, Bool.or_true, Bool.false_or, Bool.or_false, Bool.true_and, Bool.false_and, hM, q.cl, q.n_line, q.n_position, mset_same, mset_mset]
  refine ⟨by decide, (by show 1 < 1000; decide), by decide, fun fa hfa => ?_⟩
  have ne : a ≠ fa := fun e => by rw [← e, mset_same] at hfa; cases hfa
  rw [mset_ne ne.symm] at hfa
  simp only [dSeq, dIfS, dNot, dTru, dB, dCB, dOp, dCons, dNil, dVar, dC, dNever, dNext, dRet, dRetN, dAsg, gNm, dAndV, dOrV, dNotV, dAnd, dOr, dIf, dLst, dLstM, dTup, dFld, dSetF, dAugF, dAug, dDrop, dAppend, dExtend, dPop, dPopAt, dPar, dPar3, dCall, dMeth, dMake, dJoin, dSl, dNo, dPart, dSeqI, dRange1, dRange2, dRange3, dEnum, dRevS, dRevL, dIsi2, dYes, dUn, dSetIx, dBreak, dCont, dChain, dFrz, e_vw1, e_vw2, e_vw3, e_vw4, e_vw5, e_vw6, e_vw7, e_vw8, e_vws0, e_vws1, e_gC, e_gN, e_gT, e_eq1, e_eq2, e_eq3, e_eq4, e_eq5, e_ne1, e_ne2, e_ne3, e_ne4, e_ne5, e_lt, e_gt, e_le, e_ge, e_in1, e_in2, e_in3, e_in4, e_in5, e_in6, e_add1, e_add2, e_add3, e_add4, e_iadd1, e_iadd2, e_sub, e_mul1, e_mul2, e_mulS, e_mulM, e_mod, e_div, e_pow, e_neg, e_ix1, e_ix2, e_ix3, e_ix4, e_sl1, e_sl2, e_sl3, e_sl4, e_len1, e_len2, e_len3, e_len4, e_int1, e_int2, e_tru1, e_tru2, e_tru3, e_tru4, e_tru5, e_tru6, e_okS1, e_okS2, e_okS3, e_okS4, e_okS5, e_okS6, e_ty1, e_ty2, e_ty3, e_ty4, e_ty5, e_ty6, e_ty7, e_isi1, e_isi2, e_isi3, e_isi4, e_isi5, e_isi6, e_isi7, e_isi8, e_isi9, e_isi10, e_isi11, e_isi12, e_isi13, e_isi14, e_isi15, e_isi16, e_isi17, e_frz1, e_frz2, e_frz3, e_frz4, e_it1, e_it2, e_it3, e_it4, isT_ss, isT_si, isT_sl, isT_st, isT_sb, isT_is, isT_ii, isT_il, isT_it, isT_ib, isT_bs, isT_bi, isT_bl, isT_bt, isT_bb, isT_ls, isT_li, isT_ll, isT_lt, isT_lb, isT_ts, isT_ti, isT_tl, isT_tt, isT_tb, List.getElem?_cons_zero, List.getElem?_cons_succ, List.set_cons_zero, List.set_cons_succ, List.cons_append, List.nil_append, List.length_cons, List.length_nil, dwipe, List.append_nil, List.cons.injEq, exists_eq_left, exists_eq_left', Option.some.injEq, D.str.injEq, D.int.injEq, D.bl.injEq, D.lst.injEq, D.tup.injEq, D.ref.injEq, D.scr.injEq, MO.lst.injEq, MO.ins.injEq, true_and, and_true, if_true, Bool.not_true, Bool.not_false, Bool.false_eq_true, if_false, exists_const, exists_eq, exists_eq', exists_and_left, and_self, reduceCtorEq, decide_true, decide_false, decide_eq_true_eq, Bool.not_eq_true', decide_eq_false_iff_not, and_assoc, Bool.true_or, Bool.or_true, Bool.false_or, Bool.or_false, Bool.true_and, Bool.false_and, mset_ne ne, mset_same, q.cl, q.n_found]
  exact ⟨(by show 2 < 1000; decide), k _ fa (((Mxa.refl a M).set.upd hfa).set) hfa mset_same (by rw [mset_ne ne.symm, mset_same])⟩
def sp_Splitter_run (C : Addr) : SpD := fun ds M Q _ => ∃ a dx L fa ts, ds = [.ref a] ∧ M a = some (.ins C dx (fsS L 0 (.ref fa))) ∧ M fa = some (.lst []) ∧ L.length ≤ 200 ∧ Lx.spl L = .ok ts ∧
  ∀ M', (∀ b o, b ≠ a → b ≠ fa → M b = some o → M' b = some o) → M' fa = some (.lst (ts.map .str)) → Q (.ref fa) M'
theorem len_Splitter_run (C : Addr) (ds : List D) (M : Mem) (Q : QE) (Qx : QX) (h : sp_Splitter_run C ds M Q Qx) : ds.length = 1 := by obtain ⟨_, _, _, _, _, rfl, _⟩ := h; rfl
structure IRun (C a dx : Addr) (L : List Nat) (fa : Addr) (M : Mem) (p : Nat) (xs : List (List Nat)) (M' : Mem) : Prop where
  ma : M' a = some (.ins C dx (fsS L p (.ref fa)))
  mp : M' fa = some (.lst (xs.map .str))
  mx : ∀ b o, b ≠ a → b ≠ fa → M b = some o → M' b = some o
  h2 : p ≤ L.length
  h3 : xs.length ≤ p
  rd : Lx.spl L = (Lx.spl (L.drop p)).map fun ts => xs ++ ts
def PRun (C a dx : Addr) (L : List Nat) (fa : Addr) (M : Mem) (m : Nat) (δ' : DL.Env) (M' : Mem) : Prop := ∃ p xs, δ' = [some (.ref a)] ∧ m = L.length - p ∧ IRun C a dx L fa M p xs M'
theorem rk_Splitter_run {K C ds M Q Qx} (q : CF_Splitter K C) (h : sp_Splitter_run C ds M Q Qx) : rd_Splitter_run K C (sp_Splitter_read_token C) (fin Q Qx) (dstart 1 ds) M := by
  obtain ⟨a, dx, L, fa, ts, rfl, hM, hF, hL, hs, k⟩ := h
  have ne : a ≠ fa := fun e => by rw [← e, hM] at hF; cases hF
  show rd_Splitter_run K _ _ _ [some (.ref a)] M
  simp only [rd_Splitter_run, dSeq, dIfS, dNot, dTru, dB, dCB, dOp, dCons, dNil, dVar, dC, dNever, dNext, dRet, dRetN, dAsg, gNm, dAndV, dOrV, dNotV, dAnd, dOr, dIf, dLst, dLstM, dTup, dFld, dSetF, dAugF, dAug, dDrop, dAppend, dExtend, dPop, dPopAt, dPar, dPar3, dCall, dMeth, dMake, dJoin, dSl, dNo, dPart, dSeqI, dRange1, dRange2, dRange3, dEnum, dRevS, dRevL, dIsi2, dYes, dUn, dSetIx, dBreak, dCont, dChain, dFrz, e_vw1, e_vw2, e_vw3, e_vw4, e_vw5, e_vw6, e_vw7, e_vw8, e_vws0, e_vws1, e_gC, e_gN, e_gT, e_eq1, e_eq2, e_eq3, e_eq4, e_eq5, e_ne1, e_ne2, e_ne3, e_ne4, e_ne5, e_lt, e_gt, e_le, e_ge, e_in1, e_in2, e_in3, e_in4, e_in5, e_in6, e_add1, e_add2, e_add3, e_add4, e_iadd1, e_iadd2, e_sub, e_mul1, e_mul2, e_mulS, e_mulM, e_mod, e_div, e_pow, e_neg, e_ix1, e_ix2, e_ix3, e_ix4, e_sl1, e_sl2, e_sl3, e_sl4, e_len1, e_len2, e_len3, e_len4, e_int1, e_int2, e_tru1, e_tru2, e_tru3, e_tru4, e_tru5, e_tru6, e_okS1, e_okS2, e_okS3, e_okS4, e_okS5, e_okS6, e_ty1, e_ty2, e_ty3, e_ty4, e_ty5, e_ty6, e_ty7, e_isi1, e_isi2, e_isi3, e_isi4, e_isi5, e_isi6, e_isi7, e_isi8, e_isi9, e_isi10, e_isi11, e_isi12, e_isi13, e_isi14, e_isi15, e_isi16, e_isi17, e_frz1, e_frz2, e_frz3, e_frz4, e_it1, e_it2, e_it3, e_it4, isT_ss, isT_si, isT_sl, isT_st, isT_sb, isT_is, isT_ii, isT_il, isT_it, isT_ib, isT_bs, isT_bi, isT_bl, isT_bt, isT_bb, isT_ls, isT_li, isT_ll, isT_lt, isT_lb, isT_ts, isT_ti, isT_tl, isT_tt, isT_tb, List.getElem?_cons_zero, List.getElem?_cons_succ, List.set_cons_zero, List.set_cons_succ, List.cons_append, List.nil_append, List.length_cons, List.length_nil, dwipe, List.append_nil, List.cons.injEq, exists_eq_left, exists_eq_left', Option.some.injEq, D.str.injEq, D.int.injEq, D.bl.injEq, D.lst.injEq, D.tup.injEq, D.ref.injEq, D.scr.injEq, MO.lst.injEq, MO.ins.injEq, true_and, and_true, if_true, Bool.not_true, Bool.not_false, Bool.false_eq_true, if_false, exists_const, exists_eq, exists_eq', exists_and_left, and_self, reduceCtorEq, decide_true, decide_false, decide_eq_true_eq, Bool.not_eq_true', decide_eq_false_iff_not, and_assoc, Bool.true_or, Bool.or_true, Bool.false_or, Bool.or_false, Bool.true_and, Bool.false_and]
  refine ⟨PRun C a dx L fa M, ⟨_, 0, [], rfl, rfl, hM, hF, fun _ _ _ _ h => h, Nat.zero_le _, Nat.zero_le _, by rw [List.drop_zero]; cases Lx.spl L <;> rfl⟩, ?_⟩
  rintro m δ' M' ⟨p, xs, rfl, rfl, I⟩
  have hM' := I.ma
  have hX := I.mp
  have h2 := I.h2
  have h3 := I.h3
  have hz := I.rd
  have hL' : L.length ≤ 16777216 := by omega
  simp only [dSeq, dIfS, dNot, dTru, dB, dCB, dOp, dCons, dNil, dVar, dC, dNever, dNext, dRet, dRetN, dAsg, gNm, dAndV, dOrV, dNotV, dAnd, dOr, dIf, dLst, dLstM, dTup, dFld, dSetF, dAugF, dAug, dDrop, dAppend, dExtend, dPop, dPopAt, dPar, dPar3, dCall, dMeth, dMake, dJoin, dSl, dNo, dPart, dSeqI, dRange1, dRange2, dRange3, dEnum, dRevS, dRevL, dIsi2, dYes, dUn, dSetIx, dBreak, dCont, dChain, dFrz, e_vw1, e_vw2, e_vw3, e_vw4, e_vw5, e_vw6, e_vw7, e_vw8, e_vws0, e_vws1, e_gC, e_gN, e_gT, e_eq1, e_eq2, e_eq3, e_eq4, e_eq5, e_ne1, e_ne2, e_ne3, e_ne4, e_ne5, e_lt, e_gt, e_le, e_ge, e_in1, e_in2, e_in3, e_in4, e_in5, e_in6, e_add1, e_add2, e_add3, e_add4, e_iadd1, e_iadd2, e_sub, e_mul1, e_mul2, e_mulS, e_mulM, e_mod, e_div, e_pow, e_neg, e_ix1, e_ix2, e_ix3, e_ix4, e_sl1, e_sl2, e_sl3, e_sl4, e_len1, e_len2, e_len3, e_len4, e_int1, e_int2, e_tru1, e_tru2, e_tru3, e_tru4, e_tru5, e_tru6, e_okS1, e_okS2, e_okS3, e_okS4, e_okS5, e_okS6, e_ty1, e_ty2, e_ty3, e_ty4, e_ty5, e_ty6, e_ty7, e_isi1, e_isi2, e_isi3, e_isi4, e_isi5, e_isi6, e_isi7, e_isi8, e_isi9, e_isi10, e_isi11, e_isi12, e_isi13, e_isi14, e_isi15, e_isi16, e_isi17, e_frz1, e_frz2, e_frz3, e_frz4, e_it1, e_it2, e_it3, e_it4, isT_ss, isT_si, isT_sl, isT_st, isT_sb, isT_is, isT_ii, isT_il, isT_it, isT_ib, isT_bs, isT_bi, isT_bl, isT_bt, isT_bb, isT_ls, isT_li, isT_ll, isT_lt, isT_lb, isT_ts, isT_ti, isT_tl, isT_tt, isT_tb, List.getElem?_cons_zero, List.getElem?_cons_succ, List.set_cons_zero, List.set_cons_succ, List.cons_append, List.nil_append, List.length_cons, List.length_nil, dwipe, List.append_nil, List.cons.injEq, exists_eq_left, exists_eq_left', Option.some.injEq, D.str.injEq, D.int.injEq, D.bl.injEq, D.lst.injEq, D.tup.injEq, D.ref.injEq, D.scr.injEq, MO.lst.injEq, MO.ins.injEq, true_and, and_true, if_true, Bool.not_true, Bool.not_false, Bool.false_eq_true, if_false, exists_const, exists_eq, exists_eq', exists_and_left, and_self, reduceCtorEq, decide_true, decide_false, decide_eq_true_eq, Bool.not_eq_true', decide_eq_false_iff_not, and_assoc, Bool.true_or, Bool.or_true, Bool.false_or, Bool.or_false, Bool.true_and, Bool.false_and, hM', q.cl, q.n_position, q.n_line, q.n_found, lk_line, lk_pos, lk_found, hL', d_sp, pt_1, fs_len, hX]
  by_cases hlt : p < L.length
  · rw [if_pos (by omega)]
    obtain ⟨e, he, hdr⟩ := drop_at hlt
    refine ⟨e, atI_n he, ?_⟩
    by_cases c0 : e = 32
    · rw [if_pos c0]
      refine ⟨by decide, L.length - (p + 1), by omega, p + 1, xs, rfl, rfl, mset_same, by rw [mset_ne ne.symm]; exact hX, fun b o n1 n2 h => by rw [mset_ne n1]; exact I.mx b o n1 n2 h, by omega, by omega, ?_⟩
      rw [hz, hdr, c0, Lx.spl_sp]
    · rw [if_neg c0]
      cases ht : Lx.tok (e :: L.drop (p + 1)) with
      | error x =>
        rw [hdr, Lx.spl_err c0 ht, hs] at hz
        cases hz
      | ok z =>
        obtain ⟨l1, l2, l3, l4⟩ := Lx.rdt_len _ _ z.1 z.2 ht
        have l5 := l4 _ _ rfl c0
        have hsuf : z.2 = L.drop (L.length - z.2.length) := by
          have h1 := Lx.tok_suf _ _ z.1 z.2 ht
          have h2 : (e :: L.drop (p + 1)) <:+ L := by rw [← hdr]; exact List.drop_suffix _ _
          exact List.suffix_iff_eq_drop.mp (h1.trans h2)
        have hdl : (e :: L.drop (p + 1)).length = L.length - p := by rw [← hdr, List.length_drop]
        refine ⟨lk_t, a, dx, L, p, .ref fa, z.1, z.2, rfl, hM', hL, by omega, by rw [hdr]; exact ht, fun M2 x2 m2 => ⟨_, x2 _ _ ne.symm hX, by rw [List.length_map]; omega, L.length - (L.length - z.2.length), by omega, L.length - z.2.length, xs ++ [z.1], rfl, rfl, ?_⟩⟩
        refine ⟨by rw [mset_ne ne]; exact m2, by rw [mset_same]; simp, fun b o n1 n2 h => by rw [mset_ne n2]; exact x2 b o n1 (I.mx b o n1 n2 h), by omega, by simp; omega, ?_⟩
        rw [hz, hdr, Lx.spl_tok c0 ht, ← hsuf]
        cases Lx.spl z.2 with
        | error _ => rfl
        | ok y => simp [Except.map]
  · rw [if_neg (by omega)]
    refine k M' I.mx ?_
    rw [List.drop_eq_nil_of_le (by omega), Lx.spl_nil, hs] at hz
    simp only [Except.map, Except.ok.injEq, List.append_nil] at hz
    rw [hX, hz]
def sp_split_line : SpD := fun ds M Q _ => ∃ L ts, ds = [.str L] ∧ okb L = true ∧ Lx.spl L = .ok ts ∧ ∀ M' fa, Mx M M' → M fa = none → M' fa = some (.lst (ts.map .str)) → Q (.ref fa) M'
theorem len_split_line (ds : List D) (M : Mem) (Q : QE) (Qx : QX) (h : sp_split_line ds M Q Qx) : ds.length = 1 := by obtain ⟨_, _, rfl, _⟩ := h; rfl
theorem rk_split_line {C ds M Q Qx} (h : sp_split_line ds M Q Qx) : rd_split_line sp_check_line C (sp_Splitter_run C) (sp_Splitter_init C) (fin Q Qx) (dstart 1 ds) M := by
  obtain ⟨L, ts, rfl, hk, hs, k⟩ := h
  show rd_split_line _ _ _ _ _ [some (.str L)] M
  simp only [rd_split_line, dSeq, dIfS, dNot, dTru, dB, dCB, dOp, dCons, dNil, dVar, dC, dNever, dNext, dRet, dRetN, dAsg, gNm, dAndV, dOrV, dNotV, dAnd, dOr, dIf, dLst, dLstM, dTup, dFld, dSetF, dAugF, dAug, dDrop, dAppend, dExtend, dPop, dPopAt, dPar, dPar3, dCall, dMeth, dMake, dJoin, dSl, dNo, dPart, dSeqI, dRange1, dRange2, dRange3, dEnum, dRevS, dRevL, dIsi2, dYes, dUn, dSetIx, dBreak, dCont, dChain, dFrz, e_vw1, e_vw2, e_vw3, e_vw4, e_vw5, e_vw6, e_vw7, e_vw8, e_vws0, e_vws1, e_gC, e_gN, e_gT, e_eq1, e_eq2, e_eq3, e_eq4, e_eq5, e_ne1, e_ne2, e_ne3, e_ne4, e_ne5, e_lt, e_gt, e_le, e_ge, e_in1, e_in2, e_in3, e_in4, e_in5, e_in6, e_add1, e_add2, e_add3, e_add4, e_iadd1, e_iadd2, e_sub, e_mul1, e_mul2, e_mulS, e_mulM, e_mod, e_div, e_pow, e_neg, e_ix1, e_ix2, e_ix3, e_ix4, e_sl1, e_sl2, e_sl3, e_sl4, e_len1, e_len2, e_len3, e_len4, e_int1, e_int2, e_tru1, e_tru2, e_tru3, e_tru4, e_tru5, e_tru6, e_okS1, e_okS2, e_okS3, e_okS4, e_okS5, e_okS6, e_ty1, e_ty2, e_ty3, e_ty4, e_ty5, e_ty6, e_ty7, e_isi1, e_isi2, e_isi3, e_isi4, e_isi5, e_isi6, e_isi7, e_isi8, e_isi9, e_isi10, e_isi11, e_isi12, e_isi13, e_isi14, e_isi15, e_isi16, e_isi17, e_frz1, e_frz2, e_frz3, e_frz4, e_it1, e_it2, e_it3, e_it4, isT_ss, isT_si, isT_sl, isT_st, isT_sb, isT_is, isT_ii, isT_il, isT_it, isT_ib, isT_bs, isT_bi, isT_bl, isT_bt, isT_bb, isT_ls, isT_li, isT_ll, isT_lt, isT_lb, isT_ts, isT_ti, isT_tl, isT_tt, isT_tb, List.getElem?_cons_zero, List.getElem?_cons_succ, List.set_cons_zero, List.set_cons_succ, List.cons_append, List.nil_append, List.length_cons, List.length_nil, dwipe, List.append_nil, List.cons.injEq, exists_eq_left, exists_eq_left', Option.some.injEq, D.str.injEq, D.int.injEq, D.bl.injEq, D.lst.injEq, D.tup.injEq, D.ref.injEq, D.scr.injEq, MO.lst.injEq, MO.ins.injEq, true_and, and_true, if_true, Bool.not_true, Bool.not_false, Bool.false_eq_true, if_false, exists_const, exists_eq, exists_eq', exists_and_left, and_self, reduceCtorEq, decide_true, decide_false, decide_eq_true_eq, Bool.not_eq_true', decide_eq_false_iff_not, and_assoc, Bool.true_or, Bool.or_true, Bool.false_or, Bool.or_false, Bool.true_and, Bool.false_and]
  refine ⟨L, rfl, hk, fun a dx ha => ⟨a, dx, L, rfl, mset_same, fun M1 fa x1 h1 h2 h3 => ⟨rfl, _, _, h2, lk_r, a, dx, L, fa, ts, rfl, h2, h3, okb_small hk, hs, fun M2 x2 h4 => k M2 fa (fun b o h => ?_) ?_ h4⟩⟩⟩
  · have n1 : b ≠ a := mne h ha
    have n2 : b ≠ fa := mne (M := mset M a (.ins C dx [])) (by rw [mset_ne n1]; exact h) h1
    exact x2 b o n1 n2 (x1 b o n1 (by rw [mset_ne n1]; exact h))
  · have n : fa ≠ a := fun e => by rw [e, mset_same] at h1; cases h1
    rwa [mset_ne n] at h1
end K42

set_option Elab.async false
set_option linter.all false
set_option maxRecDepth 100000
set_option maxHeartbeats 4000000
namespace K42
open PySem L2 DL
def sp_better : SpD := fun ds M Q _ => ∃ xs : List (List Nat), xs ≠ [] ∧ xs.length ≤ 1000000 ∧ (∀ x ∈ xs, x.length ≤ 1000000) ∧
  ((ds = [.lst (xs.map .str)] ∧ ∀ m, Best m (· ∈ xs) → Q (.str m) M) ∨ ∃ p, ds = [.ref p] ∧ M p = some (.lst (xs.map .str)) ∧ ∀ m, Best m (· ∈ xs) → Q (.str m) (mdel M p))
theorem len_better (ds : List D) (M : Mem) (Q : QE) (Qx : QX) (h : sp_better ds M Q Qx) : ds.length = 1 := by
  obtain ⟨_, _, _, _, ⟨rfl, _⟩ | ⟨_, rfl, _⟩⟩ := h <;> rfl
theorem better_core {xs : List (List Nat)} {M : Mem} {Q : QE} {δ : DL.Env} (h1 : xs ≠ []) (h2 : xs.length ≤ 1000000) (h3 : ∀ x ∈ xs, x.length ≤ 1000000) (k : ∀ m, Best m (· ∈ xs) → Q (.str m) M) (hδ : ∃ x y, δ = [x, y]) :
    LcB (gNm 1) dYes (dTup (dCons (dCB aLen (dCons (dVar 1) dNil)) (dCons (dVar 1) dNil))) [1] δ (xs.map .str) M (fun x M1 => aMinL [vw M1 x] M1 fun x M2 => aIx (vw M2 x) (.int 1) M2 Q) := by
  obtain ⟨x, y, rfl⟩ := hδ
  refine lc_pure (fun d => match d with | .str l => pr l | d => d) (by rw [List.length_map]; omega) (fun d R hd kk => ?_) ?_
  · obtain ⟨l, hl, rfl⟩ := List.mem_map.mp hd
    have := h3 l hl
    simp only [dSeq, dIfS, dNot, dTru, dB, dCB, dOp, dCons, dNil, dVar, dC, dNever, dNext, dRet, dRetN, dAsg, gNm, dAndV, dOrV, dNotV, dAnd, dOr, dIf, dLst, dLstM, dTup, dFld, dSetF, dAugF, dAug, dDrop, dAppend, dExtend, dPop, dPopAt, dPar, dPar3, dCall, dMeth, dMake, dJoin, dSl, dNo, dPart, dSeqI, dRange1, dRange2, dRange3, dEnum, dRevS, dRevL, dIsi2, dYes, dUn, dSetIx, dBreak, dCont, dChain, dFrz, e_vw1, e_vw2, e_vw3, e_vw4, e_vw5, e_vw6, e_vw7, e_vw8, e_vws0, e_vws1, e_gC, e_gN, e_gT, e_eq1, e_eq2, e_eq3, e_eq4, e_eq5, e_ne1, e_ne2, e_ne3, e_ne4, e_ne5, e_lt, e_gt, e_le, e_ge, e_in1, e_in2, e_in3, e_in4, e_in5, e_in6, e_add1, e_add2, e_add3, e_add4, e_iadd1, e_iadd2, e_sub, e_mul1, e_mul2, e_mulS, e_mulM, e_mod, e_div, e_pow, e_neg, e_ix1, e_ix2, e_ix3, e_ix4, e_sl1, e_sl2, e_sl3, e_sl4, e_len1, e_len2, e_len3, e_len4, e_int1, e_int2, e_tru1, e_tru2, e_tru3, e_tru4, e_tru5, e_tru6, e_okS1, e_okS2, e_okS3, e_okS4, e_okS5, e_okS6, e_ty1, e_ty2, e_ty3, e_ty4, e_ty5, e_ty6, e_ty7, e_isi1, e_isi2, e_isi3, e_isi4, e_isi5, e_isi6, e_isi7, e_isi8, e_isi9, e_isi10, e_isi11, e_isi12, e_isi13, e_isi14, e_isi15, e_isi16, e_isi17, e_frz1, e_frz2, e_frz3, e_frz4, e_it1, e_it2, e_it3, e_it4, isT_ss, isT_si, isT_sl, isT_st, isT_sb, isT_is, isT_ii, isT_il, isT_it, isT_ib, isT_bs, isT_bi, isT_bl, isT_bt, isT_bb, isT_ls, isT_li, isT_ll, isT_lt, isT_lb, isT_ts, isT_ti, isT_tl, isT_tt, isT_tb, List.getElem?_cons_zero, List.getElem?_cons_succ, List.set_cons_zero, List.set_cons_succ, List.cons_append, List.nil_append, List.length_cons, List.length_nil, dwipe, List.append_nil, List.cons.injEq, exists_eq_left, exists_eq_left', Option.some.injEq, D.str.injEq, D.int.injEq, D.bl.injEq, D.lst.injEq, D.tup.injEq, D.ref.injEq, D.scr.injEq, MO.lst.injEq, MO.ins.injEq, true_and, and_true, if_true, Bool.not_true, Bool.not_false, Bool.false_eq_true, if_false, exists_const, exists_eq, exists_eq', exists_and_left, and_self, reduceCtorEq, decide_true, decide_false, decide_eq_true_eq, Bool.not_eq_true', decide_eq_false_iff_not, and_assoc, Bool.true_or, Bool.or_true, Bool.false_or, Bool.or_false, Bool.true_and, Bool.false_and]
    exact ⟨by omega, by decide, kk⟩
  · have e : (xs.map D.str).map (fun d => match d with | .str l => pr l | d => d) = xs.map pr := by
      rw [List.map_map]
      rfl
    rw [e]
    simp only [dSeq, dIfS, dNot, dTru, dB, dCB, dOp, dCons, dNil, dVar, dC, dNever, dNext, dRet, dRetN, dAsg, gNm, dAndV, dOrV, dNotV, dAnd, dOr, dIf, dLst, dLstM, dTup, dFld, dSetF, dAugF, dAug, dDrop, dAppend, dExtend, dPop, dPopAt, dPar, dPar3, dCall, dMeth, dMake, dJoin, dSl, dNo, dPart, dSeqI, dRange1, dRange2, dRange3, dEnum, dRevS, dRevL, dIsi2, dYes, dUn, dSetIx, dBreak, dCont, dChain, dFrz, e_vw1, e_vw2, e_vw3, e_vw4, e_vw5, e_vw6, e_vw7, e_vw8, e_vws0, e_vws1, e_gC, e_gN, e_gT, e_eq1, e_eq2, e_eq3, e_eq4, e_eq5, e_ne1, e_ne2, e_ne3, e_ne4, e_ne5, e_lt, e_gt, e_le, e_ge, e_in1, e_in2, e_in3, e_in4, e_in5, e_in6, e_add1, e_add2, e_add3, e_add4, e_iadd1, e_iadd2, e_sub, e_mul1, e_mul2, e_mulS, e_mulM, e_mod, e_div, e_pow, e_neg, e_ix1, e_ix2, e_ix3, e_ix4, e_sl1, e_sl2, e_sl3, e_sl4, e_len1, e_len2, e_len3, e_len4, e_int1, e_int2, e_tru1, e_tru2, e_tru3, e_tru4, e_tru5, e_tru6, e_okS1, e_okS2, e_okS3, e_okS4, e_okS5, e_okS6, e_ty1, e_ty2, e_ty3, e_ty4, e_ty5, e_ty6, e_ty7, e_isi1, e_isi2, e_isi3, e_isi4, e_isi5, e_isi6, e_isi7, e_isi8, e_isi9, e_isi10, e_isi11, e_isi12, e_isi13, e_isi14, e_isi15, e_isi16, e_isi17, e_frz1, e_frz2, e_frz3, e_frz4, e_it1, e_it2, e_it3, e_it4, isT_ss, isT_si, isT_sl, isT_st, isT_sb, isT_is, isT_ii, isT_il, isT_it, isT_ib, isT_bs, isT_bi, isT_bl, isT_bt, isT_bb, isT_ls, isT_li, isT_ll, isT_lt, isT_lb, isT_ts, isT_ti, isT_tl, isT_tt, isT_tb, List.getElem?_cons_zero, List.getElem?_cons_succ, List.set_cons_zero, List.set_cons_succ, List.cons_append, List.nil_append, List.length_cons, List.length_nil, dwipe, List.append_nil, List.cons.injEq, exists_eq_left, exists_eq_left', Option.some.injEq, D.str.injEq, D.int.injEq, D.bl.injEq, D.lst.injEq, D.tup.injEq, D.ref.injEq, D.scr.injEq, MO.lst.injEq, MO.ins.injEq, true_and, and_true, if_true, Bool.not_true, Bool.not_false, Bool.false_eq_true, if_false, exists_const, exists_eq, exists_eq', exists_and_left, and_self, reduceCtorEq, decide_true, decide_false, decide_eq_true_eq, Bool.not_eq_true', decide_eq_false_iff_not, and_assoc, Bool.true_or, Bool.or_true, Bool.false_or, Bool.or_false, Bool.true_and, Bool.false_and]
    refine min_prs h1 fun m hm => ?_
    unfold pr
    simp only [dSeq, dIfS, dNot, dTru, dB, dCB, dOp, dCons, dNil, dVar, dC, dNever, dNext, dRet, dRetN, dAsg, gNm, dAndV, dOrV, dNotV, dAnd, dOr, dIf, dLst, dLstM, dTup, dFld, dSetF, dAugF, dAug, dDrop, dAppend, dExtend, dPop, dPopAt, dPar, dPar3, dCall, dMeth, dMake, dJoin, dSl, dNo, dPart, dSeqI, dRange1, dRange2, dRange3, dEnum, dRevS, dRevL, dIsi2, dYes, dUn, dSetIx, dBreak, dCont, dChain, dFrz, e_vw1, e_vw2, e_vw3, e_vw4, e_vw5, e_vw6, e_vw7, e_vw8, e_vws0, e_vws1, e_gC, e_gN, e_gT, e_eq1, e_eq2, e_eq3, e_eq4, e_eq5, e_ne1, e_ne2, e_ne3, e_ne4, e_ne5, e_lt, e_gt, e_le, e_ge, e_in1, e_in2, e_in3, e_in4, e_in5, e_in6, e_add1, e_add2, e_add3, e_add4, e_iadd1, e_iadd2, e_sub, e_mul1, e_mul2, e_mulS, e_mulM, e_mod, e_div, e_pow, e_neg, e_ix1, e_ix2, e_ix3, e_ix4, e_sl1, e_sl2, e_sl3, e_sl4, e_len1, e_len2, e_len3, e_len4, e_int1, e_int2, e_tru1, e_tru2, e_tru3, e_tru4, e_tru5, e_tru6, e_okS1, e_okS2, e_okS3, e_okS4, e_okS5, e_okS6, e_ty1, e_ty2, e_ty3, e_ty4, e_ty5, e_ty6, e_ty7, e_isi1, e_isi2, e_isi3, e_isi4, e_isi5, e_isi6, e_isi7, e_isi8, e_isi9, e_isi10, e_isi11, e_isi12, e_isi13, e_isi14, e_isi15, e_isi16, e_isi17, e_frz1, e_frz2, e_frz3, e_frz4, e_it1, e_it2, e_it3, e_it4, isT_ss, isT_si, isT_sl, isT_st, isT_sb, isT_is, isT_ii, isT_il, isT_it, isT_ib, isT_bs, isT_bi, isT_bl, isT_bt, isT_bb, isT_ls, isT_li, isT_ll, isT_lt, isT_lb, isT_ts, isT_ti, isT_tl, isT_tt, isT_tb, List.getElem?_cons_zero, List.getElem?_cons_succ, List.set_cons_zero, List.set_cons_succ, List.cons_append, List.nil_append, List.length_cons, List.length_nil, dwipe, List.append_nil, List.cons.injEq, exists_eq_left, exists_eq_left', Option.some.injEq, D.str.injEq, D.int.injEq, D.bl.injEq, D.lst.injEq, D.tup.injEq, D.ref.injEq, D.scr.injEq, MO.lst.injEq, MO.ins.injEq, true_and, and_true, if_true, Bool.not_true, Bool.not_false, Bool.false_eq_true, if_false, exists_const, exists_eq, exists_eq', exists_and_left, and_self, reduceCtorEq, decide_true, decide_false, decide_eq_true_eq, Bool.not_eq_true', decide_eq_false_iff_not, and_assoc, Bool.true_or, Bool.or_true, Bool.false_or, Bool.or_false, Bool.true_and, Bool.false_and]
    exact ⟨_, rfl, k m hm⟩
theorem rk_better {ds M Q Qx} (h : sp_better ds M Q Qx) : rd_better (fin Q Qx) (dstart 2 ds) M := by
  obtain ⟨xs, h1, h2, h3, ⟨rfl, k⟩ | ⟨p, rfl, hp, k⟩⟩ := h
  · show rd_better _ [some (.lst (xs.map .str)), none] M
    simp only [rd_better, u_lc, dSeq, dIfS, dNot, dTru, dB, dCB, dOp, dCons, dNil, dVar, dC, dNever, dNext, dRet, dRetN, dAsg, gNm, dAndV, dOrV, dNotV, dAnd, dOr, dIf, dLst, dLstM, dTup, dFld, dSetF, dAugF, dAug, dDrop, dAppend, dExtend, dPop, dPopAt, dPar, dPar3, dCall, dMeth, dMake, dJoin, dSl, dNo, dPart, dSeqI, dRange1, dRange2, dRange3, dEnum, dRevS, dRevL, dIsi2, dYes, dUn, dSetIx, dBreak, dCont, dChain, dFrz, e_vw1, e_vw2, e_vw3, e_vw4, e_vw5, e_vw6, e_vw7, e_vw8, e_vws0, e_vws1, e_gC, e_gN, e_gT, e_eq1, e_eq2, e_eq3, e_eq4, e_eq5, e_ne1, e_ne2, e_ne3, e_ne4, e_ne5, e_lt, e_gt, e_le, e_ge, e_in1, e_in2, e_in3, e_in4, e_in5, e_in6, e_add1, e_add2, e_add3, e_add4, e_iadd1, e_iadd2, e_sub, e_mul1, e_mul2, e_mulS, e_mulM, e_mod, e_div, e_pow, e_neg, e_ix1, e_ix2, e_ix3, e_ix4, e_sl1, e_sl2, e_sl3, e_sl4, e_len1, e_len2, e_len3, e_len4, e_int1, e_int2, e_tru1, e_tru2, e_tru3, e_tru4, e_tru5, e_tru6, e_okS1, e_okS2, e_okS3, e_okS4, e_okS5, e_okS6, e_ty1, e_ty2, e_ty3, e_ty4, e_ty5, e_ty6, e_ty7, e_isi1, e_isi2, e_isi3, e_isi4, e_isi5, e_isi6, e_isi7, e_isi8, e_isi9, e_isi10, e_isi11, e_isi12, e_isi13, e_isi14, e_isi15, e_isi16, e_isi17, e_frz1, e_frz2, e_frz3, e_frz4, e_it1, e_it2, e_it3, e_it4, isT_ss, isT_si, isT_sl, isT_st, isT_sb, isT_is, isT_ii, isT_il, isT_it, isT_ib, isT_bs, isT_bi, isT_bl, isT_bt, isT_bb, isT_ls, isT_li, isT_ll, isT_lt, isT_lb, isT_ts, isT_ti, isT_tl, isT_tt, isT_tb, List.getElem?_cons_zero, List.getElem?_cons_succ, List.set_cons_zero, List.set_cons_succ, List.cons_append, List.nil_append, List.length_cons, List.length_nil, dwipe, List.append_nil, List.cons.injEq, exists_eq_left, exists_eq_left', Option.some.injEq, D.str.injEq, D.int.injEq, D.bl.injEq, D.lst.injEq, D.tup.injEq, D.ref.injEq, D.scr.injEq, MO.lst.injEq, MO.ins.injEq, true_and, and_true, if_true, Bool.not_true, Bool.not_false, Bool.false_eq_true, if_false, exists_const, exists_eq, exists_eq', exists_and_left, and_self, reduceCtorEq, decide_true, decide_false, decide_eq_true_eq, Bool.not_eq_true', decide_eq_false_iff_not, and_assoc, Bool.true_or, Bool.or_true, Bool.false_or, Bool.or_false, Bool.true_and, Bool.false_and]
    exact better_core h1 h2 h3 k ⟨_, _, rfl⟩
  · show rd_better _ [some (.ref p), none] M
    simp only [rd_better, u_lc, dSeq, dIfS, dNot, dTru, dB, dCB, dOp, dCons, dNil, dVar, dC, dNever, dNext, dRet, dRetN, dAsg, gNm, dAndV, dOrV, dNotV, dAnd, dOr, dIf, dLst, dLstM, dTup, dFld, dSetF, dAugF, dAug, dDrop, dAppend, dExtend, dPop, dPopAt, dPar, dPar3, dCall, dMeth, dMake, dJoin, dSl, dNo, dPart, dSeqI, dRange1, dRange2, dRange3, dEnum, dRevS, dRevL, dIsi2, dYes, dUn, dSetIx, dBreak, dCont, dChain, dFrz, e_vw1, e_vw2, e_vw3, e_vw4, e_vw5, e_vw6, e_vw7, e_vw8, e_vws0, e_vws1, e_gC, e_gN, e_gT, e_eq1, e_eq2, e_eq3, e_eq4, e_eq5, e_ne1, e_ne2, e_ne3, e_ne4, e_ne5, e_lt, e_gt, e_le, e_ge, e_in1, e_in2, e_in3, e_in4, e_in5, e_in6, e_add1, e_add2, e_add3, e_add4, e_iadd1, e_iadd2, e_sub, e_mul1, e_mul2, e_mulS, e_mulM, e_mod, e_div, e_pow, e_neg, e_ix1, e_ix2, e_ix3, e_ix4, e_sl1, e_sl2, e_sl3, e_sl4, e_len1, e_len2, e_len3, e_len4, e_int1, e_int2, e_tru1, e_tru2, e_tru3, e_tru4, e_tru5, e_tru6, e_okS1, e_okS2, e_okS3, e_okS4, e_okS5, e_okS6, e_ty1, e_ty2, e_ty3, e_ty4, e_ty5, e_ty6, e_ty7, e_isi1, e_isi2, e_isi3, e_isi4, e_isi5, e_isi6, e_isi7, e_isi8, e_isi9, e_isi10, e_isi11, e_isi12, e_isi13, e_isi14, e_isi15, e_isi16, e_isi17, e_frz1, e_frz2, e_frz3, e_frz4, e_it1, e_it2, e_it3, e_it4, isT_ss, isT_si, isT_sl, isT_st, isT_sb, isT_is, isT_ii, isT_il, isT_it, isT_ib, isT_bs, isT_bi, isT_bl, isT_bt, isT_bb, isT_ls, isT_li, isT_ll, isT_lt, isT_lb, isT_ts, isT_ti, isT_tl, isT_tt, isT_tb, List.getElem?_cons_zero, List.getElem?_cons_succ, List.set_cons_zero, List.set_cons_succ, List.cons_append, List.nil_append, List.length_cons, List.length_nil, dwipe, List.append_nil, List.cons.injEq, exists_eq_left, exists_eq_left', Option.some.injEq, D.str.injEq, D.int.injEq, D.bl.injEq, D.lst.injEq, D.tup.injEq, D.ref.injEq, D.scr.injEq, MO.lst.injEq, MO.ins.injEq, true_and, and_true, if_true, Bool.not_true, Bool.not_false, Bool.false_eq_true, if_false, exists_const, exists_eq, exists_eq', exists_and_left, and_self, reduceCtorEq, decide_true, decide_false, decide_eq_true_eq, Bool.not_eq_true', decide_eq_false_iff_not, and_assoc, Bool.true_or, Bool.or_true, Bool.false_or, Bool.or_false, Bool.true_and, Bool.false_and, e_frzl hp]
    exact better_core h1 h2 h3 k ⟨_, _, rfl⟩
def sp_quote_token : SpD := fun ds M Q _ => ∃ t, ds = [.str t] ∧ t.length ≤ 200 ∧ ∀ w M', Lx.Quo t w → Mx M M' → Q (.str w) M'
theorem len_quote_token (ds : List D) (M : Mem) (Q : QE) (Qx : QX) (h : sp_quote_token ds M Q Qx) : ds.length = 1 := by obtain ⟨_, rfl, _⟩ := h; rfl
theorem has_strs (x : List Nat) (ys : List (List Nat)) : has (.str x) (ys.map .str) = decide (x ∈ ys) := by
  unfold has
  rw [List.any_map, Bool.eq_iff_iff]
  simp only [List.any_eq_true, Function.comp, deq_str, decide_eq_true_eq]
  constructor
  · rintro ⟨y, h, rfl⟩; exact h
  · exact fun h => ⟨x, h, rfl⟩
theorem has_2 (c : Nat) : has (.str [c]) [.str [34], .str [92]] = decide (c = 34 ∨ c = 92) := by
  have := has_strs [c] [[34], [92]]
  simp only [List.map_cons, List.map_nil] at this
  rw [this]
  simp
theorem has_4 (c : Nat) : has (.str [c]) [.str [32], .str [39], .str [34], .str [92]] = decide (c = 32 ∨ c = 39 ∨ c = 34 ∨ c = 92) := by
  have := has_strs [c] [[32], [39], [34], [92]]
  simp only [List.map_cons, List.map_nil] at this
  rw [this]
  simp
theorem sm_2 : sm (.tup [.str [34], .str [92]]) := ⟨by decide +kernel, by decide +kernel⟩
theorem sm_4 : sm (.tup [.str [32], .str [39], .str [34], .str [92]]) := ⟨by decide +kernel, by decide +kernel⟩
theorem lc_pre {a : List Nat} {ws : List (List Nat)} {M : Mem} {Q : QE} {a0 a1 a2 a3 a4 a5 a6 a7 a8 a9 : Option D} (hl : ws.length ≤ 1000) (hw : ∀ w ∈ ws, a.length + w.length ≤ 16777216) (k : Q (.lst ((ws.map (a ++ ·)).map .str)) M) :
    LcB (gNm 9) dYes (dOp aAdd (dC (.str a)) (dVar 9)) [9] [a0, a1, a2, a3, a4, a5, a6, a7, a8, a9] (ws.map .str) M Q := by
  refine lc_pure (fun d => match d with | .str l => .str (a ++ l) | d => d) (by rw [List.length_map]; omega) (fun d R hd kk => ?_) ?_
  · obtain ⟨l, hl, rfl⟩ := List.mem_map.mp hd
    simp only [dSeq, dIfS, dNot, dTru, dB, dCB, dOp, dCons, dNil, dVar, dC, dNever, dNext, dRet, dRetN, dAsg, gNm, dAndV, dOrV, dNotV, dAnd, dOr, dIf, dLst, dLstM, dTup, dFld, dSetF, dAugF, dAug, dDrop, dAppend, dExtend, dPop, dPopAt, dPar, dPar3, dCall, dMeth, dMake, dJoin, dSl, dNo, dPart, dSeqI, dRange1, dRange2, dRange3, dEnum, dRevS, dRevL, dIsi2, dYes, dUn, dSetIx, dBreak, dCont, dChain, dFrz, e_vw1, e_vw2, e_vw3, e_vw4, e_vw5, e_vw6, e_vw7, e_vw8, e_vws0, e_vws1, e_gC, e_gN, e_gT, e_eq1, e_eq2, e_eq3, e_eq4, e_eq5, e_ne1, e_ne2, e_ne3, e_ne4, e_ne5, e_lt, e_gt, e_le, e_ge, e_in1, e_in2, e_in3, e_in4, e_in5, e_in6, e_add1, e_add2, e_add3, e_add4, e_iadd1, e_iadd2, e_sub, e_mul1, e_mul2, e_mulS, e_mulM, e_mod, e_div, e_pow, e_neg, e_ix1, e_ix2, e_ix3, e_ix4, e_sl1, e_sl2, e_sl3, e_sl4, e_len1, e_len2, e_len3, e_len4, e_int1, e_int2, e_tru1, e_tru2, e_tru3, e_tru4, e_tru5, e_tru6, e_okS1, e_okS2, e_okS3, e_okS4, e_okS5, e_okS6, e_ty1, e_ty2, e_ty3, e_ty4, e_ty5, e_ty6, e_ty7, e_isi1, e_isi2, e_isi3, e_isi4, e_isi5, e_isi6, e_isi7, e_isi8, e_isi9, e_isi10, e_isi11, e_isi12, e_isi13, e_isi14, e_isi15, e_isi16, e_isi17, e_frz1, e_frz2, e_frz3, e_frz4, e_it1, e_it2, e_it3, e_it4, isT_ss, isT_si, isT_sl, isT_st, isT_sb, isT_is, isT_ii, isT_il, isT_it, isT_ib, isT_bs, isT_bi, isT_bl, isT_bt, isT_bb, isT_ls, isT_li, isT_ll, isT_lt, isT_lb, isT_ts, isT_ti, isT_tl, isT_tt, isT_tb, List.getElem?_cons_zero, List.getElem?_cons_succ, List.set_cons_zero, List.set_cons_succ, List.cons_append, List.nil_append, List.length_cons, List.length_nil, dwipe, List.append_nil, List.cons.injEq, exists_eq_left, exists_eq_left', Option.some.injEq, D.str.injEq, D.int.injEq, D.bl.injEq, D.lst.injEq, D.tup.injEq, D.ref.injEq, D.scr.injEq, MO.lst.injEq, MO.ins.injEq, true_and, and_true, if_true, Bool.not_true, Bool.not_false, Bool.false_eq_true, if_false, exists_const, exists_eq, exists_eq', exists_and_left, and_self, reduceCtorEq, decide_true, decide_false, decide_eq_true_eq, Bool.not_eq_true', decide_eq_false_iff_not, and_assoc, Bool.true_or, Bool.or_true, Bool.false_or, Bool.or_false, Bool.true_and, Bool.false_and]
    exact ⟨hw l hl, kk⟩
  · have e : (ws.map D.str).map (fun d => match d with | .str l => D.str (a ++ l) | d => d) = (ws.map (a ++ ·)).map .str := by
      rw [List.map_map, List.map_map]
      rfl
    rw [e]
    exact k
theorem qt_tail {M M1 : Mem} {p : Addr} {os iS iD : List (List Nat)} {Qx : QX} {F : D → D → D → Mem → Prop} {a0 a1 a2 a3 a4 a5 a6 a7 a8 a9 : Option D} (hM : M1 p = some (.lst (os.map .str))) (hnp : M p = none) (hx : Mx M M1)
    (ho : ∀ w ∈ os, w.length ≤ 900) (hS : ∀ w ∈ iS, w.length ≤ 900) (hD : ∀ w ∈ iD, w.length ≤ 900) (lo : os.length ≤ 5) (lS : iS.length ≤ 5) (lD : iD.length ≤ 5) (no : os ≠ [])
    (fin : ∀ m1 m2 m3 M', Mx M M' → Best m1 (· ∈ os ++ (iS.map (39 :: ·) ++ iD.map (34 :: ·))) → Best m2 (· ∈ iS ++ [39 :: m1]) → Best m3 (· ∈ iD ++ [34 :: m1]) → F (.str m1) (.str m2) (.str m3) M') :
    LcB (gNm 9) dYes (dOp aAdd (dC (.str [39])) (dVar 9)) [9] [a0, a1, a2, a3, a4, a5, a6, a7, a8, a9] (iS.map .str) M1 fun x M1 =>
      LcB (gNm 9) dYes (dOp aAdd (dC (.str [34])) (dVar 9)) [9] [a0, a1, a2, a3, a4, a5, a6, a7, a8, a9] (iD.map .str) M1 fun y M2 =>
        aAdd (vw M2 x) (vw M2 y) M2 fun x M1 => ∃ x_2, vw M1 x = D.lst x_2 ∧ ∃ x, M1 p = some (MO.lst x) ∧ x.length + x_2.length ≤ 16777216 ∧
          sp_better [D.ref p] (mset M1 p (MO.lst (x ++ x_2))) (fun d M1 => aAdd (D.str [39]) (vw M1 d) M1 fun x M1 => sp_better [D.lst (iS.map .str ++ [x])] M1
            (fun d_1 M1 => aAdd (D.str [34]) (vw M1 d) M1 fun x M1 => sp_better [D.lst (iD.map .str ++ [x])] M1 (fun d_2 M1 => F d d_1 d_2 M1) fun x M1 => Qx x M1) fun x M1 => Qx x M1) fun x M1 => Qx x M1 := by
  refine lc_pre (by omega) (fun w hw => by have := hS w hw; simp; omega) (lc_pre (by omega) (fun w hw => by have := hD w hw; simp; omega) ?_)
  simp only [dSeq, dIfS, dNot, dTru, dB, dCB, dOp, dCons, dNil, dVar, dC, dNever, dNext, dRet, dRetN, dAsg, gNm, dAndV, dOrV, dNotV, dAnd, dOr, dIf, dLst, dLstM, dTup, dFld, dSetF, dAugF, dAug, dDrop, dAppend, dExtend, dPop, dPopAt, dPar, dPar3, dCall, dMeth, dMake, dJoin, dSl, dNo, dPart, dSeqI, dRange1, dRange2, dRange3, dEnum, dRevS, dRevL, dIsi2, dYes, dUn, dSetIx, dBreak, dCont, dChain, dFrz, e_vw1, e_vw2, e_vw3, e_vw4, e_vw5, e_vw6, e_vw7, e_vw8, e_vws0, e_vws1, e_gC, e_gN, e_gT, e_eq1, e_eq2, e_eq3, e_eq4, e_eq5, e_ne1, e_ne2, e_ne3, e_ne4, e_ne5, e_lt, e_gt, e_le, e_ge, e_in1, e_in2, e_in3, e_in4, e_in5, e_in6, e_add1, e_add2, e_add3, e_add4, e_iadd1, e_iadd2, e_sub, e_mul1, e_mul2, e_mulS, e_mulM, e_mod, e_div, e_pow, e_neg, e_ix1, e_ix2, e_ix3, e_ix4, e_sl1, e_sl2, e_sl3, e_sl4, e_len1, e_len2, e_len3, e_len4, e_int1, e_int2, e_tru1, e_tru2, e_tru3, e_tru4, e_tru5, e_tru6, e_okS1, e_okS2, e_okS3, e_okS4, e_okS5, e_okS6, e_ty1, e_ty2, e_ty3, e_ty4, e_ty5, e_ty6, e_ty7, e_isi1, e_isi2, e_isi3, e_isi4, e_isi5, e_isi6, e_isi7, e_isi8, e_isi9, e_isi10, e_isi11, e_isi12, e_isi13, e_isi14, e_isi15, e_isi16, e_isi17, e_frz1, e_frz2, e_frz3, e_frz4, e_it1, e_it2, e_it3, e_it4, isT_ss, isT_si, isT_sl, isT_st, isT_sb, isT_is, isT_ii, isT_il, isT_it, isT_ib, isT_bs, isT_bi, isT_bl, isT_bt, isT_bb, isT_ls, isT_li, isT_ll, isT_lt, isT_lb, isT_ts, isT_ti, isT_tl, isT_tt, isT_tb, List.getElem?_cons_zero, List.getElem?_cons_succ, List.set_cons_zero, List.set_cons_succ, List.cons_append, List.nil_append, List.length_cons, List.length_nil, dwipe, List.append_nil, List.cons.injEq, exists_eq_left, exists_eq_left', Option.some.injEq, D.str.injEq, D.int.injEq, D.bl.injEq, D.lst.injEq, D.tup.injEq, D.ref.injEq, D.scr.injEq, MO.lst.injEq, MO.ins.injEq, true_and, and_true, if_true, Bool.not_true, Bool.not_false, Bool.false_eq_true, if_false, exists_const, exists_eq, exists_eq', exists_and_left, and_self, reduceCtorEq, decide_true, decide_false, decide_eq_true_eq, Bool.not_eq_true', decide_eq_false_iff_not, and_assoc, Bool.true_or, Bool.or_true, Bool.false_or, Bool.or_false, Bool.true_and, Bool.false_and, hM]
  refine ⟨by simp; omega, by simp; omega, os ++ (iS.map ([39] ++ ·) ++ iD.map ([34] ++ ·)), by simp [no], by simp; omega, ?_, .inr ⟨p, rfl, by rw [mset_same]; simp, fun m1 h1 => ?_⟩⟩
  · intro w hw
    rcases List.mem_append.mp hw with hw | hw
    · have := ho w hw; omega
    · rcases List.mem_append.mp hw with hw | hw
      · obtain ⟨v, hv, rfl⟩ := List.mem_map.mp hw
        have := hS v hv
        simp; omega
      · obtain ⟨v, hv, rfl⟩ := List.mem_map.mp hw
        have := hD v hv
        simp; omega
  · have x2 : Mx M (mdel (mset M1 p (MO.lst (os.map .str ++ ((iS.map ([39] ++ ·)).map .str ++ (iD.map ([34] ++ ·)).map .str)))) p) := (hx.upd hnp).del hnp
    have lm : m1.length ≤ 1000 := by
      rcases List.mem_append.mp h1.1 with hw | hw
      · have := ho _ hw; omega
      · rcases List.mem_append.mp hw with hw | hw
        · obtain ⟨v, hv, e⟩ := List.mem_map.mp hw
          have := hS v hv
          rw [← e]
          simp; omega
        · obtain ⟨v, hv, e⟩ := List.mem_map.mp hw
          have := hD v hv
          rw [← e]
          simp; omega
    simp only [dSeq, dIfS, dNot, dTru, dB, dCB, dOp, dCons, dNil, dVar, dC, dNever, dNext, dRet, dRetN, dAsg, gNm, dAndV, dOrV, dNotV, dAnd, dOr, dIf, dLst, dLstM, dTup, dFld, dSetF, dAugF, dAug, dDrop, dAppend, dExtend, dPop, dPopAt, dPar, dPar3, dCall, dMeth, dMake, dJoin, dSl, dNo, dPart, dSeqI, dRange1, dRange2, dRange3, dEnum, dRevS, dRevL, dIsi2, dYes, dUn, dSetIx, dBreak, dCont, dChain, dFrz, e_vw1, e_vw2, e_vw3, e_vw4, e_vw5, e_vw6, e_vw7, e_vw8, e_vws0, e_vws1, e_gC, e_gN, e_gT, e_eq1, e_eq2, e_eq3, e_eq4, e_eq5, e_ne1, e_ne2, e_ne3, e_ne4, e_ne5, e_lt, e_gt, e_le, e_ge, e_in1, e_in2, e_in3, e_in4, e_in5, e_in6, e_add1, e_add2, e_add3, e_add4, e_iadd1, e_iadd2, e_sub, e_mul1, e_mul2, e_mulS, e_mulM, e_mod, e_div, e_pow, e_neg, e_ix1, e_ix2, e_ix3, e_ix4, e_sl1, e_sl2, e_sl3, e_sl4, e_len1, e_len2, e_len3, e_len4, e_int1, e_int2, e_tru1, e_tru2, e_tru3, e_tru4, e_tru5, e_tru6, e_okS1, e_okS2, e_okS3, e_okS4, e_okS5, e_okS6, e_ty1, e_ty2, e_ty3, e_ty4, e_ty5, e_ty6, e_ty7, e_isi1, e_isi2, e_isi3, e_isi4, e_isi5, e_isi6, e_isi7, e_isi8, e_isi9, e_isi10, e_isi11, e_isi12, e_isi13, e_isi14, e_isi15, e_isi16, e_isi17, e_frz1, e_frz2, e_frz3, e_frz4, e_it1, e_it2, e_it3, e_it4, isT_ss, isT_si, isT_sl, isT_st, isT_sb, isT_is, isT_ii, isT_il, isT_it, isT_ib, isT_bs, isT_bi, isT_bl, isT_bt, isT_bb, isT_ls, isT_li, isT_ll, isT_lt, isT_lb, isT_ts, isT_ti, isT_tl, isT_tt, isT_tb, List.getElem?_cons_zero, List.getElem?_cons_succ, List.set_cons_zero, List.set_cons_succ, List.cons_append, List.nil_append, List.length_cons, List.length_nil, dwipe, List.append_nil, List.cons.injEq, exists_eq_left, exists_eq_left', Option.some.injEq, D.str.injEq, D.int.injEq, D.bl.injEq, D.lst.injEq, D.tup.injEq, D.ref.injEq, D.scr.injEq, MO.lst.injEq, MO.ins.injEq, true_and, and_true, if_true, Bool.not_true, Bool.not_false, Bool.false_eq_true, if_false, exists_const, exists_eq, exists_eq', exists_and_left, and_self, reduceCtorEq, decide_true, decide_false, decide_eq_true_eq, Bool.not_eq_true', decide_eq_false_iff_not, and_assoc, Bool.true_or, Bool.or_true, Bool.false_or, Bool.or_false, Bool.true_and, Bool.false_and]
    refine ⟨by omega, iS ++ [39 :: m1], by simp, by simp; omega, ?_, .inl ⟨by simp, fun m2 h2 => ?_⟩⟩
    · intro w hw
      rcases List.mem_append.mp hw with hw | hw
      · have := hS w hw; omega
      · simp at hw; rw [hw]; simp; omega
    · simp only [dSeq, dIfS, dNot, dTru, dB, dCB, dOp, dCons, dNil, dVar, dC, dNever, dNext, dRet, dRetN, dAsg, gNm, dAndV, dOrV, dNotV, dAnd, dOr, dIf, dLst, dLstM, dTup, dFld, dSetF, dAugF, dAug, dDrop, dAppend, dExtend, dPop, dPopAt, dPar, dPar3, dCall, dMeth, dMake, dJoin, dSl, dNo, dPart, dSeqI, dRange1, dRange2, dRange3, dEnum, dRevS, dRevL, dIsi2, dYes, dUn, dSetIx, dBreak, dCont, dChain, dFrz, e_vw1, e_vw2, e_vw3, e_vw4, e_vw5, e_vw6, e_vw7, e_vw8, e_vws0, e_vws1, e_gC, e_gN, e_gT, e_eq1, e_eq2, e_eq3, e_eq4, e_eq5, e_ne1, e_ne2, e_ne3, e_ne4, e_ne5, e_lt, e_gt, e_le, e_ge, e_in1, e_in2, e_in3, e_in4, e_in5, e_in6, e_add1, e_add2, e_add3, e_add4, e_iadd1, e_iadd2, e_sub, e_mul1, e_mul2, e_mulS, e_mulM, e_mod, e_div, e_pow, e_neg, e_ix1, e_ix2, e_ix3, e_ix4, e_sl1, e_sl2, e_sl3, e_sl4, e_len1, e_len2, e_len3, e_len4, e_int1, e_int2, e_tru1, e_tru2, e_tru3, e_tru4, e_tru5, e_tru6, e_okS1, e_okS2, e_okS3, e_okS4, e_okS5, e_okS6, e_ty1, e_ty2, e_ty3, e_ty4, e_ty5, e_ty6, e_ty7, e_isi1, e_isi2, e_isi3, e_isi4, e_isi5, e_isi6, e_isi7, e_isi8, e_isi9, e_isi10, e_isi11, e_isi12, e_isi13, e_isi14, e_isi15, e_isi16, e_isi17, e_frz1, e_frz2, e_frz3, e_frz4, e_it1, e_it2, e_it3, e_it4, isT_ss, isT_si, isT_sl, isT_st, isT_sb, isT_is, isT_ii, isT_il, isT_it, isT_ib, isT_bs, isT_bi, isT_bl, isT_bt, isT_bb, isT_ls, isT_li, isT_ll, isT_lt, isT_lb, isT_ts, isT_ti, isT_tl, isT_tt, isT_tb, List.getElem?_cons_zero, List.getElem?_cons_succ, List.set_cons_zero, List.set_cons_succ, List.cons_append, List.nil_append, List.length_cons, List.length_nil, dwipe, List.append_nil, List.cons.injEq, exists_eq_left, exists_eq_left', Option.some.injEq, D.str.injEq, D.int.injEq, D.bl.injEq, D.lst.injEq, D.tup.injEq, D.ref.injEq, D.scr.injEq, MO.lst.injEq, MO.ins.injEq, true_and, and_true, if_true, Bool.not_true, Bool.not_false, Bool.false_eq_true, if_false, exists_const, exists_eq, exists_eq', exists_and_left, and_self, reduceCtorEq, decide_true, decide_false, decide_eq_true_eq, Bool.not_eq_true', decide_eq_false_iff_not, and_assoc, Bool.true_or, Bool.or_true, Bool.false_or, Bool.or_false, Bool.true_and, Bool.false_and]
      refine ⟨by omega, iD ++ [34 :: m1], by simp, by simp; omega, ?_, .inl ⟨by simp, fun m3 h3 => fin m1 m2 m3 _ x2 h1 h2 h3⟩⟩
      intro w hw
      rcases List.mem_append.mp hw with hw | hw
      · have := hD w hw; omega
      · simp at hw; rw [hw]; simp; omega
structure IQt (t : List Nat) (i : Nat) (q : Lx.Qs) : Prop where
  tb : Lx.Table (t.drop (t.length - i)) q
def PQt (t : List Nat) (M : Mem) (i : Nat) (δ' : DL.Env) (M' : Mem) : Prop := ∃ q x1 x2 x3 x4 x5 x6, δ' = [some (.str t), some (.str q.p), some (.str q.s), some (.str q.d), x1, x2, x3, x4, x5, x6] ∧ IQt t i q ∧ Mx M M'
theorem rk_quote_token {ds M Q Qx} (h : sp_quote_token ds M Q Qx) : rd_quote_token sp_better (fin Q Qx) (dstart 10 ds) M := by
  obtain ⟨t, rfl, ht, k⟩ := h
  show rd_quote_token _ _ [some (.str t), none, none, none, none, none, none, none, none, none] M
  have ht' : t.length ≤ 16777216 := by omega
  simp only [rd_quote_token, u_for, u_lc, dSeq, dIfS, dNot, dTru, dB, dCB, dOp, dCons, dNil, dVar, dC, dNever, dNext, dRet, dRetN, dAsg, gNm, dAndV, dOrV, dNotV, dAnd, dOr, dIf, dLst, dLstM, dTup, dFld, dSetF, dAugF, dAug, dDrop, dAppend, dExtend, dPop, dPopAt, dPar, dPar3, dCall, dMeth, dMake, dJoin, dSl, dNo, dPart, dSeqI, dRange1, dRange2, dRange3, dEnum, dRevS, dRevL, dIsi2, dYes, dUn, dSetIx, dBreak, dCont, dChain, dFrz, e_vw1, e_vw2, e_vw3, e_vw4, e_vw5, e_vw6, e_vw7, e_vw8, e_vws0, e_vws1, e_gC, e_gN, e_gT, e_eq1, e_eq2, e_eq3, e_eq4, e_eq5, e_ne1, e_ne2, e_ne3, e_ne4, e_ne5, e_lt, e_gt, e_le, e_ge, e_in1, e_in2, e_in3, e_in4, e_in5, e_in6, e_add1, e_add2, e_add3, e_add4, e_iadd1, e_iadd2, e_sub, e_mul1, e_mul2, e_mulS, e_mulM, e_mod, e_div, e_pow, e_neg, e_ix1, e_ix2, e_ix3, e_ix4, e_sl1, e_sl2, e_sl3, e_sl4, e_len1, e_len2, e_len3, e_len4, e_int1, e_int2, e_tru1, e_tru2, e_tru3, e_tru4, e_tru5, e_tru6, e_okS1, e_okS2, e_okS3, e_okS4, e_okS5, e_okS6, e_ty1, e_ty2, e_ty3, e_ty4, e_ty5, e_ty6, e_ty7, e_isi1, e_isi2, e_isi3, e_isi4, e_isi5, e_isi6, e_isi7, e_isi8, e_isi9, e_isi10, e_isi11, e_isi12, e_isi13, e_isi14, e_isi15, e_isi16, e_isi17, e_frz1, e_frz2, e_frz3, e_frz4, e_it1, e_it2, e_it3, e_it4, isT_ss, isT_si, isT_sl, isT_st, isT_sb, isT_is, isT_ii, isT_il, isT_it, isT_ib, isT_bs, isT_bi, isT_bl, isT_bt, isT_bb, isT_ls, isT_li, isT_ll, isT_lt, isT_lb, isT_ts, isT_ti, isT_tl, isT_tt, isT_tb, List.getElem?_cons_zero, List.getElem?_cons_succ, List.set_cons_zero, List.set_cons_succ, List.cons_append, List.nil_append, List.length_cons, List.length_nil, dwipe, List.append_nil, List.cons.injEq, exists_eq_left, exists_eq_left', Option.some.injEq, D.str.injEq, D.int.injEq, D.bl.injEq, D.lst.injEq, D.tup.injEq, D.ref.injEq, D.scr.injEq, MO.lst.injEq, MO.ins.injEq, true_and, and_true, if_true, Bool.not_true, Bool.not_false, Bool.false_eq_true, if_false, exists_const, exists_eq, exists_eq', exists_and_left, and_self, reduceCtorEq, decide_true, decide_false, decide_eq_true_eq, Bool.not_eq_true', decide_eq_false_iff_not, and_assoc, Bool.true_or, Bool.or_true, Bool.false_or, Bool.or_false, Bool.true_and, Bool.false_and, c_em, d_dq, d_sq, d_bs, ht', d_sp]
  by_cases h0 : t = []
  · rw [if_pos h0]
    subst h0
    exact ⟨by decide, k _ M Lx.Quo.nil (Mx.refl M)⟩
  · rw [if_neg h0]
    refine ⟨PQt t M, ⟨⟨[], [39], [34]⟩, none, none, none, none, none, none, rfl, ⟨by simpa using Lx.Table.nil⟩, Mx.refl M⟩, ?_, ?_⟩
    · rintro i d δ' M' hd ⟨q, x1, x2, x3, x4, x5, x6, rfl, I, hx⟩
      obtain ⟨c, hc, rfl⟩ := chars_at hd
      have hi := (mem_at hc).2
      rw [List.length_reverse] at hi
      have n1 := Lx.n12 (t.drop (t.length - i))
      obtain ⟨b1, b2, b3, b4⟩ := I.tb.lens
      rw [List.length_drop] at n1 b1 b2 b3 b4
      have l1 : 2 + q.p.length ≤ 16777216 := by omega
      have l2 : 2 + q.d.length ≤ 16777216 := by omega
      have l3 : 1 + q.p.length ≤ 16777216 := by omega
      have l4 : 1 + q.d.length ≤ 16777216 := by omega
      have l5 : 1 + q.s.length ≤ 16777216 := by omega
      have cls : ((c = 32) = False ∧ (c = 39) = False ∧ (c = 34) = False ∧ (c = 92) = False) ∨ ((c = 32) = True ∧ (c = 39) = False ∧ (c = 34) = False ∧ (c = 92) = False) ∨ ((c = 32) = False ∧ (c = 39) = True ∧ (c = 34) = False ∧ (c = 92) = False) ∨
          ((c = 32) = False ∧ (c = 39) = False ∧ (c = 34) = True ∧ (c = 92) = False) ∨ ((c = 32) = False ∧ (c = 39) = False ∧ (c = 34) = False ∧ (c = 92) = True) := by
        simp only [eq_iff_iff, iff_true, iff_false]
        omega
      have hdr : t.drop (t.length - (i + 1)) = c :: t.drop (t.length - i) := by
        have h1 : t.length - (i + 1) < t.length := by omega
        rw [List.drop_eq_getElem_cons h1]
        have h2 : t.length - (i + 1) + 1 = t.length - i := by omega
        rw [h2]
        rw [List.getElem?_reverse hi] at hc
        have h3 : t.length - 1 - i = t.length - (i + 1) := by omega
        rw [h3, List.getElem?_eq_getElem h1] at hc
        cases hc
        rfl
      have fin : ∀ (x1 x2 x3 x4 x5 x6 : Option D) m1 m2 m3 M2, Mx M M2 → Best m1 (· ∈ Lx.outs c q) → Best m2 (· ∈ Lx.inS c q.s ++ [39 :: m1]) → Best m3 (· ∈ Lx.inD c q.d ++ [34 :: m1]) →
          PQt t M (i + 1) [some (D.str t), some (.str m1), some (.str m2), some (.str m3), x1, x2, x3, x4, x5, x6] M2 := fun x1 x2 x3 x4 x5 x6 m1 m2 m3 M2 hx2 h1 h2 h3 =>
        ⟨⟨m1, m2, m3⟩, x1, x2, x3, x4, x5, x6, rfl, ⟨by rw [hdr]; exact .cons I.tb ⟨h1, h2, h3⟩⟩, hx2⟩
      have pre : ∀ {p : Addr} {l : List D}, M' p = none → Mx M (mset M' p (.lst l)) ∧ M p = none := fun {p l} hp => by
        have n : M p = none := by
          cases e : M p with
          | none => rfl
          | some o => rw [hx p o e] at hp; cases hp
        exact ⟨hx.upd n, n⟩
      rcases cls with ⟨e1, e2, e3, e4⟩ | ⟨e1, e2, e3, e4⟩ | ⟨e1, e2, e3, e4⟩ | ⟨e1, e2, e3, e4⟩ | ⟨e1, e2, e3, e4⟩
      · simp only [dSeq, dIfS, dNot, dTru, dB, dCB, dOp, dCons, dNil, dVar, dC, dNever, dNext, dRet, dRetN, dAsg, gNm, dAndV, dOrV, dNotV, dAnd, dOr, dIf, dLst, dLstM, dTup, dFld, dSetF, dAugF, dAug, dDrop, dAppend, dExtend, dPop, dPopAt, dPar, dPar3, dCall, dMeth, dMake, dJoin, dSl, dNo, dPart, dSeqI, dRange1, dRange2, dRange3, dEnum, dRevS, dRevL, dIsi2, dYes, dUn, dSetIx, dBreak, dCont, dChain, dFrz, e_vw1, e_vw2, e_vw3, e_vw4, e_vw5, e_vw6, e_vw7, e_vw8, e_vws0, e_vws1, e_gC, e_gN, e_gT, e_eq1, e_eq2, e_eq3, e_eq4, e_eq5, e_ne1, e_ne2, e_ne3, e_ne4, e_ne5, e_lt, e_gt, e_le, e_ge, e_in1, e_in2, e_in3, e_in4, e_in5, e_in6, e_add1, e_add2, e_add3, e_add4, e_iadd1, e_iadd2, e_sub, e_mul1, e_mul2, e_mulS, e_mulM, e_mod, e_div, e_pow, e_neg, e_ix1, e_ix2, e_ix3, e_ix4, e_sl1, e_sl2, e_sl3, e_sl4, e_len1, e_len2, e_len3, e_len4, e_int1, e_int2, e_tru1, e_tru2, e_tru3, e_tru4, e_tru5, e_tru6, e_okS1, e_okS2, e_okS3, e_okS4, e_okS5, e_okS6, e_ty1, e_ty2, e_ty3, e_ty4, e_ty5, e_ty6, e_ty7, e_isi1, e_isi2, e_isi3, e_isi4, e_isi5, e_isi6, e_isi7, e_isi8, e_isi9, e_isi10, e_isi11, e_isi12, e_isi13, e_isi14, e_isi15, e_isi16, e_isi17, e_frz1, e_frz2, e_frz3, e_frz4, e_it1, e_it2, e_it3, e_it4, isT_ss, isT_si, isT_sl, isT_st, isT_sb, isT_is, isT_ii, isT_il, isT_it, isT_ib, isT_bs, isT_bi, isT_bl, isT_bt, isT_bb, isT_ls, isT_li, isT_ll, isT_lt, isT_lb, isT_ts, isT_ti, isT_tl, isT_tt, isT_tb, List.getElem?_cons_zero, List.getElem?_cons_succ, List.set_cons_zero, List.set_cons_succ, List.cons_append, List.nil_append, List.length_cons, List.length_nil, dwipe, List.append_nil, List.cons.injEq, exists_eq_left, exists_eq_left', Option.some.injEq, D.str.injEq, D.int.injEq, D.bl.injEq, D.lst.injEq, D.tup.injEq, D.ref.injEq, D.scr.injEq, MO.lst.injEq, MO.ins.injEq, true_and, and_true, if_true, Bool.not_true, Bool.not_false, Bool.false_eq_true, if_false, exists_const, exists_eq, exists_eq', exists_and_left, and_self, reduceCtorEq, decide_true, decide_false, decide_eq_true_eq, Bool.not_eq_true', decide_eq_false_iff_not, and_assoc, Bool.true_or, Bool.or_true, Bool.false_or, Bool.or_false, Bool.true_and, Bool.false_and, has_2, has_4, sm_2, sm_4, sm_str, e1, e2, e3, e4, false_or, or_false, or_true, true_or, l1, l2, l3, l4, l5, not_false_eq_true, not_true_eq_false, u_lc, Nat.reduceAdd, Nat.reduceLeDiff]
        intro p hp
        obtain ⟨p1, p2⟩ := pre (l := []) hp
        refine ⟨_, mset_same, _, mset_same, (by show 1 < 16777216; decide), _, mset_same, ?_⟩
        have eo : Lx.outs c q = [92 :: c :: q.p, c :: q.p] ++ (([c :: q.s] : List (List Nat)).map (39 :: ·) ++ ([92 :: c :: q.d, c :: q.d] : List (List Nat)).map (34 :: ·)) := by simp [Lx.outs, Lx.inS, Lx.inD, e1, e2, e3, e4]
        have es : Lx.inS c q.s = [c :: q.s] := by simp [Lx.inS, e1, e2, e3, e4]
        have ed : Lx.inD c q.d = [92 :: c :: q.d, c :: q.d] := by simp [Lx.inD, e1, e2, e3, e4]
        rw [eo, es, ed] at fin
        exact qt_tail (os := [92 :: c :: q.p, c :: q.p]) (iS := [c :: q.s]) (iD := [92 :: c :: q.d, c :: q.d]) mset_same p2 (by rw [mset_mset]; exact (pre hp).1) (by simp <;> omega) (by simp <;> omega) (by simp <;> omega) (by simp) (by simp) (by simp) (by simp) (fun m1 m2 m3 M2 hx2 h1 h2 h3 => fin _ _ _ _ _ _ m1 m2 m3 M2 hx2 h1 h2 h3)
      · simp only [dSeq, dIfS, dNot, dTru, dB, dCB, dOp, dCons, dNil, dVar, dC, dNever, dNext, dRet, dRetN, dAsg, gNm, dAndV, dOrV, dNotV, dAnd, dOr, dIf, dLst, dLstM, dTup, dFld, dSetF, dAugF, dAug, dDrop, dAppend, dExtend, dPop, dPopAt, dPar, dPar3, dCall, dMeth, dMake, dJoin, dSl, dNo, dPart, dSeqI, dRange1, dRange2, dRange3, dEnum, dRevS, dRevL, dIsi2, dYes, dUn, dSetIx, dBreak, dCont, dChain, dFrz, e_vw1, e_vw2, e_vw3, e_vw4, e_vw5, e_vw6, e_vw7, e_vw8, e_vws0, e_vws1, e_gC, e_gN, e_gT, e_eq1, e_eq2, e_eq3, e_eq4, e_eq5, e_ne1, e_ne2, e_ne3, e_ne4, e_ne5, e_lt, e_gt, e_le, e_ge, e_in1, e_in2, e_in3, e_in4, e_in5, e_in6, e_add1, e_add2, e_add3, e_add4, e_iadd1, e_iadd2, e_sub, e_mul1, e_mul2, e_mulS, e_mulM, e_mod, e_div, e_pow, e_neg, e_ix1, e_ix2, e_ix3, e_ix4, e_sl1, e_sl2, e_sl3, e_sl4, e_len1, e_len2, e_len3, e_len4, e_int1, e_int2, e_tru1, e_tru2, e_tru3, e_tru4, e_tru5, e_tru6, e_okS1, e_okS2, e_okS3, e_okS4, e_okS5, e_okS6, e_ty1, e_ty2, e_ty3, e_ty4, e_ty5, e_ty6, e_ty7, e_isi1, e_isi2, e_isi3, e_isi4, e_isi5, e_isi6, e_isi7, e_isi8, e_isi9, e_isi10, e_isi11, e_isi12, e_isi13, e_isi14, e_isi15, e_isi16, e_isi17, e_frz1, e_frz2, e_frz3, e_frz4, e_it1, e_it2, e_it3, e_it4, isT_ss, isT_si, isT_sl, isT_st, isT_sb, isT_is, isT_ii, isT_il, isT_it, isT_ib, isT_bs, isT_bi, isT_bl, isT_bt, isT_bb, isT_ls, isT_li, isT_ll, isT_lt, isT_lb, isT_ts, isT_ti, isT_tl, isT_tt, isT_tb, List.getElem?_cons_zero, List.getElem?_cons_succ, List.set_cons_zero, List.set_cons_succ, List.cons_append, List.nil_append, List.length_cons, List.length_nil, dwipe, List.append_nil, List.cons.injEq, exists_eq_left, exists_eq_left', Option.some.injEq, D.str.injEq, D.int.injEq, D.bl.injEq, D.lst.injEq, D.tup.injEq, D.ref.injEq, D.scr.injEq, MO.lst.injEq, MO.ins.injEq, true_and, and_true, if_true, Bool.not_true, Bool.not_false, Bool.false_eq_true, if_false, exists_const, exists_eq, exists_eq', exists_and_left, and_self, reduceCtorEq, decide_true, decide_false, decide_eq_true_eq, Bool.not_eq_true', decide_eq_false_iff_not, and_assoc, Bool.true_or, Bool.or_true, Bool.false_or, Bool.or_false, Bool.true_and, Bool.false_and, has_2, has_4, sm_2, sm_4, sm_str, e1, e2, e3, e4, false_or, or_false, or_true, true_or, l1, l2, l3, l4, l5, not_false_eq_true, not_true_eq_false, u_lc, Nat.reduceAdd, Nat.reduceLeDiff]
        intro p hp
        obtain ⟨p1, p2⟩ := pre (l := []) hp
        refine ⟨_, mset_same, ?_⟩
        have eo : Lx.outs c q = [92 :: c :: q.p] ++ (([c :: q.s] : List (List Nat)).map (39 :: ·) ++ ([92 :: c :: q.d, c :: q.d] : List (List Nat)).map (34 :: ·)) := by simp [Lx.outs, Lx.inS, Lx.inD, e1, e2, e3, e4]
        have es : Lx.inS c q.s = [c :: q.s] := by simp [Lx.inS, e1, e2, e3, e4]
        have ed : Lx.inD c q.d = [92 :: c :: q.d, c :: q.d] := by simp [Lx.inD, e1, e2, e3, e4]
        rw [eo, es, ed] at fin
        exact qt_tail (os := [92 :: c :: q.p]) (iS := [c :: q.s]) (iD := [92 :: c :: q.d, c :: q.d]) mset_same p2 ((pre hp).1) (by simp <;> omega) (by simp <;> omega) (by simp <;> omega) (by simp) (by simp) (by simp) (by simp) (fun m1 m2 m3 M2 hx2 h1 h2 h3 => fin _ _ _ _ _ _ m1 m2 m3 M2 hx2 h1 h2 h3)
      · simp only [dSeq, dIfS, dNot, dTru, dB, dCB, dOp, dCons, dNil, dVar, dC, dNever, dNext, dRet, dRetN, dAsg, gNm, dAndV, dOrV, dNotV, dAnd, dOr, dIf, dLst, dLstM, dTup, dFld, dSetF, dAugF, dAug, dDrop, dAppend, dExtend, dPop, dPopAt, dPar, dPar3, dCall, dMeth, dMake, dJoin, dSl, dNo, dPart, dSeqI, dRange1, dRange2, dRange3, dEnum, dRevS, dRevL, dIsi2, dYes, dUn, dSetIx, dBreak, dCont, dChain, dFrz, e_vw1, e_vw2, e_vw3, e_vw4, e_vw5, e_vw6, e_vw7, e_vw8, e_vws0, e_vws1, e_gC, e_gN, e_gT, e_eq1, e_eq2, e_eq3, e_eq4, e_eq5, e_ne1, e_ne2, e_ne3, e_ne4, e_ne5, e_lt, e_gt, e_le, e_ge, e_in1, e_in2, e_in3, e_in4, e_in5, e_in6, e_add1, e_add2, e_add3, e_add4, e_iadd1, e_iadd2, e_sub, e_mul1, e_mul2, e_mulS, e_mulM, e_mod, e_div, e_pow, e_neg, e_ix1, e_ix2, e_ix3, e_ix4, e_sl1, e_sl2, e_sl3, e_sl4, e_len1, e_len2, e_len3, e_len4, e_int1, e_int2, e_tru1, e_tru2, e_tru3, e_tru4, e_tru5, e_tru6, e_okS1, e_okS2, e_okS3, e_okS4, e_okS5, e_okS6, e_ty1, e_ty2, e_ty3, e_ty4, e_ty5, e_ty6, e_ty7, e_isi1, e_isi2, e_isi3, e_isi4, e_isi5, e_isi6, e_isi7, e_isi8, e_isi9, e_isi10, e_isi11, e_isi12, e_isi13, e_isi14, e_isi15, e_isi16, e_isi17, e_frz1, e_frz2, e_frz3, e_frz4, e_it1, e_it2, e_it3, e_it4, isT_ss, isT_si, isT_sl, isT_st, isT_sb, isT_is, isT_ii, isT_il, isT_it, isT_ib, isT_bs, isT_bi, isT_bl, isT_bt, isT_bb, isT_ls, isT_li, isT_ll, isT_lt, isT_lb, isT_ts, isT_ti, isT_tl, isT_tt, isT_tb, List.getElem?_cons_zero, List.getElem?_cons_succ, List.set_cons_zero, List.set_cons_succ, List.cons_append, List.nil_append, List.length_cons, List.length_nil, dwipe, List.append_nil, List.cons.injEq, exists_eq_left, exists_eq_left', Option.some.injEq, D.str.injEq, D.int.injEq, D.bl.injEq, D.lst.injEq, D.tup.injEq, D.ref.injEq, D.scr.injEq, MO.lst.injEq, MO.ins.injEq, true_and, and_true, if_true, Bool.not_true, Bool.not_false, Bool.false_eq_true, if_false, exists_const, exists_eq, exists_eq', exists_and_left, and_self, reduceCtorEq, decide_true, decide_false, decide_eq_true_eq, Bool.not_eq_true', decide_eq_false_iff_not, and_assoc, Bool.true_or, Bool.or_true, Bool.false_or, Bool.or_false, Bool.true_and, Bool.false_and, has_2, has_4, sm_2, sm_4, sm_str, e1, e2, e3, e4, false_or, or_false, or_true, true_or, l1, l2, l3, l4, l5, not_false_eq_true, not_true_eq_false, u_lc, Nat.reduceAdd, Nat.reduceLeDiff]
        intro p hp
        obtain ⟨p1, p2⟩ := pre (l := []) hp
        refine ⟨_, mset_same, ?_⟩
        have eo : Lx.outs c q = [92 :: c :: q.p] ++ (([] : List (List Nat)).map (39 :: ·) ++ ([92 :: c :: q.d, c :: q.d] : List (List Nat)).map (34 :: ·)) := by simp [Lx.outs, Lx.inS, Lx.inD, e1, e2, e3, e4]
        have es : Lx.inS c q.s = [] := by simp [Lx.inS, e1, e2, e3, e4]
        have ed : Lx.inD c q.d = [92 :: c :: q.d, c :: q.d] := by simp [Lx.inD, e1, e2, e3, e4]
        rw [eo, es, ed] at fin
        exact qt_tail (os := [92 :: c :: q.p]) (iS := []) (iD := [92 :: c :: q.d, c :: q.d]) mset_same p2 ((pre hp).1) (by simp <;> omega) (by simp <;> omega) (by simp <;> omega) (by simp) (by simp) (by simp) (by simp) (fun m1 m2 m3 M2 hx2 h1 h2 h3 => fin _ _ _ _ _ _ m1 m2 m3 M2 hx2 h1 h2 h3)
      · simp only [dSeq, dIfS, dNot, dTru, dB, dCB, dOp, dCons, dNil, dVar, dC, dNever, dNext, dRet, dRetN, dAsg, gNm, dAndV, dOrV, dNotV, dAnd, dOr, dIf, dLst, dLstM, dTup, dFld, dSetF, dAugF, dAug, dDrop, dAppend, dExtend, dPop, dPopAt, dPar, dPar3, dCall, dMeth, dMake, dJoin, dSl, dNo, dPart, dSeqI, dRange1, dRange2, dRange3, dEnum, dRevS, dRevL, dIsi2, dYes, dUn, dSetIx, dBreak, dCont, dChain, dFrz, e_vw1, e_vw2, e_vw3, e_vw4, e_vw5, e_vw6, e_vw7, e_vw8, e_vws0, e_vws1, e_gC, e_gN, e_gT, e_eq1, e_eq2, e_eq3, e_eq4, e_eq5, e_ne1, e_ne2, e_ne3, e_ne4, e_ne5, e_lt, e_gt, e_le, e_ge, e_in1, e_in2, e_in3, e_in4, e_in5, e_in6, e_add1, e_add2, e_add3, e_add4, e_iadd1, e_iadd2, e_sub, e_mul1, e_mul2, e_mulS, e_mulM, e_mod, e_div, e_pow, e_neg, e_ix1, e_ix2, e_ix3, e_ix4, e_sl1, e_sl2, e_sl3, e_sl4, e_len1, e_len2, e_len3, e_len4, e_int1, e_int2, e_tru1, e_tru2, e_tru3, e_tru4, e_tru5, e_tru6, e_okS1, e_okS2, e_okS3, e_okS4, e_okS5, e_okS6, e_ty1, e_ty2, e_ty3, e_ty4, e_ty5, e_ty6, e_ty7, e_isi1, e_isi2, e_isi3, e_isi4, e_isi5, e_isi6, e_isi7, e_isi8, e_isi9, e_isi10, e_isi11, e_isi12, e_isi13, e_isi14, e_isi15, e_isi16, e_isi17, e_frz1, e_frz2, e_frz3, e_frz4, e_it1, e_it2, e_it3, e_it4, isT_ss, isT_si, isT_sl, isT_st, isT_sb, isT_is, isT_ii, isT_il, isT_it, isT_ib, isT_bs, isT_bi, isT_bl, isT_bt, isT_bb, isT_ls, isT_li, isT_ll, isT_lt, isT_lb, isT_ts, isT_ti, isT_tl, isT_tt, isT_tb, List.getElem?_cons_zero, List.getElem?_cons_succ, List.set_cons_zero, List.set_cons_succ, List.cons_append, List.nil_append, List.length_cons, List.length_nil, dwipe, List.append_nil, List.cons.injEq, exists_eq_left, exists_eq_left', Option.some.injEq, D.str.injEq, D.int.injEq, D.bl.injEq, D.lst.injEq, D.tup.injEq, D.ref.injEq, D.scr.injEq, MO.lst.injEq, MO.ins.injEq, true_and, and_true, if_true, Bool.not_true, Bool.not_false, Bool.false_eq_true, if_false, exists_const, exists_eq, exists_eq', exists_and_left, and_self, reduceCtorEq, decide_true, decide_false, decide_eq_true_eq, Bool.not_eq_true', decide_eq_false_iff_not, and_assoc, Bool.true_or, Bool.or_true, Bool.false_or, Bool.or_false, Bool.true_and, Bool.false_and, has_2, has_4, sm_2, sm_4, sm_str, e1, e2, e3, e4, false_or, or_false, or_true, true_or, l1, l2, l3, l4, l5, not_false_eq_true, not_true_eq_false, u_lc, Nat.reduceAdd, Nat.reduceLeDiff]
        intro p hp
        obtain ⟨p1, p2⟩ := pre (l := []) hp
        refine ⟨_, mset_same, ?_⟩
        have eo : Lx.outs c q = [92 :: c :: q.p] ++ (([c :: q.s] : List (List Nat)).map (39 :: ·) ++ ([92 :: c :: q.d] : List (List Nat)).map (34 :: ·)) := by simp [Lx.outs, Lx.inS, Lx.inD, e1, e2, e3, e4]
        have es : Lx.inS c q.s = [c :: q.s] := by simp [Lx.inS, e1, e2, e3, e4]
        have ed : Lx.inD c q.d = [92 :: c :: q.d] := by simp [Lx.inD, e1, e2, e3, e4]
        rw [eo, es, ed] at fin
        exact qt_tail (os := [92 :: c :: q.p]) (iS := [c :: q.s]) (iD := [92 :: c :: q.d]) mset_same p2 ((pre hp).1) (by simp <;> omega) (by simp <;> omega) (by simp <;> omega) (by simp) (by simp) (by simp) (by simp) (fun m1 m2 m3 M2 hx2 h1 h2 h3 => fin _ _ _ _ _ _ m1 m2 m3 M2 hx2 h1 h2 h3)
      · simp only [dSeq, dIfS, dNot, dTru, dB, dCB, dOp, dCons, dNil, dVar, dC, dNever, dNext, dRet, dRetN, dAsg, gNm, dAndV, dOrV, dNotV, dAnd, dOr, dIf, dLst, dLstM, dTup, dFld, dSetF, dAugF, dAug, dDrop, dAppend, dExtend, dPop, dPopAt, dPar, dPar3, dCall, dMeth, dMake, dJoin, dSl, dNo, dPart, dSeqI, dRange1, dRange2, dRange3, dEnum, dRevS, dRevL, dIsi2, dYes, dUn, dSetIx, dBreak, dCont, dChain, dFrz, e_vw1, e_vw2, e_vw3, e_vw4, e_vw5, e_vw6, e_vw7, e_vw8, e_vws0, e_vws1, e_gC, e_gN, e_gT, e_eq1, e_eq2, e_eq3, e_eq4, e_eq5, e_ne1, e_ne2, e_ne3, e_ne4, e_ne5, e_lt, e_gt, e_le, e_ge, e_in1, e_in2, e_in3, e_in4, e_in5, e_in6, e_add1, e_add2, e_add3, e_add4, e_iadd1, e_iadd2, e_sub, e_mul1, e_mul2, e_mulS, e_mulM, e_mod, e_div, e_pow, e_neg, e_ix1, e_ix2, e_ix3, e_ix4, e_sl1, e_sl2, e_sl3, e_sl4, e_len1, e_len2, e_len3, e_len4, e_int1, e_int2, e_tru1, e_tru2, e_tru3, e_tru4, e_tru5, e_tru6, e_okS1, e_okS2, e_okS3, e_okS4, e_okS5, e_okS6, e_ty1, e_ty2, e_ty3, e_ty4, e_ty5, e_ty6, e_ty7, e_isi1, e_isi2, e_isi3, e_isi4, e_isi5, e_isi6, e_isi7, e_isi8, e_isi9, e_isi10, e_isi11, e_isi12, e_isi13, e_isi14, e_isi15, e_isi16, e_isi17, e_frz1, e_frz2, e_frz3, e_frz4, e_it1, e_it2, e_it3, e_it4, isT_ss, isT_si, isT_sl, isT_st, isT_sb, isT_is, isT_ii, isT_il, isT_it, isT_ib, isT_bs, isT_bi, isT_bl, isT_bt, isT_bb, isT_ls, isT_li, isT_ll, isT_lt, isT_lb, isT_ts, isT_ti, isT_tl, isT_tt, isT_tb, List.getElem?_cons_zero, List.getElem?_cons_succ, List.set_cons_zero, List.set_cons_succ, List.cons_append, List.nil_append, List.length_cons, List.length_nil, dwipe, List.append_nil, List.cons.injEq, exists_eq_left, exists_eq_left', Option.some.injEq, D.str.injEq, D.int.injEq, D.bl.injEq, D.lst.injEq, D.tup.injEq, D.ref.injEq, D.scr.injEq, MO.lst.injEq, MO.ins.injEq, true_and, and_true, if_true, Bool.not_true, Bool.not_false, Bool.false_eq_true, if_false, exists_const, exists_eq, exists_eq', exists_and_left, and_self, reduceCtorEq, decide_true, decide_false, decide_eq_true_eq, Bool.not_eq_true', decide_eq_false_iff_not, and_assoc, Bool.true_or, Bool.or_true, Bool.false_or, Bool.or_false, Bool.true_and, Bool.false_and, has_2, has_4, sm_2, sm_4, sm_str, e1, e2, e3, e4, false_or, or_false, or_true, true_or, l1, l2, l3, l4, l5, not_false_eq_true, not_true_eq_false, u_lc, Nat.reduceAdd, Nat.reduceLeDiff]
        intro p hp
        obtain ⟨p1, p2⟩ := pre (l := []) hp
        refine ⟨_, mset_same, ?_⟩
        have eo : Lx.outs c q = [92 :: c :: q.p] ++ (([c :: q.s] : List (List Nat)).map (39 :: ·) ++ ([92 :: c :: q.d] : List (List Nat)).map (34 :: ·)) := by simp [Lx.outs, Lx.inS, Lx.inD, e1, e2, e3, e4]
        have es : Lx.inS c q.s = [c :: q.s] := by simp [Lx.inS, e1, e2, e3, e4]
        have ed : Lx.inD c q.d = [92 :: c :: q.d] := by simp [Lx.inD, e1, e2, e3, e4]
        rw [eo, es, ed] at fin
        exact qt_tail (os := [92 :: c :: q.p]) (iS := [c :: q.s]) (iD := [92 :: c :: q.d]) mset_same p2 ((pre hp).1) (by simp <;> omega) (by simp <;> omega) (by simp <;> omega) (by simp) (by simp) (by simp) (by simp) (fun m1 m2 m3 M2 hx2 h1 h2 h3 => fin _ _ _ _ _ _ m1 m2 m3 M2 hx2 h1 h2 h3)
    · rintro δ' M' ⟨q, x1, x2, x3, x4, x5, x6, rfl, I, hx⟩
      rw [chars_len, List.length_reverse] at I
      have tb := I.tb
      rw [Nat.sub_self, List.drop_zero] at tb
      simp only [dSeq, dIfS, dNot, dTru, dB, dCB, dOp, dCons, dNil, dVar, dC, dNever, dNext, dRet, dRetN, dAsg, gNm, dAndV, dOrV, dNotV, dAnd, dOr, dIf, dLst, dLstM, dTup, dFld, dSetF, dAugF, dAug, dDrop, dAppend, dExtend, dPop, dPopAt, dPar, dPar3, dCall, dMeth, dMake, dJoin, dSl, dNo, dPart, dSeqI, dRange1, dRange2, dRange3, dEnum, dRevS, dRevL, dIsi2, dYes, dUn, dSetIx, dBreak, dCont, dChain, dFrz, e_vw1, e_vw2, e_vw3, e_vw4, e_vw5, e_vw6, e_vw7, e_vw8, e_vws0, e_vws1, e_gC, e_gN, e_gT, e_eq1, e_eq2, e_eq3, e_eq4, e_eq5, e_ne1, e_ne2, e_ne3, e_ne4, e_ne5, e_lt, e_gt, e_le, e_ge, e_in1, e_in2, e_in3, e_in4, e_in5, e_in6, e_add1, e_add2, e_add3, e_add4, e_iadd1, e_iadd2, e_sub, e_mul1, e_mul2, e_mulS, e_mulM, e_mod, e_div, e_pow, e_neg, e_ix1, e_ix2, e_ix3, e_ix4, e_sl1, e_sl2, e_sl3, e_sl4, e_len1, e_len2, e_len3, e_len4, e_int1, e_int2, e_tru1, e_tru2, e_tru3, e_tru4, e_tru5, e_tru6, e_okS1, e_okS2, e_okS3, e_okS4, e_okS5, e_okS6, e_ty1, e_ty2, e_ty3, e_ty4, e_ty5, e_ty6, e_ty7, e_isi1, e_isi2, e_isi3, e_isi4, e_isi5, e_isi6, e_isi7, e_isi8, e_isi9, e_isi10, e_isi11, e_isi12, e_isi13, e_isi14, e_isi15, e_isi16, e_isi17, e_frz1, e_frz2, e_frz3, e_frz4, e_it1, e_it2, e_it3, e_it4, isT_ss, isT_si, isT_sl, isT_st, isT_sb, isT_is, isT_ii, isT_il, isT_it, isT_ib, isT_bs, isT_bi, isT_bl, isT_bt, isT_bb, isT_ls, isT_li, isT_ll, isT_lt, isT_lb, isT_ts, isT_ti, isT_tl, isT_tt, isT_tb, List.getElem?_cons_zero, List.getElem?_cons_succ, List.set_cons_zero, List.set_cons_succ, List.cons_append, List.nil_append, List.length_cons, List.length_nil, dwipe, List.append_nil, List.cons.injEq, exists_eq_left, exists_eq_left', Option.some.injEq, D.str.injEq, D.int.injEq, D.bl.injEq, D.lst.injEq, D.tup.injEq, D.ref.injEq, D.scr.injEq, MO.lst.injEq, MO.ins.injEq, true_and, and_true, if_true, Bool.not_true, Bool.not_false, Bool.false_eq_true, if_false, exists_const, exists_eq, exists_eq', exists_and_left, and_self, reduceCtorEq, decide_true, decide_false, decide_eq_true_eq, Bool.not_eq_true', decide_eq_false_iff_not, and_assoc, Bool.true_or, Bool.or_true, Bool.false_or, Bool.or_false, Bool.true_and, Bool.false_and]
      refine k q.p M' ?_ hx
      cases t with
      | nil => exact absurd rfl h0
      | cons c t => exact .cons tb
def sp_quote : SpD := fun ds M Q _ => ∃ t, ds = [.str t] ∧ okb t = true ∧ ∀ w M', Lx.Quo t w → Mx M M' → Q (.str w) M'
theorem len_quote (ds : List D) (M : Mem) (Q : QE) (Qx : QX) (h : sp_quote ds M Q Qx) : ds.length = 1 := by obtain ⟨_, rfl, _⟩ := h; rfl
theorem rk_quote {ds M Q Qx} (h : sp_quote ds M Q Qx) : rd_quote sp_check_tokens sp_quote_token (fin Q Qx) (dstart 1 ds) M := by
  obtain ⟨t, rfl, ht, k⟩ := h
  show rd_quote _ _ _ [some (.str t)] M
  simp only [rd_quote, dSeq, dIfS, dNot, dTru, dB, dCB, dOp, dCons, dNil, dVar, dC, dNever, dNext, dRet, dRetN, dAsg, gNm, dAndV, dOrV, dNotV, dAnd, dOr, dIf, dLst, dLstM, dTup, dFld, dSetF, dAugF, dAug, dDrop, dAppend, dExtend, dPop, dPopAt, dPar, dPar3, dCall, dMeth, dMake, dJoin, dSl, dNo, dPart, dSeqI, dRange1, dRange2, dRange3, dEnum, dRevS, dRevL, dIsi2, dYes, dUn, dSetIx, dBreak, dCont, dChain, dFrz, e_vw1, e_vw2, e_vw3, e_vw4, e_vw5, e_vw6, e_vw7, e_vw8, e_vws0, e_vws1, e_gC, e_gN, e_gT, e_eq1, e_eq2, e_eq3, e_eq4, e_eq5, e_ne1, e_ne2, e_ne3, e_ne4, e_ne5, e_lt, e_gt, e_le, e_ge, e_in1, e_in2, e_in3, e_in4, e_in5, e_in6, e_add1, e_add2, e_add3, e_add4, e_iadd1, e_iadd2, e_sub, e_mul1, e_mul2, e_mulS, e_mulM, e_mod, e_div, e_pow, e_neg, e_ix1, e_ix2, e_ix3, e_ix4, e_sl1, e_sl2, e_sl3, e_sl4, e_len1, e_len2, e_len3, e_len4, e_int1, e_int2, e_tru1, e_tru2, e_tru3, e_tru4, e_tru5, e_tru6, e_okS1, e_okS2, e_okS3, e_okS4, e_okS5, e_okS6, e_ty1, e_ty2, e_ty3, e_ty4, e_ty5, e_ty6, e_ty7, e_isi1, e_isi2, e_isi3, e_isi4, e_isi5, e_isi6, e_isi7, e_isi8, e_isi9, e_isi10, e_isi11, e_isi12, e_isi13, e_isi14, e_isi15, e_isi16, e_isi17, e_frz1, e_frz2, e_frz3, e_frz4, e_it1, e_it2, e_it3, e_it4, isT_ss, isT_si, isT_sl, isT_st, isT_sb, isT_is, isT_ii, isT_il, isT_it, isT_ib, isT_bs, isT_bi, isT_bl, isT_bt, isT_bb, isT_ls, isT_li, isT_ll, isT_lt, isT_lb, isT_ts, isT_ti, isT_tl, isT_tt, isT_tb, List.getElem?_cons_zero, List.getElem?_cons_succ, List.set_cons_zero, List.set_cons_succ, List.cons_append, List.nil_append, List.length_cons, List.length_nil, dwipe, List.append_nil, List.cons.injEq, exists_eq_left, exists_eq_left', Option.some.injEq, D.str.injEq, D.int.injEq, D.bl.injEq, D.lst.injEq, D.tup.injEq, D.ref.injEq, D.scr.injEq, MO.lst.injEq, MO.ins.injEq, true_and, and_true, if_true, Bool.not_true, Bool.not_false, Bool.false_eq_true, if_false, exists_const, exists_eq, exists_eq', exists_and_left, and_self, reduceCtorEq, decide_true, decide_false, decide_eq_true_eq, Bool.not_eq_true', decide_eq_false_iff_not, and_assoc, Bool.true_or, Bool.or_true, Bool.false_or, Bool.or_false, Bool.true_and, Bool.false_and]
  exact ⟨by decide, [t], rfl, fun x hx => by simp at hx; rw [hx]; exact ht, t, rfl, okb_small ht, k⟩
def sp_join_line : SpD := fun ds M Q _ => ∃ ts : List (List Nat), ds = [.lst (ts.map .str)] ∧ (∀ t ∈ ts, okb t = true) ∧ ts.length ≤ 1000 ∧ (∀ ws : List (List Nat), Paired Lx.Quo ts ws → (TL.joinL [32] ws).length ≤ 200) ∧
  ∀ ws M', Paired Lx.Quo ts ws → Mx M M' → Q (.str (TL.joinL [32] ws)) M'
theorem len_join_line (ds : List D) (M : Mem) (Q : QE) (Qx : QX) (h : sp_join_line ds M Q Qx) : ds.length = 1 := by obtain ⟨_, rfl, _⟩ := h; rfl
theorem paired_snoc {α β : Type} {R : α → β → Prop} {a : α} {b : β} : ∀ {xs : List α} {ys : List β}, Paired R xs ys → R a b → Paired R (xs ++ [a]) (ys ++ [b])
  | _, _, .nil, h => .cons h .nil
  | _, _, .cons r t, h => .cons r (paired_snoc t h)
theorem quo_small {t w : List Nat} (h : Lx.Quo t w) (k : t.length ≤ 200) : w.length ≤ 402 := by
  have := h.len1
  have := Lx.n12 t
  omega
theorem sum_small {ws : List (List Nat)} {n : Nat} (h : ∀ w ∈ ws, w.length ≤ n) : (ws.map (·.length)).sum ≤ ws.length * n := by
  induction ws with
  | nil => simp
  | cons w ws ih =>
    have h1 := h w (List.mem_cons_self ..)
    have h2 := ih fun v hv => h v (List.mem_cons_of_mem _ hv)
    simp only [List.map_cons, List.sum_cons, List.length_cons, Nat.succ_mul]
    omega
theorem quo_all {ts ws : List (List Nat)} (h : Paired Lx.Quo ts ws) (k : ∀ t ∈ ts, okb t = true) : ∀ w ∈ ws, w.length ≤ 402 := by
  induction h with
  | nil => intro w hw; cases hw
  | cons r _ ih =>
    intro w hw
    rcases List.mem_cons.mp hw with rfl | hw
    · exact quo_small r (okb_small (k _ (List.mem_cons_self ..)))
    · exact ih (fun t ht => k t (List.mem_cons_of_mem _ ht)) w hw
theorem rk_join_line {ds M Q Qx} (h : sp_join_line ds M Q Qx) : rd_join_line sp_check_tokens sp_quote_token (fin Q Qx) (dstart 3 ds) M := by
  obtain ⟨ts, rfl, ht, hl, h200, k⟩ := h
  show rd_join_line _ _ _ [some (.lst (ts.map .str)), none, none] M
  simp only [rd_join_line, dSeq, dIfS, dNot, dTru, dB, dCB, dOp, dCons, dNil, dVar, dC, dNever, dNext, dRet, dRetN, dAsg, gNm, dAndV, dOrV, dNotV, dAnd, dOr, dIf, dLst, dLstM, dTup, dFld, dSetF, dAugF, dAug, dDrop, dAppend, dExtend, dPop, dPopAt, dPar, dPar3, dCall, dMeth, dMake, dJoin, dSl, dNo, dPart, dSeqI, dRange1, dRange2, dRange3, dEnum, dRevS, dRevL, dIsi2, dYes, dUn, dSetIx, dBreak, dCont, dChain, dFrz, e_vw1, e_vw2, e_vw3, e_vw4, e_vw5, e_vw6, e_vw7, e_vw8, e_vws0, e_vws1, e_gC, e_gN, e_gT, e_eq1, e_eq2, e_eq3, e_eq4, e_eq5, e_ne1, e_ne2, e_ne3, e_ne4, e_ne5, e_lt, e_gt, e_le, e_ge, e_in1, e_in2, e_in3, e_in4, e_in5, e_in6, e_add1, e_add2, e_add3, e_add4, e_iadd1, e_iadd2, e_sub, e_mul1, e_mul2, e_mulS, e_mulM, e_mod, e_div, e_pow, e_neg, e_ix1, e_ix2, e_ix3, e_ix4, e_sl1, e_sl2, e_sl3, e_sl4, e_len1, e_len2, e_len3, e_len4, e_int1, e_int2, e_tru1, e_tru2, e_tru3, e_tru4, e_tru5, e_tru6, e_okS1, e_okS2, e_okS3, e_okS4, e_okS5, e_okS6, e_ty1, e_ty2, e_ty3, e_ty4, e_ty5, e_ty6, e_ty7, e_isi1, e_isi2, e_isi3, e_isi4, e_isi5, e_isi6, e_isi7, e_isi8, e_isi9, e_isi10, e_isi11, e_isi12, e_isi13, e_isi14, e_isi15, e_isi16, e_isi17, e_frz1, e_frz2, e_frz3, e_frz4, e_it1, e_it2, e_it3, e_it4, isT_ss, isT_si, isT_sl, isT_st, isT_sb, isT_is, isT_ii, isT_il, isT_it, isT_ib, isT_bs, isT_bi, isT_bl, isT_bt, isT_bb, isT_ls, isT_li, isT_ll, isT_lt, isT_lb, isT_ts, isT_ti, isT_tl, isT_tt, isT_tb, List.getElem?_cons_zero, List.getElem?_cons_succ, List.set_cons_zero, List.set_cons_succ, List.cons_append, List.nil_append, List.length_cons, List.length_nil, dwipe, List.append_nil, List.cons.injEq, exists_eq_left, exists_eq_left', Option.some.injEq, D.str.injEq, D.int.injEq, D.bl.injEq, D.lst.injEq, D.tup.injEq, D.ref.injEq, D.scr.injEq, MO.lst.injEq, MO.ins.injEq, true_and, and_true, if_true, Bool.not_true, Bool.not_false, Bool.false_eq_true, if_false, exists_const, exists_eq, exists_eq', exists_and_left, and_self, reduceCtorEq, decide_true, decide_false, decide_eq_true_eq, Bool.not_eq_true', decide_eq_false_iff_not, and_assoc, Bool.true_or, Bool.or_true, Bool.false_or, Bool.or_false, Bool.true_and, Bool.false_and, u_lc, d_sp, d_MAX_LINE]
  refine ⟨ts, rfl, ht, fun i acc M' => ∃ ws, acc = (ws : List (List Nat)).map .str ∧ Paired Lx.Quo (ts.take i) ws ∧ Mx M M', ⟨[], rfl, .nil, Mx.refl M⟩, ?_, by rw [List.length_map]; omega, ?_⟩
  · rintro i d acc M' hd ⟨ws, rfl, hp, hx⟩
    obtain ⟨t, hi, rfl⟩ := map_at hd
    simp only [dSeq, dIfS, dNot, dTru, dB, dCB, dOp, dCons, dNil, dVar, dC, dNever, dNext, dRet, dRetN, dAsg, gNm, dAndV, dOrV, dNotV, dAnd, dOr, dIf, dLst, dLstM, dTup, dFld, dSetF, dAugF, dAug, dDrop, dAppend, dExtend, dPop, dPopAt, dPar, dPar3, dCall, dMeth, dMake, dJoin, dSl, dNo, dPart, dSeqI, dRange1, dRange2, dRange3, dEnum, dRevS, dRevL, dIsi2, dYes, dUn, dSetIx, dBreak, dCont, dChain, dFrz, e_vw1, e_vw2, e_vw3, e_vw4, e_vw5, e_vw6, e_vw7, e_vw8, e_vws0, e_vws1, e_gC, e_gN, e_gT, e_eq1, e_eq2, e_eq3, e_eq4, e_eq5, e_ne1, e_ne2, e_ne3, e_ne4, e_ne5, e_lt, e_gt, e_le, e_ge, e_in1, e_in2, e_in3, e_in4, e_in5, e_in6, e_add1, e_add2, e_add3, e_add4, e_iadd1, e_iadd2, e_sub, e_mul1, e_mul2, e_mulS, e_mulM, e_mod, e_div, e_pow, e_neg, e_ix1, e_ix2, e_ix3, e_ix4, e_sl1, e_sl2, e_sl3, e_sl4, e_len1, e_len2, e_len3, e_len4, e_int1, e_int2, e_tru1, e_tru2, e_tru3, e_tru4, e_tru5, e_tru6, e_okS1, e_okS2, e_okS3, e_okS4, e_okS5, e_okS6, e_ty1, e_ty2, e_ty3, e_ty4, e_ty5, e_ty6, e_ty7, e_isi1, e_isi2, e_isi3, e_isi4, e_isi5, e_isi6, e_isi7, e_isi8, e_isi9, e_isi10, e_isi11, e_isi12, e_isi13, e_isi14, e_isi15, e_isi16, e_isi17, e_frz1, e_frz2, e_frz3, e_frz4, e_it1, e_it2, e_it3, e_it4, isT_ss, isT_si, isT_sl, isT_st, isT_sb, isT_is, isT_ii, isT_il, isT_it, isT_ib, isT_bs, isT_bi, isT_bl, isT_bt, isT_bb, isT_ls, isT_li, isT_ll, isT_lt, isT_lb, isT_ts, isT_ti, isT_tl, isT_tt, isT_tb, List.getElem?_cons_zero, List.getElem?_cons_succ, List.set_cons_zero, List.set_cons_succ, List.cons_append, List.nil_append, List.length_cons, List.length_nil, dwipe, List.append_nil, List.cons.injEq, exists_eq_left, exists_eq_left', Option.some.injEq, D.str.injEq, D.int.injEq, D.bl.injEq, D.lst.injEq, D.tup.injEq, D.ref.injEq, D.scr.injEq, MO.lst.injEq, MO.ins.injEq, true_and, and_true, if_true, Bool.not_true, Bool.not_false, Bool.false_eq_true, if_false, exists_const, exists_eq, exists_eq', exists_and_left, and_self, reduceCtorEq, decide_true, decide_false, decide_eq_true_eq, Bool.not_eq_true', decide_eq_false_iff_not, and_assoc, Bool.true_or, Bool.or_true, Bool.false_or, Bool.or_false, Bool.true_and, Bool.false_and]
    refine ⟨t, rfl, okb_small (ht t (mem_at hi).1), fun w M2 hq hx2 => ⟨ws ++ [w], by simp, ?_, hx.trans hx2⟩⟩
    rw [List.take_succ, hi]
    exact paired_snoc hp hq
  · rintro acc M' ⟨ws, rfl, hp, hx⟩
    rw [List.length_map, List.take_length] at hp
    have hlw := hp.length
    have h2 := h200 ws hp
    have h4 := sum_small (quo_all hp ht)
    have h5 : ws.length * 402 ≤ 1000 * 402 := Nat.mul_le_mul_right _ (by omega)
    simp only [dSeq, dIfS, dNot, dTru, dB, dCB, dOp, dCons, dNil, dVar, dC, dNever, dNext, dRet, dRetN, dAsg, gNm, dAndV, dOrV, dNotV, dAnd, dOr, dIf, dLst, dLstM, dTup, dFld, dSetF, dAugF, dAug, dDrop, dAppend, dExtend, dPop, dPopAt, dPar, dPar3, dCall, dMeth, dMake, dJoin, dSl, dNo, dPart, dSeqI, dRange1, dRange2, dRange3, dEnum, dRevS, dRevL, dIsi2, dYes, dUn, dSetIx, dBreak, dCont, dChain, dFrz, e_vw1, e_vw2, e_vw3, e_vw4, e_vw5, e_vw6, e_vw7, e_vw8, e_vws0, e_vws1, e_gC, e_gN, e_gT, e_eq1, e_eq2, e_eq3, e_eq4, e_eq5, e_ne1, e_ne2, e_ne3, e_ne4, e_ne5, e_lt, e_gt, e_le, e_ge, e_in1, e_in2, e_in3, e_in4, e_in5, e_in6, e_add1, e_add2, e_add3, e_add4, e_iadd1, e_iadd2, e_sub, e_mul1, e_mul2, e_mulS, e_mulM, e_mod, e_div, e_pow, e_neg, e_ix1, e_ix2, e_ix3, e_ix4, e_sl1, e_sl2, e_sl3, e_sl4, e_len1, e_len2, e_len3, e_len4, e_int1, e_int2, e_tru1, e_tru2, e_tru3, e_tru4, e_tru5, e_tru6, e_okS1, e_okS2, e_okS3, e_okS4, e_okS5, e_okS6, e_ty1, e_ty2, e_ty3, e_ty4, e_ty5, e_ty6, e_ty7, e_isi1, e_isi2, e_isi3, e_isi4, e_isi5, e_isi6, e_isi7, e_isi8, e_isi9, e_isi10, e_isi11, e_isi12, e_isi13, e_isi14, e_isi15, e_isi16, e_isi17, e_frz1, e_frz2, e_frz3, e_frz4, e_it1, e_it2, e_it3, e_it4, isT_ss, isT_si, isT_sl, isT_st, isT_sb, isT_is, isT_ii, isT_il, isT_it, isT_ib, isT_bs, isT_bi, isT_bl, isT_bt, isT_bb, isT_ls, isT_li, isT_ll, isT_lt, isT_lb, isT_ts, isT_ti, isT_tl, isT_tt, isT_tb, List.getElem?_cons_zero, List.getElem?_cons_succ, List.set_cons_zero, List.set_cons_succ, List.cons_append, List.nil_append, List.length_cons, List.length_nil, dwipe, List.append_nil, List.cons.injEq, exists_eq_left, exists_eq_left', Option.some.injEq, D.str.injEq, D.int.injEq, D.bl.injEq, D.lst.injEq, D.tup.injEq, D.ref.injEq, D.scr.injEq, MO.lst.injEq, MO.ins.injEq, true_and, and_true, if_true, Bool.not_true, Bool.not_false, Bool.false_eq_true, if_false, exists_const, exists_eq, exists_eq', exists_and_left, and_self, reduceCtorEq, decide_true, decide_false, decide_eq_true_eq, Bool.not_eq_true', decide_eq_false_iff_not, and_assoc, Bool.true_or, Bool.or_true, Bool.false_or, Bool.or_false, Bool.true_and, Bool.false_and]
    refine ⟨ws, rfl, by simp at h4 ⊢; omega, by omega, ?_⟩
    rw [if_neg (by omega)]
    exact k ws M' hp hx
end K42

set_option Elab.async false
set_option linter.all false
set_option maxRecDepth 100000
set_option maxHeartbeats 4000000
namespace K42
open PySem L2 DL
/-- the row of a script's numbers -/
def Row (M : Mem) (a : Addr) : Prop := ∃ (ns : List Int) (i mx rest : Int), M a = some (.lst [.scr ns, .int i, .int mx, .int rest]) ∧ 0 ≤ i ∧ 0 ≤ mx ∧ mx < 2147483647
def sp__law_taken : SpD := fun ds M Q _ => ∃ a n, ds = [.ref a, .int n] ∧ 0 < n ∧ n < 1073741824 ∧ Row M a ∧ ∀ r M', 0 ≤ r → r < n → Row M' a → Mxa a M M' → Q (.int r) M'
theorem len__law_taken (ds : List D) (M : Mem) (Q : QE) (Qx : QX) (h : sp__law_taken ds M Q Qx) : ds.length = 2 := by obtain ⟨_, _, rfl, _⟩ := h; rfl
theorem row_0 {a b c d : D} : atI [a, b, c, d] 0 = some a := rfl
theorem row_1 {a b c d : D} : atI [a, b, c, d] 1 = some b := rfl
theorem row_2 {a b c d : D} : atI [a, b, c, d] 2 = some c := rfl
theorem row_3 {a b c d : D} : atI [a, b, c, d] 3 = some d := rfl
theorem rn_1 : ixN 4 1 = some 1 := rfl
theorem rn_2 : ixN 4 2 = some 2 := rfl
theorem rn_3 : ixN 4 3 = some 3 := rfl
theorem rk__law_taken {ds M Q Qx} (h : sp__law_taken ds M Q Qx) : rd__law_taken (fin Q Qx) (dstart 4 ds) M := by
  obtain ⟨a, n, rfl, h0, h1, ⟨ns, i, mx, rest, hM, hi, hm, hm2⟩, k⟩ := h
  show rd__law_taken _ [some (.ref a), some (.int n), none, none] M
  have c1 : CDiv rest n := ⟨h0, h1⟩
  have c2 : CMul mx 48271 := .inr ⟨by decide, by decide⟩
  have c3 : ∀ x : Int, CDiv x 7 := fun _ => ⟨by decide, by decide⟩
  have c4 : CPow 10 18 := ⟨by decide, by decide, by decide⟩
  have c5 : ∀ x : Int, CDiv x n := fun _ => ⟨h0, h1⟩
  simp only [rd__law_taken, dSeq, dIfS, dNot, dTru, dB, dCB, dOp, dCons, dNil, dVar, dC, dNever, dNext, dRet, dRetN, dAsg, gNm, dAndV, dOrV, dNotV, dAnd, dOr, dIf, dLst, dLstM, dTup, dFld, dSetF, dAugF, dAug, dDrop, dAppend, dExtend, dPop, dPopAt, dPar, dPar3, dCall, dMeth, dMake, dJoin, dSl, dNo, dPart, dSeqI, dRange1, dRange2, dRange3, dEnum, dRevS, dRevL, dIsi2, dYes, dUn, dSetIx, dBreak, dCont, dChain, dFrz, e_vw1, e_vw2, e_vw3, e_vw4, e_vw5, e_vw6, e_vw7, e_vw8, e_vws0, e_vws1, e_gC, e_gN, e_gT, e_eq1, e_eq2, e_eq3, e_eq4, e_eq5, e_ne1, e_ne2, e_ne3, e_ne4, e_ne5, e_lt, e_gt, e_le, e_ge, e_in1, e_in2, e_in3, e_in4, e_in5, e_in6, e_add1, e_add2, e_add3, e_add4, e_iadd1, e_iadd2, e_sub, e_mul1, e_mul2, e_mulS, e_mulM, e_mod, e_div, e_pow, e_neg, e_ix1, e_ix2, e_ix3, e_ix4, e_sl1, e_sl2, e_sl3, e_sl4, e_len1, e_len2, e_len3, e_len4, e_int1, e_int2, e_tru1, e_tru2, e_tru3, e_tru4, e_tru5, e_tru6, e_okS1, e_okS2, e_okS3, e_okS4, e_okS5, e_okS6, e_ty1, e_ty2, e_ty3, e_ty4, e_ty5, e_ty6, e_ty7, e_isi1, e_isi2, e_isi3, e_isi4, e_isi5, e_isi6, e_isi7, e_isi8, e_isi9, e_isi10, e_isi11, e_isi12, e_isi13, e_isi14, e_isi15, e_isi16, e_isi17, e_frz1, e_frz2, e_frz3, e_frz4, e_it1, e_it2, e_it3, e_it4, isT_ss, isT_si, isT_sl, isT_st, isT_sb, isT_is, isT_ii, isT_il, isT_it, isT_ib, isT_bs, isT_bi, isT_bl, isT_bt, isT_bb, isT_ls, isT_li, isT_ll, isT_lt, isT_lb, isT_ts, isT_ti, isT_tl, isT_tt, isT_tb, List.getElem?_cons_zero, List.getElem?_cons_succ, List.set_cons_zero, List.set_cons_succ, List.cons_append, List.nil_append, List.length_cons, List.length_nil, dwipe, List.append_nil, List.cons.injEq, exists_eq_left, exists_eq_left', Option.some.injEq, D.str.injEq, D.int.injEq, D.bl.injEq, D.lst.injEq, D.tup.injEq, D.ref.injEq, D.scr.injEq, MO.lst.injEq, MO.ins.injEq, true_and, and_true, if_true, Bool.not_true, Bool.not_false, Bool.false_eq_true, if_false, exists_const, exists_eq, exists_eq', exists_and_left, and_self, reduceCtorEq, decide_true, decide_false, decide_eq_true_eq, Bool.not_eq_true', decide_eq_false_iff_not, and_assoc, Bool.true_or, Bool.or_true, Bool.false_or, Bool.or_false, Bool.true_and, Bool.false_and, e_vwl hM, hM, row_0, row_1, row_2, row_3, rn_1, rn_2, rn_3, mset_same, h0, c1, Nat.reduceAdd, vw_lst, mset_mset, c2, c4, c3, c5]
  have row : ∀ {i mx rest : Int}, 0 ≤ i → 0 ≤ mx → mx < 2147483647 → Row (mset M a (.lst [.scr ns, .int i, .int mx, .int rest])) a := fun {i mx rest} p q r => ⟨ns, i, mx, rest, mset_same, p, q, r⟩
  have md : ∀ x : Int, 0 ≤ x % 2147483647 ∧ x % 2147483647 < 2147483647 := fun x => ⟨Int.emod_nonneg _ (by decide), Int.emod_lt_of_pos _ (by decide)⟩
  by_cases b1 : 0 < rest
  · rw [if_pos b1]
    exact k _ _ (Int.emod_nonneg _ (by omega)) (Int.emod_lt_of_pos _ h0) (row hi hm hm2) (Mxa.refl a M).set
  rw [if_neg b1]
  by_cases b2 : (ns.length : Int) < i + 1
  · rw [if_pos b2]
    exact ⟨by decide, k _ _ (Int.emod_nonneg _ (by omega)) (Int.emod_lt_of_pos _ h0) (row (by omega) (md _).1 (md _).2) (Mxa.refl a M).set⟩
  rw [if_neg b2]
  have hlt : i.toNat < ns.length := by omega
  refine ⟨ns[i.toNat], ?_, by decide, ?_⟩
  · have e : i + 1 - 1 = ((i.toNat : Nat) : Int) := by omega
    rw [e]
    exact atI_n (List.getElem?_eq_getElem hlt)
  · split
    · exact k _ _ (Int.emod_nonneg _ (by omega)) (Int.emod_lt_of_pos _ h0) (row (by omega) (md _).1 (md _).2) (Mxa.refl a M).set
    · exact k _ _ (Int.emod_nonneg _ (by omega)) (Int.emod_lt_of_pos _ h0) (row (by omega) (md _).1 (md _).2) (Mxa.refl a M).set
def sp__law_signs : SpD := fun ds M Q _ => ds = [] ∧ Q (.str ALPH) M
theorem len__law_signs (ds : List D) (M : Mem) (Q : QE) (Qx : QX) (h : sp__law_signs ds M Q Qx) : ds.length = 0 := by rw [h.1]; rfl
theorem rk__law_signs {ds M Q Qx} (h : sp__law_signs ds M Q Qx) : rd__law_signs (fin Q Qx) (dstart 0 ds) M := by
  obtain ⟨rfl, q⟩ := h
  exact q
def sp__law_word : SpD := fun ds M Q _ => ∃ a n, ds = [.ref a, .int n] ∧ 0 ≤ n ∧ n ≤ 1000 ∧ Row M a ∧ ∀ t M', (t.length : Int) ≤ n → (∀ c ∈ t, c ∈ ALPH) → Row M' a → Mxa a M M' → Q (.str t) M'
theorem len__law_word (ds : List D) (M : Mem) (Q : QE) (Qx : QX) (h : sp__law_word ds M Q Qx) : ds.length = 2 := by obtain ⟨_, _, rfl, _⟩ := h; rfl
theorem joinL_one (t : List Nat) : TL.joinL [] (t.map fun c => [c]) = t := by
  rw [join_nil]
  induction t with
  | nil => rfl
  | cons c t ih => simp [ih]
theorem atI_lt {α : Type} {l : List α} {r : Int} (h0 : 0 ≤ r) (h1 : r < l.length) : ∃ x, x ∈ l ∧ atI l r = some x := by
  have hlt : r.toNat < l.length := by omega
  refine ⟨l[r.toNat], List.getElem_mem hlt, ?_⟩
  have e := atI_n (List.getElem?_eq_getElem hlt)
  rwa [Int.toNat_of_nonneg h0] at e
theorem words_ok : ∀ w ∈ [cs "ab", cs " '\"\\", cs "a '\"\\b", cs "-=a", ALPH], (∀ c ∈ w, c ∈ ALPH) ∧ 0 < w.length ∧ w.length ≤ 200 := by decide +kernel
theorem rk__law_word {ds M Q Qx} (h : sp__law_word ds M Q Qx) : rd__law_word sp__law_signs sp__law_taken (fin Q Qx) (dstart 4 ds) M := by
  obtain ⟨a, n, rfl, h0, h1, hR, k⟩ := h
  show rd__law_word _ _ _ [some (.ref a), some (.int n), none, none] M
  simp only [rd__law_word, dSeq, dIfS, dNot, dTru, dB, dCB, dOp, dCons, dNil, dVar, dC, dNever, dNext, dRet, dRetN, dAsg, gNm, dAndV, dOrV, dNotV, dAnd, dOr, dIf, dLst, dLstM, dTup, dFld, dSetF, dAugF, dAug, dDrop, dAppend, dExtend, dPop, dPopAt, dPar, dPar3, dCall, dMeth, dMake, dJoin, dSl, dNo, dPart, dSeqI, dRange1, dRange2, dRange3, dEnum, dRevS, dRevL, dIsi2, dYes, dUn, dSetIx, dBreak, dCont, dChain, dFrz, e_vw1, e_vw2, e_vw3, e_vw4, e_vw5, e_vw6, e_vw7, e_vw8, e_vws0, e_vws1, e_gC, e_gN, e_gT, e_eq1, e_eq2, e_eq3, e_eq4, e_eq5, e_ne1, e_ne2, e_ne3, e_ne4, e_ne5, e_lt, e_gt, e_le, e_ge, e_in1, e_in2, e_in3, e_in4, e_in5, e_in6, e_add1, e_add2, e_add3, e_add4, e_iadd1, e_iadd2, e_sub, e_mul1, e_mul2, e_mulS, e_mulM, e_mod, e_div, e_pow, e_neg, e_ix1, e_ix2, e_ix3, e_ix4, e_sl1, e_sl2, e_sl3, e_sl4, e_len1, e_len2, e_len3, e_len4, e_int1, e_int2, e_tru1, e_tru2, e_tru3, e_tru4, e_tru5, e_tru6, e_okS1, e_okS2, e_okS3, e_okS4, e_okS5, e_okS6, e_ty1, e_ty2, e_ty3, e_ty4, e_ty5, e_ty6, e_ty7, e_isi1, e_isi2, e_isi3, e_isi4, e_isi5, e_isi6, e_isi7, e_isi8, e_isi9, e_isi10, e_isi11, e_isi12, e_isi13, e_isi14, e_isi15, e_isi16, e_isi17, e_frz1, e_frz2, e_frz3, e_frz4, e_it1, e_it2, e_it3, e_it4, isT_ss, isT_si, isT_sl, isT_st, isT_sb, isT_is, isT_ii, isT_il, isT_it, isT_ib, isT_bs, isT_bi, isT_bl, isT_bt, isT_bb, isT_ls, isT_li, isT_ll, isT_lt, isT_lb, isT_ts, isT_ti, isT_tl, isT_tt, isT_tb, List.getElem?_cons_zero, List.getElem?_cons_succ, List.set_cons_zero, List.set_cons_succ, List.cons_append, List.nil_append, List.length_cons, List.length_nil, dwipe, List.append_nil, List.cons.injEq, exists_eq_left, exists_eq_left', Option.some.injEq, D.str.injEq, D.int.injEq, D.bl.injEq, D.lst.injEq, D.tup.injEq, D.ref.injEq, D.scr.injEq, MO.lst.injEq, MO.ins.injEq, true_and, and_true, if_true, Bool.not_true, Bool.not_false, Bool.false_eq_true, if_false, exists_const, exists_eq, exists_eq', exists_and_left, and_self, reduceCtorEq, decide_true, decide_false, decide_eq_true_eq, Bool.not_eq_true', decide_eq_false_iff_not, and_assoc, Bool.true_or, Bool.or_true, Bool.false_or, Bool.or_false, Bool.true_and, Bool.false_and, u_lc]
  refine ⟨rfl, by decide, a, 5, rfl, by decide, by decide, hR, fun r M1 r0 r1 R1 x1 => ?_⟩
  obtain ⟨w, hw, hat⟩ := atI_lt (l := [cs "ab", cs " '\"\\", cs "a '\"\\b", cs "-=a", ALPH]) r0 (by exact r1)
  obtain ⟨w1, w2, w3⟩ := words_ok w hw
  have hat2 : atI [D.str (cs "ab"), D.str (cs " '\"\\"), D.str (cs "a '\"\\b"), D.str (cs "-=a"), D.str ALPH] r = some (.str w) := by
    have e : [D.str (cs "ab"), D.str (cs " '\"\\"), D.str (cs "a '\"\\b"), D.str (cs "-=a"), D.str ALPH] = [cs "ab", cs " '\"\\", cs "a '\"\\b", cs "-=a", ALPH].map D.str := rfl
    rw [e]
    unfold atI at hat ⊢
    rw [List.length_map]
    cases ej : ixN [cs "ab", cs " '\"\\", cs "a '\"\\b", cs "-=a", ALPH].length r with
    | none => rw [ej] at hat; cases hat
    | some j =>
      rw [ej] at hat
      simp only [Option.bind_some] at hat ⊢
      rw [List.getElem?_map, hat]
      rfl
  refine ⟨.str w, hat2, a, n + 1, rfl, by omega, by omega, R1, fun m M2 m0 m1 R2 x2 => ?_⟩
  refine ⟨m, rfl, by omega, by omega, fun i acc M' => ∃ t : List Nat, acc = t.map (fun c => D.str [c]) ∧ t.length = i ∧ (∀ c ∈ t, c ∈ ALPH) ∧ Row M' a ∧ Mxa a M M', ⟨[], rfl, rfl, (fun c h => by cases h), R2, x1.trans x2⟩, ?_, by rw [intsD_len]; omega, ?_⟩
  · rintro i d acc M' hd ⟨t, rfl, rfl, ht, hR', hx⟩
    obtain ⟨_, rfl⟩ := ints_inv hd
    simp only [dSeq, dIfS, dNot, dTru, dB, dCB, dOp, dCons, dNil, dVar, dC, dNever, dNext, dRet, dRetN, dAsg, gNm, dAndV, dOrV, dNotV, dAnd, dOr, dIf, dLst, dLstM, dTup, dFld, dSetF, dAugF, dAug, dDrop, dAppend, dExtend, dPop, dPopAt, dPar, dPar3, dCall, dMeth, dMake, dJoin, dSl, dNo, dPart, dSeqI, dRange1, dRange2, dRange3, dEnum, dRevS, dRevL, dIsi2, dYes, dUn, dSetIx, dBreak, dCont, dChain, dFrz, e_vw1, e_vw2, e_vw3, e_vw4, e_vw5, e_vw6, e_vw7, e_vw8, e_vws0, e_vws1, e_gC, e_gN, e_gT, e_eq1, e_eq2, e_eq3, e_eq4, e_eq5, e_ne1, e_ne2, e_ne3, e_ne4, e_ne5, e_lt, e_gt, e_le, e_ge, e_in1, e_in2, e_in3, e_in4, e_in5, e_in6, e_add1, e_add2, e_add3, e_add4, e_iadd1, e_iadd2, e_sub, e_mul1, e_mul2, e_mulS, e_mulM, e_mod, e_div, e_pow, e_neg, e_ix1, e_ix2, e_ix3, e_ix4, e_sl1, e_sl2, e_sl3, e_sl4, e_len1, e_len2, e_len3, e_len4, e_int1, e_int2, e_tru1, e_tru2, e_tru3, e_tru4, e_tru5, e_tru6, e_okS1, e_okS2, e_okS3, e_okS4, e_okS5, e_okS6, e_ty1, e_ty2, e_ty3, e_ty4, e_ty5, e_ty6, e_ty7, e_isi1, e_isi2, e_isi3, e_isi4, e_isi5, e_isi6, e_isi7, e_isi8, e_isi9, e_isi10, e_isi11, e_isi12, e_isi13, e_isi14, e_isi15, e_isi16, e_isi17, e_frz1, e_frz2, e_frz3, e_frz4, e_it1, e_it2, e_it3, e_it4, isT_ss, isT_si, isT_sl, isT_st, isT_sb, isT_is, isT_ii, isT_il, isT_it, isT_ib, isT_bs, isT_bi, isT_bl, isT_bt, isT_bb, isT_ls, isT_li, isT_ll, isT_lt, isT_lb, isT_ts, isT_ti, isT_tl, isT_tt, isT_tb, List.getElem?_cons_zero, List.getElem?_cons_succ, List.set_cons_zero, List.set_cons_succ, List.cons_append, List.nil_append, List.length_cons, List.length_nil, dwipe, List.append_nil, List.cons.injEq, exists_eq_left, exists_eq_left', Option.some.injEq, D.str.injEq, D.int.injEq, D.bl.injEq, D.lst.injEq, D.tup.injEq, D.ref.injEq, D.scr.injEq, MO.lst.injEq, MO.ins.injEq, true_and, and_true, if_true, Bool.not_true, Bool.not_false, Bool.false_eq_true, if_false, exists_const, exists_eq, exists_eq', exists_and_left, and_self, reduceCtorEq, decide_true, decide_false, decide_eq_true_eq, Bool.not_eq_true', decide_eq_false_iff_not, and_assoc, Bool.true_or, Bool.or_true, Bool.false_or, Bool.or_false, Bool.true_and, Bool.false_and]
    refine ⟨by omega, a, w.length, rfl, by omega, by omega, hR', fun r M3 r0 r1 R3 x3 => ⟨by omega, ?_⟩⟩
    obtain ⟨c, hc, hat⟩ := atI_lt (l := w) r0 r1
    refine ⟨c, hat, t ++ [c], by simp, by simp, fun c' h => ?_, R3, hx.trans x3⟩
    rcases List.mem_append.mp h with h | h
    · exact ht c' h
    · simp at h; rw [h]; exact w1 c hc
  · rintro acc M' ⟨t, rfl, hl, ht, hR', hx⟩
    rw [intsD_len] at hl
    simp only [dSeq, dIfS, dNot, dTru, dB, dCB, dOp, dCons, dNil, dVar, dC, dNever, dNext, dRet, dRetN, dAsg, gNm, dAndV, dOrV, dNotV, dAnd, dOr, dIf, dLst, dLstM, dTup, dFld, dSetF, dAugF, dAug, dDrop, dAppend, dExtend, dPop, dPopAt, dPar, dPar3, dCall, dMeth, dMake, dJoin, dSl, dNo, dPart, dSeqI, dRange1, dRange2, dRange3, dEnum, dRevS, dRevL, dIsi2, dYes, dUn, dSetIx, dBreak, dCont, dChain, dFrz, e_vw1, e_vw2, e_vw3, e_vw4, e_vw5, e_vw6, e_vw7, e_vw8, e_vws0, e_vws1, e_gC, e_gN, e_gT, e_eq1, e_eq2, e_eq3, e_eq4, e_eq5, e_ne1, e_ne2, e_ne3, e_ne4, e_ne5, e_lt, e_gt, e_le, e_ge, e_in1, e_in2, e_in3, e_in4, e_in5, e_in6, e_add1, e_add2, e_add3, e_add4, e_iadd1, e_iadd2, e_sub, e_mul1, e_mul2, e_mulS, e_mulM, e_mod, e_div, e_pow, e_neg, e_ix1, e_ix2, e_ix3, e_ix4, e_sl1, e_sl2, e_sl3, e_sl4, e_len1, e_len2, e_len3, e_len4, e_int1, e_int2, e_tru1, e_tru2, e_tru3, e_tru4, e_tru5, e_tru6, e_okS1, e_okS2, e_okS3, e_okS4, e_okS5, e_okS6, e_ty1, e_ty2, e_ty3, e_ty4, e_ty5, e_ty6, e_ty7, e_isi1, e_isi2, e_isi3, e_isi4, e_isi5, e_isi6, e_isi7, e_isi8, e_isi9, e_isi10, e_isi11, e_isi12, e_isi13, e_isi14, e_isi15, e_isi16, e_isi17, e_frz1, e_frz2, e_frz3, e_frz4, e_it1, e_it2, e_it3, e_it4, isT_ss, isT_si, isT_sl, isT_st, isT_sb, isT_is, isT_ii, isT_il, isT_it, isT_ib, isT_bs, isT_bi, isT_bl, isT_bt, isT_bb, isT_ls, isT_li, isT_ll, isT_lt, isT_lb, isT_ts, isT_ti, isT_tl, isT_tt, isT_tb, List.getElem?_cons_zero, List.getElem?_cons_succ, List.set_cons_zero, List.set_cons_succ, List.cons_append, List.nil_append, List.length_cons, List.length_nil, dwipe, List.append_nil, List.cons.injEq, exists_eq_left, exists_eq_left', Option.some.injEq, D.str.injEq, D.int.injEq, D.bl.injEq, D.lst.injEq, D.tup.injEq, D.ref.injEq, D.scr.injEq, MO.lst.injEq, MO.ins.injEq, true_and, and_true, if_true, Bool.not_true, Bool.not_false, Bool.false_eq_true, if_false, exists_const, exists_eq, exists_eq', exists_and_left, and_self, reduceCtorEq, decide_true, decide_false, decide_eq_true_eq, Bool.not_eq_true', decide_eq_false_iff_not, and_assoc, Bool.true_or, Bool.or_true, Bool.false_or, Bool.or_false, Bool.true_and, Bool.false_and, c_em]
    refine ⟨t.map fun c => [c], by rw [List.map_map]; rfl, ?_, ?_⟩
    · rw [sum_len, ← join_nil, joinL_one]
      simp
      omega
    · rw [joinL_one]
      exact k t M' (by omega) ht hR' hx
/-! every way to write a token -/
def forms (c : Nat) (here : List Nat) : List (List Nat) := (if here ≠ [39] then [[92, c]] else []) ++ (if (here = [] ∧ ¬ (c = 32 ∨ c = 39 ∨ c = 34 ∨ c = 92)) ∨ (here = [39] ∧ c ≠ 39) ∨ (here = [34] ∧ ¬ (c = 34 ∨ c = 92)) then [[c]] else [])
def opens (m : List Nat) : List (List Nat) := [[]] ++ (if m = [] then [[39], [34]] else [])
def two (W : List Nat → List (List Nat)) (m o f : List Nat) : List (List Nat) := (W (m ++ o)).map (fun t => o ++ f ++ t) ++ (if m ++ o ≠ [] then (W []).map (fun t => o ++ f ++ (m ++ o) ++ t) else [])
def one (W : List Nat → List (List Nat)) (c : Nat) (m o : List Nat) : List (List Nat) := (forms c (m ++ o)).flatMap (two W m o)
def ways : List Nat → List Nat → List (List Nat)
  | [], m => [m]
  | c :: r, m => (opens m).flatMap (one (ways r) c m)
def isM (m : List Nat) : Prop := m = [] ∨ m = [39] ∨ m = [34]
theorem opens_M {m o : List Nat} (h : isM m) (ho : o ∈ opens m) : isM (m ++ o) ∧ o.length ≤ 1 := by
  unfold opens at ho
  rcases h with rfl | rfl | rfl
  · simp at ho
    rcases ho with rfl | rfl | rfl <;> simp [isM]
  · simp at ho; subst ho; simp [isM]
  · simp at ho; subst ho; simp [isM]
theorem isM_len {m : List Nat} (h : isM m) : m.length ≤ 1 := by rcases h with rfl | rfl | rfl <;> simp
theorem forms_len (c : Nat) (here : List Nat) : (forms c here).length ≤ 2 ∧ ∀ f ∈ forms c here, f.length ≤ 2 := by
  unfold forms
  constructor
  · split <;> split <;> simp
  · intro f hf
    rcases List.mem_append.mp hf with hf | hf <;> (split at hf) <;> simp at hf <;> simp [hf]
theorem flat_le {α : Type} {f : α → List (List Nat)} {l : List α} {n : Nat} (h : ∀ x ∈ l, (f x).length ≤ n) : (l.flatMap f).length ≤ l.length * n := by
  induction l with
  | nil => simp
  | cons x l ih =>
    have h1 := h x (List.mem_cons_self ..)
    have h2 := ih fun y hy => h y (List.mem_cons_of_mem _ hy)
    simp only [List.flatMap_cons, List.length_append, List.length_cons, Nat.succ_mul]
    omega
structure WB (W : List Nat → List (List Nat)) (n k : Nat) : Prop where
  n : ∀ m, isM m → (W m).length ≤ n
  k : ∀ m, isM m → ∀ w ∈ W m, w.length ≤ k
theorem two_b {W : List Nat → List (List Nat)} {n k : Nat} (h : WB W n k) {m o f : List Nat} (hm : isM (m ++ o)) (ho : o.length ≤ 1) (hf : f.length ≤ 2) : (two W m o f).length ≤ 2 * n ∧ ∀ w ∈ two W m o f, w.length ≤ k + 4 := by
  have h1 := h.n _ hm
  have h2 := h.n [] (.inl rfl)
  unfold two
  constructor
  · split <;> simp <;> omega
  · intro w hw
    have hml := isM_len hm
    rcases List.mem_append.mp hw with hw | hw
    · obtain ⟨t, ht, rfl⟩ := List.mem_map.mp hw
      have := h.k _ hm t ht
      simp only [List.length_append]
      omega
    · split at hw
      · obtain ⟨t, ht, rfl⟩ := List.mem_map.mp hw
        have := h.k _ (.inl rfl) t ht
        simp only [List.length_append] at hml ⊢
        omega
      · cases hw
theorem one_b {W : List Nat → List (List Nat)} {n k : Nat} (h : WB W n k) {c : Nat} {m o : List Nat} (hm : isM (m ++ o)) (ho : o.length ≤ 1) : (one W c m o).length ≤ 4 * n ∧ ∀ w ∈ one W c m o, w.length ≤ k + 4 := by
  obtain ⟨f1, f2⟩ := forms_len c (m ++ o)
  unfold one
  constructor
  · have := flat_le (f := two W m o) (l := forms c (m ++ o)) (n := 2 * n) fun f hf => (two_b h hm ho (f2 f hf)).1
    have := Nat.mul_le_mul_right (2 * n) f1
    omega
  · intro w hw
    obtain ⟨f, hf, hw⟩ := List.mem_flatMap.mp hw
    exact (two_b h hm ho (f2 f hf)).2 w hw
theorem opens_len (m : List Nat) : (opens m).length ≤ 3 := by unfold opens; split <;> simp
theorem ways_b : ∀ t : List Nat, WB (ways t) (12 ^ t.length) (1 + 4 * t.length)
  | [] => ⟨fun m hm => by simp [ways], fun m hm w hw => by simp [ways] at hw; rw [hw]; have := isM_len hm; simpa using this⟩
  | c :: r => by
    have h := ways_b r
    refine ⟨fun m hm => ?_, fun m hm w hw => ?_⟩
    · have h1 := flat_le (f := one (ways r) c m) (l := opens m) (n := 4 * 12 ^ r.length) fun o ho => (one_b h (opens_M hm ho).1 (opens_M hm ho).2).1
      have h2 := Nat.mul_le_mul_right (4 * 12 ^ r.length) (opens_len m)
      simp only [ways, List.length_cons, Nat.pow_succ]
      omega
    · obtain ⟨o, ho, hw⟩ := List.mem_flatMap.mp hw
      have := (one_b h (opens_M hm ho).1 (opens_M hm ho).2).2 w hw
      simp only [List.length_cons]
      omega
def sp__law_ways (n : Nat) : SpD := fun ds M Q _ => ∃ t m, ds = [.str t, .str m] ∧ t.length ≤ n ∧ n ≤ 4 ∧ isM m ∧ ∀ M', Mx M M' → Q (.lst ((ways t m).map .str)) M'
theorem len__law_ways (n : Nat) (ds : List D) (M : Mem) (Q : QE) (Qx : QX) (h : sp__law_ways n ds M Q Qx) : ds.length = 2 := by obtain ⟨_, _, rfl, _⟩ := h; rfl
def spWp : Nat → SpD
  | 0 => fun _ _ _ _ => False
  | n + 1 => sp__law_ways n
theorem c_3 : cs " '\"\\" = [32, 39, 34, 92] := by decide +kernel
theorem c_2 : cs "\"\\" = [34, 92] := by decide +kernel
def tst (c : Nat) (here : List Nat) : Bool := decide ((here = [] ∧ ¬ (c = 32 ∨ c = 39 ∨ c = 34 ∨ c = 92)) ∨ (here = [39] ∧ c ≠ 39) ∨ (here = [34] ∧ ¬ (c = 34 ∨ c = 92)))
theorem mem_3 (c : Nat) : (c ∈ [32, 39, 34, 92]) = (c = 32 ∨ c = 39 ∨ c = 34 ∨ c = 92) := by simp
theorem mem_2 (c : Nat) : (c ∈ [34, 92]) = (c = 34 ∨ c = 92) := by simp
theorem cut_1 {c : Nat} {r : List Nat} : cut (c :: r) (some 1) none = r := by
  have h1 : HT.sIx (c :: r).length 0 (some 1) = 1 := by
    unfold HT.sIx
    simp
    try omega
  have h2 : HT.sIx (c :: r).length (c :: r).length none = (c :: r).length := by
    unfold HT.sIx
    simp
  unfold cut
  rw [h1, h2]
  simp
theorem test_ways {a0 a1 a3 a4 a5 a7 a8 a9 : Option D} {c : Nat} {here : List Nat} {M : Mem} {R : Bool → Mem → Prop} {Rx : QX} (h : R (tst c here) M) :
    (dOr (dAnd (dB (dOp aEq (dVar 6) (dC (.str [])))) (dB (dOp aNotIn (dVar 2) (dC (.str [32, 39, 34, 92]))))) (dOr (dAnd (dB (dOp aEq (dVar 6) (dC (.str [39])))) (dB (dOp aNe (dVar 2) (dC (.str [39]))))) (dAnd (dB (dOp aEq (dVar 6) (dC (.str [34])))) (dB (dOp aNotIn (dVar 2) (dC (.str [34, 92])))))))
      [a0, a1, some (.str [c]), a3, a4, a5, some (.str here), a7, a8, a9] M R Rx := by
  simp only [dSeq, dIfS, dNot, dTru, dB, dCB, dOp, dCons, dNil, dVar, dC, dNever, dNext, dRet, dRetN, dAsg, gNm, dAndV, dOrV, dNotV, dAnd, dOr, dIf, dLst, dLstM, dTup, dFld, dSetF, dAugF, dAug, dDrop, dAppend, dExtend, dPop, dPopAt, dPar, dPar3, dCall, dMeth, dMake, dJoin, dSl, dNo, dPart, dSeqI, dRange1, dRange2, dRange3, dEnum, dRevS, dRevL, dIsi2, dYes, dUn, dSetIx, dBreak, dCont, dChain, dFrz, e_vw1, e_vw2, e_vw3, e_vw4, e_vw5, e_vw6, e_vw7, e_vw8, e_vws0, e_vws1, e_gC, e_gN, e_gT, e_eq1, e_eq2, e_eq3, e_eq4, e_eq5, e_ne1, e_ne2, e_ne3, e_ne4, e_ne5, e_lt, e_gt, e_le, e_ge, e_in1, e_in2, e_in3, e_in4, e_in5, e_in6, e_add1, e_add2, e_add3, e_add4, e_iadd1, e_iadd2, e_sub, e_mul1, e_mul2, e_mulS, e_mulM, e_mod, e_div, e_pow, e_neg, e_ix1, e_ix2, e_ix3, e_ix4, e_sl1, e_sl2, e_sl3, e_sl4, e_len1, e_len2, e_len3, e_len4, e_int1, e_int2, e_tru1, e_tru2, e_tru3, e_tru4, e_tru5, e_tru6, e_okS1, e_okS2, e_okS3, e_okS4, e_okS5, e_okS6, e_ty1, e_ty2, e_ty3, e_ty4, e_ty5, e_ty6, e_ty7, e_isi1, e_isi2, e_isi3, e_isi4, e_isi5, e_isi6, e_isi7, e_isi8, e_isi9, e_isi10, e_isi11, e_isi12, e_isi13, e_isi14, e_isi15, e_isi16, e_isi17, e_frz1, e_frz2, e_frz3, e_frz4, e_it1, e_it2, e_it3, e_it4, isT_ss, isT_si, isT_sl, isT_st, isT_sb, isT_is, isT_ii, isT_il, isT_it, isT_ib, isT_bs, isT_bi, isT_bl, isT_bt, isT_bb, isT_ls, isT_li, isT_ll, isT_lt, isT_lb, isT_ts, isT_ti, isT_tl, isT_tt, isT_tb, List.getElem?_cons_zero, List.getElem?_cons_succ, List.set_cons_zero, List.set_cons_succ, List.cons_append, List.nil_append, List.length_cons, List.length_nil, dwipe, List.append_nil, List.cons.injEq, exists_eq_left, exists_eq_left', Option.some.injEq, D.str.injEq, D.int.injEq, D.bl.injEq, D.lst.injEq, D.tup.injEq, D.ref.injEq, D.scr.injEq, MO.lst.injEq, MO.ins.injEq, true_and, and_true, if_true, Bool.not_true, Bool.not_false, Bool.false_eq_true, if_false, exists_const, exists_eq, exists_eq', exists_and_left, and_self, reduceCtorEq, decide_true, decide_false, decide_eq_true_eq, Bool.not_eq_true', decide_eq_false_iff_not, and_assoc, Bool.true_or, Bool.or_true, Bool.false_or, Bool.or_false, Bool.true_and, Bool.false_and, sub_one, mem_3, mem_2]
  unfold tst at h
  by_cases h1 : here = []
  · subst h1
    rw [if_pos rfl]
    by_cases h2 : c = 32 ∨ c = 39 ∨ c = 34 ∨ c = 92
    · rw [if_neg (fun z => z h2), if_neg (by simp), if_neg (by simp)]
      simpa [h2] using h
    · rw [if_pos h2]
      simpa [h2] using h
  · rw [if_neg h1]
    by_cases h3 : here = [39]
    · subst h3
      rw [if_pos rfl]
      by_cases h2 : c = 39
      · rw [if_neg (by simpa using h2), if_neg (by simp)]
        simpa [h2] using h
      · rw [if_pos (by simpa using h2)]
        simpa [h2] using h
    · rw [if_neg h3]
      by_cases h4 : here = [34]
      · subst h4
        rw [if_pos rfl]
        simpa using h
      · rw [if_neg h4]
        simpa [h1, h3, h4] using h
def PIn (c : Nat) (r m o : List Nat) (t : List Nat) (B : List (List Nat)) (x4 : D) (p : Addr) (M : Mem) (j : Nat) (δ' : DL.Env) (M' : Mem) : Prop :=
  ∃ x8 x9, δ' = [some (.str t), some (.str m), some (.str [c]), some (.lst ((B ++ ((forms c (m ++ o)).take j).flatMap (two (ways r) m o)).map .str)), some x4, some (.str o), some (.str (m ++ o)), some (.ref p), x8, x9] ∧ Mx M M'
def POut (c : Nat) (r m : List Nat) (t : List Nat) (M : Mem) (i : Nat) (δ' : DL.Env) (M' : Mem) : Prop :=
  ∃ x5 x6 x7 x8 x9, δ' = [some (.str t), some (.str m), some (.str [c]), some (.lst ((((opens m).take i).flatMap (one (ways r) c m)).map .str)), some (.lst ((opens m).map .str)), x5, x6, x7, x8, x9] ∧ Mx M M'
def bodyW (sp : SpD) : DTS :=
  (dSeq (dAsg (dOp aAdd (dVar 3) (dLc (dSeqI (dCall sp [] (dCons (dSl aSl (dVar 0) (dPart (dC (.int 1))) dNo) (dCons (dVar 6) dNil)))) (gNm 9) dYes (dOp aAdd (dOp aAdd (dVar 5) (dVar 8)) (dVar 9)) [9])) (gNm 3))
    (dIfS (dB (dOp aNe (dVar 6) (dC (.str [])))) (dAsg (dOp aAdd (dVar 3) (dLc (dSeqI (dCall sp [] (dCons (dSl aSl (dVar 0) (dPart (dC (.int 1))) dNo) (dCons (dC (.str [])) dNil)))) (gNm 9) dYes (dOp aAdd (dOp aAdd (dOp aAdd (dVar 5) (dVar 8)) (dVar 6)) (dVar 9)) [9])) (gNm 3)) dNext))
theorem take_flat {α : Type} {f : α → List (List Nat)} {l : List α} {i : Nat} {x : α} (h : l[i]? = some x) : (l.take (i + 1)).flatMap f = (l.take i).flatMap f ++ f x := by
  rw [List.take_succ, h]
  simp
theorem map_str2 (W : List (List Nat)) (g : List Nat → List Nat) : (W.map D.str).map (fun d => match d with | .str l => D.str (g l) | d => d) = (W.map fun l => g l).map .str := by
  rw [List.map_map, List.map_map]
  rfl
theorem two_0 {W : List Nat → List (List Nat)} {m o f : List Nat} (h : m ++ o = []) : two W m o f = (W (m ++ o)).map (fun l => o ++ f ++ l) := by
  unfold two
  rw [if_neg (fun z => z h), List.append_nil]
theorem two_1 {W : List Nat → List (List Nat)} {m o f : List Nat} (h : m ++ o ≠ []) : two W m o f = (W (m ++ o)).map (fun l => o ++ f ++ l) ++ (W []).map (fun l => o ++ f ++ (m ++ o) ++ l) := by
  unfold two
  rw [if_pos h]
theorem pw (n : Nat) (h : n ≤ 3) : 12 ^ n ≤ 1728 := Nat.le_trans (Nat.pow_le_pow_right (by decide) h) (by decide)
theorem inner_ways {n c : Nat} {r m o : List Nat} {B : List (List Nat)} {x4 : D} {x8 x9 : Option D} {p : Addr} {M M2 : Mem} {E : DL.Ends} (hp : M2 p = some (.lst ((forms c (m ++ o)).map .str))) (hnp : M p = none) (hx : Mx M M2) (hn : r.length ≤ n) (hn3 : n ≤ 3) (hM : isM (m ++ o)) (ol : o.length ≤ 1) (hB : B.length ≤ 100000)
    (fin : ∀ x8 x9 M', Mx M M' → E.nx [some (.str (c :: r)), some (.str m), some (.str [c]), some (.lst ((B ++ one (ways r) c m o).map .str)), some x4, some (.str o), some (.str (m ++ o)), some (.ref p), x8, x9] M') :
    dFor (dSeqI (dVar 7)) (gNm 8) (bodyW (sp__law_ways n)) E [some (.str (c :: r)), some (.str m), some (.str [c]), some (.lst (B.map .str)), some x4, some (.str o), some (.str (m ++ o)), some (.ref p), x8, x9] M2 := by
  have W := ways_b r
  have p12 : 12 ^ r.length ≤ 1728 := pw _ (by omega)
  obtain ⟨f1, f2⟩ := forms_len c (m ++ o)
  have hml := isM_len hM
  rw [u_for]
  simp only [dSeq, dIfS, dNot, dTru, dB, dCB, dOp, dCons, dNil, dVar, dC, dNever, dNext, dRet, dRetN, dAsg, gNm, dAndV, dOrV, dNotV, dAnd, dOr, dIf, dLst, dLstM, dTup, dFld, dSetF, dAugF, dAug, dDrop, dAppend, dExtend, dPop, dPopAt, dPar, dPar3, dCall, dMeth, dMake, dJoin, dSl, dNo, dPart, dSeqI, dRange1, dRange2, dRange3, dEnum, dRevS, dRevL, dIsi2, dYes, dUn, dSetIx, dBreak, dCont, dChain, dFrz, e_vw1, e_vw2, e_vw3, e_vw4, e_vw5, e_vw6, e_vw7, e_vw8, e_vws0, e_vws1, e_gC, e_gN, e_gT, e_eq1, e_eq2, e_eq3, e_eq4, e_eq5, e_ne1, e_ne2, e_ne3, e_ne4, e_ne5, e_lt, e_gt, e_le, e_ge, e_in1, e_in2, e_in3, e_in4, e_in5, e_in6, e_add1, e_add2, e_add3, e_add4, e_iadd1, e_iadd2, e_sub, e_mul1, e_mul2, e_mulS, e_mulM, e_mod, e_div, e_pow, e_neg, e_ix1, e_ix2, e_ix3, e_ix4, e_sl1, e_sl2, e_sl3, e_sl4, e_len1, e_len2, e_len3, e_len4, e_int1, e_int2, e_tru1, e_tru2, e_tru3, e_tru4, e_tru5, e_tru6, e_okS1, e_okS2, e_okS3, e_okS4, e_okS5, e_okS6, e_ty1, e_ty2, e_ty3, e_ty4, e_ty5, e_ty6, e_ty7, e_isi1, e_isi2, e_isi3, e_isi4, e_isi5, e_isi6, e_isi7, e_isi8, e_isi9, e_isi10, e_isi11, e_isi12, e_isi13, e_isi14, e_isi15, e_isi16, e_isi17, e_frz1, e_frz2, e_frz3, e_frz4, e_it1, e_it2, e_it3, e_it4, isT_ss, isT_si, isT_sl, isT_st, isT_sb, isT_is, isT_ii, isT_il, isT_it, isT_ib, isT_bs, isT_bi, isT_bl, isT_bt, isT_bb, isT_ls, isT_li, isT_ll, isT_lt, isT_lb, isT_ts, isT_ti, isT_tl, isT_tt, isT_tb, List.getElem?_cons_zero, List.getElem?_cons_succ, List.set_cons_zero, List.set_cons_succ, List.cons_append, List.nil_append, List.length_cons, List.length_nil, dwipe, List.append_nil, List.cons.injEq, exists_eq_left, exists_eq_left', Option.some.injEq, D.str.injEq, D.int.injEq, D.bl.injEq, D.lst.injEq, D.tup.injEq, D.ref.injEq, D.scr.injEq, MO.lst.injEq, MO.ins.injEq, true_and, and_true, if_true, Bool.not_true, Bool.not_false, Bool.false_eq_true, if_false, exists_const, exists_eq, exists_eq', exists_and_left, and_self, reduceCtorEq, decide_true, decide_false, decide_eq_true_eq, Bool.not_eq_true', decide_eq_false_iff_not, and_assoc, Bool.true_or, Bool.or_true, Bool.false_or, Bool.or_false, Bool.true_and, Bool.false_and, e_frzl hp]
  refine ⟨PIn c r m o (c :: r) B x4 p M, ⟨x8, x9, by simp, hx.del hnp⟩, ?_, ?_⟩
  · rintro j d δ' M' hd ⟨y8, y9, rfl, hx'⟩
    obtain ⟨f, hf, rfl⟩ := map_at hd
    obtain ⟨mf, jf⟩ := mem_at hf
    have fl := f2 f mf
    have bl : (List.flatMap (two (ways r) m o) (List.take j (forms c (m ++ o)))).length ≤ 2 * (2 * 12 ^ r.length) := by
      have h1 := flat_le (f := two (ways r) m o) (l := (forms c (m ++ o)).take j) (n := 2 * 12 ^ r.length) fun f hf => (two_b W hM ol (f2 f (List.mem_of_mem_take hf))).1
      have h2 : ((forms c (m ++ o)).take j).length ≤ 2 := by rw [List.length_take]; omega
      exact Nat.le_trans h1 (Nat.mul_le_mul_right _ h2)
    have hrl : r.length + 1 ≤ 16777216 := by omega
    simp only [bodyW, dSeq, dIfS, dNot, dTru, dB, dCB, dOp, dCons, dNil, dVar, dC, dNever, dNext, dRet, dRetN, dAsg, gNm, dAndV, dOrV, dNotV, dAnd, dOr, dIf, dLst, dLstM, dTup, dFld, dSetF, dAugF, dAug, dDrop, dAppend, dExtend, dPop, dPopAt, dPar, dPar3, dCall, dMeth, dMake, dJoin, dSl, dNo, dPart, dSeqI, dRange1, dRange2, dRange3, dEnum, dRevS, dRevL, dIsi2, dYes, dUn, dSetIx, dBreak, dCont, dChain, dFrz, e_vw1, e_vw2, e_vw3, e_vw4, e_vw5, e_vw6, e_vw7, e_vw8, e_vws0, e_vws1, e_gC, e_gN, e_gT, e_eq1, e_eq2, e_eq3, e_eq4, e_eq5, e_ne1, e_ne2, e_ne3, e_ne4, e_ne5, e_lt, e_gt, e_le, e_ge, e_in1, e_in2, e_in3, e_in4, e_in5, e_in6, e_add1, e_add2, e_add3, e_add4, e_iadd1, e_iadd2, e_sub, e_mul1, e_mul2, e_mulS, e_mulM, e_mod, e_div, e_pow, e_neg, e_ix1, e_ix2, e_ix3, e_ix4, e_sl1, e_sl2, e_sl3, e_sl4, e_len1, e_len2, e_len3, e_len4, e_int1, e_int2, e_tru1, e_tru2, e_tru3, e_tru4, e_tru5, e_tru6, e_okS1, e_okS2, e_okS3, e_okS4, e_okS5, e_okS6, e_ty1, e_ty2, e_ty3, e_ty4, e_ty5, e_ty6, e_ty7, e_isi1, e_isi2, e_isi3, e_isi4, e_isi5, e_isi6, e_isi7, e_isi8, e_isi9, e_isi10, e_isi11, e_isi12, e_isi13, e_isi14, e_isi15, e_isi16, e_isi17, e_frz1, e_frz2, e_frz3, e_frz4, e_it1, e_it2, e_it3, e_it4, isT_ss, isT_si, isT_sl, isT_st, isT_sb, isT_is, isT_ii, isT_il, isT_it, isT_ib, isT_bs, isT_bi, isT_bl, isT_bt, isT_bb, isT_ls, isT_li, isT_ll, isT_lt, isT_lb, isT_ts, isT_ti, isT_tl, isT_tt, isT_tb, List.getElem?_cons_zero, List.getElem?_cons_succ, List.set_cons_zero, List.set_cons_succ, List.cons_append, List.nil_append, List.length_cons, List.length_nil, dwipe, List.append_nil, List.cons.injEq, exists_eq_left, exists_eq_left', Option.some.injEq, D.str.injEq, D.int.injEq, D.bl.injEq, D.lst.injEq, D.tup.injEq, D.ref.injEq, D.scr.injEq, MO.lst.injEq, MO.ins.injEq, true_and, and_true, if_true, Bool.not_true, Bool.not_false, Bool.false_eq_true, if_false, exists_const, exists_eq, exists_eq', exists_and_left, and_self, reduceCtorEq, decide_true, decide_false, decide_eq_true_eq, Bool.not_eq_true', decide_eq_false_iff_not, and_assoc, Bool.true_or, Bool.or_true, Bool.false_or, Bool.or_false, Bool.true_and, Bool.false_and, u_lc, cut_1, hrl]
    refine ⟨r, m ++ o, rfl, hn, by omega, hM, fun M3 x3 => ?_⟩
    simp only [dSeq, dIfS, dNot, dTru, dB, dCB, dOp, dCons, dNil, dVar, dC, dNever, dNext, dRet, dRetN, dAsg, gNm, dAndV, dOrV, dNotV, dAnd, dOr, dIf, dLst, dLstM, dTup, dFld, dSetF, dAugF, dAug, dDrop, dAppend, dExtend, dPop, dPopAt, dPar, dPar3, dCall, dMeth, dMake, dJoin, dSl, dNo, dPart, dSeqI, dRange1, dRange2, dRange3, dEnum, dRevS, dRevL, dIsi2, dYes, dUn, dSetIx, dBreak, dCont, dChain, dFrz, e_vw1, e_vw2, e_vw3, e_vw4, e_vw5, e_vw6, e_vw7, e_vw8, e_vws0, e_vws1, e_gC, e_gN, e_gT, e_eq1, e_eq2, e_eq3, e_eq4, e_eq5, e_ne1, e_ne2, e_ne3, e_ne4, e_ne5, e_lt, e_gt, e_le, e_ge, e_in1, e_in2, e_in3, e_in4, e_in5, e_in6, e_add1, e_add2, e_add3, e_add4, e_iadd1, e_iadd2, e_sub, e_mul1, e_mul2, e_mulS, e_mulM, e_mod, e_div, e_pow, e_neg, e_ix1, e_ix2, e_ix3, e_ix4, e_sl1, e_sl2, e_sl3, e_sl4, e_len1, e_len2, e_len3, e_len4, e_int1, e_int2, e_tru1, e_tru2, e_tru3, e_tru4, e_tru5, e_tru6, e_okS1, e_okS2, e_okS3, e_okS4, e_okS5, e_okS6, e_ty1, e_ty2, e_ty3, e_ty4, e_ty5, e_ty6, e_ty7, e_isi1, e_isi2, e_isi3, e_isi4, e_isi5, e_isi6, e_isi7, e_isi8, e_isi9, e_isi10, e_isi11, e_isi12, e_isi13, e_isi14, e_isi15, e_isi16, e_isi17, e_frz1, e_frz2, e_frz3, e_frz4, e_it1, e_it2, e_it3, e_it4, isT_ss, isT_si, isT_sl, isT_st, isT_sb, isT_is, isT_ii, isT_il, isT_it, isT_ib, isT_bs, isT_bi, isT_bl, isT_bt, isT_bb, isT_ls, isT_li, isT_ll, isT_lt, isT_lb, isT_ts, isT_ti, isT_tl, isT_tt, isT_tb, List.getElem?_cons_zero, List.getElem?_cons_succ, List.set_cons_zero, List.set_cons_succ, List.cons_append, List.nil_append, List.length_cons, List.length_nil, dwipe, List.append_nil, List.cons.injEq, exists_eq_left, exists_eq_left', Option.some.injEq, D.str.injEq, D.int.injEq, D.bl.injEq, D.lst.injEq, D.tup.injEq, D.ref.injEq, D.scr.injEq, MO.lst.injEq, MO.ins.injEq, true_and, and_true, if_true, Bool.not_true, Bool.not_false, Bool.false_eq_true, if_false, exists_const, exists_eq, exists_eq', exists_and_left, and_self, reduceCtorEq, decide_true, decide_false, decide_eq_true_eq, Bool.not_eq_true', decide_eq_false_iff_not, and_assoc, Bool.true_or, Bool.or_true, Bool.false_or, Bool.or_false, Bool.true_and, Bool.false_and]
    refine lc_pure (fun d => match d with | .str l => .str (o ++ f ++ l) | d => d) (by rw [List.length_map]; have := W.n _ hM; omega) (fun d R hd kk => ?_) ?_
    · obtain ⟨l, hl, rfl⟩ := List.mem_map.mp hd
      have := W.k _ hM l hl
      simp only [dSeq, dIfS, dNot, dTru, dB, dCB, dOp, dCons, dNil, dVar, dC, dNever, dNext, dRet, dRetN, dAsg, gNm, dAndV, dOrV, dNotV, dAnd, dOr, dIf, dLst, dLstM, dTup, dFld, dSetF, dAugF, dAug, dDrop, dAppend, dExtend, dPop, dPopAt, dPar, dPar3, dCall, dMeth, dMake, dJoin, dSl, dNo, dPart, dSeqI, dRange1, dRange2, dRange3, dEnum, dRevS, dRevL, dIsi2, dYes, dUn, dSetIx, dBreak, dCont, dChain, dFrz, e_vw1, e_vw2, e_vw3, e_vw4, e_vw5, e_vw6, e_vw7, e_vw8, e_vws0, e_vws1, e_gC, e_gN, e_gT, e_eq1, e_eq2, e_eq3, e_eq4, e_eq5, e_ne1, e_ne2, e_ne3, e_ne4, e_ne5, e_lt, e_gt, e_le, e_ge, e_in1, e_in2, e_in3, e_in4, e_in5, e_in6, e_add1, e_add2, e_add3, e_add4, e_iadd1, e_iadd2, e_sub, e_mul1, e_mul2, e_mulS, e_mulM, e_mod, e_div, e_pow, e_neg, e_ix1, e_ix2, e_ix3, e_ix4, e_sl1, e_sl2, e_sl3, e_sl4, e_len1, e_len2, e_len3, e_len4, e_int1, e_int2, e_tru1, e_tru2, e_tru3, e_tru4, e_tru5, e_tru6, e_okS1, e_okS2, e_okS3, e_okS4, e_okS5, e_okS6, e_ty1, e_ty2, e_ty3, e_ty4, e_ty5, e_ty6, e_ty7, e_isi1, e_isi2, e_isi3, e_isi4, e_isi5, e_isi6, e_isi7, e_isi8, e_isi9, e_isi10, e_isi11, e_isi12, e_isi13, e_isi14, e_isi15, e_isi16, e_isi17, e_frz1, e_frz2, e_frz3, e_frz4, e_it1, e_it2, e_it3, e_it4, isT_ss, isT_si, isT_sl, isT_st, isT_sb, isT_is, isT_ii, isT_il, isT_it, isT_ib, isT_bs, isT_bi, isT_bl, isT_bt, isT_bb, isT_ls, isT_li, isT_ll, isT_lt, isT_lb, isT_ts, isT_ti, isT_tl, isT_tt, isT_tb, List.getElem?_cons_zero, List.getElem?_cons_succ, List.set_cons_zero, List.set_cons_succ, List.cons_append, List.nil_append, List.length_cons, List.length_nil, dwipe, List.append_nil, List.cons.injEq, exists_eq_left, exists_eq_left', Option.some.injEq, D.str.injEq, D.int.injEq, D.bl.injEq, D.lst.injEq, D.tup.injEq, D.ref.injEq, D.scr.injEq, MO.lst.injEq, MO.ins.injEq, true_and, and_true, if_true, Bool.not_true, Bool.not_false, Bool.false_eq_true, if_false, exists_const, exists_eq, exists_eq', exists_and_left, and_self, reduceCtorEq, decide_true, decide_false, decide_eq_true_eq, Bool.not_eq_true', decide_eq_false_iff_not, and_assoc, Bool.true_or, Bool.or_true, Bool.false_or, Bool.or_false, Bool.true_and, Bool.false_and]
      exact ⟨by omega, by simp only [List.length_append]; omega, kk⟩
    · rw [map_str2 (g := fun l => o ++ f ++ l)]
      have w1 := W.n _ hM
      have w2 := W.n [] (.inl rfl)
      simp only [dSeq, dIfS, dNot, dTru, dB, dCB, dOp, dCons, dNil, dVar, dC, dNever, dNext, dRet, dRetN, dAsg, gNm, dAndV, dOrV, dNotV, dAnd, dOr, dIf, dLst, dLstM, dTup, dFld, dSetF, dAugF, dAug, dDrop, dAppend, dExtend, dPop, dPopAt, dPar, dPar3, dCall, dMeth, dMake, dJoin, dSl, dNo, dPart, dSeqI, dRange1, dRange2, dRange3, dEnum, dRevS, dRevL, dIsi2, dYes, dUn, dSetIx, dBreak, dCont, dChain, dFrz, e_vw1, e_vw2, e_vw3, e_vw4, e_vw5, e_vw6, e_vw7, e_vw8, e_vws0, e_vws1, e_gC, e_gN, e_gT, e_eq1, e_eq2, e_eq3, e_eq4, e_eq5, e_ne1, e_ne2, e_ne3, e_ne4, e_ne5, e_lt, e_gt, e_le, e_ge, e_in1, e_in2, e_in3, e_in4, e_in5, e_in6, e_add1, e_add2, e_add3, e_add4, e_iadd1, e_iadd2, e_sub, e_mul1, e_mul2, e_mulS, e_mulM, e_mod, e_div, e_pow, e_neg, e_ix1, e_ix2, e_ix3, e_ix4, e_sl1, e_sl2, e_sl3, e_sl4, e_len1, e_len2, e_len3, e_len4, e_int1, e_int2, e_tru1, e_tru2, e_tru3, e_tru4, e_tru5, e_tru6, e_okS1, e_okS2, e_okS3, e_okS4, e_okS5, e_okS6, e_ty1, e_ty2, e_ty3, e_ty4, e_ty5, e_ty6, e_ty7, e_isi1, e_isi2, e_isi3, e_isi4, e_isi5, e_isi6, e_isi7, e_isi8, e_isi9, e_isi10, e_isi11, e_isi12, e_isi13, e_isi14, e_isi15, e_isi16, e_isi17, e_frz1, e_frz2, e_frz3, e_frz4, e_it1, e_it2, e_it3, e_it4, isT_ss, isT_si, isT_sl, isT_st, isT_sb, isT_is, isT_ii, isT_il, isT_it, isT_ib, isT_bs, isT_bi, isT_bl, isT_bt, isT_bb, isT_ls, isT_li, isT_ll, isT_lt, isT_lb, isT_ts, isT_ti, isT_tl, isT_tt, isT_tb, List.getElem?_cons_zero, List.getElem?_cons_succ, List.set_cons_zero, List.set_cons_succ, List.cons_append, List.nil_append, List.length_cons, List.length_nil, dwipe, List.append_nil, List.cons.injEq, exists_eq_left, exists_eq_left', Option.some.injEq, D.str.injEq, D.int.injEq, D.bl.injEq, D.lst.injEq, D.tup.injEq, D.ref.injEq, D.scr.injEq, MO.lst.injEq, MO.ins.injEq, true_and, and_true, if_true, Bool.not_true, Bool.not_false, Bool.false_eq_true, if_false, exists_const, exists_eq, exists_eq', exists_and_left, and_self, reduceCtorEq, decide_true, decide_false, decide_eq_true_eq, Bool.not_eq_true', decide_eq_false_iff_not, and_assoc, Bool.true_or, Bool.or_true, Bool.false_or, Bool.or_false, Bool.true_and, Bool.false_and]
      refine ⟨by simp only [List.length_map, List.length_append]; omega, ?_⟩
      have key : ∀ (T : List D) (y8 y9 : Option D) (M4 : Mem), Mx M M4 → T = ((B ++ List.flatMap (two (ways r) m o) (List.take j (forms c (m ++ o)))) ++ two (ways r) m o f).map .str → PIn c r m o (c :: r) B x4 p M (j + 1) [some (.str (c :: r)), some (.str m), some (.str [c]), some (.lst T), some x4, some (.str o), some (.str (m ++ o)), some (.ref p), y8, y9] M4 := fun T y8 y9 M4 x4 e => by
        refine ⟨y8, y9, ?_, x4⟩
        rw [take_flat hf, e, List.append_assoc]
      by_cases h0 : m ++ o = []
      · rw [if_neg (by simpa using h0)]
        exact key _ _ _ _ (hx'.trans x3) (by rw [two_0 h0]; simp only [List.map_append, List.append_assoc])
      · rw [if_pos (by simpa using h0)]
        refine ⟨r, [], rfl, hn, by omega, .inl rfl, fun M5 x5 => ?_⟩
        simp only [dSeq, dIfS, dNot, dTru, dB, dCB, dOp, dCons, dNil, dVar, dC, dNever, dNext, dRet, dRetN, dAsg, gNm, dAndV, dOrV, dNotV, dAnd, dOr, dIf, dLst, dLstM, dTup, dFld, dSetF, dAugF, dAug, dDrop, dAppend, dExtend, dPop, dPopAt, dPar, dPar3, dCall, dMeth, dMake, dJoin, dSl, dNo, dPart, dSeqI, dRange1, dRange2, dRange3, dEnum, dRevS, dRevL, dIsi2, dYes, dUn, dSetIx, dBreak, dCont, dChain, dFrz, e_vw1, e_vw2, e_vw3, e_vw4, e_vw5, e_vw6, e_vw7, e_vw8, e_vws0, e_vws1, e_gC, e_gN, e_gT, e_eq1, e_eq2, e_eq3, e_eq4, e_eq5, e_ne1, e_ne2, e_ne3, e_ne4, e_ne5, e_lt, e_gt, e_le, e_ge, e_in1, e_in2, e_in3, e_in4, e_in5, e_in6, e_add1, e_add2, e_add3, e_add4, e_iadd1, e_iadd2, e_sub, e_mul1, e_mul2, e_mulS, e_mulM, e_mod, e_div, e_pow, e_neg, e_ix1, e_ix2, e_ix3, e_ix4, e_sl1, e_sl2, e_sl3, e_sl4, e_len1, e_len2, e_len3, e_len4, e_int1, e_int2, e_tru1, e_tru2, e_tru3, e_tru4, e_tru5, e_tru6, e_okS1, e_okS2, e_okS3, e_okS4, e_okS5, e_okS6, e_ty1, e_ty2, e_ty3, e_ty4, e_ty5, e_ty6, e_ty7, e_isi1, e_isi2, e_isi3, e_isi4, e_isi5, e_isi6, e_isi7, e_isi8, e_isi9, e_isi10, e_isi11, e_isi12, e_isi13, e_isi14, e_isi15, e_isi16, e_isi17, e_frz1, e_frz2, e_frz3, e_frz4, e_it1, e_it2, e_it3, e_it4, isT_ss, isT_si, isT_sl, isT_st, isT_sb, isT_is, isT_ii, isT_il, isT_it, isT_ib, isT_bs, isT_bi, isT_bl, isT_bt, isT_bb, isT_ls, isT_li, isT_ll, isT_lt, isT_lb, isT_ts, isT_ti, isT_tl, isT_tt, isT_tb, List.getElem?_cons_zero, List.getElem?_cons_succ, List.set_cons_zero, List.set_cons_succ, List.cons_append, List.nil_append, List.length_cons, List.length_nil, dwipe, List.append_nil, List.cons.injEq, exists_eq_left, exists_eq_left', Option.some.injEq, D.str.injEq, D.int.injEq, D.bl.injEq, D.lst.injEq, D.tup.injEq, D.ref.injEq, D.scr.injEq, MO.lst.injEq, MO.ins.injEq, true_and, and_true, if_true, Bool.not_true, Bool.not_false, Bool.false_eq_true, if_false, exists_const, exists_eq, exists_eq', exists_and_left, and_self, reduceCtorEq, decide_true, decide_false, decide_eq_true_eq, Bool.not_eq_true', decide_eq_false_iff_not, and_assoc, Bool.true_or, Bool.or_true, Bool.false_or, Bool.or_false, Bool.true_and, Bool.false_and]
        refine lc_pure (fun d => match d with | .str l => .str (o ++ f ++ (m ++ o) ++ l) | d => d) (by rw [List.length_map]; omega) (fun d R hd kk => ?_) ?_
        · obtain ⟨l, hl, rfl⟩ := List.mem_map.mp hd
          have := W.k [] (.inl rfl) l hl
          simp only [List.length_append] at hml
          simp only [dSeq, dIfS, dNot, dTru, dB, dCB, dOp, dCons, dNil, dVar, dC, dNever, dNext, dRet, dRetN, dAsg, gNm, dAndV, dOrV, dNotV, dAnd, dOr, dIf, dLst, dLstM, dTup, dFld, dSetF, dAugF, dAug, dDrop, dAppend, dExtend, dPop, dPopAt, dPar, dPar3, dCall, dMeth, dMake, dJoin, dSl, dNo, dPart, dSeqI, dRange1, dRange2, dRange3, dEnum, dRevS, dRevL, dIsi2, dYes, dUn, dSetIx, dBreak, dCont, dChain, dFrz, e_vw1, e_vw2, e_vw3, e_vw4, e_vw5, e_vw6, e_vw7, e_vw8, e_vws0, e_vws1, e_gC, e_gN, e_gT, e_eq1, e_eq2, e_eq3, e_eq4, e_eq5, e_ne1, e_ne2, e_ne3, e_ne4, e_ne5, e_lt, e_gt, e_le, e_ge, e_in1, e_in2, e_in3, e_in4, e_in5, e_in6, e_add1, e_add2, e_add3, e_add4, e_iadd1, e_iadd2, e_sub, e_mul1, e_mul2, e_mulS, e_mulM, e_mod, e_div, e_pow, e_neg, e_ix1, e_ix2, e_ix3, e_ix4, e_sl1, e_sl2, e_sl3, e_sl4, e_len1, e_len2, e_len3, e_len4, e_int1, e_int2, e_tru1, e_tru2, e_tru3, e_tru4, e_tru5, e_tru6, e_okS1, e_okS2, e_okS3, e_okS4, e_okS5, e_okS6, e_ty1, e_ty2, e_ty3, e_ty4, e_ty5, e_ty6, e_ty7, e_isi1, e_isi2, e_isi3, e_isi4, e_isi5, e_isi6, e_isi7, e_isi8, e_isi9, e_isi10, e_isi11, e_isi12, e_isi13, e_isi14, e_isi15, e_isi16, e_isi17, e_frz1, e_frz2, e_frz3, e_frz4, e_it1, e_it2, e_it3, e_it4, isT_ss, isT_si, isT_sl, isT_st, isT_sb, isT_is, isT_ii, isT_il, isT_it, isT_ib, isT_bs, isT_bi, isT_bl, isT_bt, isT_bb, isT_ls, isT_li, isT_ll, isT_lt, isT_lb, isT_ts, isT_ti, isT_tl, isT_tt, isT_tb, List.getElem?_cons_zero, List.getElem?_cons_succ, List.set_cons_zero, List.set_cons_succ, List.cons_append, List.nil_append, List.length_cons, List.length_nil, dwipe, List.append_nil, List.cons.injEq, exists_eq_left, exists_eq_left', Option.some.injEq, D.str.injEq, D.int.injEq, D.bl.injEq, D.lst.injEq, D.tup.injEq, D.ref.injEq, D.scr.injEq, MO.lst.injEq, MO.ins.injEq, true_and, and_true, if_true, Bool.not_true, Bool.not_false, Bool.false_eq_true, if_false, exists_const, exists_eq, exists_eq', exists_and_left, and_self, reduceCtorEq, decide_true, decide_false, decide_eq_true_eq, Bool.not_eq_true', decide_eq_false_iff_not, and_assoc, Bool.true_or, Bool.or_true, Bool.false_or, Bool.or_false, Bool.true_and, Bool.false_and, List.length_append]
          exact ⟨by omega, by omega, by omega, kk⟩
        · rw [map_str2 (g := fun l => o ++ f ++ (m ++ o) ++ l)]
          simp only [dSeq, dIfS, dNot, dTru, dB, dCB, dOp, dCons, dNil, dVar, dC, dNever, dNext, dRet, dRetN, dAsg, gNm, dAndV, dOrV, dNotV, dAnd, dOr, dIf, dLst, dLstM, dTup, dFld, dSetF, dAugF, dAug, dDrop, dAppend, dExtend, dPop, dPopAt, dPar, dPar3, dCall, dMeth, dMake, dJoin, dSl, dNo, dPart, dSeqI, dRange1, dRange2, dRange3, dEnum, dRevS, dRevL, dIsi2, dYes, dUn, dSetIx, dBreak, dCont, dChain, dFrz, e_vw1, e_vw2, e_vw3, e_vw4, e_vw5, e_vw6, e_vw7, e_vw8, e_vws0, e_vws1, e_gC, e_gN, e_gT, e_eq1, e_eq2, e_eq3, e_eq4, e_eq5, e_ne1, e_ne2, e_ne3, e_ne4, e_ne5, e_lt, e_gt, e_le, e_ge, e_in1, e_in2, e_in3, e_in4, e_in5, e_in6, e_add1, e_add2, e_add3, e_add4, e_iadd1, e_iadd2, e_sub, e_mul1, e_mul2, e_mulS, e_mulM, e_mod, e_div, e_pow, e_neg, e_ix1, e_ix2, e_ix3, e_ix4, e_sl1, e_sl2, e_sl3, e_sl4, e_len1, e_len2, e_len3, e_len4, e_int1, e_int2, e_tru1, e_tru2, e_tru3, e_tru4, e_tru5, e_tru6, e_okS1, e_okS2, e_okS3, e_okS4, e_okS5, e_okS6, e_ty1, e_ty2, e_ty3, e_ty4, e_ty5, e_ty6, e_ty7, e_isi1, e_isi2, e_isi3, e_isi4, e_isi5, e_isi6, e_isi7, e_isi8, e_isi9, e_isi10, e_isi11, e_isi12, e_isi13, e_isi14, e_isi15, e_isi16, e_isi17, e_frz1, e_frz2, e_frz3, e_frz4, e_it1, e_it2, e_it3, e_it4, isT_ss, isT_si, isT_sl, isT_st, isT_sb, isT_is, isT_ii, isT_il, isT_it, isT_ib, isT_bs, isT_bi, isT_bl, isT_bt, isT_bb, isT_ls, isT_li, isT_ll, isT_lt, isT_lb, isT_ts, isT_ti, isT_tl, isT_tt, isT_tb, List.getElem?_cons_zero, List.getElem?_cons_succ, List.set_cons_zero, List.set_cons_succ, List.cons_append, List.nil_append, List.length_cons, List.length_nil, dwipe, List.append_nil, List.cons.injEq, exists_eq_left, exists_eq_left', Option.some.injEq, D.str.injEq, D.int.injEq, D.bl.injEq, D.lst.injEq, D.tup.injEq, D.ref.injEq, D.scr.injEq, MO.lst.injEq, MO.ins.injEq, true_and, and_true, if_true, Bool.not_true, Bool.not_false, Bool.false_eq_true, if_false, exists_const, exists_eq, exists_eq', exists_and_left, and_self, reduceCtorEq, decide_true, decide_false, decide_eq_true_eq, Bool.not_eq_true', decide_eq_false_iff_not, and_assoc, Bool.true_or, Bool.or_true, Bool.false_or, Bool.or_false, Bool.true_and, Bool.false_and]
          refine ⟨by simp only [List.length_map, List.length_append]; omega, ?_⟩
          exact key _ _ _ _ ((hx'.trans x3).trans x5) (by rw [two_1 h0]; simp only [List.map_append, List.append_assoc])
  · rintro δ' M' ⟨y8, y9, rfl, hx'⟩
    rw [List.length_map, List.take_length]
    exact fin _ _ _ hx'
theorem rk__law_ways (n : Nat) {ds M Q Qx} (h : sp__law_ways n ds M Q Qx) : rd__law_ways (spWp n) (fin Q Qx) (dstart 10 ds) M := by
  obtain ⟨t, m, rfl, hn, hn4, hm, k⟩ := h
  show rd__law_ways _ _ [some (.str t), some (.str m), none, none, none, none, none, none, none, none] M
  simp only [rd__law_ways, u_for]
  cases t with
  | nil =>
    simp only [dSeq, dIfS, dNot, dTru, dB, dCB, dOp, dCons, dNil, dVar, dC, dNever, dNext, dRet, dRetN, dAsg, gNm, dAndV, dOrV, dNotV, dAnd, dOr, dIf, dLst, dLstM, dTup, dFld, dSetF, dAugF, dAug, dDrop, dAppend, dExtend, dPop, dPopAt, dPar, dPar3, dCall, dMeth, dMake, dJoin, dSl, dNo, dPart, dSeqI, dRange1, dRange2, dRange3, dEnum, dRevS, dRevL, dIsi2, dYes, dUn, dSetIx, dBreak, dCont, dChain, dFrz, e_vw1, e_vw2, e_vw3, e_vw4, e_vw5, e_vw6, e_vw7, e_vw8, e_vws0, e_vws1, e_gC, e_gN, e_gT, e_eq1, e_eq2, e_eq3, e_eq4, e_eq5, e_ne1, e_ne2, e_ne3, e_ne4, e_ne5, e_lt, e_gt, e_le, e_ge, e_in1, e_in2, e_in3, e_in4, e_in5, e_in6, e_add1, e_add2, e_add3, e_add4, e_iadd1, e_iadd2, e_sub, e_mul1, e_mul2, e_mulS, e_mulM, e_mod, e_div, e_pow, e_neg, e_ix1, e_ix2, e_ix3, e_ix4, e_sl1, e_sl2, e_sl3, e_sl4, e_len1, e_len2, e_len3, e_len4, e_int1, e_int2, e_tru1, e_tru2, e_tru3, e_tru4, e_tru5, e_tru6, e_okS1, e_okS2, e_okS3, e_okS4, e_okS5, e_okS6, e_ty1, e_ty2, e_ty3, e_ty4, e_ty5, e_ty6, e_ty7, e_isi1, e_isi2, e_isi3, e_isi4, e_isi5, e_isi6, e_isi7, e_isi8, e_isi9, e_isi10, e_isi11, e_isi12, e_isi13, e_isi14, e_isi15, e_isi16, e_isi17, e_frz1, e_frz2, e_frz3, e_frz4, e_it1, e_it2, e_it3, e_it4, isT_ss, isT_si, isT_sl, isT_st, isT_sb, isT_is, isT_ii, isT_il, isT_it, isT_ib, isT_bs, isT_bi, isT_bl, isT_bt, isT_bb, isT_ls, isT_li, isT_ll, isT_lt, isT_lb, isT_ts, isT_ti, isT_tl, isT_tt, isT_tb, List.getElem?_cons_zero, List.getElem?_cons_succ, List.set_cons_zero, List.set_cons_succ, List.cons_append, List.nil_append, List.length_cons, List.length_nil, dwipe, List.append_nil, List.cons.injEq, exists_eq_left, exists_eq_left', Option.some.injEq, D.str.injEq, D.int.injEq, D.bl.injEq, D.lst.injEq, D.tup.injEq, D.ref.injEq, D.scr.injEq, MO.lst.injEq, MO.ins.injEq, true_and, and_true, if_true, Bool.not_true, Bool.not_false, Bool.false_eq_true, if_false, exists_const, exists_eq, exists_eq', exists_and_left, and_self, reduceCtorEq, decide_true, decide_false, decide_eq_true_eq, Bool.not_eq_true', decide_eq_false_iff_not, and_assoc, Bool.true_or, Bool.or_true, Bool.false_or, Bool.or_false, Bool.true_and, Bool.false_and, c_em]
    exact ⟨by decide, k M (Mx.refl M)⟩
  | cons c r =>
    cases n with
    | zero => simp at hn
    | succ n =>
    simp only [List.length_cons] at hn
    have hl : (c :: r).length ≤ 16777216 := by simp; omega
    have ne : (c :: r = []) = False := by simp
    have op : (D.str [] :: (List.replicate (if m = [] then (1 : Int) else 0).toNat [D.str [39], D.str [34]]).flatten) = (opens m).map D.str := by
      unfold opens
      by_cases h : m = []
      · rw [if_pos h, if_pos h]; rfl
      · rw [if_neg h, if_neg h]; rfl
    have rl : (List.replicate (if m = [] then (1 : Int) else 0).toNat [D.str [39], D.str [34]]).flatten.length ≤ 2 := by
      by_cases h : m = []
      · rw [if_pos h]; decide
      · rw [if_neg h]; decide
    simp only [dSeq, dIfS, dNot, dTru, dB, dCB, dOp, dCons, dNil, dVar, dC, dNever, dNext, dRet, dRetN, dAsg, gNm, dAndV, dOrV, dNotV, dAnd, dOr, dIf, dLst, dLstM, dTup, dFld, dSetF, dAugF, dAug, dDrop, dAppend, dExtend, dPop, dPopAt, dPar, dPar3, dCall, dMeth, dMake, dJoin, dSl, dNo, dPart, dSeqI, dRange1, dRange2, dRange3, dEnum, dRevS, dRevL, dIsi2, dYes, dUn, dSetIx, dBreak, dCont, dChain, dFrz, e_vw1, e_vw2, e_vw3, e_vw4, e_vw5, e_vw6, e_vw7, e_vw8, e_vws0, e_vws1, e_gC, e_gN, e_gT, e_eq1, e_eq2, e_eq3, e_eq4, e_eq5, e_ne1, e_ne2, e_ne3, e_ne4, e_ne5, e_lt, e_gt, e_le, e_ge, e_in1, e_in2, e_in3, e_in4, e_in5, e_in6, e_add1, e_add2, e_add3, e_add4, e_iadd1, e_iadd2, e_sub, e_mul1, e_mul2, e_mulS, e_mulM, e_mod, e_div, e_pow, e_neg, e_ix1, e_ix2, e_ix3, e_ix4, e_sl1, e_sl2, e_sl3, e_sl4, e_len1, e_len2, e_len3, e_len4, e_int1, e_int2, e_tru1, e_tru2, e_tru3, e_tru4, e_tru5, e_tru6, e_okS1, e_okS2, e_okS3, e_okS4, e_okS5, e_okS6, e_ty1, e_ty2, e_ty3, e_ty4, e_ty5, e_ty6, e_ty7, e_isi1, e_isi2, e_isi3, e_isi4, e_isi5, e_isi6, e_isi7, e_isi8, e_isi9, e_isi10, e_isi11, e_isi12, e_isi13, e_isi14, e_isi15, e_isi16, e_isi17, e_frz1, e_frz2, e_frz3, e_frz4, e_it1, e_it2, e_it3, e_it4, isT_ss, isT_si, isT_sl, isT_st, isT_sb, isT_is, isT_ii, isT_il, isT_it, isT_ib, isT_bs, isT_bi, isT_bl, isT_bt, isT_bb, isT_ls, isT_li, isT_ll, isT_lt, isT_lb, isT_ts, isT_ti, isT_tl, isT_tt, isT_tb, List.getElem?_cons_zero, List.getElem?_cons_succ, List.set_cons_zero, List.set_cons_succ, List.cons_append, List.nil_append, List.length_cons, List.length_nil, dwipe, List.append_nil, List.cons.injEq, exists_eq_left, exists_eq_left', Option.some.injEq, D.str.injEq, D.int.injEq, D.bl.injEq, D.lst.injEq, D.tup.injEq, D.ref.injEq, D.scr.injEq, MO.lst.injEq, MO.ins.injEq, true_and, and_true, if_true, Bool.not_true, Bool.not_false, Bool.false_eq_true, if_false, exists_const, exists_eq, exists_eq', exists_and_left, and_self, reduceCtorEq, decide_true, decide_false, decide_eq_true_eq, Bool.not_eq_true', decide_eq_false_iff_not, and_assoc, Bool.true_or, Bool.or_true, Bool.false_or, Bool.or_false, Bool.true_and, Bool.false_and, c_em, ne, c_sq, c_dq, c_3, c_2, c_bs]
    refine ⟨by omega, c, atI_n (l := c :: r) (i := 0) rfl, by decide, by decide, by decide, by split <;> decide, by split <;> decide, by split <;> decide, by omega, ?_⟩
    rw [op, u_for]
    simp only [dSeq, dIfS, dNot, dTru, dB, dCB, dOp, dCons, dNil, dVar, dC, dNever, dNext, dRet, dRetN, dAsg, gNm, dAndV, dOrV, dNotV, dAnd, dOr, dIf, dLst, dLstM, dTup, dFld, dSetF, dAugF, dAug, dDrop, dAppend, dExtend, dPop, dPopAt, dPar, dPar3, dCall, dMeth, dMake, dJoin, dSl, dNo, dPart, dSeqI, dRange1, dRange2, dRange3, dEnum, dRevS, dRevL, dIsi2, dYes, dUn, dSetIx, dBreak, dCont, dChain, dFrz, e_vw1, e_vw2, e_vw3, e_vw4, e_vw5, e_vw6, e_vw7, e_vw8, e_vws0, e_vws1, e_gC, e_gN, e_gT, e_eq1, e_eq2, e_eq3, e_eq4, e_eq5, e_ne1, e_ne2, e_ne3, e_ne4, e_ne5, e_lt, e_gt, e_le, e_ge, e_in1, e_in2, e_in3, e_in4, e_in5, e_in6, e_add1, e_add2, e_add3, e_add4, e_iadd1, e_iadd2, e_sub, e_mul1, e_mul2, e_mulS, e_mulM, e_mod, e_div, e_pow, e_neg, e_ix1, e_ix2, e_ix3, e_ix4, e_sl1, e_sl2, e_sl3, e_sl4, e_len1, e_len2, e_len3, e_len4, e_int1, e_int2, e_tru1, e_tru2, e_tru3, e_tru4, e_tru5, e_tru6, e_okS1, e_okS2, e_okS3, e_okS4, e_okS5, e_okS6, e_ty1, e_ty2, e_ty3, e_ty4, e_ty5, e_ty6, e_ty7, e_isi1, e_isi2, e_isi3, e_isi4, e_isi5, e_isi6, e_isi7, e_isi8, e_isi9, e_isi10, e_isi11, e_isi12, e_isi13, e_isi14, e_isi15, e_isi16, e_isi17, e_frz1, e_frz2, e_frz3, e_frz4, e_it1, e_it2, e_it3, e_it4, isT_ss, isT_si, isT_sl, isT_st, isT_sb, isT_is, isT_ii, isT_il, isT_it, isT_ib, isT_bs, isT_bi, isT_bl, isT_bt, isT_bb, isT_ls, isT_li, isT_ll, isT_lt, isT_lb, isT_ts, isT_ti, isT_tl, isT_tt, isT_tb, List.getElem?_cons_zero, List.getElem?_cons_succ, List.set_cons_zero, List.set_cons_succ, List.cons_append, List.nil_append, List.length_cons, List.length_nil, dwipe, List.append_nil, List.cons.injEq, exists_eq_left, exists_eq_left', Option.some.injEq, D.str.injEq, D.int.injEq, D.bl.injEq, D.lst.injEq, D.tup.injEq, D.ref.injEq, D.scr.injEq, MO.lst.injEq, MO.ins.injEq, true_and, and_true, if_true, Bool.not_true, Bool.not_false, Bool.false_eq_true, if_false, exists_const, exists_eq, exists_eq', exists_and_left, and_self, reduceCtorEq, decide_true, decide_false, decide_eq_true_eq, Bool.not_eq_true', decide_eq_false_iff_not, and_assoc, Bool.true_or, Bool.or_true, Bool.false_or, Bool.or_false, Bool.true_and, Bool.false_and]
    refine ⟨POut c r m (c :: r) M, ⟨none, none, none, none, none, rfl, Mx.refl M⟩, ?_, ?_⟩
    · rintro i d δ' M' hd ⟨x5, x6, x7, x8, x9, rfl, hx⟩
      obtain ⟨o, ho, rfl⟩ := map_at hd
      obtain ⟨mo, io⟩ := mem_at ho
      obtain ⟨hM, ol⟩ := opens_M hm mo
      have ml := isM_len hm
      simp only [dSeq, dNot, dTru, dB, dCB, dOp, dCons, dNil, dVar, dC, dNever, dNext, dRet, dRetN, dAsg, gNm, dAndV, dOrV, dNotV, dIf, dLst, dLstM, dTup, dFld, dSetF, dAugF, dAug, dDrop, dAppend, dExtend, dPop, dPopAt, dPar, dPar3, dCall, dMeth, dMake, dJoin, dSl, dNo, dPart, dSeqI, dRange1, dRange2, dRange3, dEnum, dRevS, dRevL, dIsi2, dYes, dUn, dSetIx, dBreak, dCont, dChain, dFrz, e_vw1, e_vw2, e_vw3, e_vw4, e_vw5, e_vw6, e_vw7, e_vw8, e_vws0, e_vws1, e_gC, e_gN, e_gT, e_eq1, e_eq2, e_eq3, e_eq4, e_eq5, e_ne1, e_ne2, e_ne3, e_ne4, e_ne5, e_lt, e_gt, e_le, e_ge, e_in1, e_in2, e_in3, e_in4, e_in5, e_in6, e_add1, e_add2, e_add3, e_add4, e_iadd1, e_iadd2, e_sub, e_mul1, e_mul2, e_mulS, e_mulM, e_mod, e_div, e_pow, e_neg, e_ix1, e_ix2, e_ix3, e_ix4, e_sl1, e_sl2, e_sl3, e_sl4, e_len1, e_len2, e_len3, e_len4, e_int1, e_int2, e_tru1, e_tru2, e_tru3, e_tru4, e_tru5, e_tru6, e_okS1, e_okS2, e_okS3, e_okS4, e_okS5, e_okS6, e_ty1, e_ty2, e_ty3, e_ty4, e_ty5, e_ty6, e_ty7, e_isi1, e_isi2, e_isi3, e_isi4, e_isi5, e_isi6, e_isi7, e_isi8, e_isi9, e_isi10, e_isi11, e_isi12, e_isi13, e_isi14, e_isi15, e_isi16, e_isi17, e_frz1, e_frz2, e_frz3, e_frz4, e_it1, e_it2, e_it3, e_it4, isT_ss, isT_si, isT_sl, isT_st, isT_sb, isT_is, isT_ii, isT_il, isT_it, isT_ib, isT_bs, isT_bi, isT_bl, isT_bt, isT_bb, isT_ls, isT_li, isT_ll, isT_lt, isT_lb, isT_ts, isT_ti, isT_tl, isT_tt, isT_tb, List.getElem?_cons_zero, List.getElem?_cons_succ, List.set_cons_zero, List.set_cons_succ, List.cons_append, List.nil_append, List.length_cons, List.length_nil, dwipe, List.append_nil, List.cons.injEq, exists_eq_left, exists_eq_left', Option.some.injEq, D.str.injEq, D.int.injEq, D.bl.injEq, D.lst.injEq, D.tup.injEq, D.ref.injEq, D.scr.injEq, MO.lst.injEq, MO.ins.injEq, true_and, and_true, if_true, Bool.not_true, Bool.not_false, Bool.false_eq_true, if_false, exists_const, exists_eq, exists_eq', exists_and_left, and_self, reduceCtorEq, decide_true, decide_false, decide_eq_true_eq, Bool.not_eq_true', decide_eq_false_iff_not, and_assoc, Bool.true_or, Bool.or_true, Bool.false_or, Bool.or_false, Bool.true_and, Bool.false_and]
      refine ⟨by omega, by decide, by decide, by split <;> decide, by split <;> decide, by split <;> decide, fun p hp => ?_⟩
      have hnp : M p = none := by
        cases e : M p with
        | none => rfl
        | some o => rw [hx p o e] at hp; cases hp
      unfold dIfS
      refine test_ways ?_
      have rep : (List.replicate (if ¬ m ++ o = [39] then (1 : Int) else 0).toNat [D.str [92, c]]).flatten = (if m ++ o ≠ [39] then [[92, c]] else []).map D.str := by
        by_cases h : m ++ o = [39]
        · rw [if_neg (fun z => z h), if_neg (fun z => z h)]; rfl
        · rw [if_pos h, if_pos h]; rfl
      rw [rep]
      have bl : (((opens m).take i).flatMap (one (ways r) c m)).length ≤ 100000 := by
        have p12 : 12 ^ r.length ≤ 1728 := pw _ (by omega)
        have h1 := flat_le (f := one (ways r) c m) (l := (opens m).take i) (n := 4 * 12 ^ r.length) fun o ho => (one_b (ways_b r) (opens_M hm (List.mem_of_mem_take ho)).1 (opens_M hm (List.mem_of_mem_take ho)).2).1
        have h2 : ((opens m).take i).length ≤ 3 := by rw [List.length_take]; have := opens_len m; omega
        have h3 := Nat.mul_le_mul_right (4 * 12 ^ r.length) h2
        omega
      have out : ∀ M2, M2 p = some (.lst ((forms c (m ++ o)).map .str)) → Mx M M2 → ∀ x8 x9, dFor (dSeqI (dVar 7)) (gNm 8) (bodyW (sp__law_ways n)) { nx := POut c r m (c :: r) M (i + 1), rt := Q, bk := dRet (dVar 3) (fin Q Qx), ct := POut c r m (c :: r) M (i + 1), ex := fun x x_1 M1 => Qx x M1 }
          [some (.str (c :: r)), some (.str m), some (.str [c]), some (.lst ((((opens m).take i).flatMap (one (ways r) c m)).map .str)), some (.lst ((opens m).map .str)), some (.str o), some (.str (m ++ o)), some (.ref p), x8, x9] M2 := fun M2 h1 h2 x8 x9 =>
        inner_ways h1 hnp h2 (by omega) (by omega) hM ol bl fun y8 y9 M3 h3 => ⟨_, _, _, _, _, by rw [take_flat ho], h3⟩
      by_cases ht : tst c (m ++ o) = true
      · rw [if_pos ht]
        have fo : forms c (m ++ o) = (if m ++ o ≠ [39] then [[92, c]] else []) ++ [[c]] := by
          unfold forms
          rw [if_pos (of_decide_eq_true ht)]
        simp only [dSeq, dIfS, dNot, dTru, dB, dCB, dOp, dCons, dNil, dVar, dC, dNever, dNext, dRet, dRetN, dAsg, gNm, dAndV, dOrV, dNotV, dAnd, dOr, dIf, dLst, dLstM, dTup, dFld, dSetF, dAugF, dAug, dDrop, dAppend, dExtend, dPop, dPopAt, dPar, dPar3, dCall, dMeth, dMake, dJoin, dSl, dNo, dPart, dSeqI, dRange1, dRange2, dRange3, dEnum, dRevS, dRevL, dIsi2, dYes, dUn, dSetIx, dBreak, dCont, dChain, dFrz, e_vw1, e_vw2, e_vw3, e_vw4, e_vw5, e_vw6, e_vw7, e_vw8, e_vws0, e_vws1, e_gC, e_gN, e_gT, e_eq1, e_eq2, e_eq3, e_eq4, e_eq5, e_ne1, e_ne2, e_ne3, e_ne4, e_ne5, e_lt, e_gt, e_le, e_ge, e_in1, e_in2, e_in3, e_in4, e_in5, e_in6, e_add1, e_add2, e_add3, e_add4, e_iadd1, e_iadd2, e_sub, e_mul1, e_mul2, e_mulS, e_mulM, e_mod, e_div, e_pow, e_neg, e_ix1, e_ix2, e_ix3, e_ix4, e_sl1, e_sl2, e_sl3, e_sl4, e_len1, e_len2, e_len3, e_len4, e_int1, e_int2, e_tru1, e_tru2, e_tru3, e_tru4, e_tru5, e_tru6, e_okS1, e_okS2, e_okS3, e_okS4, e_okS5, e_okS6, e_ty1, e_ty2, e_ty3, e_ty4, e_ty5, e_ty6, e_ty7, e_isi1, e_isi2, e_isi3, e_isi4, e_isi5, e_isi6, e_isi7, e_isi8, e_isi9, e_isi10, e_isi11, e_isi12, e_isi13, e_isi14, e_isi15, e_isi16, e_isi17, e_frz1, e_frz2, e_frz3, e_frz4, e_it1, e_it2, e_it3, e_it4, isT_ss, isT_si, isT_sl, isT_st, isT_sb, isT_is, isT_ii, isT_il, isT_it, isT_ib, isT_bs, isT_bi, isT_bl, isT_bt, isT_bb, isT_ls, isT_li, isT_ll, isT_lt, isT_lb, isT_ts, isT_ti, isT_tl, isT_tt, isT_tb, List.getElem?_cons_zero, List.getElem?_cons_succ, List.set_cons_zero, List.set_cons_succ, List.cons_append, List.nil_append, List.length_cons, List.length_nil, dwipe, List.append_nil, List.cons.injEq, exists_eq_left, exists_eq_left', Option.some.injEq, D.str.injEq, D.int.injEq, D.bl.injEq, D.lst.injEq, D.tup.injEq, D.ref.injEq, D.scr.injEq, MO.lst.injEq, MO.ins.injEq, true_and, and_true, if_true, Bool.not_true, Bool.not_false, Bool.false_eq_true, if_false, exists_const, exists_eq, exists_eq', exists_and_left, and_self, reduceCtorEq, decide_true, decide_false, decide_eq_true_eq, Bool.not_eq_true', decide_eq_false_iff_not, and_assoc, Bool.true_or, Bool.or_true, Bool.false_or, Bool.or_false, Bool.true_and, Bool.false_and]
        refine ⟨_, mset_same, _, mset_same, ?_, ?_⟩
        · rw [List.length_map]; split <;> simp
        · rw [mset_mset]
          exact out _ (by rw [mset_same, fo, List.map_append]; rfl) (hx.upd hnp) _ _
      · rw [if_neg ht]
        have fo : forms c (m ++ o) = (if m ++ o ≠ [39] then [[92, c]] else []) := by
          unfold forms
          rw [if_neg (fun z => ht (decide_eq_true z)), List.append_nil]
        exact out _ (by rw [mset_same, fo]) (hx.upd hnp) _ _
    · rintro δ' M' ⟨x5, x6, x7, x8, x9, rfl, hx⟩
      rw [List.length_map, List.take_length]
      simp only [dSeq, dIfS, dNot, dTru, dB, dCB, dOp, dCons, dNil, dVar, dC, dNever, dNext, dRet, dRetN, dAsg, gNm, dAndV, dOrV, dNotV, dAnd, dOr, dIf, dLst, dLstM, dTup, dFld, dSetF, dAugF, dAug, dDrop, dAppend, dExtend, dPop, dPopAt, dPar, dPar3, dCall, dMeth, dMake, dJoin, dSl, dNo, dPart, dSeqI, dRange1, dRange2, dRange3, dEnum, dRevS, dRevL, dIsi2, dYes, dUn, dSetIx, dBreak, dCont, dChain, dFrz, e_vw1, e_vw2, e_vw3, e_vw4, e_vw5, e_vw6, e_vw7, e_vw8, e_vws0, e_vws1, e_gC, e_gN, e_gT, e_eq1, e_eq2, e_eq3, e_eq4, e_eq5, e_ne1, e_ne2, e_ne3, e_ne4, e_ne5, e_lt, e_gt, e_le, e_ge, e_in1, e_in2, e_in3, e_in4, e_in5, e_in6, e_add1, e_add2, e_add3, e_add4, e_iadd1, e_iadd2, e_sub, e_mul1, e_mul2, e_mulS, e_mulM, e_mod, e_div, e_pow, e_neg, e_ix1, e_ix2, e_ix3, e_ix4, e_sl1, e_sl2, e_sl3, e_sl4, e_len1, e_len2, e_len3, e_len4, e_int1, e_int2, e_tru1, e_tru2, e_tru3, e_tru4, e_tru5, e_tru6, e_okS1, e_okS2, e_okS3, e_okS4, e_okS5, e_okS6, e_ty1, e_ty2, e_ty3, e_ty4, e_ty5, e_ty6, e_ty7, e_isi1, e_isi2, e_isi3, e_isi4, e_isi5, e_isi6, e_isi7, e_isi8, e_isi9, e_isi10, e_isi11, e_isi12, e_isi13, e_isi14, e_isi15, e_isi16, e_isi17, e_frz1, e_frz2, e_frz3, e_frz4, e_it1, e_it2, e_it3, e_it4, isT_ss, isT_si, isT_sl, isT_st, isT_sb, isT_is, isT_ii, isT_il, isT_it, isT_ib, isT_bs, isT_bi, isT_bl, isT_bt, isT_bb, isT_ls, isT_li, isT_ll, isT_lt, isT_lb, isT_ts, isT_ti, isT_tl, isT_tt, isT_tb, List.getElem?_cons_zero, List.getElem?_cons_succ, List.set_cons_zero, List.set_cons_succ, List.cons_append, List.nil_append, List.length_cons, List.length_nil, dwipe, List.append_nil, List.cons.injEq, exists_eq_left, exists_eq_left', Option.some.injEq, D.str.injEq, D.int.injEq, D.bl.injEq, D.lst.injEq, D.tup.injEq, D.ref.injEq, D.scr.injEq, MO.lst.injEq, MO.ins.injEq, true_and, and_true, if_true, Bool.not_true, Bool.not_false, Bool.false_eq_true, if_false, exists_const, exists_eq, exists_eq', exists_and_left, and_self, reduceCtorEq, decide_true, decide_false, decide_eq_true_eq, Bool.not_eq_true', decide_eq_false_iff_not, and_assoc, Bool.true_or, Bool.or_true, Bool.false_or, Bool.or_false, Bool.true_and, Bool.false_and]
      exact k M' hx
end K42

set_option Elab.async false
set_option linter.all false
set_option maxRecDepth 100000
set_option maxHeartbeats 4000000
namespace K42
open PySem L2 DL
/-! the table is the least of all ways -/
def Z (W : List Nat → List (List Nat)) (h z : List Nat) : Prop := z ∈ W h ∨ (h ≠ [] ∧ ∃ x ∈ W [], z = h ++ x)
def sel (q : Lx.Qs) (h : List Nat) : List Nat := if h = [] then q.p else if h = [39] then q.s else q.d
theorem mem_two {W : List Nat → List (List Nat)} {m o f y : List Nat} : y ∈ two W m o f ↔ ∃ z, Z W (m ++ o) z ∧ y = o ++ f ++ z := by
  by_cases h : m ++ o = []
  · rw [two_0 h]
    constructor
    · intro hy
      obtain ⟨z, hz, rfl⟩ := List.mem_map.mp hy
      exact ⟨z, .inl hz, rfl⟩
    · rintro ⟨z, hz | hz, rfl⟩
      · exact List.mem_map.mpr ⟨z, hz, rfl⟩
      · exact absurd h hz.1
  · rw [two_1 h]
    constructor
    · intro hy
      rcases List.mem_append.mp hy with hy | hy
      · obtain ⟨z, hz, rfl⟩ := List.mem_map.mp hy
        exact ⟨z, .inl hz, rfl⟩
      · obtain ⟨z, hz, rfl⟩ := List.mem_map.mp hy
        exact ⟨(m ++ o) ++ z, .inr ⟨h, z, hz, rfl⟩, by simp⟩
    · rintro ⟨z, hz | ⟨_, x, hx, rfl⟩, rfl⟩
      · exact List.mem_append_left _ (List.mem_map.mpr ⟨z, hz, rfl⟩)
      · exact List.mem_append_right _ (List.mem_map.mpr ⟨x, hx, by simp⟩)
theorem mem_ways {c : Nat} {t m y : List Nat} : y ∈ ways (c :: t) m ↔ ∃ o ∈ opens m, ∃ f ∈ forms c (m ++ o), ∃ z, Z (ways t) (m ++ o) z ∧ y = o ++ f ++ z := by
  simp only [ways, one, List.mem_flatMap, mem_two]
theorem outs_iff {c : Nat} {q : Lx.Qs} {x : List Nat} : x ∈ Lx.outs c q ↔ ∃ o ∈ opens [], ∃ f ∈ forms c ([] ++ o), x = o ++ f ++ sel q ([] ++ o) := by
  constructor
  · intro h
    unfold Lx.outs at h
    rcases List.mem_append.mp h with h | h
    · rcases List.mem_append.mp h with h | h
      · simp at h
        exact ⟨[], by simp [opens], [92, c], by simp [forms], by simp [h, sel]⟩
      · split at h
        · rename_i k
          simp at h
          exact ⟨[], by simp [opens], [c], by unfold forms; simp; omega, by simp [h, sel]⟩
        · cases h
    · rcases List.mem_append.mp h with h | h
      · obtain ⟨w, hw, rfl⟩ := List.mem_map.mp h
        unfold Lx.inS at hw
        split at hw
        · rename_i k
          simp at hw
          exact ⟨[39], by simp [opens], [c], by unfold forms; simp; exact k, by simp [hw, sel]⟩
        · cases hw
      · obtain ⟨w, hw, rfl⟩ := List.mem_map.mp h
        unfold Lx.inD at hw
        rcases List.mem_append.mp hw with hw | hw
        · simp at hw
          exact ⟨[34], by simp [opens], [92, c], by unfold forms; simp, by simp [hw, sel]⟩
        · split at hw
          · rename_i k
            simp at hw
            exact ⟨[34], by simp [opens], [c], by unfold forms; simp; exact k, by simp [hw, sel]⟩
          · cases hw
  · rintro ⟨o, ho, f, hf, rfl⟩
    simp [opens] at ho
    rcases ho with rfl | rfl | rfl
    · unfold forms at hf
      rcases List.mem_append.mp hf with hf | hf
      · simp at hf
        subst hf
        simp [Lx.outs, sel]
      · split at hf
        · rename_i k
          simp at hf k
          subst hf
          simp [Lx.outs, sel, k]
        · cases hf
    · unfold forms at hf
      rcases List.mem_append.mp hf with hf | hf
      · simp at hf
      · split at hf
        · rename_i k
          simp at hf k
          subst hf
          simp [Lx.outs, Lx.inS, sel, k]
        · cases hf
    · unfold forms at hf
      rcases List.mem_append.mp hf with hf | hf
      · simp at hf
        subst hf
        simp [Lx.outs, Lx.inD, sel]
      · split at hf
        · rename_i k
          simp at hf k
          subst hf
          simp [Lx.outs, Lx.inD, sel, k]
        · cases hf
theorem table_best {t : List Nat} {q : Lx.Qs} (h : Lx.Table t q) : ∀ m, isM m → Best (sel q m) (Z (ways t) m) := by
  induction h with
  | nil =>
    intro m hm
    rcases hm with rfl | rfl | rfl
    · refine ⟨.inl (by simp [ways, sel]), ?_⟩
      rintro y (hy | hy)
      · simp [ways] at hy; subst hy; exact wl_irr _
      · exact absurd rfl hy.1
    · refine ⟨.inl (by simp [ways, sel]), ?_⟩
      rintro y (hy | ⟨_, x, hx, rfl⟩)
      · simp [ways] at hy; subst hy; exact wl_irr _
      · simp [ways] at hx; subst hx; exact wl_irr _
    · refine ⟨.inl (by simp [ways, sel]), ?_⟩
      rintro y (hy | ⟨_, x, hx, rfl⟩)
      · simp [ways] at hy; subst hy; exact wl_irr _
      · simp [ways] at hx; subst hx; exact wl_irr _
  | @cons c t q q' _ k ih =>
    have P : Best q'.p (· ∈ ways (c :: t) []) := by
      refine k.p.many (fun x hx => ?_) fun y hy => ?_
      · obtain ⟨o, ho, f, hf, rfl⟩ := outs_iff.mp hx
        exact mem_ways.mpr ⟨o, ho, f, hf, _, (ih _ (opens_M (.inl rfl) ho).1).1, rfl⟩
      · obtain ⟨o, ho, f, hf, z, hz, rfl⟩ := mem_ways.mp hy
        refine ⟨_, outs_iff.mpr ⟨o, ho, f, hf, rfl⟩, fun w => (ih _ (opens_M (.inl rfl) ho).1).2 z hz ((wl_pre _).mp w)⟩
    intro m hm
    rcases hm with rfl | rfl | rfl
    · refine ⟨.inl P.1, ?_⟩
      rintro y (hy | hy)
      · exact P.2 y hy
      · exact absurd rfl hy.1
    · refine k.s.many (fun x hx => ?_) fun y hy => ?_
      · rcases List.mem_append.mp hx with hx | hx
        · unfold Lx.inS at hx
          split at hx
          · rename_i e
            simp at hx
            refine .inl (mem_ways.mpr ⟨[], by simp [opens], [c], by unfold forms; simp; exact e, q.s, (ih [39] (.inr (.inl rfl))).1, by simp [hx]⟩)
          · cases hx
        · simp at hx
          exact .inr ⟨by simp, q'.p, P.1, hx⟩
      · rcases hy with hy | ⟨_, x, hx, rfl⟩
        · obtain ⟨o, ho, f, hf, z, hz, rfl⟩ := mem_ways.mp hy
          simp [opens] at ho
          subst ho
          unfold forms at hf
          rcases List.mem_append.mp hf with hf | hf
          · simp at hf
          · split at hf
            · rename_i e
              simp at hf e
              subst hf
              refine ⟨c :: q.s, List.mem_append_left _ (by unfold Lx.inS; rw [if_pos e]; simp), fun w => (ih [39] (.inr (.inl rfl))).2 z hz ((wl_pre [c]).mp w)⟩
            · cases hf
        · exact ⟨39 :: q'.p, List.mem_append_right _ (by simp), fun w => P.2 x hx ((wl_pre [39]).mp w)⟩
    · refine k.d.many (fun x hx => ?_) fun y hy => ?_
      · rcases List.mem_append.mp hx with hx | hx
        · unfold Lx.inD at hx
          rcases List.mem_append.mp hx with hx | hx
          · simp at hx
            exact .inl (mem_ways.mpr ⟨[], by simp [opens], [92, c], by unfold forms; simp, q.d, (ih [34] (.inr (.inr rfl))).1, by simp [hx]⟩)
          · split at hx
            · rename_i e
              simp at hx
              refine .inl (mem_ways.mpr ⟨[], by simp [opens], [c], by unfold forms; simp; exact e, q.d, (ih [34] (.inr (.inr rfl))).1, by simp [hx]⟩)
            · cases hx
        · simp at hx
          exact .inr ⟨by simp, q'.p, P.1, hx⟩
      · rcases hy with hy | ⟨_, x, hx, rfl⟩
        · obtain ⟨o, ho, f, hf, z, hz, rfl⟩ := mem_ways.mp hy
          simp [opens] at ho
          subst ho
          unfold forms at hf
          rcases List.mem_append.mp hf with hf | hf
          · simp at hf
            subst hf
            exact ⟨92 :: c :: q.d, List.mem_append_left _ (by simp [Lx.inD]), fun w => (ih [34] (.inr (.inr rfl))).2 z hz ((wl_pre [92, c]).mp w)⟩
          · split at hf
            · rename_i e
              simp at hf e
              subst hf
              refine ⟨c :: q.d, List.mem_append_left _ (by simp [Lx.inD, e]), fun w => (ih [34] (.inr (.inr rfl))).2 z hz ((wl_pre [c]).mp w)⟩
            · cases hf
        · exact ⟨34 :: q'.p, List.mem_append_right _ (by simp), fun w => P.2 x hx ((wl_pre [34]).mp w)⟩
/-- what the law compares with -/
def allWays (t : List Nat) : List (List Nat) := if t = [] then [[34, 34]] else ways t []
theorem quo_best {t w m : List Nat} (h : Lx.Quo t w) (k : Best m (· ∈ allWays t)) : m = w := by
  cases h with
  | nil => simpa [allWays] using k.1
  | @cons c t q h =>
    have b := table_best h [] (.inl rfl)
    have b2 : Best q.p (· ∈ ways (c :: t) []) := ⟨by rcases b.1 with e | e; exact e; exact absurd rfl e.1, fun y hy => b.2 y (.inl hy)⟩
    simp only [allWays, if_neg (List.cons_ne_nil c t)] at k
    exact k.uni b2
theorem allWays_ne {t w : List Nat} (h : Lx.Quo t w) : allWays t ≠ [] := by
  cases h with
  | nil => simp [allWays]
  | @cons c t q h =>
    have b := (table_best h [] (.inl rfl)).1
    rcases b with e | e
    · simp only [allWays, if_neg (List.cons_ne_nil c t)]
      intro z
      rw [z] at e
      cases e
    · exact absurd rfl e.1
def sp__law_alike : SpD := fun ds M Q _ => ∃ a b, ds = [.str a, .str b] ∧ Q (.bl (decide (a = b))) M
theorem len__law_alike (ds : List D) (M : Mem) (Q : QE) (Qx : QX) (h : sp__law_alike ds M Q Qx) : ds.length = 2 := by obtain ⟨_, _, rfl, _⟩ := h; rfl
def spNo : SpD := fun _ _ _ _ => False
theorem rk__law_alike {ds M Q Qx} (h : sp__law_alike ds M Q Qx) : rd__law_alike spNo (fin Q Qx) (dstart 3 ds) M := by
  obtain ⟨a, b, rfl, k⟩ := h
  show rd__law_alike _ _ [some (.str a), some (.str b), none] M
  simp only [rd__law_alike, dSeq, dIfS, dNot, dTru, dB, dCB, dOp, dCons, dNil, dVar, dC, dNever, dNext, dRet, dRetN, dAsg, gNm, dAndV, dOrV, dNotV, dAnd, dOr, dIf, dLst, dLstM, dTup, dFld, dSetF, dAugF, dAug, dDrop, dAppend, dExtend, dPop, dPopAt, dPar, dPar3, dCall, dMeth, dMake, dJoin, dSl, dNo, dPart, dSeqI, dRange1, dRange2, dRange3, dEnum, dRevS, dRevL, dIsi2, dYes, dUn, dSetIx, dBreak, dCont, dChain, dFrz, e_vw1, e_vw2, e_vw3, e_vw4, e_vw5, e_vw6, e_vw7, e_vw8, e_vws0, e_vws1, e_gC, e_gN, e_gT, e_eq1, e_eq2, e_eq3, e_eq4, e_eq5, e_ne1, e_ne2, e_ne3, e_ne4, e_ne5, e_lt, e_gt, e_le, e_ge, e_in1, e_in2, e_in3, e_in4, e_in5, e_in6, e_add1, e_add2, e_add3, e_add4, e_iadd1, e_iadd2, e_sub, e_mul1, e_mul2, e_mulS, e_mulM, e_mod, e_div, e_pow, e_neg, e_ix1, e_ix2, e_ix3, e_ix4, e_sl1, e_sl2, e_sl3, e_sl4, e_len1, e_len2, e_len3, e_len4, e_int1, e_int2, e_tru1, e_tru2, e_tru3, e_tru4, e_tru5, e_tru6, e_okS1, e_okS2, e_okS3, e_okS4, e_okS5, e_okS6, e_ty1, e_ty2, e_ty3, e_ty4, e_ty5, e_ty6, e_ty7, e_isi1, e_isi2, e_isi3, e_isi4, e_isi5, e_isi6, e_isi7, e_isi8, e_isi9, e_isi10, e_isi11, e_isi12, e_isi13, e_isi14, e_isi15, e_isi16, e_isi17, e_frz1, e_frz2, e_frz3, e_frz4, e_it1, e_it2, e_it3, e_it4, isT_ss, isT_si, isT_sl, isT_st, isT_sb, isT_is, isT_ii, isT_il, isT_it, isT_ib, isT_bs, isT_bi, isT_bl, isT_bt, isT_bb, isT_ls, isT_li, isT_ll, isT_lt, isT_lb, isT_ts, isT_ti, isT_tl, isT_tt, isT_tb, List.getElem?_cons_zero, List.getElem?_cons_succ, List.set_cons_zero, List.set_cons_succ, List.cons_append, List.nil_append, List.length_cons, List.length_nil, dwipe, List.append_nil, List.cons.injEq, exists_eq_left, exists_eq_left', Option.some.injEq, D.str.injEq, D.int.injEq, D.bl.injEq, D.lst.injEq, D.tup.injEq, D.ref.injEq, D.scr.injEq, MO.lst.injEq, MO.ins.injEq, true_and, and_true, if_true, Bool.not_true, Bool.not_false, Bool.false_eq_true, if_false, exists_const, exists_eq, exists_eq', exists_and_left, and_self, reduceCtorEq, decide_true, decide_false, decide_eq_true_eq, Bool.not_eq_true', decide_eq_false_iff_not, and_assoc, Bool.true_or, Bool.or_true, Bool.false_or, Bool.or_false, Bool.true_and, Bool.false_and]
  by_cases h : a = b
  · rw [if_pos h]
    simpa [h] using k
  · rw [if_neg h]
    simpa [h] using k
theorem okb_of {t : List Nat} {n : Int} (h1 : (t.length : Int) ≤ n) (hn : n ≤ 200) (h2 : ∀ c ∈ t, c ∈ ALPH) : okb t = true := okb_iff.mpr ⟨by omega, h2⟩
def P1 (ns : List Int) (a : Addr) (i : Nat) (δ' : DL.Env) (M' : Mem) : Prop := ∃ x2 x3 x4 x5 x6 x7 x8 x9 x10, δ' = [some (.scr ns), some (.ref a), x2, x3, x4, x5, x6, x7, x8, x9, x10] ∧ Row M' a
def P2 (ns : List Int) (a : Addr) (ts : List (List Nat)) (i : Nat) (δ' : DL.Env) (M' : Mem) : Prop := ∃ x2 x3 x4 x5 x7 x8 x9 x10, δ' = [some (.scr ns), some (.ref a), x2, x3, x4, x5, some (.lst (ts.map .str)), x7, x8, x9, x10]
theorem Row.mx {M M' : Mem} {a : Addr} (h : Row M a) (x : Mx M M') : Row M' a := let ⟨ns, i, mx, rest, e, r⟩ := h; ⟨ns, i, mx, rest, x _ _ e, r⟩
theorem c_qq : cs "\"\"" = [34, 34] := by decide +kernel
theorem min_tail {xs : List (List Nat)} {M : Mem} {Q : QE} {a0 a1 a2 a3 a4 a5 a6 a7 a8 a9 a10 : Option D} (h1 : xs ≠ []) (h2 : xs.length ≤ 1000000) (h3 : ∀ x ∈ xs, x.length ≤ 1000000) (k : ∀ m, Best m (· ∈ xs) → Q (.str m) M) :
    LcB (gNm 5) dYes (dTup (dCons (dCB aLen (dCons (dVar 5) dNil)) (dCons (dVar 5) dNil))) [5] [a0, a1, a2, a3, a4, a5, a6, a7, a8, a9, a10] (xs.map .str) M (fun x M1 => aMinL [vw M1 x] M1 fun x M2 => aIx (vw M2 x) (.int 1) M2 Q) := by
  refine lc_pure (fun d => match d with | .str l => pr l | d => d) (by rw [List.length_map]; omega) (fun d R hd kk => ?_) ?_
  · obtain ⟨l, hl, rfl⟩ := List.mem_map.mp hd
    have := h3 l hl
    simp only [dSeq, dIfS, dNot, dTru, dB, dCB, dOp, dCons, dNil, dVar, dC, dNever, dNext, dRet, dRetN, dAsg, gNm, dAndV, dOrV, dNotV, dAnd, dOr, dIf, dLst, dLstM, dTup, dFld, dSetF, dAugF, dAug, dDrop, dAppend, dExtend, dPop, dPopAt, dPar, dPar3, dCall, dMeth, dMake, dJoin, dSl, dNo, dPart, dSeqI, dRange1, dRange2, dRange3, dEnum, dRevS, dRevL, dIsi2, dYes, dUn, dSetIx, dBreak, dCont, dChain, dFrz, e_vw1, e_vw2, e_vw3, e_vw4, e_vw5, e_vw6, e_vw7, e_vw8, e_vws0, e_vws1, e_gC, e_gN, e_gT, e_eq1, e_eq2, e_eq3, e_eq4, e_eq5, e_ne1, e_ne2, e_ne3, e_ne4, e_ne5, e_lt, e_gt, e_le, e_ge, e_in1, e_in2, e_in3, e_in4, e_in5, e_in6, e_add1, e_add2, e_add3, e_add4, e_iadd1, e_iadd2, e_sub, e_mul1, e_mul2, e_mulS, e_mulM, e_mod, e_div, e_pow, e_neg, e_ix1, e_ix2, e_ix3, e_ix4, e_sl1, e_sl2, e_sl3, e_sl4, e_len1, e_len2, e_len3, e_len4, e_int1, e_int2, e_tru1, e_tru2, e_tru3, e_tru4, e_tru5, e_tru6, e_okS1, e_okS2, e_okS3, e_okS4, e_okS5, e_okS6, e_ty1, e_ty2, e_ty3, e_ty4, e_ty5, e_ty6, e_ty7, e_isi1, e_isi2, e_isi3, e_isi4, e_isi5, e_isi6, e_isi7, e_isi8, e_isi9, e_isi10, e_isi11, e_isi12, e_isi13, e_isi14, e_isi15, e_isi16, e_isi17, e_frz1, e_frz2, e_frz3, e_frz4, e_it1, e_it2, e_it3, e_it4, isT_ss, isT_si, isT_sl, isT_st, isT_sb, isT_is, isT_ii, isT_il, isT_it, isT_ib, isT_bs, isT_bi, isT_bl, isT_bt, isT_bb, isT_ls, isT_li, isT_ll, isT_lt, isT_lb, isT_ts, isT_ti, isT_tl, isT_tt, isT_tb, List.getElem?_cons_zero, List.getElem?_cons_succ, List.set_cons_zero, List.set_cons_succ, List.cons_append, List.nil_append, List.length_cons, List.length_nil, dwipe, List.append_nil, List.cons.injEq, exists_eq_left, exists_eq_left', Option.some.injEq, D.str.injEq, D.int.injEq, D.bl.injEq, D.lst.injEq, D.tup.injEq, D.ref.injEq, D.scr.injEq, MO.lst.injEq, MO.ins.injEq, true_and, and_true, if_true, Bool.not_true, Bool.not_false, Bool.false_eq_true, if_false, exists_const, exists_eq, exists_eq', exists_and_left, and_self, reduceCtorEq, decide_true, decide_false, decide_eq_true_eq, Bool.not_eq_true', decide_eq_false_iff_not, and_assoc, Bool.true_or, Bool.or_true, Bool.false_or, Bool.or_false, Bool.true_and, Bool.false_and]
    exact ⟨by omega, by decide, kk⟩
  · have e : (xs.map D.str).map (fun d => match d with | .str l => pr l | d => d) = xs.map pr := by
      rw [List.map_map]
      rfl
    rw [e]
    simp only [dSeq, dIfS, dNot, dTru, dB, dCB, dOp, dCons, dNil, dVar, dC, dNever, dNext, dRet, dRetN, dAsg, gNm, dAndV, dOrV, dNotV, dAnd, dOr, dIf, dLst, dLstM, dTup, dFld, dSetF, dAugF, dAug, dDrop, dAppend, dExtend, dPop, dPopAt, dPar, dPar3, dCall, dMeth, dMake, dJoin, dSl, dNo, dPart, dSeqI, dRange1, dRange2, dRange3, dEnum, dRevS, dRevL, dIsi2, dYes, dUn, dSetIx, dBreak, dCont, dChain, dFrz, e_vw1, e_vw2, e_vw3, e_vw4, e_vw5, e_vw6, e_vw7, e_vw8, e_vws0, e_vws1, e_gC, e_gN, e_gT, e_eq1, e_eq2, e_eq3, e_eq4, e_eq5, e_ne1, e_ne2, e_ne3, e_ne4, e_ne5, e_lt, e_gt, e_le, e_ge, e_in1, e_in2, e_in3, e_in4, e_in5, e_in6, e_add1, e_add2, e_add3, e_add4, e_iadd1, e_iadd2, e_sub, e_mul1, e_mul2, e_mulS, e_mulM, e_mod, e_div, e_pow, e_neg, e_ix1, e_ix2, e_ix3, e_ix4, e_sl1, e_sl2, e_sl3, e_sl4, e_len1, e_len2, e_len3, e_len4, e_int1, e_int2, e_tru1, e_tru2, e_tru3, e_tru4, e_tru5, e_tru6, e_okS1, e_okS2, e_okS3, e_okS4, e_okS5, e_okS6, e_ty1, e_ty2, e_ty3, e_ty4, e_ty5, e_ty6, e_ty7, e_isi1, e_isi2, e_isi3, e_isi4, e_isi5, e_isi6, e_isi7, e_isi8, e_isi9, e_isi10, e_isi11, e_isi12, e_isi13, e_isi14, e_isi15, e_isi16, e_isi17, e_frz1, e_frz2, e_frz3, e_frz4, e_it1, e_it2, e_it3, e_it4, isT_ss, isT_si, isT_sl, isT_st, isT_sb, isT_is, isT_ii, isT_il, isT_it, isT_ib, isT_bs, isT_bi, isT_bl, isT_bt, isT_bb, isT_ls, isT_li, isT_ll, isT_lt, isT_lb, isT_ts, isT_ti, isT_tl, isT_tt, isT_tb, List.getElem?_cons_zero, List.getElem?_cons_succ, List.set_cons_zero, List.set_cons_succ, List.cons_append, List.nil_append, List.length_cons, List.length_nil, dwipe, List.append_nil, List.cons.injEq, exists_eq_left, exists_eq_left', Option.some.injEq, D.str.injEq, D.int.injEq, D.bl.injEq, D.lst.injEq, D.tup.injEq, D.ref.injEq, D.scr.injEq, MO.lst.injEq, MO.ins.injEq, true_and, and_true, if_true, Bool.not_true, Bool.not_false, Bool.false_eq_true, if_false, exists_const, exists_eq, exists_eq', exists_and_left, and_self, reduceCtorEq, decide_true, decide_false, decide_eq_true_eq, Bool.not_eq_true', decide_eq_false_iff_not, and_assoc, Bool.true_or, Bool.or_true, Bool.false_or, Bool.or_false, Bool.true_and, Bool.false_and]
    refine min_prs h1 fun m hm => ?_
    unfold pr
    simp only [dSeq, dIfS, dNot, dTru, dB, dCB, dOp, dCons, dNil, dVar, dC, dNever, dNext, dRet, dRetN, dAsg, gNm, dAndV, dOrV, dNotV, dAnd, dOr, dIf, dLst, dLstM, dTup, dFld, dSetF, dAugF, dAug, dDrop, dAppend, dExtend, dPop, dPopAt, dPar, dPar3, dCall, dMeth, dMake, dJoin, dSl, dNo, dPart, dSeqI, dRange1, dRange2, dRange3, dEnum, dRevS, dRevL, dIsi2, dYes, dUn, dSetIx, dBreak, dCont, dChain, dFrz, e_vw1, e_vw2, e_vw3, e_vw4, e_vw5, e_vw6, e_vw7, e_vw8, e_vws0, e_vws1, e_gC, e_gN, e_gT, e_eq1, e_eq2, e_eq3, e_eq4, e_eq5, e_ne1, e_ne2, e_ne3, e_ne4, e_ne5, e_lt, e_gt, e_le, e_ge, e_in1, e_in2, e_in3, e_in4, e_in5, e_in6, e_add1, e_add2, e_add3, e_add4, e_iadd1, e_iadd2, e_sub, e_mul1, e_mul2, e_mulS, e_mulM, e_mod, e_div, e_pow, e_neg, e_ix1, e_ix2, e_ix3, e_ix4, e_sl1, e_sl2, e_sl3, e_sl4, e_len1, e_len2, e_len3, e_len4, e_int1, e_int2, e_tru1, e_tru2, e_tru3, e_tru4, e_tru5, e_tru6, e_okS1, e_okS2, e_okS3, e_okS4, e_okS5, e_okS6, e_ty1, e_ty2, e_ty3, e_ty4, e_ty5, e_ty6, e_ty7, e_isi1, e_isi2, e_isi3, e_isi4, e_isi5, e_isi6, e_isi7, e_isi8, e_isi9, e_isi10, e_isi11, e_isi12, e_isi13, e_isi14, e_isi15, e_isi16, e_isi17, e_frz1, e_frz2, e_frz3, e_frz4, e_it1, e_it2, e_it3, e_it4, isT_ss, isT_si, isT_sl, isT_st, isT_sb, isT_is, isT_ii, isT_il, isT_it, isT_ib, isT_bs, isT_bi, isT_bl, isT_bt, isT_bb, isT_ls, isT_li, isT_ll, isT_lt, isT_lb, isT_ts, isT_ti, isT_tl, isT_tt, isT_tb, List.getElem?_cons_zero, List.getElem?_cons_succ, List.set_cons_zero, List.set_cons_succ, List.cons_append, List.nil_append, List.length_cons, List.length_nil, dwipe, List.append_nil, List.cons.injEq, exists_eq_left, exists_eq_left', Option.some.injEq, D.str.injEq, D.int.injEq, D.bl.injEq, D.lst.injEq, D.tup.injEq, D.ref.injEq, D.scr.injEq, MO.lst.injEq, MO.ins.injEq, true_and, and_true, if_true, Bool.not_true, Bool.not_false, Bool.false_eq_true, if_false, exists_const, exists_eq, exists_eq', exists_and_left, and_self, reduceCtorEq, decide_true, decide_false, decide_eq_true_eq, Bool.not_eq_true', decide_eq_false_iff_not, and_assoc, Bool.true_or, Bool.or_true, Bool.false_or, Bool.or_false, Bool.true_and, Bool.false_and]
    exact ⟨_, rfl, k m hm⟩
theorem allWays_b (t : List Nat) (h : t.length ≤ 4) : (allWays t).length ≤ 1000000 ∧ ∀ x ∈ allWays t, x.length ≤ 1000000 := by
  unfold allWays
  split
  · simp
  · have W := ways_b t
    have h1 := W.n [] (.inl rfl)
    have h2 : 12 ^ t.length ≤ 12 ^ 4 := Nat.pow_le_pow_right (by decide) h
    refine ⟨by omega, fun x hx => ?_⟩
    have := W.k [] (.inl rfl) x hx
    omega
def simp1 (t : List Nat) : List (List Nat) := t.map fun c => (List.replicate (if c = 34 ∨ c = 92 then (1 : Int) else 0).toNat [92]).flatten ++ [c]
theorem simp1_len (t : List Nat) : (simp1 t).flatten.length = t.length + Lx.n1 t := by
  induction t with
  | nil => rfl
  | cons c t ih =>
    rw [Lx.n1_c]
    unfold simp1 at ih ⊢
    rw [List.map_cons, List.flatten_cons, List.length_append, ih]
    by_cases h : c = 34 ∨ c = 92
    · rw [if_pos h, if_pos h]; simp; omega
    · rw [if_neg h, if_neg h]; simp; omega
theorem joinL_cons (s w v : List Nat) (vs : List (List Nat)) : TL.joinL s (w :: v :: vs) = w ++ s ++ TL.joinL s (v :: vs) := by
  first | rfl | simp [TL.joinL]
theorem joinL_len (s : List Nat) : ∀ ws : List (List Nat), (TL.joinL s ws).length ≤ (ws.map (·.length)).sum + ws.length * s.length
  | [] => by simp [TL.joinL]
  | [w] => by simp [TL.joinL]
  | w :: v :: vs => by
    have := joinL_len s (v :: vs)
    rw [joinL_cons]
    simp only [List.length_append, List.map_cons, List.sum_cons, List.length_cons, Nat.succ_mul] at this ⊢
    omega
theorem spl_join : ∀ {ts ws : List (List Nat)}, Paired Lx.Quo ts ws → Lx.spl (TL.joinL [32] ws) = .ok ts
  | _, _, .nil => by simp [TL.joinL, Lx.spl_nil]
  | _, _, .cons (l₁ := ts) (l₂ := ws) r h => by
    cases h with
    | nil =>
      have e : ∀ w : List Nat, TL.joinL [32] [w] = w ++ [] := fun w => by simp [TL.joinL]
      rw [e, r.spl (.inl rfl), Lx.spl_nil]
      rfl
    | cons r2 h2 =>
      rw [joinL_cons, List.append_assoc, r.spl (.inr rfl)]
      simp only [List.cons_append, List.nil_append]
      rw [Lx.spl_sp, spl_join (.cons r2 h2)]
      rfl
theorem pls_strs (ts : List (List Nat)) : pls (ts.map .str) = true := by
  rw [pls_all, List.all_eq_true]
  intro d hd
  obtain ⟨t, _, rfl⟩ := List.mem_map.mp hd
  rfl
theorem depth_strs : ∀ ts : List (List Nat), PyData.depthAll (pys (ts.map .str)) ≤ 10
  | [] => by simp [pys, PyData.depthAll]
  | t :: ts => by
    have h := depth_strs ts
    simp only [List.map_cons, pys, PyData.depthAll, py, PyData.depth] at h ⊢
    omega
theorem sm_strs (ts : List (List Nat)) : sm (.lst (ts.map .str)) := by
  refine ⟨by rw [pl]; exact pls_strs ts, ?_⟩
  have := depth_strs ts
  simp only [py, PyData.depth]
  omega
theorem deq_strs (ts : List (List Nat)) : deq (.lst (ts.map .str)) (.lst (ts.map .str)) = true := by
  unfold deq
  simp only [py]
  have : ∀ ts : List (List Nat), PyData.eqvAll (pys (ts.map .str)) (pys (ts.map .str)) = true := by
    intro ts
    induction ts with
    | nil => simp [pys, PyData.eqvAll]
    | cons t ts ih =>
      simp only [List.map_cons, pys]
      rw [PySem.W.eqv_all_cons, ih, Bool.and_true]
      have := deq_str t t
      unfold deq at this
      rw [this]
      simp
  rw [PyData.eqv]
  exact this ts
structure Chs (t : List Nat) (q : Lx.Qs) : Prop where
  p : ∀ x ∈ q.p, x ∈ t ∨ x = 34 ∨ x = 39 ∨ x = 92
  s : ∀ x ∈ q.s, x ∈ t ∨ x = 34 ∨ x = 39 ∨ x = 92
  d : ∀ x ∈ q.d, x ∈ t ∨ x = 34 ∨ x = 39 ∨ x = 92
theorem table_chs {t : List Nat} {q : Lx.Qs} (h : Lx.Table t q) : Chs t q := by
  induction h with
  | nil => exact ⟨by simp, by simp, by simp⟩
  | @cons c t q q' _ k ih =>
    have up : ∀ {l : List Nat}, (∀ x ∈ l, x ∈ t ∨ x = 34 ∨ x = 39 ∨ x = 92) → ∀ x ∈ l, x ∈ c :: t ∨ x = 34 ∨ x = 39 ∨ x = 92 := fun h x hx => (h x hx).imp (List.mem_cons_of_mem _) id
    have hp := up ih.p
    have hs := up ih.s
    have hd := up ih.d
    have D : ∀ w ∈ Lx.inD c q.d, ∀ x ∈ w, x ∈ c :: t ∨ x = 34 ∨ x = 39 ∨ x = 92 := fun w hw x hx => by
      unfold Lx.inD at hw
      rcases List.mem_append.mp hw with hw | hw
      · simp at hw
        subst hw
        rcases List.mem_cons.mp hx with e | hx
        · exact .inr (.inr (.inr e))
        · rcases List.mem_cons.mp hx with e | hx
          · exact .inl (by simp [e])
          · exact hd x hx
      · split at hw
        · simp at hw
          subst hw
          rcases List.mem_cons.mp hx with e | hx
          · exact .inl (by simp [e])
          · exact hd x hx
        · cases hw
    have S : ∀ w ∈ Lx.inS c q.s, ∀ x ∈ w, x ∈ c :: t ∨ x = 34 ∨ x = 39 ∨ x = 92 := fun w hw x hx => by
      unfold Lx.inS at hw
      split at hw
      · simp at hw
        subst hw
        rcases List.mem_cons.mp hx with e | hx
        · exact .inl (by simp [e])
        · exact hs x hx
      · cases hw
    have P : ∀ x ∈ q'.p, x ∈ c :: t ∨ x = 34 ∨ x = 39 ∨ x = 92 := fun x hx => by
      have m := k.p.1
      unfold Lx.outs at m
      rcases List.mem_append.mp m with m | m
      · rcases List.mem_append.mp m with m | m
        · simp at m
          rw [m] at hx
          rcases List.mem_cons.mp hx with e | hx
          · exact .inr (.inr (.inr e))
          · rcases List.mem_cons.mp hx with e | hx
            · exact .inl (by simp [e])
            · exact hp x hx
        · split at m
          · simp at m
            rw [m] at hx
            rcases List.mem_cons.mp hx with e | hx
            · exact .inl (by simp [e])
            · exact hp x hx
          · cases m
      · rcases List.mem_append.mp m with m | m
        · obtain ⟨w, hw, e⟩ := List.mem_map.mp m
          rw [← e] at hx
          rcases List.mem_cons.mp hx with e | hx
          · exact .inr (.inr (.inl e))
          · exact S w hw x hx
        · obtain ⟨w, hw, e⟩ := List.mem_map.mp m
          rw [← e] at hx
          rcases List.mem_cons.mp hx with e | hx
          · exact .inr (.inl e)
          · exact D w hw x hx
    refine ⟨P, fun x hx => ?_, fun x hx => ?_⟩
    · rcases List.mem_append.mp k.s.1 with m | m
      · exact S _ m x hx
      · simp at m
        rw [m] at hx
        rcases List.mem_cons.mp hx with e | hx
        · exact .inr (.inr (.inl e))
        · exact P x hx
    · rcases List.mem_append.mp k.d.1 with m | m
      · exact D _ m x hx
      · simp at m
        rw [m] at hx
        rcases List.mem_cons.mp hx with e | hx
        · exact .inr (.inl e)
        · exact P x hx
theorem quo_chs {t w : List Nat} (h : Lx.Quo t w) : ∀ x ∈ w, x ∈ t ∨ x = 34 ∨ x = 39 ∨ x = 92 := by
  cases h with
  | nil => simp
  | cons h => exact (table_chs h).p
theorem alph3 : 34 ∈ ALPH ∧ 39 ∈ ALPH ∧ 92 ∈ ALPH ∧ 32 ∈ ALPH := by decide +kernel
theorem quo_alph {t w : List Nat} (h : Lx.Quo t w) (k : ∀ c ∈ t, c ∈ ALPH) : ∀ c ∈ w, c ∈ ALPH := fun c hc => by
  rcases quo_chs h c hc with h | rfl | rfl | rfl
  · exact k c h
  · exact alph3.1
  · exact alph3.2.1
  · exact alph3.2.2.1
theorem quo_37 {t w : List Nat} (h : Lx.Quo t w) (k : t.length ≤ 20) : w.length ≤ 37 := by
  have := h.len1
  have := h.len2
  have := Lx.n12 t
  omega
theorem joinL_alph : ∀ {ws : List (List Nat)}, (∀ w ∈ ws, ∀ c ∈ w, c ∈ ALPH) → ∀ c ∈ TL.joinL [32] ws, c ∈ ALPH
  | [], _, c, h => by simp [TL.joinL] at h
  | [w], k, c, h => by
    have e : TL.joinL [32] [w] = w := by simp [TL.joinL]
    rw [e] at h
    exact k w (by simp) c h
  | w :: v :: vs, k, c, h => by
    rw [joinL_cons] at h
    rcases List.mem_append.mp h with h | h
    · rcases List.mem_append.mp h with h | h
      · exact k w (by simp) c h
      · simp at h; rw [h]; exact alph3.2.2.2
    · exact joinL_alph (fun x hx => k x (List.mem_cons_of_mem _ hx)) c h
theorem paired_all {ts ws : List (List Nat)} (h : Paired Lx.Quo ts ws) {F G : List Nat → Prop} (k : ∀ t w, Lx.Quo t w → F t → G w) (hF : ∀ t ∈ ts, F t) : ∀ w ∈ ws, G w := by
  induction h with
  | nil => intro w hw; cases hw
  | cons r _ ih =>
    intro w hw
    rcases List.mem_cons.mp hw with rfl | hw
    · exact k _ _ r (hF _ (List.mem_cons_self ..))
    · exact ih (fun t ht => hF t (List.mem_cons_of_mem _ ht)) w hw
theorem quo_uni {t w w' : List Nat} (h : Lx.Quo t w) (h' : Lx.Quo t w') : w = w' := by
  obtain ⟨m, hm⟩ := best_ex (allWays_ne h)
  exact (quo_best h hm).symm.trans (quo_best h' hm)
theorem paired_uni : ∀ {ts ws ws' : List (List Nat)}, Paired Lx.Quo ts ws → Paired Lx.Quo ts ws' → ws = ws'
  | _, _, _, .nil, .nil => rfl
  | _, _, _, .cons a b, .cons c d => by rw [quo_uni a c, paired_uni b d]
theorem rk_law {ds M Q Qx} (h : spLaw 63 ds M Q Qx) : rd_law sp__law_word (sp__law_ways 4) sp__law_alike sp_quote sp__law_taken sp_split_line sp_join_line (fin Q Qx) (dstart 11 ds) M := by
  obtain ⟨ns, rfl, hl, k⟩ := h
  show rd_law _ _ _ _ _ _ _ _ [some (.scr ns), none, none, none, none, none, none, none, none, none, none] M
  simp only [rd_law, u_for, u_lc, dSeq, dIfS, dNot, dTru, dB, dCB, dOp, dCons, dNil, dVar, dC, dNever, dNext, dRet, dRetN, dAsg, gNm, dAndV, dOrV, dNotV, dAnd, dOr, dIf, dLst, dLstM, dTup, dFld, dSetF, dAugF, dAug, dDrop, dAppend, dExtend, dPop, dPopAt, dPar, dPar3, dCall, dMeth, dMake, dJoin, dSl, dNo, dPart, dSeqI, dRange1, dRange2, dRange3, dEnum, dRevS, dRevL, dIsi2, dYes, dUn, dSetIx, dBreak, dCont, dChain, dFrz, e_vw1, e_vw2, e_vw3, e_vw4, e_vw5, e_vw6, e_vw7, e_vw8, e_vws0, e_vws1, e_gC, e_gN, e_gT, e_eq1, e_eq2, e_eq3, e_eq4, e_eq5, e_ne1, e_ne2, e_ne3, e_ne4, e_ne5, e_lt, e_gt, e_le, e_ge, e_in1, e_in2, e_in3, e_in4, e_in5, e_in6, e_add1, e_add2, e_add3, e_add4, e_iadd1, e_iadd2, e_sub, e_mul1, e_mul2, e_mulS, e_mulM, e_mod, e_div, e_pow, e_neg, e_ix1, e_ix2, e_ix3, e_ix4, e_sl1, e_sl2, e_sl3, e_sl4, e_len1, e_len2, e_len3, e_len4, e_int1, e_int2, e_tru1, e_tru2, e_tru3, e_tru4, e_tru5, e_tru6, e_okS1, e_okS2, e_okS3, e_okS4, e_okS5, e_okS6, e_ty1, e_ty2, e_ty3, e_ty4, e_ty5, e_ty6, e_ty7, e_isi1, e_isi2, e_isi3, e_isi4, e_isi5, e_isi6, e_isi7, e_isi8, e_isi9, e_isi10, e_isi11, e_isi12, e_isi13, e_isi14, e_isi15, e_isi16, e_isi17, e_frz1, e_frz2, e_frz3, e_frz4, e_it1, e_it2, e_it3, e_it4, isT_ss, isT_si, isT_sl, isT_st, isT_sb, isT_is, isT_ii, isT_il, isT_it, isT_ib, isT_bs, isT_bi, isT_bl, isT_bt, isT_bb, isT_ls, isT_li, isT_ll, isT_lt, isT_lb, isT_ts, isT_ti, isT_tl, isT_tt, isT_tb, List.getElem?_cons_zero, List.getElem?_cons_succ, List.set_cons_zero, List.set_cons_succ, List.cons_append, List.nil_append, List.length_cons, List.length_nil, dwipe, List.append_nil, List.cons.injEq, exists_eq_left, exists_eq_left', Option.some.injEq, D.str.injEq, D.int.injEq, D.bl.injEq, D.lst.injEq, D.tup.injEq, D.ref.injEq, D.scr.injEq, MO.lst.injEq, MO.ins.injEq, true_and, and_true, if_true, Bool.not_true, Bool.not_false, Bool.false_eq_true, if_false, exists_const, exists_eq, exists_eq', exists_and_left, and_self, reduceCtorEq, decide_true, decide_false, decide_eq_true_eq, Bool.not_eq_true', decide_eq_false_iff_not, and_assoc, Bool.true_or, Bool.or_true, Bool.false_or, Bool.or_false, Bool.true_and, Bool.false_and, c_em, c_dq, c_sq, c_bs, c_sp, c_2]
  refine ⟨by decide, fun a ha => ⟨by decide, by decide, P1 ns a, ⟨none, none, none, none, none, none, none, none, none, rfl, ns, 0, 0, 0, mset_same, by decide, by decide, by decide⟩, ?_, ?_⟩⟩
  · rintro i d δ' M' hd ⟨x2, x3, x4, x5, x6, x7, x8, x9, x10, rfl, hR⟩
    obtain ⟨_, rfl⟩ := ints_inv hd
    simp only [dSeq, dIfS, dNot, dTru, dB, dCB, dOp, dCons, dNil, dVar, dC, dNever, dNext, dRet, dRetN, dAsg, gNm, dAndV, dOrV, dNotV, dAnd, dOr, dIf, dLst, dLstM, dTup, dFld, dSetF, dAugF, dAug, dDrop, dAppend, dExtend, dPop, dPopAt, dPar, dPar3, dCall, dMeth, dMake, dJoin, dSl, dNo, dPart, dSeqI, dRange1, dRange2, dRange3, dEnum, dRevS, dRevL, dIsi2, dYes, dUn, dSetIx, dBreak, dCont, dChain, dFrz, e_vw1, e_vw2, e_vw3, e_vw4, e_vw5, e_vw6, e_vw7, e_vw8, e_vws0, e_vws1, e_gC, e_gN, e_gT, e_eq1, e_eq2, e_eq3, e_eq4, e_eq5, e_ne1, e_ne2, e_ne3, e_ne4, e_ne5, e_lt, e_gt, e_le, e_ge, e_in1, e_in2, e_in3, e_in4, e_in5, e_in6, e_add1, e_add2, e_add3, e_add4, e_iadd1, e_iadd2, e_sub, e_mul1, e_mul2, e_mulS, e_mulM, e_mod, e_div, e_pow, e_neg, e_ix1, e_ix2, e_ix3, e_ix4, e_sl1, e_sl2, e_sl3, e_sl4, e_len1, e_len2, e_len3, e_len4, e_int1, e_int2, e_tru1, e_tru2, e_tru3, e_tru4, e_tru5, e_tru6, e_okS1, e_okS2, e_okS3, e_okS4, e_okS5, e_okS6, e_ty1, e_ty2, e_ty3, e_ty4, e_ty5, e_ty6, e_ty7, e_isi1, e_isi2, e_isi3, e_isi4, e_isi5, e_isi6, e_isi7, e_isi8, e_isi9, e_isi10, e_isi11, e_isi12, e_isi13, e_isi14, e_isi15, e_isi16, e_isi17, e_frz1, e_frz2, e_frz3, e_frz4, e_it1, e_it2, e_it3, e_it4, isT_ss, isT_si, isT_sl, isT_st, isT_sb, isT_is, isT_ii, isT_il, isT_it, isT_ib, isT_bs, isT_bi, isT_bl, isT_bt, isT_bb, isT_ls, isT_li, isT_ll, isT_lt, isT_lb, isT_ts, isT_ti, isT_tl, isT_tt, isT_tb, List.getElem?_cons_zero, List.getElem?_cons_succ, List.set_cons_zero, List.set_cons_succ, List.cons_append, List.nil_append, List.length_cons, List.length_nil, dwipe, List.append_nil, List.cons.injEq, exists_eq_left, exists_eq_left', Option.some.injEq, D.str.injEq, D.int.injEq, D.bl.injEq, D.lst.injEq, D.tup.injEq, D.ref.injEq, D.scr.injEq, MO.lst.injEq, MO.ins.injEq, true_and, and_true, if_true, Bool.not_true, Bool.not_false, Bool.false_eq_true, if_false, exists_const, exists_eq, exists_eq', exists_and_left, and_self, reduceCtorEq, decide_true, decide_false, decide_eq_true_eq, Bool.not_eq_true', decide_eq_false_iff_not, and_assoc, Bool.true_or, Bool.or_true, Bool.false_or, Bool.or_false, Bool.true_and, Bool.false_and]
    refine ⟨a, 4, rfl, by decide, by decide, hR, fun t M1 t1 t2 R1 m1 => ?_⟩
    have ok := okb_of t1 (by decide) t2
    have fin1 : ∀ (y : D) (x5 : Option D) M3, Mx M1 M3 → P1 ns a (i + 1) [some (D.scr ns), some (D.ref a), some (D.int (0 + ↑i)), some (.str t), some y, x5, x6, x7, x8, x9, x10] M3 := fun y x5 M3 m3 => ⟨_, _, _, _, _, _, _, _, _, rfl, R1.mx m3⟩
    have tl : t.length ≤ 4 := by omega
    obtain ⟨b1, b2⟩ := allWays_b t tl
    simp only [dSeq, dIfS, dNot, dTru, dB, dCB, dOp, dCons, dNil, dVar, dC, dNever, dNext, dRet, dRetN, dAsg, gNm, dAndV, dOrV, dNotV, dAnd, dOr, dIf, dLst, dLstM, dTup, dFld, dSetF, dAugF, dAug, dDrop, dAppend, dExtend, dPop, dPopAt, dPar, dPar3, dCall, dMeth, dMake, dJoin, dSl, dNo, dPart, dSeqI, dRange1, dRange2, dRange3, dEnum, dRevS, dRevL, dIsi2, dYes, dUn, dSetIx, dBreak, dCont, dChain, dFrz, e_vw1, e_vw2, e_vw3, e_vw4, e_vw5, e_vw6, e_vw7, e_vw8, e_vws0, e_vws1, e_gC, e_gN, e_gT, e_eq1, e_eq2, e_eq3, e_eq4, e_eq5, e_ne1, e_ne2, e_ne3, e_ne4, e_ne5, e_lt, e_gt, e_le, e_ge, e_in1, e_in2, e_in3, e_in4, e_in5, e_in6, e_add1, e_add2, e_add3, e_add4, e_iadd1, e_iadd2, e_sub, e_mul1, e_mul2, e_mulS, e_mulM, e_mod, e_div, e_pow, e_neg, e_ix1, e_ix2, e_ix3, e_ix4, e_sl1, e_sl2, e_sl3, e_sl4, e_len1, e_len2, e_len3, e_len4, e_int1, e_int2, e_tru1, e_tru2, e_tru3, e_tru4, e_tru5, e_tru6, e_okS1, e_okS2, e_okS3, e_okS4, e_okS5, e_okS6, e_ty1, e_ty2, e_ty3, e_ty4, e_ty5, e_ty6, e_ty7, e_isi1, e_isi2, e_isi3, e_isi4, e_isi5, e_isi6, e_isi7, e_isi8, e_isi9, e_isi10, e_isi11, e_isi12, e_isi13, e_isi14, e_isi15, e_isi16, e_isi17, e_frz1, e_frz2, e_frz3, e_frz4, e_it1, e_it2, e_it3, e_it4, isT_ss, isT_si, isT_sl, isT_st, isT_sb, isT_is, isT_ii, isT_il, isT_it, isT_ib, isT_bs, isT_bi, isT_bl, isT_bt, isT_bb, isT_ls, isT_li, isT_ll, isT_lt, isT_lb, isT_ts, isT_ti, isT_tl, isT_tt, isT_tb, List.getElem?_cons_zero, List.getElem?_cons_succ, List.set_cons_zero, List.set_cons_succ, List.cons_append, List.nil_append, List.length_cons, List.length_nil, dwipe, List.append_nil, List.cons.injEq, exists_eq_left, exists_eq_left', Option.some.injEq, D.str.injEq, D.int.injEq, D.bl.injEq, D.lst.injEq, D.tup.injEq, D.ref.injEq, D.scr.injEq, MO.lst.injEq, MO.ins.injEq, true_and, and_true, if_true, Bool.not_true, Bool.not_false, Bool.false_eq_true, if_false, exists_const, exists_eq, exists_eq', exists_and_left, and_self, reduceCtorEq, decide_true, decide_false, decide_eq_true_eq, Bool.not_eq_true', decide_eq_false_iff_not, and_assoc, Bool.true_or, Bool.or_true, Bool.false_or, Bool.or_false, Bool.true_and, Bool.false_and, c_qq]
    by_cases h0 : t = []
    · rw [if_pos h0]
      refine ⟨by decide, t, rfl, ok, fun w M3 hw m3 => ?_⟩
      simp only [u_lc, dSeq, dIfS, dNot, dTru, dB, dCB, dOp, dCons, dNil, dVar, dC, dNever, dNext, dRet, dRetN, dAsg, gNm, dAndV, dOrV, dNotV, dAnd, dOr, dIf, dLst, dLstM, dTup, dFld, dSetF, dAugF, dAug, dDrop, dAppend, dExtend, dPop, dPopAt, dPar, dPar3, dCall, dMeth, dMake, dJoin, dSl, dNo, dPart, dSeqI, dRange1, dRange2, dRange3, dEnum, dRevS, dRevL, dIsi2, dYes, dUn, dSetIx, dBreak, dCont, dChain, dFrz, e_vw1, e_vw2, e_vw3, e_vw4, e_vw5, e_vw6, e_vw7, e_vw8, e_vws0, e_vws1, e_gC, e_gN, e_gT, e_eq1, e_eq2, e_eq3, e_eq4, e_eq5, e_ne1, e_ne2, e_ne3, e_ne4, e_ne5, e_lt, e_gt, e_le, e_ge, e_in1, e_in2, e_in3, e_in4, e_in5, e_in6, e_add1, e_add2, e_add3, e_add4, e_iadd1, e_iadd2, e_sub, e_mul1, e_mul2, e_mulS, e_mulM, e_mod, e_div, e_pow, e_neg, e_ix1, e_ix2, e_ix3, e_ix4, e_sl1, e_sl2, e_sl3, e_sl4, e_len1, e_len2, e_len3, e_len4, e_int1, e_int2, e_tru1, e_tru2, e_tru3, e_tru4, e_tru5, e_tru6, e_okS1, e_okS2, e_okS3, e_okS4, e_okS5, e_okS6, e_ty1, e_ty2, e_ty3, e_ty4, e_ty5, e_ty6, e_ty7, e_isi1, e_isi2, e_isi3, e_isi4, e_isi5, e_isi6, e_isi7, e_isi8, e_isi9, e_isi10, e_isi11, e_isi12, e_isi13, e_isi14, e_isi15, e_isi16, e_isi17, e_frz1, e_frz2, e_frz3, e_frz4, e_it1, e_it2, e_it3, e_it4, isT_ss, isT_si, isT_sl, isT_st, isT_sb, isT_is, isT_ii, isT_il, isT_it, isT_ib, isT_bs, isT_bi, isT_bl, isT_bt, isT_bb, isT_ls, isT_li, isT_ll, isT_lt, isT_lb, isT_ts, isT_ti, isT_tl, isT_tt, isT_tb, List.getElem?_cons_zero, List.getElem?_cons_succ, List.set_cons_zero, List.set_cons_succ, List.cons_append, List.nil_append, List.length_cons, List.length_nil, dwipe, List.append_nil, List.cons.injEq, exists_eq_left, exists_eq_left', Option.some.injEq, D.str.injEq, D.int.injEq, D.bl.injEq, D.lst.injEq, D.tup.injEq, D.ref.injEq, D.scr.injEq, MO.lst.injEq, MO.ins.injEq, true_and, and_true, if_true, Bool.not_true, Bool.not_false, Bool.false_eq_true, if_false, exists_const, exists_eq, exists_eq', exists_and_left, and_self, reduceCtorEq, decide_true, decide_false, decide_eq_true_eq, Bool.not_eq_true', decide_eq_false_iff_not, and_assoc, Bool.true_or, Bool.or_true, Bool.false_or, Bool.or_false, Bool.true_and, Bool.false_and]
      have e1 : [D.str [34, 34]] = (allWays t).map D.str := by rw [h0]; rfl
      rw [e1]
      refine min_tail (allWays_ne hw) b1 b2 fun m hm => ⟨w, m, rfl, ?_⟩
      rw [quo_best hw hm]
      simp only [dSeq, dIfS, dNot, dTru, dB, dCB, dOp, dCons, dNil, dVar, dC, dNever, dNext, dRet, dRetN, dAsg, gNm, dAndV, dOrV, dNotV, dAnd, dOr, dIf, dLst, dLstM, dTup, dFld, dSetF, dAugF, dAug, dDrop, dAppend, dExtend, dPop, dPopAt, dPar, dPar3, dCall, dMeth, dMake, dJoin, dSl, dNo, dPart, dSeqI, dRange1, dRange2, dRange3, dEnum, dRevS, dRevL, dIsi2, dYes, dUn, dSetIx, dBreak, dCont, dChain, dFrz, e_vw1, e_vw2, e_vw3, e_vw4, e_vw5, e_vw6, e_vw7, e_vw8, e_vws0, e_vws1, e_gC, e_gN, e_gT, e_eq1, e_eq2, e_eq3, e_eq4, e_eq5, e_ne1, e_ne2, e_ne3, e_ne4, e_ne5, e_lt, e_gt, e_le, e_ge, e_in1, e_in2, e_in3, e_in4, e_in5, e_in6, e_add1, e_add2, e_add3, e_add4, e_iadd1, e_iadd2, e_sub, e_mul1, e_mul2, e_mulS, e_mulM, e_mod, e_div, e_pow, e_neg, e_ix1, e_ix2, e_ix3, e_ix4, e_sl1, e_sl2, e_sl3, e_sl4, e_len1, e_len2, e_len3, e_len4, e_int1, e_int2, e_tru1, e_tru2, e_tru3, e_tru4, e_tru5, e_tru6, e_okS1, e_okS2, e_okS3, e_okS4, e_okS5, e_okS6, e_ty1, e_ty2, e_ty3, e_ty4, e_ty5, e_ty6, e_ty7, e_isi1, e_isi2, e_isi3, e_isi4, e_isi5, e_isi6, e_isi7, e_isi8, e_isi9, e_isi10, e_isi11, e_isi12, e_isi13, e_isi14, e_isi15, e_isi16, e_isi17, e_frz1, e_frz2, e_frz3, e_frz4, e_it1, e_it2, e_it3, e_it4, isT_ss, isT_si, isT_sl, isT_st, isT_sb, isT_is, isT_ii, isT_il, isT_it, isT_ib, isT_bs, isT_bi, isT_bl, isT_bt, isT_bb, isT_ls, isT_li, isT_ll, isT_lt, isT_lb, isT_ts, isT_ti, isT_tl, isT_tt, isT_tb, List.getElem?_cons_zero, List.getElem?_cons_succ, List.set_cons_zero, List.set_cons_succ, List.cons_append, List.nil_append, List.length_cons, List.length_nil, dwipe, List.append_nil, List.cons.injEq, exists_eq_left, exists_eq_left', Option.some.injEq, D.str.injEq, D.int.injEq, D.bl.injEq, D.lst.injEq, D.tup.injEq, D.ref.injEq, D.scr.injEq, MO.lst.injEq, MO.ins.injEq, true_and, and_true, if_true, Bool.not_true, Bool.not_false, Bool.false_eq_true, if_false, exists_const, exists_eq, exists_eq', exists_and_left, and_self, reduceCtorEq, decide_true, decide_false, decide_eq_true_eq, Bool.not_eq_true', decide_eq_false_iff_not, and_assoc, Bool.true_or, Bool.or_true, Bool.false_or, Bool.or_false, Bool.true_and, Bool.false_and]
      exact fin1 _ _ M3 m3
    · rw [if_neg h0]
      refine ⟨t, [], rfl, tl, by decide, .inl rfl, fun M2 m2 => ⟨t, rfl, ok, fun w M3 hw m3 => ?_⟩⟩
      simp only [u_lc, dSeq, dIfS, dNot, dTru, dB, dCB, dOp, dCons, dNil, dVar, dC, dNever, dNext, dRet, dRetN, dAsg, gNm, dAndV, dOrV, dNotV, dAnd, dOr, dIf, dLst, dLstM, dTup, dFld, dSetF, dAugF, dAug, dDrop, dAppend, dExtend, dPop, dPopAt, dPar, dPar3, dCall, dMeth, dMake, dJoin, dSl, dNo, dPart, dSeqI, dRange1, dRange2, dRange3, dEnum, dRevS, dRevL, dIsi2, dYes, dUn, dSetIx, dBreak, dCont, dChain, dFrz, e_vw1, e_vw2, e_vw3, e_vw4, e_vw5, e_vw6, e_vw7, e_vw8, e_vws0, e_vws1, e_gC, e_gN, e_gT, e_eq1, e_eq2, e_eq3, e_eq4, e_eq5, e_ne1, e_ne2, e_ne3, e_ne4, e_ne5, e_lt, e_gt, e_le, e_ge, e_in1, e_in2, e_in3, e_in4, e_in5, e_in6, e_add1, e_add2, e_add3, e_add4, e_iadd1, e_iadd2, e_sub, e_mul1, e_mul2, e_mulS, e_mulM, e_mod, e_div, e_pow, e_neg, e_ix1, e_ix2, e_ix3, e_ix4, e_sl1, e_sl2, e_sl3, e_sl4, e_len1, e_len2, e_len3, e_len4, e_int1, e_int2, e_tru1, e_tru2, e_tru3, e_tru4, e_tru5, e_tru6, e_okS1, e_okS2, e_okS3, e_okS4, e_okS5, e_okS6, e_ty1, e_ty2, e_ty3, e_ty4, e_ty5, e_ty6, e_ty7, e_isi1, e_isi2, e_isi3, e_isi4, e_isi5, e_isi6, e_isi7, e_isi8, e_isi9, e_isi10, e_isi11, e_isi12, e_isi13, e_isi14, e_isi15, e_isi16, e_isi17, e_frz1, e_frz2, e_frz3, e_frz4, e_it1, e_it2, e_it3, e_it4, isT_ss, isT_si, isT_sl, isT_st, isT_sb, isT_is, isT_ii, isT_il, isT_it, isT_ib, isT_bs, isT_bi, isT_bl, isT_bt, isT_bb, isT_ls, isT_li, isT_ll, isT_lt, isT_lb, isT_ts, isT_ti, isT_tl, isT_tt, isT_tb, List.getElem?_cons_zero, List.getElem?_cons_succ, List.set_cons_zero, List.set_cons_succ, List.cons_append, List.nil_append, List.length_cons, List.length_nil, dwipe, List.append_nil, List.cons.injEq, exists_eq_left, exists_eq_left', Option.some.injEq, D.str.injEq, D.int.injEq, D.bl.injEq, D.lst.injEq, D.tup.injEq, D.ref.injEq, D.scr.injEq, MO.lst.injEq, MO.ins.injEq, true_and, and_true, if_true, Bool.not_true, Bool.not_false, Bool.false_eq_true, if_false, exists_const, exists_eq, exists_eq', exists_and_left, and_self, reduceCtorEq, decide_true, decide_false, decide_eq_true_eq, Bool.not_eq_true', decide_eq_false_iff_not, and_assoc, Bool.true_or, Bool.or_true, Bool.false_or, Bool.or_false, Bool.true_and, Bool.false_and]
      have e1 : (ways t []).map D.str = (allWays t).map D.str := by rw [allWays, if_neg h0]
      rw [e1]
      refine min_tail (allWays_ne hw) b1 b2 fun m hm => ⟨w, m, rfl, ?_⟩
      rw [quo_best hw hm]
      simp only [dSeq, dIfS, dNot, dTru, dB, dCB, dOp, dCons, dNil, dVar, dC, dNever, dNext, dRet, dRetN, dAsg, gNm, dAndV, dOrV, dNotV, dAnd, dOr, dIf, dLst, dLstM, dTup, dFld, dSetF, dAugF, dAug, dDrop, dAppend, dExtend, dPop, dPopAt, dPar, dPar3, dCall, dMeth, dMake, dJoin, dSl, dNo, dPart, dSeqI, dRange1, dRange2, dRange3, dEnum, dRevS, dRevL, dIsi2, dYes, dUn, dSetIx, dBreak, dCont, dChain, dFrz, e_vw1, e_vw2, e_vw3, e_vw4, e_vw5, e_vw6, e_vw7, e_vw8, e_vws0, e_vws1, e_gC, e_gN, e_gT, e_eq1, e_eq2, e_eq3, e_eq4, e_eq5, e_ne1, e_ne2, e_ne3, e_ne4, e_ne5, e_lt, e_gt, e_le, e_ge, e_in1, e_in2, e_in3, e_in4, e_in5, e_in6, e_add1, e_add2, e_add3, e_add4, e_iadd1, e_iadd2, e_sub, e_mul1, e_mul2, e_mulS, e_mulM, e_mod, e_div, e_pow, e_neg, e_ix1, e_ix2, e_ix3, e_ix4, e_sl1, e_sl2, e_sl3, e_sl4, e_len1, e_len2, e_len3, e_len4, e_int1, e_int2, e_tru1, e_tru2, e_tru3, e_tru4, e_tru5, e_tru6, e_okS1, e_okS2, e_okS3, e_okS4, e_okS5, e_okS6, e_ty1, e_ty2, e_ty3, e_ty4, e_ty5, e_ty6, e_ty7, e_isi1, e_isi2, e_isi3, e_isi4, e_isi5, e_isi6, e_isi7, e_isi8, e_isi9, e_isi10, e_isi11, e_isi12, e_isi13, e_isi14, e_isi15, e_isi16, e_isi17, e_frz1, e_frz2, e_frz3, e_frz4, e_it1, e_it2, e_it3, e_it4, isT_ss, isT_si, isT_sl, isT_st, isT_sb, isT_is, isT_ii, isT_il, isT_it, isT_ib, isT_bs, isT_bi, isT_bl, isT_bt, isT_bb, isT_ls, isT_li, isT_ll, isT_lt, isT_lb, isT_ts, isT_ti, isT_tl, isT_tt, isT_tb, List.getElem?_cons_zero, List.getElem?_cons_succ, List.set_cons_zero, List.set_cons_succ, List.cons_append, List.nil_append, List.length_cons, List.length_nil, dwipe, List.append_nil, List.cons.injEq, exists_eq_left, exists_eq_left', Option.some.injEq, D.str.injEq, D.int.injEq, D.bl.injEq, D.lst.injEq, D.tup.injEq, D.ref.injEq, D.scr.injEq, MO.lst.injEq, MO.ins.injEq, true_and, and_true, if_true, Bool.not_true, Bool.not_false, Bool.false_eq_true, if_false, exists_const, exists_eq, exists_eq', exists_and_left, and_self, reduceCtorEq, decide_true, decide_false, decide_eq_true_eq, Bool.not_eq_true', decide_eq_false_iff_not, and_assoc, Bool.true_or, Bool.or_true, Bool.false_or, Bool.or_false, Bool.true_and, Bool.false_and]
      exact fin1 _ _ M3 (m2.trans m3)
  · rintro δ' M' ⟨x2, x3, x4, x5, x6, x7, x8, x9, x10, rfl, hR⟩
    simp only [dSeq, dIfS, dNot, dTru, dB, dCB, dOp, dCons, dNil, dVar, dC, dNever, dNext, dRet, dRetN, dAsg, gNm, dAndV, dOrV, dNotV, dAnd, dOr, dIf, dLst, dLstM, dTup, dFld, dSetF, dAugF, dAug, dDrop, dAppend, dExtend, dPop, dPopAt, dPar, dPar3, dCall, dMeth, dMake, dJoin, dSl, dNo, dPart, dSeqI, dRange1, dRange2, dRange3, dEnum, dRevS, dRevL, dIsi2, dYes, dUn, dSetIx, dBreak, dCont, dChain, dFrz, e_vw1, e_vw2, e_vw3, e_vw4, e_vw5, e_vw6, e_vw7, e_vw8, e_vws0, e_vws1, e_gC, e_gN, e_gT, e_eq1, e_eq2, e_eq3, e_eq4, e_eq5, e_ne1, e_ne2, e_ne3, e_ne4, e_ne5, e_lt, e_gt, e_le, e_ge, e_in1, e_in2, e_in3, e_in4, e_in5, e_in6, e_add1, e_add2, e_add3, e_add4, e_iadd1, e_iadd2, e_sub, e_mul1, e_mul2, e_mulS, e_mulM, e_mod, e_div, e_pow, e_neg, e_ix1, e_ix2, e_ix3, e_ix4, e_sl1, e_sl2, e_sl3, e_sl4, e_len1, e_len2, e_len3, e_len4, e_int1, e_int2, e_tru1, e_tru2, e_tru3, e_tru4, e_tru5, e_tru6, e_okS1, e_okS2, e_okS3, e_okS4, e_okS5, e_okS6, e_ty1, e_ty2, e_ty3, e_ty4, e_ty5, e_ty6, e_ty7, e_isi1, e_isi2, e_isi3, e_isi4, e_isi5, e_isi6, e_isi7, e_isi8, e_isi9, e_isi10, e_isi11, e_isi12, e_isi13, e_isi14, e_isi15, e_isi16, e_isi17, e_frz1, e_frz2, e_frz3, e_frz4, e_it1, e_it2, e_it3, e_it4, isT_ss, isT_si, isT_sl, isT_st, isT_sb, isT_is, isT_ii, isT_il, isT_it, isT_ib, isT_bs, isT_bi, isT_bl, isT_bt, isT_bb, isT_ls, isT_li, isT_ll, isT_lt, isT_lb, isT_ts, isT_ti, isT_tl, isT_tt, isT_tb, List.getElem?_cons_zero, List.getElem?_cons_succ, List.set_cons_zero, List.set_cons_succ, List.cons_append, List.nil_append, List.length_cons, List.length_nil, dwipe, List.append_nil, List.cons.injEq, exists_eq_left, exists_eq_left', Option.some.injEq, D.str.injEq, D.int.injEq, D.bl.injEq, D.lst.injEq, D.tup.injEq, D.ref.injEq, D.scr.injEq, MO.lst.injEq, MO.ins.injEq, true_and, and_true, if_true, Bool.not_true, Bool.not_false, Bool.false_eq_true, if_false, exists_const, exists_eq, exists_eq', exists_and_left, and_self, reduceCtorEq, decide_true, decide_false, decide_eq_true_eq, Bool.not_eq_true', decide_eq_false_iff_not, and_assoc, Bool.true_or, Bool.or_true, Bool.false_or, Bool.or_false, Bool.true_and, Bool.false_and, u_lc, u_for]
    refine ⟨a, 6, rfl, by decide, by decide, hR, fun r M1 r0 r1 R1 m1 => ⟨r, rfl, by omega, by omega, ?_⟩⟩
    refine ⟨fun i acc M' => ∃ ts : List (List Nat), acc = ts.map .str ∧ ts.length = i ∧ (∀ t ∈ ts, t.length ≤ 20 ∧ ∀ c ∈ t, c ∈ ALPH) ∧ Row M' a, ⟨[], rfl, rfl, (fun t h => by cases h), R1⟩, ?_, by rw [intsD_len]; omega, ?_⟩
    · rintro i d acc M2 hd ⟨ts, rfl, rfl, ht, hR'⟩
      obtain ⟨_, rfl⟩ := ints_inv hd
      simp only [dSeq, dIfS, dNot, dTru, dB, dCB, dOp, dCons, dNil, dVar, dC, dNever, dNext, dRet, dRetN, dAsg, gNm, dAndV, dOrV, dNotV, dAnd, dOr, dIf, dLst, dLstM, dTup, dFld, dSetF, dAugF, dAug, dDrop, dAppend, dExtend, dPop, dPopAt, dPar, dPar3, dCall, dMeth, dMake, dJoin, dSl, dNo, dPart, dSeqI, dRange1, dRange2, dRange3, dEnum, dRevS, dRevL, dIsi2, dYes, dUn, dSetIx, dBreak, dCont, dChain, dFrz, e_vw1, e_vw2, e_vw3, e_vw4, e_vw5, e_vw6, e_vw7, e_vw8, e_vws0, e_vws1, e_gC, e_gN, e_gT, e_eq1, e_eq2, e_eq3, e_eq4, e_eq5, e_ne1, e_ne2, e_ne3, e_ne4, e_ne5, e_lt, e_gt, e_le, e_ge, e_in1, e_in2, e_in3, e_in4, e_in5, e_in6, e_add1, e_add2, e_add3, e_add4, e_iadd1, e_iadd2, e_sub, e_mul1, e_mul2, e_mulS, e_mulM, e_mod, e_div, e_pow, e_neg, e_ix1, e_ix2, e_ix3, e_ix4, e_sl1, e_sl2, e_sl3, e_sl4, e_len1, e_len2, e_len3, e_len4, e_int1, e_int2, e_tru1, e_tru2, e_tru3, e_tru4, e_tru5, e_tru6, e_okS1, e_okS2, e_okS3, e_okS4, e_okS5, e_okS6, e_ty1, e_ty2, e_ty3, e_ty4, e_ty5, e_ty6, e_ty7, e_isi1, e_isi2, e_isi3, e_isi4, e_isi5, e_isi6, e_isi7, e_isi8, e_isi9, e_isi10, e_isi11, e_isi12, e_isi13, e_isi14, e_isi15, e_isi16, e_isi17, e_frz1, e_frz2, e_frz3, e_frz4, e_it1, e_it2, e_it3, e_it4, isT_ss, isT_si, isT_sl, isT_st, isT_sb, isT_is, isT_ii, isT_il, isT_it, isT_ib, isT_bs, isT_bi, isT_bl, isT_bt, isT_bb, isT_ls, isT_li, isT_ll, isT_lt, isT_lb, isT_ts, isT_ti, isT_tl, isT_tt, isT_tb, List.getElem?_cons_zero, List.getElem?_cons_succ, List.set_cons_zero, List.set_cons_succ, List.cons_append, List.nil_append, List.length_cons, List.length_nil, dwipe, List.append_nil, List.cons.injEq, exists_eq_left, exists_eq_left', Option.some.injEq, D.str.injEq, D.int.injEq, D.bl.injEq, D.lst.injEq, D.tup.injEq, D.ref.injEq, D.scr.injEq, MO.lst.injEq, MO.ins.injEq, true_and, and_true, if_true, Bool.not_true, Bool.not_false, Bool.false_eq_true, if_false, exists_const, exists_eq, exists_eq', exists_and_left, and_self, reduceCtorEq, decide_true, decide_false, decide_eq_true_eq, Bool.not_eq_true', decide_eq_false_iff_not, and_assoc, Bool.true_or, Bool.or_true, Bool.false_or, Bool.or_false, Bool.true_and, Bool.false_and]
      refine ⟨a, 20, rfl, by decide, by decide, hR', fun t M3 t1 t2 R3 m3 => ⟨ts ++ [t], by simp, by simp, fun t' h => ?_, R3⟩⟩
      rcases List.mem_append.mp h with h | h
      · exact ht t' h
      · simp at h; rw [h]; exact ⟨by omega, t2⟩
    · rintro acc M2 ⟨ts, rfl, hlen, ht, hR'⟩
      rw [intsD_len] at hlen
      have oks : ∀ t ∈ ts, okb t = true := fun t h => okb_iff.mpr ⟨by have := (ht t h).1; omega, (ht t h).2⟩
      simp only [dSeq, dIfS, dNot, dTru, dB, dCB, dOp, dCons, dNil, dVar, dC, dNever, dNext, dRet, dRetN, dAsg, gNm, dAndV, dOrV, dNotV, dAnd, dOr, dIf, dLst, dLstM, dTup, dFld, dSetF, dAugF, dAug, dDrop, dAppend, dExtend, dPop, dPopAt, dPar, dPar3, dCall, dMeth, dMake, dJoin, dSl, dNo, dPart, dSeqI, dRange1, dRange2, dRange3, dEnum, dRevS, dRevL, dIsi2, dYes, dUn, dSetIx, dBreak, dCont, dChain, dFrz, e_vw1, e_vw2, e_vw3, e_vw4, e_vw5, e_vw6, e_vw7, e_vw8, e_vws0, e_vws1, e_gC, e_gN, e_gT, e_eq1, e_eq2, e_eq3, e_eq4, e_eq5, e_ne1, e_ne2, e_ne3, e_ne4, e_ne5, e_lt, e_gt, e_le, e_ge, e_in1, e_in2, e_in3, e_in4, e_in5, e_in6, e_add1, e_add2, e_add3, e_add4, e_iadd1, e_iadd2, e_sub, e_mul1, e_mul2, e_mulS, e_mulM, e_mod, e_div, e_pow, e_neg, e_ix1, e_ix2, e_ix3, e_ix4, e_sl1, e_sl2, e_sl3, e_sl4, e_len1, e_len2, e_len3, e_len4, e_int1, e_int2, e_tru1, e_tru2, e_tru3, e_tru4, e_tru5, e_tru6, e_okS1, e_okS2, e_okS3, e_okS4, e_okS5, e_okS6, e_ty1, e_ty2, e_ty3, e_ty4, e_ty5, e_ty6, e_ty7, e_isi1, e_isi2, e_isi3, e_isi4, e_isi5, e_isi6, e_isi7, e_isi8, e_isi9, e_isi10, e_isi11, e_isi12, e_isi13, e_isi14, e_isi15, e_isi16, e_isi17, e_frz1, e_frz2, e_frz3, e_frz4, e_it1, e_it2, e_it3, e_it4, isT_ss, isT_si, isT_sl, isT_st, isT_sb, isT_is, isT_ii, isT_il, isT_it, isT_ib, isT_bs, isT_bi, isT_bl, isT_bt, isT_bb, isT_ls, isT_li, isT_ll, isT_lt, isT_lb, isT_ts, isT_ti, isT_tl, isT_tt, isT_tb, List.getElem?_cons_zero, List.getElem?_cons_succ, List.set_cons_zero, List.set_cons_succ, List.cons_append, List.nil_append, List.length_cons, List.length_nil, dwipe, List.append_nil, List.cons.injEq, exists_eq_left, exists_eq_left', Option.some.injEq, D.str.injEq, D.int.injEq, D.bl.injEq, D.lst.injEq, D.tup.injEq, D.ref.injEq, D.scr.injEq, MO.lst.injEq, MO.ins.injEq, true_and, and_true, if_true, Bool.not_true, Bool.not_false, Bool.false_eq_true, if_false, exists_const, exists_eq, exists_eq', exists_and_left, and_self, reduceCtorEq, decide_true, decide_false, decide_eq_true_eq, Bool.not_eq_true', decide_eq_false_iff_not, and_assoc, Bool.true_or, Bool.or_true, Bool.false_or, Bool.or_false, Bool.true_and, Bool.false_and]
      refine ⟨P2 ns a ts, ⟨_, _, _, _, _, _, _, _, rfl⟩, ?_, ?_⟩
      · rintro i d δ' M3 hd ⟨x2, x3, x4, x5, x7, x8, x9, x10, rfl⟩
        obtain ⟨t, hi, rfl⟩ := map_at hd
        obtain ⟨mt, _⟩ := mem_at hi
        obtain ⟨tl, ta⟩ := ht t mt
        have ok := oks t mt
        simp only [dSeq, dIfS, dNot, dTru, dB, dCB, dOp, dCons, dNil, dVar, dC, dNever, dNext, dRet, dRetN, dAsg, gNm, dAndV, dOrV, dNotV, dAnd, dOr, dIf, dLst, dLstM, dTup, dFld, dSetF, dAugF, dAug, dDrop, dAppend, dExtend, dPop, dPopAt, dPar, dPar3, dCall, dMeth, dMake, dJoin, dSl, dNo, dPart, dSeqI, dRange1, dRange2, dRange3, dEnum, dRevS, dRevL, dIsi2, dYes, dUn, dSetIx, dBreak, dCont, dChain, dFrz, e_vw1, e_vw2, e_vw3, e_vw4, e_vw5, e_vw6, e_vw7, e_vw8, e_vws0, e_vws1, e_gC, e_gN, e_gT, e_eq1, e_eq2, e_eq3, e_eq4, e_eq5, e_ne1, e_ne2, e_ne3, e_ne4, e_ne5, e_lt, e_gt, e_le, e_ge, e_in1, e_in2, e_in3, e_in4, e_in5, e_in6, e_add1, e_add2, e_add3, e_add4, e_iadd1, e_iadd2, e_sub, e_mul1, e_mul2, e_mulS, e_mulM, e_mod, e_div, e_pow, e_neg, e_ix1, e_ix2, e_ix3, e_ix4, e_sl1, e_sl2, e_sl3, e_sl4, e_len1, e_len2, e_len3, e_len4, e_int1, e_int2, e_tru1, e_tru2, e_tru3, e_tru4, e_tru5, e_tru6, e_okS1, e_okS2, e_okS3, e_okS4, e_okS5, e_okS6, e_ty1, e_ty2, e_ty3, e_ty4, e_ty5, e_ty6, e_ty7, e_isi1, e_isi2, e_isi3, e_isi4, e_isi5, e_isi6, e_isi7, e_isi8, e_isi9, e_isi10, e_isi11, e_isi12, e_isi13, e_isi14, e_isi15, e_isi16, e_isi17, e_frz1, e_frz2, e_frz3, e_frz4, e_it1, e_it2, e_it3, e_it4, isT_ss, isT_si, isT_sl, isT_st, isT_sb, isT_is, isT_ii, isT_il, isT_it, isT_ib, isT_bs, isT_bi, isT_bl, isT_bt, isT_bb, isT_ls, isT_li, isT_ll, isT_lt, isT_lb, isT_ts, isT_ti, isT_tl, isT_tt, isT_tb, List.getElem?_cons_zero, List.getElem?_cons_succ, List.set_cons_zero, List.set_cons_succ, List.cons_append, List.nil_append, List.length_cons, List.length_nil, dwipe, List.append_nil, List.cons.injEq, exists_eq_left, exists_eq_left', Option.some.injEq, D.str.injEq, D.int.injEq, D.bl.injEq, D.lst.injEq, D.tup.injEq, D.ref.injEq, D.scr.injEq, MO.lst.injEq, MO.ins.injEq, true_and, and_true, if_true, Bool.not_true, Bool.not_false, Bool.false_eq_true, if_false, exists_const, exists_eq, exists_eq', exists_and_left, and_self, reduceCtorEq, decide_true, decide_false, decide_eq_true_eq, Bool.not_eq_true', decide_eq_false_iff_not, and_assoc, Bool.true_or, Bool.or_true, Bool.false_or, Bool.or_false, Bool.true_and, Bool.false_and, u_lc]
        refine lc_pure (fun d => match d with | .str [c] => .str ((List.replicate (if c = 34 ∨ c = 92 then (1 : Int) else 0).toNat [92]).flatten ++ [c]) | d => d) (by rw [chars_len]; omega) (fun d R hd kk => ?_) ?_
        · obtain ⟨i, hi⟩ := List.mem_iff_getElem?.mp hd
          obtain ⟨c, hc, rfl⟩ := chars_at hi
          simp only [dSeq, dIfS, dNot, dTru, dB, dCB, dOp, dCons, dNil, dVar, dC, dNever, dNext, dRet, dRetN, dAsg, gNm, dAndV, dOrV, dNotV, dAnd, dOr, dIf, dLst, dLstM, dTup, dFld, dSetF, dAugF, dAug, dDrop, dAppend, dExtend, dPop, dPopAt, dPar, dPar3, dCall, dMeth, dMake, dJoin, dSl, dNo, dPart, dSeqI, dRange1, dRange2, dRange3, dEnum, dRevS, dRevL, dIsi2, dYes, dUn, dSetIx, dBreak, dCont, dChain, dFrz, e_vw1, e_vw2, e_vw3, e_vw4, e_vw5, e_vw6, e_vw7, e_vw8, e_vws0, e_vws1, e_gC, e_gN, e_gT, e_eq1, e_eq2, e_eq3, e_eq4, e_eq5, e_ne1, e_ne2, e_ne3, e_ne4, e_ne5, e_lt, e_gt, e_le, e_ge, e_in1, e_in2, e_in3, e_in4, e_in5, e_in6, e_add1, e_add2, e_add3, e_add4, e_iadd1, e_iadd2, e_sub, e_mul1, e_mul2, e_mulS, e_mulM, e_mod, e_div, e_pow, e_neg, e_ix1, e_ix2, e_ix3, e_ix4, e_sl1, e_sl2, e_sl3, e_sl4, e_len1, e_len2, e_len3, e_len4, e_int1, e_int2, e_tru1, e_tru2, e_tru3, e_tru4, e_tru5, e_tru6, e_okS1, e_okS2, e_okS3, e_okS4, e_okS5, e_okS6, e_ty1, e_ty2, e_ty3, e_ty4, e_ty5, e_ty6, e_ty7, e_isi1, e_isi2, e_isi3, e_isi4, e_isi5, e_isi6, e_isi7, e_isi8, e_isi9, e_isi10, e_isi11, e_isi12, e_isi13, e_isi14, e_isi15, e_isi16, e_isi17, e_frz1, e_frz2, e_frz3, e_frz4, e_it1, e_it2, e_it3, e_it4, isT_ss, isT_si, isT_sl, isT_st, isT_sb, isT_is, isT_ii, isT_il, isT_it, isT_ib, isT_bs, isT_bi, isT_bl, isT_bt, isT_bb, isT_ls, isT_li, isT_ll, isT_lt, isT_lb, isT_ts, isT_ti, isT_tl, isT_tt, isT_tb, List.getElem?_cons_zero, List.getElem?_cons_succ, List.set_cons_zero, List.set_cons_succ, List.cons_append, List.nil_append, List.length_cons, List.length_nil, dwipe, List.append_nil, List.cons.injEq, exists_eq_left, exists_eq_left', Option.some.injEq, D.str.injEq, D.int.injEq, D.bl.injEq, D.lst.injEq, D.tup.injEq, D.ref.injEq, D.scr.injEq, MO.lst.injEq, MO.ins.injEq, true_and, and_true, if_true, Bool.not_true, Bool.not_false, Bool.false_eq_true, if_false, exists_const, exists_eq, exists_eq', exists_and_left, and_self, reduceCtorEq, decide_true, decide_false, decide_eq_true_eq, Bool.not_eq_true', decide_eq_false_iff_not, and_assoc, Bool.true_or, Bool.or_true, Bool.false_or, Bool.or_false, Bool.true_and, Bool.false_and, sub_one, mem_2]
          refine ⟨by split <;> decide, by split <;> decide, by split <;> decide, ?_, kk⟩
          split <;> decide
        · have e : (chars t).map (fun d => match d with | .str [c] => .str ((List.replicate (if c = 34 ∨ c = 92 then (1 : Int) else 0).toNat [92]).flatten ++ [c]) | d => d) = (simp1 t).map D.str := by
            unfold chars simp1
            rw [List.map_map, List.map_map]
            rfl
          rw [e]
          have sl := simp1_len t
          have n12 := Lx.n12 t
          simp only [dSeq, dIfS, dNot, dTru, dB, dCB, dOp, dCons, dNil, dVar, dC, dNever, dNext, dRet, dRetN, dAsg, gNm, dAndV, dOrV, dNotV, dAnd, dOr, dIf, dLst, dLstM, dTup, dFld, dSetF, dAugF, dAug, dDrop, dAppend, dExtend, dPop, dPopAt, dPar, dPar3, dCall, dMeth, dMake, dJoin, dSl, dNo, dPart, dSeqI, dRange1, dRange2, dRange3, dEnum, dRevS, dRevL, dIsi2, dYes, dUn, dSetIx, dBreak, dCont, dChain, dFrz, e_vw1, e_vw2, e_vw3, e_vw4, e_vw5, e_vw6, e_vw7, e_vw8, e_vws0, e_vws1, e_gC, e_gN, e_gT, e_eq1, e_eq2, e_eq3, e_eq4, e_eq5, e_ne1, e_ne2, e_ne3, e_ne4, e_ne5, e_lt, e_gt, e_le, e_ge, e_in1, e_in2, e_in3, e_in4, e_in5, e_in6, e_add1, e_add2, e_add3, e_add4, e_iadd1, e_iadd2, e_sub, e_mul1, e_mul2, e_mulS, e_mulM, e_mod, e_div, e_pow, e_neg, e_ix1, e_ix2, e_ix3, e_ix4, e_sl1, e_sl2, e_sl3, e_sl4, e_len1, e_len2, e_len3, e_len4, e_int1, e_int2, e_tru1, e_tru2, e_tru3, e_tru4, e_tru5, e_tru6, e_okS1, e_okS2, e_okS3, e_okS4, e_okS5, e_okS6, e_ty1, e_ty2, e_ty3, e_ty4, e_ty5, e_ty6, e_ty7, e_isi1, e_isi2, e_isi3, e_isi4, e_isi5, e_isi6, e_isi7, e_isi8, e_isi9, e_isi10, e_isi11, e_isi12, e_isi13, e_isi14, e_isi15, e_isi16, e_isi17, e_frz1, e_frz2, e_frz3, e_frz4, e_it1, e_it2, e_it3, e_it4, isT_ss, isT_si, isT_sl, isT_st, isT_sb, isT_is, isT_ii, isT_il, isT_it, isT_ib, isT_bs, isT_bi, isT_bl, isT_bt, isT_bb, isT_ls, isT_li, isT_ll, isT_lt, isT_lb, isT_ts, isT_ti, isT_tl, isT_tt, isT_tb, List.getElem?_cons_zero, List.getElem?_cons_succ, List.set_cons_zero, List.set_cons_succ, List.cons_append, List.nil_append, List.length_cons, List.length_nil, dwipe, List.append_nil, List.cons.injEq, exists_eq_left, exists_eq_left', Option.some.injEq, D.str.injEq, D.int.injEq, D.bl.injEq, D.lst.injEq, D.tup.injEq, D.ref.injEq, D.scr.injEq, MO.lst.injEq, MO.ins.injEq, true_and, and_true, if_true, Bool.not_true, Bool.not_false, Bool.false_eq_true, if_false, exists_const, exists_eq, exists_eq', exists_and_left, and_self, reduceCtorEq, decide_true, decide_false, decide_eq_true_eq, Bool.not_eq_true', decide_eq_false_iff_not, and_assoc, Bool.true_or, Bool.or_true, Bool.false_or, Bool.or_false, Bool.true_and, Bool.false_and, join_nil]
          refine ⟨simp1 t, rfl, by rw [sum_len]; omega, by omega, by omega, t, rfl, ok, fun w M4 hw m4 => ?_⟩
          have wl := quo_37 hw tl
          have wo : okb w = true := okb_iff.mpr ⟨by omega, quo_alph hw ta⟩
          have ws : Lx.spl w = .ok [t] := by
            have := hw.spl (z := []) (.inl rfl)
            rw [List.append_nil, Lx.spl_nil] at this
            exact this
          refine ⟨w, [t], rfl, wo, ws, fun M5 fa m5 hfa hf => ?_⟩
          have d1 := deq_strs [t]
          have d2 := sm_strs [t]
          simp only [List.map_cons, List.map_nil] at d1 d2
          simp only [dSeq, dIfS, dNot, dTru, dB, dCB, dOp, dCons, dNil, dVar, dC, dNever, dNext, dRet, dRetN, dAsg, gNm, dAndV, dOrV, dNotV, dAnd, dOr, dIf, dLst, dLstM, dTup, dFld, dSetF, dAugF, dAug, dDrop, dAppend, dExtend, dPop, dPopAt, dPar, dPar3, dCall, dMeth, dMake, dJoin, dSl, dNo, dPart, dSeqI, dRange1, dRange2, dRange3, dEnum, dRevS, dRevL, dIsi2, dYes, dUn, dSetIx, dBreak, dCont, dChain, dFrz, e_vw1, e_vw2, e_vw3, e_vw4, e_vw5, e_vw6, e_vw7, e_vw8, e_vws0, e_vws1, e_gC, e_gN, e_gT, e_eq1, e_eq2, e_eq3, e_eq4, e_eq5, e_ne1, e_ne2, e_ne3, e_ne4, e_ne5, e_lt, e_gt, e_le, e_ge, e_in1, e_in2, e_in3, e_in4, e_in5, e_in6, e_add1, e_add2, e_add3, e_add4, e_iadd1, e_iadd2, e_sub, e_mul1, e_mul2, e_mulS, e_mulM, e_mod, e_div, e_pow, e_neg, e_ix1, e_ix2, e_ix3, e_ix4, e_sl1, e_sl2, e_sl3, e_sl4, e_len1, e_len2, e_len3, e_len4, e_int1, e_int2, e_tru1, e_tru2, e_tru3, e_tru4, e_tru5, e_tru6, e_okS1, e_okS2, e_okS3, e_okS4, e_okS5, e_okS6, e_ty1, e_ty2, e_ty3, e_ty4, e_ty5, e_ty6, e_ty7, e_isi1, e_isi2, e_isi3, e_isi4, e_isi5, e_isi6, e_isi7, e_isi8, e_isi9, e_isi10, e_isi11, e_isi12, e_isi13, e_isi14, e_isi15, e_isi16, e_isi17, e_frz1, e_frz2, e_frz3, e_frz4, e_it1, e_it2, e_it3, e_it4, isT_ss, isT_si, isT_sl, isT_st, isT_sb, isT_is, isT_ii, isT_il, isT_it, isT_ib, isT_bs, isT_bi, isT_bl, isT_bt, isT_bb, isT_ls, isT_li, isT_ll, isT_lt, isT_lb, isT_ts, isT_ti, isT_tl, isT_tt, isT_tb, List.getElem?_cons_zero, List.getElem?_cons_succ, List.set_cons_zero, List.set_cons_succ, List.cons_append, List.nil_append, List.length_cons, List.length_nil, dwipe, List.append_nil, List.cons.injEq, exists_eq_left, exists_eq_left', Option.some.injEq, D.str.injEq, D.int.injEq, D.bl.injEq, D.lst.injEq, D.tup.injEq, D.ref.injEq, D.scr.injEq, MO.lst.injEq, MO.ins.injEq, true_and, and_true, if_true, Bool.not_true, Bool.not_false, Bool.false_eq_true, if_false, exists_const, exists_eq, exists_eq', exists_and_left, and_self, reduceCtorEq, decide_true, decide_false, decide_eq_true_eq, Bool.not_eq_true', decide_eq_false_iff_not, and_assoc, Bool.true_or, Bool.or_true, Bool.false_or, Bool.or_false, Bool.true_and, Bool.false_and, d1, d2, e_vwl hf, List.map_cons, List.map_nil]
          refine ⟨by decide, t, rfl, ok, fun w2 M6 hw2 m6 => ?_⟩
          rw [quo_uni hw2 hw]
          have l1 := hw.len1
          have l2 : w.length ≤ 16777216 := by omega
          simp only [dSeq, dIfS, dNot, dTru, dB, dCB, dOp, dCons, dNil, dVar, dC, dNever, dNext, dRet, dRetN, dAsg, gNm, dAndV, dOrV, dNotV, dAnd, dOr, dIf, dLst, dLstM, dTup, dFld, dSetF, dAugF, dAug, dDrop, dAppend, dExtend, dPop, dPopAt, dPar, dPar3, dCall, dMeth, dMake, dJoin, dSl, dNo, dPart, dSeqI, dRange1, dRange2, dRange3, dEnum, dRevS, dRevL, dIsi2, dYes, dUn, dSetIx, dBreak, dCont, dChain, dFrz, e_vw1, e_vw2, e_vw3, e_vw4, e_vw5, e_vw6, e_vw7, e_vw8, e_vws0, e_vws1, e_gC, e_gN, e_gT, e_eq1, e_eq2, e_eq3, e_eq4, e_eq5, e_ne1, e_ne2, e_ne3, e_ne4, e_ne5, e_lt, e_gt, e_le, e_ge, e_in1, e_in2, e_in3, e_in4, e_in5, e_in6, e_add1, e_add2, e_add3, e_add4, e_iadd1, e_iadd2, e_sub, e_mul1, e_mul2, e_mulS, e_mulM, e_mod, e_div, e_pow, e_neg, e_ix1, e_ix2, e_ix3, e_ix4, e_sl1, e_sl2, e_sl3, e_sl4, e_len1, e_len2, e_len3, e_len4, e_int1, e_int2, e_tru1, e_tru2, e_tru3, e_tru4, e_tru5, e_tru6, e_okS1, e_okS2, e_okS3, e_okS4, e_okS5, e_okS6, e_ty1, e_ty2, e_ty3, e_ty4, e_ty5, e_ty6, e_ty7, e_isi1, e_isi2, e_isi3, e_isi4, e_isi5, e_isi6, e_isi7, e_isi8, e_isi9, e_isi10, e_isi11, e_isi12, e_isi13, e_isi14, e_isi15, e_isi16, e_isi17, e_frz1, e_frz2, e_frz3, e_frz4, e_it1, e_it2, e_it3, e_it4, isT_ss, isT_si, isT_sl, isT_st, isT_sb, isT_is, isT_ii, isT_il, isT_it, isT_ib, isT_bs, isT_bi, isT_bl, isT_bt, isT_bb, isT_ls, isT_li, isT_ll, isT_lt, isT_lb, isT_ts, isT_ti, isT_tl, isT_tt, isT_tb, List.getElem?_cons_zero, List.getElem?_cons_succ, List.set_cons_zero, List.set_cons_succ, List.cons_append, List.nil_append, List.length_cons, List.length_nil, dwipe, List.append_nil, List.cons.injEq, exists_eq_left, exists_eq_left', Option.some.injEq, D.str.injEq, D.int.injEq, D.bl.injEq, D.lst.injEq, D.tup.injEq, D.ref.injEq, D.scr.injEq, MO.lst.injEq, MO.ins.injEq, true_and, and_true, if_true, Bool.not_true, Bool.not_false, Bool.false_eq_true, if_false, exists_const, exists_eq, exists_eq', exists_and_left, and_self, reduceCtorEq, decide_true, decide_false, decide_eq_true_eq, Bool.not_eq_true', decide_eq_false_iff_not, and_assoc, Bool.true_or, Bool.or_true, Bool.false_or, Bool.or_false, Bool.true_and, Bool.false_and, l2]
          refine ⟨by simp only [List.length_append, List.length_cons, List.length_nil]; omega, ?_⟩
          rw [if_neg (by simp only [List.length_append, List.length_cons, List.length_nil]; omega)]
          by_cases h39 : sub [39] t = false
          · rw [if_pos h39]
            refine ⟨t, rfl, ok, fun w3 M7 hw3 m7 => ?_⟩
            rw [quo_uni hw3 hw]
            have l3 := hw.len2
            have z2 : Lx.n2 t = 0 := by
              rw [sub_one] at h39
              have h39 := of_decide_eq_false h39
              unfold Lx.n2
              rw [List.length_eq_zero_iff, List.filter_eq_nil_iff]
              intro c hc hk
              simp at hk
              rw [hk] at hc
              exact h39 hc
            simp only [dSeq, dIfS, dNot, dTru, dB, dCB, dOp, dCons, dNil, dVar, dC, dNever, dNext, dRet, dRetN, dAsg, gNm, dAndV, dOrV, dNotV, dAnd, dOr, dIf, dLst, dLstM, dTup, dFld, dSetF, dAugF, dAug, dDrop, dAppend, dExtend, dPop, dPopAt, dPar, dPar3, dCall, dMeth, dMake, dJoin, dSl, dNo, dPart, dSeqI, dRange1, dRange2, dRange3, dEnum, dRevS, dRevL, dIsi2, dYes, dUn, dSetIx, dBreak, dCont, dChain, dFrz, e_vw1, e_vw2, e_vw3, e_vw4, e_vw5, e_vw6, e_vw7, e_vw8, e_vws0, e_vws1, e_gC, e_gN, e_gT, e_eq1, e_eq2, e_eq3, e_eq4, e_eq5, e_ne1, e_ne2, e_ne3, e_ne4, e_ne5, e_lt, e_gt, e_le, e_ge, e_in1, e_in2, e_in3, e_in4, e_in5, e_in6, e_add1, e_add2, e_add3, e_add4, e_iadd1, e_iadd2, e_sub, e_mul1, e_mul2, e_mulS, e_mulM, e_mod, e_div, e_pow, e_neg, e_ix1, e_ix2, e_ix3, e_ix4, e_sl1, e_sl2, e_sl3, e_sl4, e_len1, e_len2, e_len3, e_len4, e_int1, e_int2, e_tru1, e_tru2, e_tru3, e_tru4, e_tru5, e_tru6, e_okS1, e_okS2, e_okS3, e_okS4, e_okS5, e_okS6, e_ty1, e_ty2, e_ty3, e_ty4, e_ty5, e_ty6, e_ty7, e_isi1, e_isi2, e_isi3, e_isi4, e_isi5, e_isi6, e_isi7, e_isi8, e_isi9, e_isi10, e_isi11, e_isi12, e_isi13, e_isi14, e_isi15, e_isi16, e_isi17, e_frz1, e_frz2, e_frz3, e_frz4, e_it1, e_it2, e_it3, e_it4, isT_ss, isT_si, isT_sl, isT_st, isT_sb, isT_is, isT_ii, isT_il, isT_it, isT_ib, isT_bs, isT_bi, isT_bl, isT_bt, isT_bb, isT_ls, isT_li, isT_ll, isT_lt, isT_lb, isT_ts, isT_ti, isT_tl, isT_tt, isT_tb, List.getElem?_cons_zero, List.getElem?_cons_succ, List.set_cons_zero, List.set_cons_succ, List.cons_append, List.nil_append, List.length_cons, List.length_nil, dwipe, List.append_nil, List.cons.injEq, exists_eq_left, exists_eq_left', Option.some.injEq, D.str.injEq, D.int.injEq, D.bl.injEq, D.lst.injEq, D.tup.injEq, D.ref.injEq, D.scr.injEq, MO.lst.injEq, MO.ins.injEq, true_and, and_true, if_true, Bool.not_true, Bool.not_false, Bool.false_eq_true, if_false, exists_const, exists_eq, exists_eq', exists_and_left, and_self, reduceCtorEq, decide_true, decide_false, decide_eq_true_eq, Bool.not_eq_true', decide_eq_false_iff_not, and_assoc, Bool.true_or, Bool.or_true, Bool.false_or, Bool.or_false, Bool.true_and, Bool.false_and, l2]
            refine ⟨by omega, ?_⟩
            rw [if_neg (by omega)]
            exact ⟨_, _, _, _, _, _, _, _, rfl⟩
          · rw [if_neg h39]
            exact ⟨_, _, _, _, _, _, _, _, rfl⟩
      · rintro δ' M3 ⟨x2, x3, x4, x5, x7, x8, x9, x10, rfl⟩
        simp only [dSeq, dIfS, dNot, dTru, dB, dCB, dOp, dCons, dNil, dVar, dC, dNever, dNext, dRet, dRetN, dAsg, gNm, dAndV, dOrV, dNotV, dAnd, dOr, dIf, dLst, dLstM, dTup, dFld, dSetF, dAugF, dAug, dDrop, dAppend, dExtend, dPop, dPopAt, dPar, dPar3, dCall, dMeth, dMake, dJoin, dSl, dNo, dPart, dSeqI, dRange1, dRange2, dRange3, dEnum, dRevS, dRevL, dIsi2, dYes, dUn, dSetIx, dBreak, dCont, dChain, dFrz, e_vw1, e_vw2, e_vw3, e_vw4, e_vw5, e_vw6, e_vw7, e_vw8, e_vws0, e_vws1, e_gC, e_gN, e_gT, e_eq1, e_eq2, e_eq3, e_eq4, e_eq5, e_ne1, e_ne2, e_ne3, e_ne4, e_ne5, e_lt, e_gt, e_le, e_ge, e_in1, e_in2, e_in3, e_in4, e_in5, e_in6, e_add1, e_add2, e_add3, e_add4, e_iadd1, e_iadd2, e_sub, e_mul1, e_mul2, e_mulS, e_mulM, e_mod, e_div, e_pow, e_neg, e_ix1, e_ix2, e_ix3, e_ix4, e_sl1, e_sl2, e_sl3, e_sl4, e_len1, e_len2, e_len3, e_len4, e_int1, e_int2, e_tru1, e_tru2, e_tru3, e_tru4, e_tru5, e_tru6, e_okS1, e_okS2, e_okS3, e_okS4, e_okS5, e_okS6, e_ty1, e_ty2, e_ty3, e_ty4, e_ty5, e_ty6, e_ty7, e_isi1, e_isi2, e_isi3, e_isi4, e_isi5, e_isi6, e_isi7, e_isi8, e_isi9, e_isi10, e_isi11, e_isi12, e_isi13, e_isi14, e_isi15, e_isi16, e_isi17, e_frz1, e_frz2, e_frz3, e_frz4, e_it1, e_it2, e_it3, e_it4, isT_ss, isT_si, isT_sl, isT_st, isT_sb, isT_is, isT_ii, isT_il, isT_it, isT_ib, isT_bs, isT_bi, isT_bl, isT_bt, isT_bb, isT_ls, isT_li, isT_ll, isT_lt, isT_lb, isT_ts, isT_ti, isT_tl, isT_tt, isT_tb, List.getElem?_cons_zero, List.getElem?_cons_succ, List.set_cons_zero, List.set_cons_succ, List.cons_append, List.nil_append, List.length_cons, List.length_nil, dwipe, List.append_nil, List.cons.injEq, exists_eq_left, exists_eq_left', Option.some.injEq, D.str.injEq, D.int.injEq, D.bl.injEq, D.lst.injEq, D.tup.injEq, D.ref.injEq, D.scr.injEq, MO.lst.injEq, MO.ins.injEq, true_and, and_true, if_true, Bool.not_true, Bool.not_false, Bool.false_eq_true, if_false, exists_const, exists_eq, exists_eq', exists_and_left, and_self, reduceCtorEq, decide_true, decide_false, decide_eq_true_eq, Bool.not_eq_true', decide_eq_false_iff_not, and_assoc, Bool.true_or, Bool.or_true, Bool.false_or, Bool.or_false, Bool.true_and, Bool.false_and, u_lc]
        have tsl : ts.length ≤ 5 := by omega
        have j200 : ∀ ws : List (List Nat), Paired Lx.Quo ts ws → (TL.joinL [32] ws).length ≤ 200 := fun ws hp => by
          have h1 := joinL_len [32] ws
          have h2 := sum_small (paired_all hp (F := fun t => t.length ≤ 20 ∧ ∀ c ∈ t, c ∈ ALPH) (G := fun w => w.length ≤ 37) (fun t w h k => quo_37 h k.1) ht)
          have h3 := hp.length
          have h4 : ws.length * 37 ≤ 5 * 37 := Nat.mul_le_mul_right _ (by omega)
          simp only [List.length_cons, List.length_nil] at h1
          omega
        refine ⟨ts, rfl, oks, by omega, j200, fun ws M4 hp m4 => ?_⟩
        have jo : okb (TL.joinL [32] ws) = true := okb_iff.mpr ⟨j200 ws hp, joinL_alph (paired_all hp (F := fun t => ∀ c ∈ t, c ∈ ALPH) (G := fun w => ∀ c ∈ w, c ∈ ALPH) (fun t w h k => quo_alph h k) fun t h => (ht t h).2)⟩
        refine ⟨_, ts, rfl, jo, spl_join hp, fun M5 fa m5 hfa hf => ?_⟩
        simp only [dSeq, dIfS, dNot, dTru, dB, dCB, dOp, dCons, dNil, dVar, dC, dNever, dNext, dRet, dRetN, dAsg, gNm, dAndV, dOrV, dNotV, dAnd, dOr, dIf, dLst, dLstM, dTup, dFld, dSetF, dAugF, dAug, dDrop, dAppend, dExtend, dPop, dPopAt, dPar, dPar3, dCall, dMeth, dMake, dJoin, dSl, dNo, dPart, dSeqI, dRange1, dRange2, dRange3, dEnum, dRevS, dRevL, dIsi2, dYes, dUn, dSetIx, dBreak, dCont, dChain, dFrz, e_vw1, e_vw2, e_vw3, e_vw4, e_vw5, e_vw6, e_vw7, e_vw8, e_vws0, e_vws1, e_gC, e_gN, e_gT, e_eq1, e_eq2, e_eq3, e_eq4, e_eq5, e_ne1, e_ne2, e_ne3, e_ne4, e_ne5, e_lt, e_gt, e_le, e_ge, e_in1, e_in2, e_in3, e_in4, e_in5, e_in6, e_add1, e_add2, e_add3, e_add4, e_iadd1, e_iadd2, e_sub, e_mul1, e_mul2, e_mulS, e_mulM, e_mod, e_div, e_pow, e_neg, e_ix1, e_ix2, e_ix3, e_ix4, e_sl1, e_sl2, e_sl3, e_sl4, e_len1, e_len2, e_len3, e_len4, e_int1, e_int2, e_tru1, e_tru2, e_tru3, e_tru4, e_tru5, e_tru6, e_okS1, e_okS2, e_okS3, e_okS4, e_okS5, e_okS6, e_ty1, e_ty2, e_ty3, e_ty4, e_ty5, e_ty6, e_ty7, e_isi1, e_isi2, e_isi3, e_isi4, e_isi5, e_isi6, e_isi7, e_isi8, e_isi9, e_isi10, e_isi11, e_isi12, e_isi13, e_isi14, e_isi15, e_isi16, e_isi17, e_frz1, e_frz2, e_frz3, e_frz4, e_it1, e_it2, e_it3, e_it4, isT_ss, isT_si, isT_sl, isT_st, isT_sb, isT_is, isT_ii, isT_il, isT_it, isT_ib, isT_bs, isT_bi, isT_bl, isT_bt, isT_bb, isT_ls, isT_li, isT_ll, isT_lt, isT_lb, isT_ts, isT_ti, isT_tl, isT_tt, isT_tb, List.getElem?_cons_zero, List.getElem?_cons_succ, List.set_cons_zero, List.set_cons_succ, List.cons_append, List.nil_append, List.length_cons, List.length_nil, dwipe, List.append_nil, List.cons.injEq, exists_eq_left, exists_eq_left', Option.some.injEq, D.str.injEq, D.int.injEq, D.bl.injEq, D.lst.injEq, D.tup.injEq, D.ref.injEq, D.scr.injEq, MO.lst.injEq, MO.ins.injEq, true_and, and_true, if_true, Bool.not_true, Bool.not_false, Bool.false_eq_true, if_false, exists_const, exists_eq, exists_eq', exists_and_left, and_self, reduceCtorEq, decide_true, decide_false, decide_eq_true_eq, Bool.not_eq_true', decide_eq_false_iff_not, and_assoc, Bool.true_or, Bool.or_true, Bool.false_or, Bool.or_false, Bool.true_and, Bool.false_and, deq_strs, sm_strs, e_vwl hf]
        refine ⟨fun i acc M' => ∃ vs, acc = (vs : List (List Nat)).map .str ∧ Paired Lx.Quo (ts.take i) vs, ⟨[], rfl, .nil⟩, ?_, by rw [List.length_map]; omega, ?_⟩
        · rintro i d acc M6 hd ⟨vs, rfl, hv⟩
          obtain ⟨t, hi, rfl⟩ := map_at hd
          simp only [dSeq, dIfS, dNot, dTru, dB, dCB, dOp, dCons, dNil, dVar, dC, dNever, dNext, dRet, dRetN, dAsg, gNm, dAndV, dOrV, dNotV, dAnd, dOr, dIf, dLst, dLstM, dTup, dFld, dSetF, dAugF, dAug, dDrop, dAppend, dExtend, dPop, dPopAt, dPar, dPar3, dCall, dMeth, dMake, dJoin, dSl, dNo, dPart, dSeqI, dRange1, dRange2, dRange3, dEnum, dRevS, dRevL, dIsi2, dYes, dUn, dSetIx, dBreak, dCont, dChain, dFrz, e_vw1, e_vw2, e_vw3, e_vw4, e_vw5, e_vw6, e_vw7, e_vw8, e_vws0, e_vws1, e_gC, e_gN, e_gT, e_eq1, e_eq2, e_eq3, e_eq4, e_eq5, e_ne1, e_ne2, e_ne3, e_ne4, e_ne5, e_lt, e_gt, e_le, e_ge, e_in1, e_in2, e_in3, e_in4, e_in5, e_in6, e_add1, e_add2, e_add3, e_add4, e_iadd1, e_iadd2, e_sub, e_mul1, e_mul2, e_mulS, e_mulM, e_mod, e_div, e_pow, e_neg, e_ix1, e_ix2, e_ix3, e_ix4, e_sl1, e_sl2, e_sl3, e_sl4, e_len1, e_len2, e_len3, e_len4, e_int1, e_int2, e_tru1, e_tru2, e_tru3, e_tru4, e_tru5, e_tru6, e_okS1, e_okS2, e_okS3, e_okS4, e_okS5, e_okS6, e_ty1, e_ty2, e_ty3, e_ty4, e_ty5, e_ty6, e_ty7, e_isi1, e_isi2, e_isi3, e_isi4, e_isi5, e_isi6, e_isi7, e_isi8, e_isi9, e_isi10, e_isi11, e_isi12, e_isi13, e_isi14, e_isi15, e_isi16, e_isi17, e_frz1, e_frz2, e_frz3, e_frz4, e_it1, e_it2, e_it3, e_it4, isT_ss, isT_si, isT_sl, isT_st, isT_sb, isT_is, isT_ii, isT_il, isT_it, isT_ib, isT_bs, isT_bi, isT_bl, isT_bt, isT_bb, isT_ls, isT_li, isT_ll, isT_lt, isT_lb, isT_ts, isT_ti, isT_tl, isT_tt, isT_tb, List.getElem?_cons_zero, List.getElem?_cons_succ, List.set_cons_zero, List.set_cons_succ, List.cons_append, List.nil_append, List.length_cons, List.length_nil, dwipe, List.append_nil, List.cons.injEq, exists_eq_left, exists_eq_left', Option.some.injEq, D.str.injEq, D.int.injEq, D.bl.injEq, D.lst.injEq, D.tup.injEq, D.ref.injEq, D.scr.injEq, MO.lst.injEq, MO.ins.injEq, true_and, and_true, if_true, Bool.not_true, Bool.not_false, Bool.false_eq_true, if_false, exists_const, exists_eq, exists_eq', exists_and_left, and_self, reduceCtorEq, decide_true, decide_false, decide_eq_true_eq, Bool.not_eq_true', decide_eq_false_iff_not, and_assoc, Bool.true_or, Bool.or_true, Bool.false_or, Bool.or_false, Bool.true_and, Bool.false_and]
          refine ⟨t, rfl, oks t (mem_at hi).1, fun w M7 hq m7 => ⟨vs ++ [w], by simp, ?_⟩⟩
          rw [List.take_succ, hi]
          exact paired_snoc hv hq
        · rintro acc M6 ⟨vs, rfl, hv⟩
          rw [List.length_map, List.take_length] at hv
          have e := paired_uni hv hp
          subst e
          have h3 := hv.length
          have h2 := sum_small (paired_all hv (F := fun t => t.length ≤ 20 ∧ ∀ c ∈ t, c ∈ ALPH) (G := fun w => w.length ≤ 37) (fun t w h k => quo_37 h k.1) ht)
          have h4 : vs.length * 37 ≤ 5 * 37 := Nat.mul_le_mul_right _ (by omega)
          simp only [dSeq, dIfS, dNot, dTru, dB, dCB, dOp, dCons, dNil, dVar, dC, dNever, dNext, dRet, dRetN, dAsg, gNm, dAndV, dOrV, dNotV, dAnd, dOr, dIf, dLst, dLstM, dTup, dFld, dSetF, dAugF, dAug, dDrop, dAppend, dExtend, dPop, dPopAt, dPar, dPar3, dCall, dMeth, dMake, dJoin, dSl, dNo, dPart, dSeqI, dRange1, dRange2, dRange3, dEnum, dRevS, dRevL, dIsi2, dYes, dUn, dSetIx, dBreak, dCont, dChain, dFrz, e_vw1, e_vw2, e_vw3, e_vw4, e_vw5, e_vw6, e_vw7, e_vw8, e_vws0, e_vws1, e_gC, e_gN, e_gT, e_eq1, e_eq2, e_eq3, e_eq4, e_eq5, e_ne1, e_ne2, e_ne3, e_ne4, e_ne5, e_lt, e_gt, e_le, e_ge, e_in1, e_in2, e_in3, e_in4, e_in5, e_in6, e_add1, e_add2, e_add3, e_add4, e_iadd1, e_iadd2, e_sub, e_mul1, e_mul2, e_mulS, e_mulM, e_mod, e_div, e_pow, e_neg, e_ix1, e_ix2, e_ix3, e_ix4, e_sl1, e_sl2, e_sl3, e_sl4, e_len1, e_len2, e_len3, e_len4, e_int1, e_int2, e_tru1, e_tru2, e_tru3, e_tru4, e_tru5, e_tru6, e_okS1, e_okS2, e_okS3, e_okS4, e_okS5, e_okS6, e_ty1, e_ty2, e_ty3, e_ty4, e_ty5, e_ty6, e_ty7, e_isi1, e_isi2, e_isi3, e_isi4, e_isi5, e_isi6, e_isi7, e_isi8, e_isi9, e_isi10, e_isi11, e_isi12, e_isi13, e_isi14, e_isi15, e_isi16, e_isi17, e_frz1, e_frz2, e_frz3, e_frz4, e_it1, e_it2, e_it3, e_it4, isT_ss, isT_si, isT_sl, isT_st, isT_sb, isT_is, isT_ii, isT_il, isT_it, isT_ib, isT_bs, isT_bi, isT_bl, isT_bt, isT_bb, isT_ls, isT_li, isT_ll, isT_lt, isT_lb, isT_ts, isT_ti, isT_tl, isT_tt, isT_tb, List.getElem?_cons_zero, List.getElem?_cons_succ, List.set_cons_zero, List.set_cons_succ, List.cons_append, List.nil_append, List.length_cons, List.length_nil, dwipe, List.append_nil, List.cons.injEq, exists_eq_left, exists_eq_left', Option.some.injEq, D.str.injEq, D.int.injEq, D.bl.injEq, D.lst.injEq, D.tup.injEq, D.ref.injEq, D.scr.injEq, MO.lst.injEq, MO.ins.injEq, true_and, and_true, if_true, Bool.not_true, Bool.not_false, Bool.false_eq_true, if_false, exists_const, exists_eq, exists_eq', exists_and_left, and_self, reduceCtorEq, decide_true, decide_false, decide_eq_true_eq, Bool.not_eq_true', decide_eq_false_iff_not, and_assoc, Bool.true_or, Bool.or_true, Bool.false_or, Bool.or_false, Bool.true_and, Bool.false_and]
          exact ⟨vs, rfl, by omega, by rw [decide_eq_true rfl]; exact k M6⟩
end K42

set_option Elab.async false
set_option linter.all false
set_option maxRecDepth 100000
set_option maxHeartbeats 4000000
/-! k42_shortest_quoting: the defs keep their promises -/
namespace K42
open PySem L2 DL PySem.Spec PyProof.Rows
section
variable {P : Program} {w : World} {K : PySem.W.Frag} {mg : Str → Option Value} {base : Heap}
theorem cal_check_line (T : Txt K mg) (d : DefAt K mg "check_line" s_check_line) : CallD P w K mg base 1 "check_line" sp_check_line [] :=
  call_of (N := ["line", "index", "character"]) (ps := ["line"]) d sc_check_line (fun F => F.binds fun _ _ _ _ _ _ us hl => match us, hl with | [_], _ => rfl) len_check_line fun f cdv A outer s H E hr => ⟨_, wk_check_line T hr, fun ds M Q Qx h => rk_check_line h⟩
theorem cal_is_token (T : Txt K mg) (d : DefAt K mg "is_token" s_is_token) : CallD P w K mg base 1 "is_token" sp_is_token [] :=
  call_of (N := ["value", "character"]) (ps := ["value"]) d sc_is_token (fun F => F.binds fun _ _ _ _ _ _ us hl => match us, hl with | [_], _ => rfl) len_is_token fun f cdv A outer s H E hr => ⟨_, wk_is_token T hr, fun ds M Q Qx h => rk_is_token h⟩
theorem cal_check_tokens (T : Txt K mg) (d : DefAt K mg "check_tokens" s_check_tokens) (c_is_token : CallD P w K mg base 1 "is_token" sp_is_token []) : CallD P w K mg base 2 "check_tokens" sp_check_tokens [] :=
  call_of (N := ["tokens", "index", "token"]) (ps := ["tokens"]) d sc_check_tokens (fun F => F.binds fun _ _ _ _ _ _ us hl => match us, hl with | [_], _ => rfl) len_check_tokens fun f cdv A outer s H E hr => ⟨_, wk_check_tokens T c_is_token (by decide) hr, fun ds M Q Qx h => rk_check_tokens h⟩
theorem mak_Splitter {C_Splitter : Addr} (q_Splitter : CF_Splitter K C_Splitter) (T : Txt K mg) (c : ClsAt K mg "Splitter" C_Splitter) (d : MethAt K C_Splitter "__init__" "Splitter.__init__" s_Splitter_init) : MakD P w K mg base 1 "Splitter" C_Splitter (sp_Splitter_init C_Splitter) [] :=
  mak_of (N := ["self", "line"]) (ps := ["self", "line"]) c d sc_Splitter_init (fun F => F.binds fun _ _ _ _ _ _ us hl => match us, hl with | [_, _], _ => rfl) (len_Splitter_init C_Splitter) fun f cdv A outer s H E hr => ⟨_, wk_Splitter_init T hr, fun ds M Q Qx h => rk_Splitter_init q_Splitter h⟩
theorem met_Splitter_read_escaped {C_Splitter : Addr} (q_Splitter : CF_Splitter K C_Splitter) (T : Txt K mg) (c : ClsAt K mg "Splitter" C_Splitter) (d : MethAt K C_Splitter "read_escaped" "Splitter.read_escaped" s_Splitter_read_escaped) : MethD P w K mg base 1 C_Splitter "read_escaped" (sp_Splitter_read_escaped C_Splitter) [] :=
  meth_of (N := ["self"]) (ps := ["self"]) c.2.1 d sc_Splitter_read_escaped (fun F => F.binds fun _ _ _ _ _ _ us hl => match us, hl with | [_], _ => rfl) (len_Splitter_read_escaped C_Splitter) fun f cdv A outer s H E hr => ⟨_, wk_Splitter_read_escaped T hr, fun ds M Q Qx h => rk_Splitter_read_escaped q_Splitter h⟩
theorem met_Splitter_read_quoted {C_Splitter : Addr} (q_Splitter : CF_Splitter K C_Splitter) (T : Txt K mg) (c : ClsAt K mg "Splitter" C_Splitter) (d : MethAt K C_Splitter "read_quoted" "Splitter.read_quoted" s_Splitter_read_quoted) (m_Splitter_read_escaped : MethD P w K mg base 1 C_Splitter "read_escaped" (sp_Splitter_read_escaped C_Splitter) []) : MethD P w K mg base 2 C_Splitter "read_quoted" (sp_Splitter_read_quoted C_Splitter) [] :=
  meth_of (N := ["self", "quote_character", "start", "parts", "character"]) (ps := ["self", "quote_character"]) c.2.1 d sc_Splitter_read_quoted (fun F => F.binds fun _ _ _ _ _ _ us hl => match us, hl with | [_, _], _ => rfl) (len_Splitter_read_quoted C_Splitter) fun f cdv A outer s H E hr => ⟨_, wk_Splitter_read_quoted T m_Splitter_read_escaped (by decide) hr, fun ds M Q Qx h => rk_Splitter_read_quoted q_Splitter h⟩
theorem met_Splitter_read_token {C_Splitter : Addr} (q_Splitter : CF_Splitter K C_Splitter) (T : Txt K mg) (c : ClsAt K mg "Splitter" C_Splitter) (d : MethAt K C_Splitter "read_token" "Splitter.read_token" s_Splitter_read_token) (m_Splitter_read_quoted : MethD P w K mg base 2 C_Splitter "read_quoted" (sp_Splitter_read_quoted C_Splitter) []) (m_Splitter_read_escaped : MethD P w K mg base 1 C_Splitter "read_escaped" (sp_Splitter_read_escaped C_Splitter) []) : MethD P w K mg base 3 C_Splitter "read_token" (sp_Splitter_read_token C_Splitter) [] :=
  meth_of (N := ["self", "parts", "character"]) (ps := ["self"]) c.2.1 d sc_Splitter_read_token (fun F => F.binds fun _ _ _ _ _ _ us hl => match us, hl with | [_], _ => rfl) (len_Splitter_read_token C_Splitter) fun f cdv A outer s H E hr => ⟨_, wk_Splitter_read_token T m_Splitter_read_quoted (by decide) m_Splitter_read_escaped (by decide) hr, fun ds M Q Qx h => rk_Splitter_read_token q_Splitter h⟩
theorem met_Splitter_run {C_Splitter : Addr} (q_Splitter : CF_Splitter K C_Splitter) (T : Txt K mg) (c : ClsAt K mg "Splitter" C_Splitter) (d : MethAt K C_Splitter "run" "Splitter.run" s_Splitter_run) (m_Splitter_read_token : MethD P w K mg base 3 C_Splitter "read_token" (sp_Splitter_read_token C_Splitter) []) : MethD P w K mg base 4 C_Splitter "run" (sp_Splitter_run C_Splitter) [] :=
  meth_of (N := ["self"]) (ps := ["self"]) c.2.1 d sc_Splitter_run (fun F => F.binds fun _ _ _ _ _ _ us hl => match us, hl with | [_], _ => rfl) (len_Splitter_run C_Splitter) fun f cdv A outer s H E hr => ⟨_, wk_Splitter_run T m_Splitter_read_token (by decide) hr, fun ds M Q Qx h => rk_Splitter_run q_Splitter h⟩
theorem cal_split_line {C_Splitter : Addr} (T : Txt K mg) (d : DefAt K mg "split_line" s_split_line) (c_check_line : CallD P w K mg base 1 "check_line" sp_check_line []) (m_Splitter_run : MethD P w K mg base 4 C_Splitter "run" (sp_Splitter_run C_Splitter) []) (k_Splitter : MakD P w K mg base 1 "Splitter" C_Splitter (sp_Splitter_init C_Splitter) []) : CallD P w K mg base 5 "split_line" sp_split_line [] :=
  call_of (N := ["line"]) (ps := ["line"]) d sc_split_line (fun F => F.binds fun _ _ _ _ _ _ us hl => match us, hl with | [_], _ => rfl) len_split_line fun f cdv A outer s H E hr => ⟨_, wk_split_line T c_check_line (by decide) m_Splitter_run (by decide) k_Splitter (by decide) hr, fun ds M Q Qx h => rk_split_line h⟩
theorem cal_better (T : Txt K mg) (d : DefAt K mg "better" s_better) : CallD P w K mg base 1 "better" sp_better [] :=
  call_of (N := ["options", "option"]) (ps := ["options"]) d sc_better (fun F => F.binds fun _ _ _ _ _ _ us hl => match us, hl with | [_], _ => rfl) len_better fun f cdv A outer s H E hr => ⟨_, wk_better T hr, fun ds M Q Qx h => rk_better h⟩
theorem cal_quote_token (T : Txt K mg) (d : DefAt K mg "quote_token" s_quote_token) (c_better : CallD P w K mg base 1 "better" sp_better []) : CallD P w K mg base 2 "quote_token" sp_quote_token [] :=
  call_of (N := ["token", "plain", "single", "double", "character", "escaped", "in_double", "in_single", "outside", "rest"]) (ps := ["token"]) d sc_quote_token (fun F => F.binds fun _ _ _ _ _ _ us hl => match us, hl with | [_], _ => rfl) len_quote_token fun f cdv A outer s H E hr => ⟨_, wk_quote_token T c_better (by decide) hr, fun ds M Q Qx h => rk_quote_token h⟩
theorem cal_quote (T : Txt K mg) (d : DefAt K mg "quote" s_quote) (c_check_tokens : CallD P w K mg base 2 "check_tokens" sp_check_tokens []) (c_quote_token : CallD P w K mg base 2 "quote_token" sp_quote_token []) : CallD P w K mg base 3 "quote" sp_quote [] :=
  call_of (N := ["token"]) (ps := ["token"]) d sc_quote (fun F => F.binds fun _ _ _ _ _ _ us hl => match us, hl with | [_], _ => rfl) len_quote fun f cdv A outer s H E hr => ⟨_, wk_quote T c_check_tokens (by decide) c_quote_token (by decide) hr, fun ds M Q Qx h => rk_quote h⟩
theorem cal_join_line (T : Txt K mg) (d : DefAt K mg "join_line" s_join_line) (c_check_tokens : CallD P w K mg base 2 "check_tokens" sp_check_tokens []) (c_quote_token : CallD P w K mg base 2 "quote_token" sp_quote_token []) : CallD P w K mg base 3 "join_line" sp_join_line [] :=
  call_of (N := ["tokens", "line", "token"]) (ps := ["tokens"]) d sc_join_line (fun F => F.binds fun _ _ _ _ _ _ us hl => match us, hl with | [_], _ => rfl) len_join_line fun f cdv A outer s H E hr => ⟨_, wk_join_line T c_check_tokens (by decide) c_quote_token (by decide) hr, fun ds M Q Qx h => rk_join_line h⟩
theorem cal__law_taken (T : Txt K mg) (d : DefAt K mg "_law_taken" s__law_taken) : CallD P w K mg base 1 "_law_taken" sp__law_taken [] :=
  call_of (N := ["_law_row", "_law_many", "_law_found", "_law_cell"]) (ps := ["_law_row", "_law_many"]) d sc__law_taken (fun F => F.binds fun _ _ _ _ _ _ us hl => match us, hl with | [_, _], _ => rfl) len__law_taken fun f cdv A outer s H E hr => ⟨_, wk__law_taken T hr, fun ds M Q Qx h => rk__law_taken h⟩
theorem cal__law_alike (T : Txt K mg) (d : DefAt K mg "_law_alike" s__law_alike) : CallD P w K mg base 1 "_law_alike" sp__law_alike [] :=
  call_of (N := ["_law_one", "_law_due", "_law_k"]) (ps := ["_law_one", "_law_due"]) d sc__law_alike (fun F => F.binds fun _ _ _ _ _ _ us hl => match us, hl with | [_, _], _ => rfl) len__law_alike fun f cdv A outer s H E hr =>
    ⟨_, wk__law_alike T (sp__law_alike := spNo) (call_false (ps := ["_law_one", "_law_due"]) d (fun F => F.binds fun _ _ _ _ _ _ us hl => match us, hl with | [_, _], _ => rfl) 0) (Nat.zero_le _) hr, fun ds M Q Qx h => rk__law_alike h⟩
theorem cal__law_signs (T : Txt K mg) (d : DefAt K mg "_law_signs" s__law_signs) : CallD P w K mg base 1 "_law_signs" sp__law_signs [] :=
  call_of (N := []) (ps := []) d sc__law_signs (fun F => F.binds fun _ _ _ _ _ _ us hl => match us, hl with | [], _ => rfl) len__law_signs fun f cdv A outer s H E hr => ⟨_, wk__law_signs T hr, fun ds M Q Qx h => rk__law_signs h⟩
theorem cal__law_word (T : Txt K mg) (d : DefAt K mg "_law_word" s__law_word) (c__law_signs : CallD P w K mg base 1 "_law_signs" sp__law_signs []) (c__law_taken : CallD P w K mg base 1 "_law_taken" sp__law_taken []) : CallD P w K mg base 2 "_law_word" sp__law_word [] :=
  call_of (N := ["_law_row", "_law_most", "_law_some", "_law_k"]) (ps := ["_law_row", "_law_most"]) d sc__law_word (fun F => F.binds fun _ _ _ _ _ _ us hl => match us, hl with | [_, _], _ => rfl) len__law_word fun f cdv A outer s H E hr => ⟨_, wk__law_word T c__law_signs (by decide) c__law_taken (by decide) hr, fun ds M Q Qx h => rk__law_word h⟩
theorem cal__law_ways (T : Txt K mg) (d : DefAt K mg "_law_ways" s__law_ways) : ∀ n : Nat, CallD P w K mg base (n + 1) "_law_ways" (sp__law_ways n) []
  | 0 => call_of (N := ["_law_token", "_law_mode", "_law_first", "_law_ways_here", "_law_rest", "_law_opened", "_law_here", "_law_forms", "_law_form", "_law_tail"]) (ps := ["_law_token", "_law_mode"]) d sc__law_ways (fun F => F.binds fun _ _ _ _ _ _ us hl => match us, hl with | [_, _], _ => rfl) (len__law_ways 0) fun f cdv A outer s H E hr =>
    ⟨_, wk__law_ways T (sp__law_ways := spWp 0) (call_false (ps := ["_law_token", "_law_mode"]) d (fun F => F.binds fun _ _ _ _ _ _ us hl => match us, hl with | [_, _], _ => rfl) 0) (Nat.zero_le _) hr, fun ds M Q Qx h => rk__law_ways 0 h⟩
  | n + 1 => call_of (N := ["_law_token", "_law_mode", "_law_first", "_law_ways_here", "_law_rest", "_law_opened", "_law_here", "_law_forms", "_law_form", "_law_tail"]) (ps := ["_law_token", "_law_mode"]) d sc__law_ways (fun F => F.binds fun _ _ _ _ _ _ us hl => match us, hl with | [_, _], _ => rfl) (len__law_ways (n + 1)) fun f cdv A outer s H E hr =>
    ⟨_, wk__law_ways T (sp__law_ways := spWp (n + 1)) (cal__law_ways T d n) (Nat.le_refl _) hr, fun ds M Q Qx h => rk__law_ways (n + 1) h⟩
theorem law_ok {fa : Addr} (hfa : mg "law" = some (.ref fa)) (T : Txt K mg) (d : DefAt K mg "law" s_law) (c__law_word : ∀ base : Heap, K.In base → base.Ns mainGlobals mg → CallD P w K mg base 2 "_law_word" sp__law_word []) (c__law_ways : ∀ base : Heap, K.In base → base.Ns mainGlobals mg → CallD P w K mg base 5 "_law_ways" (sp__law_ways 4) []) (c__law_alike : ∀ base : Heap, K.In base → base.Ns mainGlobals mg → CallD P w K mg base 1 "_law_alike" sp__law_alike []) (c_quote : ∀ base : Heap, K.In base → base.Ns mainGlobals mg → CallD P w K mg base 3 "quote" sp_quote []) (c__law_taken : ∀ base : Heap, K.In base → base.Ns mainGlobals mg → CallD P w K mg base 1 "_law_taken" sp__law_taken []) (c_split_line : ∀ base : Heap, K.In base → base.Ns mainGlobals mg → CallD P w K mg base 5 "split_line" sp_split_line []) (c_join_line : ∀ base : Heap, K.In base → base.Ns mainGlobals mg → CallD P w K mg base 3 "join_line" sp_join_line []) :
    ∃ fd : FuncData, (∀ (s : Shared) (v : Value), BindsTo s fd ⟨[v], []⟩ [("_law_script", v)]) ∧ ∀ base : Heap, K.In base → base.Ns mainGlobals mg → FnOk P w K mg base (L2.CX P w) 6 fa fd ["_law_script"] (toSp K (spLaw 63)) :=
  law_end (N := ["_law_script", "_law_row", "_law_turn", "_law_token", "_law_ways_here", "_law_way", "_law_tokens", "_law_k", "_law_simple", "_law_sign", "_law_line"]) hfa d sc_law (fun _ _ _ _ _ _ u => rfl) fun base h1 h2 f cdv A outer s H E hr => ⟨_, wk_law T (c__law_word base h1 h2) (by decide) (c__law_ways base h1 h2) (by decide) (c__law_alike base h1 h2) (by decide) (c_quote base h1 h2) (by decide) (c__law_taken base h1 h2) (by decide) (c_split_line base h1 h2) (by decide) (c_join_line base h1 h2) (by decide) hr, fun ds M Q Qx h => rk_law h⟩
end
end K42

set_option Elab.async false
set_option linter.all false
set_option maxRecDepth 100000
set_option maxHeartbeats 0
/-! k42_shortest_quoting: the law -/
open PySem PySem.W PyProof.Rows in
theorem PySem.Challenge.cw_flagclause_k42_shortest_quoting_holds : PySem.Challenge.rw_flagclause_k42_shortest_quoting.Holds := by
  w_on; o_law; k_head; (case hw => w_witness2)
  k_fill
  refine DL.walk_d (l := PySem.Challenge.rw_flagclause_k42_shortest_quoting) (n := 63) (k := 6) (p := "_law_script") rfl (by decide) rfl ⟨rfl, by decide, by decide⟩ (fun w h Y => PySem.W.kIn_of Y) ?F
  case F =>
    intro w mg fa h KX G hmg
    have T : K42.Txt (DL.kOf KX) mg := by
      unfold DL.kOf
      refine ⟨?_, ?_, ?_, ?_, ?_, ?_, ?_, ?_, ?_, ?_, ?_, ?_, ?_, ?_, ?_, ?_, ?_⟩
      · exact PySem.W.mg_none_of KX G (by k_is)
      · exact PySem.W.mg_none_of KX G (by k_is)
      · exact PySem.W.mg_none_of KX G (by k_is)
      · exact PySem.W.mg_none_of KX G (by k_is)
      · exact PySem.W.mg_none_of KX G (by k_is)
      · exact PySem.W.mg_none_of KX G (by k_is)
      · exact PySem.W.mg_none_of KX G (by k_is)
      · exact PySem.W.mg_none_of KX G (by k_is)
      · exact PySem.W.mg_none_of KX G (by k_is)
      · exact PySem.W.mg_none_of KX G (by k_is)
      · exact PySem.W.mg_none_of KX G (by k_is)
      · exact DL.glob_str KX G (by k_is)
      · exact DL.glob_str KX G (by k_is)
      · exact DL.glob_str KX G (by k_is)
      · exact DL.glob_int KX G (by k_is)
      · exact DL.glob_str KX G (by k_is)
      · exact DL.glob_str KX G (by k_is)
    obtain ⟨C_Splitter, z_Splitter, q_Splitter, d_Splitter_init, d_Splitter_read_escaped, d_Splitter_read_quoted, d_Splitter_read_token, d_Splitter_run⟩ : ∃ C, DL.ClsAt (DL.kOf KX) mg "Splitter" C ∧ K42.CF_Splitter (DL.kOf KX) C ∧ DL.MethAt (DL.kOf KX) C "__init__" "Splitter.__init__" K42.s_Splitter_init ∧ DL.MethAt (DL.kOf KX) C "read_escaped" "Splitter.read_escaped" K42.s_Splitter_read_escaped ∧ DL.MethAt (DL.kOf KX) C "read_quoted" "Splitter.read_quoted" K42.s_Splitter_read_quoted ∧ DL.MethAt (DL.kOf KX) C "read_token" "Splitter.read_token" K42.s_Splitter_read_token ∧ DL.MethAt (DL.kOf KX) C "run" "Splitter.run" K42.s_Splitter_run := by
      unfold DL.kOf
      refine' ⟨_, DL.cls_at KX G ?a ?pg ?hd ?po ?sa ?mk ?kc, ⟨?cl, ?n_line, ?n_position, ?n_found⟩, DL.meth_at K42.s_Splitter_init ?a0 ?i0 ?l0 ?c0 ?k0, DL.meth_at K42.s_Splitter_read_escaped ?a1 ?i1 ?l1 ?c1 ?k1, DL.meth_at K42.s_Splitter_read_quoted ?a2 ?i2 ?l2 ?c2 ?k2, DL.meth_at K42.s_Splitter_read_token ?a3 ?i3 ?l3 ?c3 ?k3, DL.meth_at K42.s_Splitter_run ?a4 ?i4 ?l4 ?c4 ?k4⟩
      (case a => k_is)
      (case pg => k_is)
      (case hd => k_is)
      (case po => k_is)
      (case sa => k_is)
      (case mk => k_is)
      (case kc => k_is)
      (case cl => exact ⟨by k_is, by k_is, by k_is, by k_is⟩)
      (case n_line => unfold L2.NoAttr; k_is)
      (case n_position => unfold L2.NoAttr; k_is)
      (case n_found => unfold L2.NoAttr; k_is)
      (case a0 => k_is)
      (case i0 => k_is)
      (case l0 => k_is)
      (case c0 => k_is)
      (case k0 => k_is)
      (case a1 => k_is)
      (case i1 => k_is)
      (case l1 => k_is)
      (case c1 => k_is)
      (case k1 => k_is)
      (case a2 => k_is)
      (case i2 => k_is)
      (case l2 => k_is)
      (case c2 => k_is)
      (case k2 => k_is)
      (case a3 => k_is)
      (case i3 => k_is)
      (case l3 => k_is)
      (case c3 => k_is)
      (case k3 => k_is)
      (case a4 => k_is)
      (case i4 => k_is)
      (case l4 => k_is)
      (case c4 => k_is)
      (case k4 => k_is)
    have d_check_line : DL.DefAt (DL.kOf KX) mg "check_line" K42.s_check_line := by
      unfold DL.kOf
      refine' DL.def_at KX G K42.s_check_line ?a ?l ?c ?k
      (case a => k_is)
      (case l => k_is)
      (case c => k_is)
      (case k => k_is)
    have d_is_token : DL.DefAt (DL.kOf KX) mg "is_token" K42.s_is_token := by
      unfold DL.kOf
      refine' DL.def_at KX G K42.s_is_token ?a ?l ?c ?k
      (case a => k_is)
      (case l => k_is)
      (case c => k_is)
      (case k => k_is)
    have d_check_tokens : DL.DefAt (DL.kOf KX) mg "check_tokens" K42.s_check_tokens := by
      unfold DL.kOf
      refine' DL.def_at KX G K42.s_check_tokens ?a ?l ?c ?k
      (case a => k_is)
      (case l => k_is)
      (case c => k_is)
      (case k => k_is)
    have d_split_line : DL.DefAt (DL.kOf KX) mg "split_line" K42.s_split_line := by
      unfold DL.kOf
      refine' DL.def_at KX G K42.s_split_line ?a ?l ?c ?k
      (case a => k_is)
      (case l => k_is)
      (case c => k_is)
      (case k => k_is)
    have d_better : DL.DefAt (DL.kOf KX) mg "better" K42.s_better := by
      unfold DL.kOf
      refine' DL.def_at KX G K42.s_better ?a ?l ?c ?k
      (case a => k_is)
      (case l => k_is)
      (case c => k_is)
      (case k => k_is)
    have d_quote_token : DL.DefAt (DL.kOf KX) mg "quote_token" K42.s_quote_token := by
      unfold DL.kOf
      refine' DL.def_at KX G K42.s_quote_token ?a ?l ?c ?k
      (case a => k_is)
      (case l => k_is)
      (case c => k_is)
      (case k => k_is)
    have d_quote : DL.DefAt (DL.kOf KX) mg "quote" K42.s_quote := by
      unfold DL.kOf
      refine' DL.def_at KX G K42.s_quote ?a ?l ?c ?k
      (case a => k_is)
      (case l => k_is)
      (case c => k_is)
      (case k => k_is)
    have d_join_line : DL.DefAt (DL.kOf KX) mg "join_line" K42.s_join_line := by
      unfold DL.kOf
      refine' DL.def_at KX G K42.s_join_line ?a ?l ?c ?k
      (case a => k_is)
      (case l => k_is)
      (case c => k_is)
      (case k => k_is)
    have d__law_taken : DL.DefAt (DL.kOf KX) mg "_law_taken" K42.s__law_taken := by
      unfold DL.kOf
      refine' DL.def_at KX G K42.s__law_taken ?a ?l ?c ?k
      (case a => k_is)
      (case l => k_is)
      (case c => k_is)
      (case k => k_is)
    have d__law_alike : DL.DefAt (DL.kOf KX) mg "_law_alike" K42.s__law_alike := by
      unfold DL.kOf
      refine' DL.def_at KX G K42.s__law_alike ?a ?l ?c ?k
      (case a => k_is)
      (case l => k_is)
      (case c => k_is)
      (case k => k_is)
    have d__law_signs : DL.DefAt (DL.kOf KX) mg "_law_signs" K42.s__law_signs := by
      unfold DL.kOf
      refine' DL.def_at KX G K42.s__law_signs ?a ?l ?c ?k
      (case a => k_is)
      (case l => k_is)
      (case c => k_is)
      (case k => k_is)
    have d__law_word : DL.DefAt (DL.kOf KX) mg "_law_word" K42.s__law_word := by
      unfold DL.kOf
      refine' DL.def_at KX G K42.s__law_word ?a ?l ?c ?k
      (case a => k_is)
      (case l => k_is)
      (case c => k_is)
      (case k => k_is)
    have d__law_ways : DL.DefAt (DL.kOf KX) mg "_law_ways" K42.s__law_ways := by
      unfold DL.kOf
      refine' DL.def_at KX G K42.s__law_ways ?a ?l ?c ?k
      (case a => k_is)
      (case l => k_is)
      (case c => k_is)
      (case k => k_is)
    have d_law : DL.DefAt (DL.kOf KX) mg "law" K42.s_law := by
      unfold DL.kOf
      refine' DL.def_at KX G K42.s_law ?a ?l ?c ?k
      (case a => k_is)
      (case l => k_is)
      (case c => k_is)
      (case k => k_is)
    have X : True := trivial
    have c_check_line := fun (base : Heap) (h1 : (DL.kOf KX).In base) (h2 : base.Ns mainGlobals mg) => K42.cal_check_line (P := PySem.Challenge.pw_flagclause_k42_shortest_quoting) (w := w) (base := base) T d_check_line
    have c_is_token := fun (base : Heap) (h1 : (DL.kOf KX).In base) (h2 : base.Ns mainGlobals mg) => K42.cal_is_token (P := PySem.Challenge.pw_flagclause_k42_shortest_quoting) (w := w) (base := base) T d_is_token
    have c_check_tokens := fun (base : Heap) (h1 : (DL.kOf KX).In base) (h2 : base.Ns mainGlobals mg) => K42.cal_check_tokens (P := PySem.Challenge.pw_flagclause_k42_shortest_quoting) (w := w) (base := base) T d_check_tokens (c_is_token base h1 h2)
    have k_Splitter := fun (base : Heap) (h1 : (DL.kOf KX).In base) (h2 : base.Ns mainGlobals mg) => K42.mak_Splitter (P := PySem.Challenge.pw_flagclause_k42_shortest_quoting) (w := w) (base := base) q_Splitter T z_Splitter d_Splitter_init
    have m_Splitter_read_escaped := fun (base : Heap) (h1 : (DL.kOf KX).In base) (h2 : base.Ns mainGlobals mg) => K42.met_Splitter_read_escaped (P := PySem.Challenge.pw_flagclause_k42_shortest_quoting) (w := w) (base := base) q_Splitter T z_Splitter d_Splitter_read_escaped
    have m_Splitter_read_quoted := fun (base : Heap) (h1 : (DL.kOf KX).In base) (h2 : base.Ns mainGlobals mg) => K42.met_Splitter_read_quoted (P := PySem.Challenge.pw_flagclause_k42_shortest_quoting) (w := w) (base := base) q_Splitter T z_Splitter d_Splitter_read_quoted (m_Splitter_read_escaped base h1 h2)
    have m_Splitter_read_token := fun (base : Heap) (h1 : (DL.kOf KX).In base) (h2 : base.Ns mainGlobals mg) => K42.met_Splitter_read_token (P := PySem.Challenge.pw_flagclause_k42_shortest_quoting) (w := w) (base := base) q_Splitter T z_Splitter d_Splitter_read_token (m_Splitter_read_quoted base h1 h2) (m_Splitter_read_escaped base h1 h2)
    have m_Splitter_run := fun (base : Heap) (h1 : (DL.kOf KX).In base) (h2 : base.Ns mainGlobals mg) => K42.met_Splitter_run (P := PySem.Challenge.pw_flagclause_k42_shortest_quoting) (w := w) (base := base) q_Splitter T z_Splitter d_Splitter_run (m_Splitter_read_token base h1 h2)
    have c_split_line := fun (base : Heap) (h1 : (DL.kOf KX).In base) (h2 : base.Ns mainGlobals mg) => K42.cal_split_line (P := PySem.Challenge.pw_flagclause_k42_shortest_quoting) (w := w) (base := base) T d_split_line (c_check_line base h1 h2) (m_Splitter_run base h1 h2) (k_Splitter base h1 h2)
    have c_better := fun (base : Heap) (h1 : (DL.kOf KX).In base) (h2 : base.Ns mainGlobals mg) => K42.cal_better (P := PySem.Challenge.pw_flagclause_k42_shortest_quoting) (w := w) (base := base) T d_better
    have c_quote_token := fun (base : Heap) (h1 : (DL.kOf KX).In base) (h2 : base.Ns mainGlobals mg) => K42.cal_quote_token (P := PySem.Challenge.pw_flagclause_k42_shortest_quoting) (w := w) (base := base) T d_quote_token (c_better base h1 h2)
    have c_quote := fun (base : Heap) (h1 : (DL.kOf KX).In base) (h2 : base.Ns mainGlobals mg) => K42.cal_quote (P := PySem.Challenge.pw_flagclause_k42_shortest_quoting) (w := w) (base := base) T d_quote (c_check_tokens base h1 h2) (c_quote_token base h1 h2)
    have c_join_line := fun (base : Heap) (h1 : (DL.kOf KX).In base) (h2 : base.Ns mainGlobals mg) => K42.cal_join_line (P := PySem.Challenge.pw_flagclause_k42_shortest_quoting) (w := w) (base := base) T d_join_line (c_check_tokens base h1 h2) (c_quote_token base h1 h2)
    have c__law_taken := fun (base : Heap) (h1 : (DL.kOf KX).In base) (h2 : base.Ns mainGlobals mg) => K42.cal__law_taken (P := PySem.Challenge.pw_flagclause_k42_shortest_quoting) (w := w) (base := base) T d__law_taken
    have c__law_alike := fun (base : Heap) (h1 : (DL.kOf KX).In base) (h2 : base.Ns mainGlobals mg) => K42.cal__law_alike (P := PySem.Challenge.pw_flagclause_k42_shortest_quoting) (w := w) (base := base) T d__law_alike
    have c__law_signs := fun (base : Heap) (h1 : (DL.kOf KX).In base) (h2 : base.Ns mainGlobals mg) => K42.cal__law_signs (P := PySem.Challenge.pw_flagclause_k42_shortest_quoting) (w := w) (base := base) T d__law_signs
    have c__law_word := fun (base : Heap) (h1 : (DL.kOf KX).In base) (h2 : base.Ns mainGlobals mg) => K42.cal__law_word (P := PySem.Challenge.pw_flagclause_k42_shortest_quoting) (w := w) (base := base) T d__law_word (c__law_signs base h1 h2) (c__law_taken base h1 h2)
    have c__law_ways := fun (base : Heap) (h1 : (DL.kOf KX).In base) (h2 : base.Ns mainGlobals mg) => K42.cal__law_ways (P := PySem.Challenge.pw_flagclause_k42_shortest_quoting) (w := w) (base := base) T d__law_ways 4
    exact K42.law_ok hmg T d_law c__law_word c__law_ways c__law_alike c_quote c__law_taken c_split_line c_join_line
