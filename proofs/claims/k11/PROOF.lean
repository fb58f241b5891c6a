import PyProof.Rows.All
import Wide.All
import OpenK.AllK
import Wide.FinOn
import PyProof.EqAt
import PyProof.EqKinds
import PyProof.TupleCall
import HandS.ForMost
import HandS.ForExc
import HandS.Zip
import HandS.Wide
import HandS.IsInst
import HandS.TupAny
import HandS.TupMul
import HandS.Conv
import HandS.Deep
import HandS.SetFor
import HandS.Style
import HandS.StrMore
import HandS.FStr
import HandS.ExcIs
import HandS.TryMany
import KE.GoesZip
import KE.GoesEnum
import HandS.Flow
import KE.KDictKeyed
import KE.KeyNested
import KE.LtData
import KE.KDictSum
import KE.KDictCopyH
import HandS.SortOrd
import HandS.SortRule
import HandS.TupSets
import HandS.OwnEq
import KE.KCallOwn
import OpenK.KOps
import PyProof.InstNe
import PyProof.FactsAll.object_2
import HandS.Text
import HandS.RaiseMore
import HandS.ExcInit
import HandS.ExcField
import KE.KExcIs
import PySem.Challenge.RW_toldaverages_k11_text
set_option Elab.async false
set_option linter.all false
set_option maxRecDepth 100000
set_option maxHeartbeats 4000000
namespace DD
open PySem PySem.Spec PyProof.Rows L2

/-! data of a value in a heap that grows only -/
mutual
inductive Rp (G : Hp) : V → PyData → Prop
  | non : Rp G .non .none
  | bl (b : Bool) : Rp G (.bl b) (.bool b)
  | int (i : Int) : Rp G (.int i) (.int i)
  | str (x : Str) : Rp G (.str x) (.str x)
  | lst {a : Addr} {xs : List V} {ds : List PyData} : G a = some (.lst xs) → RpA G xs ds → Rp G (.ref a) (.list ds)
  | tup {a : Addr} {xs : List V} {ds : List PyData} : G a = some (.tup xs) → RpA G xs ds → Rp G (.ref a) (.tuple ds)
inductive RpA (G : Hp) : List V → List PyData → Prop
  | nil : RpA G [] []
  | cons {v : V} {vs : List V} {d : PyData} {ds : List PyData} : Rp G v d → RpA G vs ds → RpA G (v :: vs) (d :: ds)
end

def Sub (G H : Hp) : Prop := ∀ a o, G a = some o → H a = some o
theorem Sub.refl (G : Hp) : Sub G G := fun _ _ h => h
theorem Sub.trans {A B C : Hp} (x : Sub A B) (y : Sub B C) : Sub A C := fun a o h => y a o (x a o h)

mutual
theorem Rp.up {G G' : Hp} (s : Sub G G') : ∀ {v : V} {d : PyData}, Rp G v d → Rp G' v d
  | _, _, .non => .non
  | _, _, .bl b => .bl b
  | _, _, .int i => .int i
  | _, _, .str x => .str x
  | _, _, .lst h a => .lst (s _ _ h) (RpA.up s a)
  | _, _, .tup h a => .tup (s _ _ h) (RpA.up s a)
theorem RpA.up {G G' : Hp} (s : Sub G G') : ∀ {v : List V} {d : List PyData}, RpA G v d → RpA G' v d
  | _, _, .nil => .nil
  | _, _, .cons h t => .cons (Rp.up s h) (RpA.up s t)
end
mutual
theorem Rp.dp {K : PySem.W.Frag} {G : Hp} : ∀ {v : V} {d : PyData}, Rp G v d → Dp K G v d
  | _, _, .non => .non
  | _, _, .bl b => .bl b
  | _, _, .int i => .int i
  | _, _, .str x => .str x
  | _, _, .lst h a => .lst (.of h) (RpA.dp a)
  | _, _, .tup h a => .tup (.of h) (RpA.dp a)
theorem RpA.dp {K : PySem.W.Frag} {G : Hp} : ∀ {v : List V} {d : List PyData}, RpA G v d → DpAll K G v d
  | _, _, .nil => .nil
  | _, _, .cons h t => .cons (Rp.dp h) (RpA.dp t)
end
theorem RpA.length {G : Hp} : ∀ {vs : List V} {ds : List PyData}, RpA G vs ds → vs.length = ds.length
  | _, _, .nil => rfl
  | _, _, .cons _ t => by rw [List.length_cons, List.length_cons, t.length]
theorem RpA.append {G : Hp} : ∀ {vs ws : List V} {ds es : List PyData}, RpA G vs ds → RpA G ws es → RpA G (vs ++ ws) (ds ++ es)
  | _, _, _, _, .nil, s => s
  | _, _, _, _, .cons r t, s => .cons r (t.append s)
theorem RpA.get {G : Hp} : ∀ {vs : List V} {ds : List PyData} {i : Nat} {d : PyData}, RpA G vs ds → ds[i]? = some d → ∃ v, vs[i]? = some v ∧ Rp G v d
  | _, _, _, _, .nil, e => by simp at e
  | _, _, 0, _, .cons r _, e => by simp at e; subst e; exact ⟨_, rfl, r⟩
  | _, _, i + 1, d, .cons _ t, e => by
    obtain ⟨u, h1, h2⟩ := RpA.get (i := i) (d := d) t (by simpa using e)
    exact ⟨u, by simpa using h1, h2⟩
theorem RpA.gets {G : Hp} : ∀ {vs : List V} {ds : List PyData} {i : Nat} {v : V}, RpA G vs ds → vs[i]? = some v → ∃ d, ds[i]? = some d ∧ Rp G v d
  | _, _, _, _, .nil, e => by simp at e
  | _, _, 0, _, .cons r _, e => by simp at e; subst e; exact ⟨_, rfl, r⟩
  | _, _, i + 1, d, .cons _ t, e => by
    obtain ⟨u, h1, h2⟩ := RpA.gets (i := i) (v := d) t (by simpa using e)
    exact ⟨u, by simpa using h1, h2⟩
theorem RpA.take {G : Hp} : ∀ {vs : List V} {ds : List PyData} (n : Nat), RpA G vs ds → RpA G (vs.take n) (ds.take n)
  | _, _, 0, _ => .nil
  | _, _, _ + 1, .nil => .nil
  | _, _, n + 1, .cons r t => .cons r (RpA.take n t)
theorem RpA.drop {G : Hp} : ∀ {vs : List V} {ds : List PyData} (n : Nat), RpA G vs ds → RpA G (vs.drop n) (ds.drop n)
  | _, _, 0, r => r
  | _, _, _ + 1, .nil => .nil
  | _, _, n + 1, .cons _ t => RpA.drop n t
theorem RpA.set {G : Hp} {x : V} {u : PyData} (r : Rp G x u) : ∀ {xs : List V} {us : List PyData} (i : Nat), RpA G xs us → RpA G (xs.set i x) (us.set i u)
  | _, _, _, .nil => .nil
  | _, _, 0, .cons _ t => .cons r t
  | _, _, i + 1, .cons q t => .cons q (RpA.set r i t)
theorem RpA.rep {G : Hp} {xs : List V} {us : List PyData} (h : RpA G xs us) : ∀ k : Nat, RpA G (List.replicate k xs).flatten (List.replicate k us).flatten
  | 0 => .nil
  | k + 1 => h.append (RpA.rep h k)
theorem RpA.reverse {G : Hp} : ∀ {vs : List V} {ds : List PyData}, RpA G vs ds → RpA G vs.reverse ds.reverse
  | _, _, .nil => .nil
  | _, _, .cons r t => by
    rw [List.reverse_cons, List.reverse_cons]
    exact t.reverse.append (.cons r .nil)

/-- the heaps behind: G holds data, H all; what is new in G is new -/
structure Ext (G H G' H' : Hp) : Prop where
  gg : Sub G G'
  hh : Sub H H'
  gh : Sub G' H'
  nw : ∀ a o, G' a = some o → G a = some o ∨ H a = none
theorem Ext.refl {G H : Hp} (s : Sub G H) : Ext G H G H := ⟨.refl _, .refl _, s, fun _ _ h => .inl h⟩
theorem free_back {H H' : Hp} {a : Addr} (s : Sub H H') (h : H' a = none) : H a = none := by
  cases q : H a with
  | none => rfl
  | some o => rw [s a o q] at h; cases h
theorem Ext.trans {G H G1 H1 G2 H2 : Hp} (x : Ext G H G1 H1) (y : Ext G1 H1 G2 H2) : Ext G H G2 H2 :=
  ⟨x.gg.trans y.gg, x.hh.trans y.hh, y.gh, fun a o h => by
    rcases y.nw a o h with h | h
    · exact x.nw a o h
    · exact .inr (free_back x.hh h)⟩
/-- a new object that holds data -/
theorem Ext.new {G H : Hp} {p : Addr} {o : HO} (s : Sub G H) (hp : H p = none) : Ext G H (upd G p o) (upd H p o) := by
  have e : Sub H (upd H p o) := fun a u h => by
    rw [upd_ne (ne_of_none h hp)]; exact h
  have g : G p = none := free_back s hp
  refine ⟨fun a u h => ?_, e, fun a u h => ?_, fun a u h => ?_⟩
  · rw [upd_ne (ne_of_none h g)]; exact h
  · by_cases q : a = p
    · subst q; rw [upd_same] at h ⊢; exact h
    · rw [upd_ne q] at h ⊢; exact s a u h
  · by_cases q : a = p
    · subst q; exact .inr hp
    · rw [upd_ne q] at h; exact .inl h

/-! ### what stands in the slots -/
inductive SV where
  | un
  | dat (d : PyData)
  | own (ds : List PyData)
  | raw (v : V)
  | pin (v : V) (φ : Hp → Prop) (m : ∀ H H', Sub H H' → φ H → φ H')
  /-- an object of one's own that may change: what stands there, over the data's heap -/
  | obj (φ : Hp → Addr → HO → Prop) (m : ∀ G G' p o, Sub G G' → φ G p o → φ G' p o)
abbrev En := List SV

def SlotOk (H₀ G H : Hp) (x : Option (Option V)) : SV → Prop
  | .un => True
  | .dat d => ∃ v, x = some (some v) ∧ Rp G v d
  | .own ds => ∃ p vs, x = some (some (.ref p)) ∧ H₀ p = none ∧ G p = none ∧ H p = some (.lst vs) ∧ RpA G vs ds
  | .raw v => x = some (some v)
  | .pin v φ _ => x = some (some v) ∧ φ H₀
  | .obj φ _ => ∃ p o, x = some (some (.ref p)) ∧ H₀ p = none ∧ G p = none ∧ H p = some o ∧ φ G p o
def SV.isOwn : SV → Bool
  | .own _ => true
  | .obj _ _ => true
  | _ => false
structure Sat (H₀ G H : Hp) (σ : L2.St) (ρ : En) : Prop where
  sub : Sub G H
  len : σ.length = ρ.length
  slot : ∀ (i : Nat) (s : SV), ρ[i]? = some s → SlotOk H₀ G H σ[i]? s
  apart : ∀ (i j : Nat) (s t : SV) (p : Addr), i ≠ j → ρ[i]? = some s → ρ[j]? = some t → s.isOwn = true → t.isOwn = true → σ[i]? = some (some (.ref p)) → σ[j]? ≠ some (some (.ref p))
  old : Sub H₀ H

theorem SlotOk.up {H₀ G H G' H' : Hp} {x : Option (Option V)} {s : SV} (e : Ext G H G' H') (h : SlotOk H₀ G H x s) : SlotOk H₀ G' H' x s := by
  cases s with
  | un => trivial
  | dat d => obtain ⟨v, e1, r⟩ := h; exact ⟨v, e1, r.up e.gg⟩
  | raw v => exact h
  | pin v φ m => exact h
  | own ds =>
    obtain ⟨p, vs, e1, h0, hg, hh, r⟩ := h
    refine ⟨p, vs, e1, h0, ?_, e.hh _ _ hh, r.up e.gg⟩
    cases q : G' p with
    | none => rfl
    | some o =>
      rcases e.nw p o q with z | z
      · rw [hg] at z; cases z
      · rw [hh] at z; cases z
  | obj φ m =>
    obtain ⟨p, u, e1, h0, hg, hh, r⟩ := h
    refine ⟨p, u, e1, h0, ?_, e.hh _ _ hh, m _ _ _ _ e.gg r⟩
    cases q : G' p with
    | none => rfl
    | some o =>
      rcases e.nw p o q with z | z
      · rw [hg] at z; cases z
      · rw [hh] at z; cases z
theorem Sat.up {H₀ G H G' H' : Hp} {σ : L2.St} {ρ : En} (h : Sat H₀ G H σ ρ) (e : Ext G H G' H') : Sat H₀ G' H' σ ρ :=
  ⟨e.gh, h.len, fun i s q => (h.slot i s q).up e, h.apart, h.old.trans e.hh⟩
/-- a slot is stored with data (or forgotten) -/
theorem Sat.set {H₀ G H : Hp} {σ : L2.St} {ρ : En} {i : Nat} {v : V} {s : SV} (h : Sat H₀ G H σ ρ) (hs : SlotOk H₀ G H (some (some v)) s)
    (ho : s.isOwn = true → ∀ j t, j ≠ i → ρ[j]? = some t → t.isOwn = true → σ[j]? ≠ some (some v)) : Sat H₀ G H (σ.set i (some v)) (ρ.set i s) := by
  refine ⟨h.sub, by rw [List.length_set, List.length_set, h.len], fun j t q => ?_, fun a b s1 t1 p hab q1 q2 o1 o2 r1 => ?_, h.old⟩
  · by_cases e : i = j
    · subst e
      by_cases hl : i < ρ.length
      · rw [List.getElem?_set_self hl] at q; cases q
        rw [List.getElem?_set_self (by rw [h.len]; exact hl)]; exact hs
      · rw [List.getElem?_eq_none (by rw [List.length_set]; omega)] at q; cases q
    · rw [List.getElem?_set_ne e] at q ⊢; exact h.slot j t q
  · have key : ∀ {a : Nat} {s1 : SV}, (ρ.set i s)[a]? = some s1 → s1.isOwn = true → (a = i ∧ s1 = s ∧ (σ.set i (some v))[a]? = some (some v)) ∨ (a ≠ i ∧ ρ[a]? = some s1 ∧ (σ.set i (some v))[a]? = σ[a]?) := by
      intro a s1 q o
      by_cases e : i = a
      · subst e
        by_cases hl : i < ρ.length
        · rw [List.getElem?_set_self hl] at q; cases q
          exact .inl ⟨rfl, rfl, List.getElem?_set_self (by rw [h.len]; exact hl)⟩
        · rw [List.getElem?_eq_none (by rw [List.length_set]; omega)] at q; cases q
      · rw [List.getElem?_set_ne e] at q
        exact .inr ⟨Ne.symm e, q, List.getElem?_set_ne e⟩
    rcases key q1 o1 with ⟨ea, es, ev⟩ | ⟨ea, eρ, ev⟩
    · rcases key q2 o2 with ⟨eb, et, ew⟩ | ⟨eb, eρb, ew⟩
      · exact absurd (ea.trans eb.symm) hab
      · rw [ew]
        rw [ev] at r1
        have : v = .ref p := by injection r1 with z; injection z
        subst this
        subst es
        exact ho o1 b t1 eb eρb o2
    · rcases key q2 o2 with ⟨eb, et, ew⟩ | ⟨eb, eρb, ew⟩
      · rw [ew]
        rw [ev] at r1
        intro z
        have : v = .ref p := by injection z with z; injection z
        subst this
        subst et
        exact ho o2 a s1 ea eρ o1 r1
      · rw [ew]
        rw [ev] at r1
        exact h.apart a b s1 t1 p hab eρ eρb o1 o2 r1
/-- weaker slots -/
inductive Weak : En → En → Prop
  | nil : Weak [] []
  | eq {s : SV} {ρ ρ' : En} : Weak ρ ρ' → Weak (s :: ρ) (s :: ρ')
  | un {s : SV} {ρ ρ' : En} : Weak ρ ρ' → Weak (s :: ρ) (.un :: ρ')
theorem Weak.refl : ∀ ρ : En, Weak ρ ρ
  | [] => .nil
  | _ :: ρ => .eq (Weak.refl ρ)
theorem Weak.length : ∀ {ρ ρ' : En}, Weak ρ ρ' → ρ.length = ρ'.length
  | _, _, .nil => rfl
  | _, _, .eq h => by rw [List.length_cons, List.length_cons, h.length]
  | _, _, .un h => by rw [List.length_cons, List.length_cons, h.length]
theorem Weak.at_ : ∀ {ρ ρ' : En} {i : Nat} {s : SV}, Weak ρ ρ' → ρ'[i]? = some s → ρ[i]? = some s ∨ s = .un
  | _, _, _, _, .nil, e => by simp at e
  | _, _, 0, _, .eq _, e => .inl e
  | _, _, 0, _, .un _, e => by simp at e; exact .inr e.symm
  | _, _, i + 1, s, .eq h, e => Weak.at_ (i := i) h (by simpa using e)
  | _, _, i + 1, s, .un h, e => Weak.at_ (i := i) h (by simpa using e)
theorem Sat.weak {H₀ G H : Hp} {σ : L2.St} {ρ ρ' : En} (h : Sat H₀ G H σ ρ) (w : Weak ρ ρ') : Sat H₀ G H σ ρ' := by
  refine ⟨h.sub, h.len.trans w.length, fun i s q => ?_, fun i j s t p hij q1 q2 o1 o2 r1 => ?_, h.old⟩
  · rcases w.at_ q with z | z
    · exact h.slot i s z
    · subst z; trivial
  · rcases w.at_ q1 with z | z
    · rcases w.at_ q2 with z2 | z2
      · exact h.apart i j s t p hij z z2 o1 o2 r1
      · subst z2; cases o2
    · subst z; cases o1
/-- an own list's list is data from now on -/
theorem Sat.freeze {H₀ G H : Hp} {σ : L2.St} {ρ : En} {i : Nat} {ds : List PyData} (h : Sat H₀ G H σ ρ) (hi : ρ[i]? = some (.own ds)) :
    ∃ G', Sub G G' ∧ Sub G' H ∧ (∀ a o, G' a = some o → G a = some o ∨ H₀ a = none) ∧ Sat H₀ G' H σ (ρ.set i (.dat (.list ds))) := by
  obtain ⟨p, vs, e1, h0, hg, hh, r⟩ := h.slot i _ hi
  have gg : Sub G (upd G p (.lst vs)) := fun a u q => by rw [upd_ne (ne_of_none q hg)]; exact q
  have gh : Sub (upd G p (.lst vs)) H := fun a u q => by
    by_cases z : a = p
    · subst z; rw [upd_same] at q; cases q; exact hh
    · rw [upd_ne z] at q; exact h.sub a u q
  refine ⟨upd G p (.lst vs), gg, gh, fun a o q => ?_, gh, by rw [List.length_set, h.len], fun j t q => ?_, fun a b s t pp hab q1 q2 o1 o2 r1 => ?_, h.old⟩
  · by_cases z : a = p
    · subst z; exact .inr h0
    · rw [upd_ne z] at q; exact .inl q
  · by_cases e : i = j
    · subst e
      have hl : i < ρ.length := (List.getElem?_eq_some_iff.mp hi).1
      rw [List.getElem?_set_self hl] at q; cases q
      exact ⟨.ref p, e1, .lst upd_same (r.up gg)⟩
    · rw [List.getElem?_set_ne e] at q
      have x := h.slot j t q
      cases t with
      | un => trivial
      | dat d => obtain ⟨v, e2, r2⟩ := x; exact ⟨v, e2, r2.up gg⟩
      | raw v => exact x
      | pin v φ m => exact x
      | own es =>
        obtain ⟨p2, ws, e2, h02, hg2, hh2, r2⟩ := x
        have ne : p2 ≠ p := fun z => h.apart i j _ _ p e hi q rfl rfl e1 (by rw [e2, z])
        exact ⟨p2, ws, e2, h02, by rw [upd_ne ne]; exact hg2, hh2, r2.up gg⟩
      | obj φ m =>
        obtain ⟨p2, u, e2, h02, hg2, hh2, r2⟩ := x
        have ne : p2 ≠ p := fun z => h.apart i j _ _ p e hi q rfl rfl e1 (by rw [e2, z])
        exact ⟨p2, u, e2, h02, by rw [upd_ne ne]; exact hg2, hh2, m _ _ _ _ gg r2⟩
  · have back : ∀ {a : Nat} {s : SV}, (ρ.set i (.dat (.list ds)))[a]? = some s → s.isOwn = true → ρ[a]? = some s := by
      intro a s q o
      by_cases e : i = a
      · subst e
        have hl : i < ρ.length := (List.getElem?_eq_some_iff.mp hi).1
        rw [List.getElem?_set_self hl] at q; cases q; cases o
      · rw [List.getElem?_set_ne e] at q; exact q
    exact h.apart a b s t pp hab (back q1 o1) (back q2 o2) o1 o2 r1
end DD
namespace DD
open PySem PySem.Spec PyProof.Rows L2

/-! ### outcomes -/
structure Exn where
  cls : Addr
  line : Option PyData := none
inductive Out where
  | ret (d : PyData)
  | exc (x : Exn)
def ExcAt (G H : Hp) (x : Exn) (c : Value) (a : Option Addr) : Prop :=
  c = .ref x.cls ∧ match x.line with
    | none => a = none
    | some l => ∃ dx v, a = some dx ∧ H dx = some (.xd [(("line" : Str), v)]) ∧ Rp G v l
/-- what is wanted of a value that is data -/
def Res (G H : Hp) (d : PyData) (Q : VK) : Prop := ∀ v G' H', Ext G H G' H' → Rp G' v d → Q v H'
def OutK (W : WX) (σ : L2.St) (G H : Hp) (o : Out) (Q : VK) : Prop :=
  match o with
  | .ret d => Res G H d Q
  | .exc x => ∀ c a G' H', Ext G H G' H' → ExcAt G' H' x c a → W c a σ H'
theorem Res.back {G H G1 H1 : Hp} {d : PyData} {Q : VK} (q : Res G H d Q) (e : Ext G H G1 H1) : Res G1 H1 d Q := fun v G' H' e' r => q v G' H' (e.trans e') r
theorem OutK.back {W : WX} {σ : L2.St} {G H G1 H1 : Hp} {o : Out} {Q : VK} (q : OutK W σ G H o Q) (e : Ext G H G1 H1) : OutK W σ G1 H1 o Q := by
  cases o with
  | ret d => exact Res.back q e
  | exc x => exact fun c a G' H' e' r => q c a G' H' (e.trans e') r
theorem Res.of {G H : Hp} {d : PyData} {Q : VK} {v : V} (q : Res G H d Q) (s : Sub G H) (r : Rp G v d) : Q v H := q v G H (.refl s) r

/-! ### readings by what they mean -/
def tD (X : Cx) (e : Expr) : TE := fun σ H Q => ∀ (pins : List (Addr × Obj)) (s : Shared), Inv X pins σ H s → wpAny (model X.prog X.w) X.A (eval e X.env) (EP X pins σ Q) X.xe s
theorem pe_D {X : Cx} {e : Expr} : PE X e (tD X e) := ⟨fun pins s _ _ _ I h => h pins s I⟩
def tT (X : Cx) (e : Expr) : TT := fun σ H Q => ∀ (pins : List (Addr × Obj)) (s : Shared), Inv X pins σ H s → wpAny (model X.prog X.w) X.A (isTrue e X.env (eval e X.env)) (TP X pins σ Q) X.xe s
theorem pt_T {X : Cx} {e : Expr} : PT X e (tT X e) := ⟨fun pins s _ _ _ I h => h pins s I⟩
def tW (X : Cx) (e : Expr) : TT := fun σ H Q => ∀ (whole : Sem Value) (pins : List (Addr × Obj)) (s : Shared), Inv X pins σ H s → wpAny (model X.prog X.w) X.A (isTrue e X.env whole) (TP X pins σ Q) X.xe s
theorem pw_W {X : Cx} {e : Expr} : PW X e (tW X e) := ⟨fun wh pins s _ _ _ I h => h wh pins s I⟩
def tA (X : Cx) (es : List Expr) : TA := fun σ H Q => ∀ (pos : Pos) (pins : List (Addr × Obj)) (s : Shared), Inv X pins σ H s → wpAny (model X.prog X.w) X.A (spliced (backTo pos (starEach es X.env))) (AP X pins σ Q) X.xe s
theorem pa_A {X : Cx} {es : List Expr} : PA X es (tA X es) := ⟨fun pos pins s _ _ _ I h => h pos pins s I⟩
def tO (X : Cx) (e : Option Expr) : TO := fun σ H Q => ∀ t : TO, PO X e t → t σ H Q → True

/-! ### the judgements -/
structure DE (X : Cx) (ρ : En) (e : Expr) (d : PyData) : Prop where
  run : ∀ H₀ G H σ Q, Sat H₀ G H σ ρ → Res G H d Q → tD X e σ H Q
instance {X : Cx} {ρ : En} {e : Expr} {d : PyData} : CoeFun (DE X ρ e d) (fun _ => ∀ H₀ G H σ Q, Sat H₀ G H σ ρ → Res G H d Q → tD X e σ H Q) := ⟨DE.run⟩
structure DX (X : Cx) (W : WX) (ρ : En) (e : Expr) (o : Out) : Prop where
  run : ∀ H₀ G H σ Q, Sat H₀ G H σ ρ → OutK W σ G H o Q → tD X e σ H Q
instance {X : Cx} {W : WX} {ρ : En} {e : Expr} {o : Out} : CoeFun (DX X W ρ e o) (fun _ => ∀ H₀ G H σ Q, Sat H₀ G H σ ρ → OutK W σ G H o Q → tD X e σ H Q) := ⟨DX.run⟩
/-- a new list -/
structure DL (X : Cx) (ρ : En) (e : Expr) (ds : List PyData) : Prop where
  run : ∀ H₀ G H σ Q, Sat H₀ G H σ ρ → (∀ p vs G' H', Ext G H G' H' → H p = none → G' p = none → H' p = some (.lst vs) → RpA G' vs ds → Q (.ref p) H') → tD X e σ H Q
instance {X : Cx} {ρ : En} {e : Expr} {ds : List PyData} : CoeFun (DL X ρ e ds) (fun _ => ∀ H₀ G H σ Q, Sat H₀ G H σ ρ → (∀ p vs G' H', Ext G H G' H' → H p = none → G' p = none → H' p = some (.lst vs) → RpA G' vs ds → Q (.ref p) H') → tD X e σ H Q) := ⟨DL.run⟩
structure DT (X : Cx) (ρ : En) (e : Expr) (b : Bool) : Prop where
  run : ∀ H₀ G H σ Q, Sat H₀ G H σ ρ → (∀ G' H', Ext G H G' H' → Q b H') → tT X e σ H Q
instance {X : Cx} {ρ : En} {e : Expr} {b : Bool} : CoeFun (DT X ρ e b) (fun _ => ∀ H₀ G H σ Q, Sat H₀ G H σ ρ → (∀ G' H', Ext G H G' H' → Q b H') → tT X e σ H Q) := ⟨DT.run⟩
structure DW (X : Cx) (ρ : En) (e : Expr) (b : Bool) : Prop where
  run : ∀ H₀ G H σ Q, Sat H₀ G H σ ρ → (∀ G' H', Ext G H G' H' → Q b H') → tW X e σ H Q
instance {X : Cx} {ρ : En} {e : Expr} {b : Bool} : CoeFun (DW X ρ e b) (fun _ => ∀ H₀ G H σ Q, Sat H₀ G H σ ρ → (∀ G' H', Ext G H G' H' → Q b H') → tW X e σ H Q) := ⟨DW.run⟩
structure DA (X : Cx) (ρ : En) (es : List Expr) (ds : List PyData) : Prop where
  run : ∀ H₀ G H σ Q, Sat H₀ G H σ ρ → (∀ vs G' H', Ext G H G' H' → RpA G' vs ds → Q vs H') → tA X es σ H Q
instance {X : Cx} {ρ : En} {es : List Expr} {ds : List PyData} : CoeFun (DA X ρ es ds) (fun _ => ∀ H₀ G H σ Q, Sat H₀ G H σ ρ → (∀ vs G' H', Ext G H G' H' → RpA G' vs ds → Q vs H') → tA X es σ H Q) := ⟨DA.run⟩
/-- a raw value (an object's address) -/
structure DV (X : Cx) (ρ : En) (e : Expr) (v : V) : Prop where
  run : ∀ H₀ G H σ Q, Sat H₀ G H σ ρ → (∀ G' H', Ext G H G' H' → Q v H') → tD X e σ H Q
instance {X : Cx} {ρ : En} {e : Expr} {v : V} : CoeFun (DV X ρ e v) (fun _ => ∀ H₀ G H σ Q, Sat H₀ G H σ ρ → (∀ G' H', Ext G H G' H' → Q v H') → tD X e σ H Q) := ⟨DV.run⟩

section
variable {X : Cx} {W : WX} {ρ : En} {e a b c : Expr} {es : List Expr} {d d1 d2 z : PyData} {o : Out} {pos : Pos}

theorem de_of {t : TE} (h : PE X e t) (hr : ∀ H₀ G H σ Q, Sat H₀ G H σ ρ → Res G H d Q → t σ H Q) : DE X ρ e d :=
  .mk fun H₀ G H σ Q S q pins s I => h.run pins s σ H Q I (hr H₀ G H σ Q S q)
theorem dx_of {t : TE} (h : PE X e t) (hr : ∀ H₀ G H σ Q, Sat H₀ G H σ ρ → OutK W σ G H o Q → t σ H Q) : DX X W ρ e o :=
  .mk fun H₀ G H σ Q S q pins s I => h.run pins s σ H Q I (hr H₀ G H σ Q S q)
theorem dt_of {t : TT} {k : Bool} (h : PT X e t) (hr : ∀ H₀ G H σ Q, Sat H₀ G H σ ρ → (∀ G' H', Ext G H G' H' → Q k H') → t σ H Q) : DT X ρ e k :=
  .mk fun H₀ G H σ Q S q pins s I => h.run pins s σ H Q I (hr H₀ G H σ Q S q)
theorem dx_ret (h : DE X ρ e d) : DX X W ρ e (.ret d) := .mk fun H₀ G H σ Q S q => h H₀ G H σ Q S q
theorem de_is (h : DE X ρ e d) (q : d = z) : DE X ρ e z := q ▸ h
theorem dt_is {k k' : Bool} (h : DT X ρ e k) (q : k = k') : DT X ρ e k' := q ▸ h
theorem de_ofL {ds : List PyData} (h : DL X ρ e ds) : DE X ρ e (.list ds) := .mk fun H₀ G H σ Q S q => h H₀ G H σ Q S fun p vs G' H' e' hp gp hh r => by
  have gg : Sub G' (upd G' p (.lst vs)) := fun a u k => by rw [upd_ne (ne_of_none k gp)]; exact k
  refine q _ (upd G' p (.lst vs)) H' ⟨e'.gg.trans gg, e'.hh, fun a u k => ?_, fun a u k => ?_⟩ (.lst upd_same (r.up gg))
  · by_cases z : a = p
    · subst z; rw [upd_same] at k; cases k; exact hh
    · rw [upd_ne z] at k; exact e'.gh a u k
  · by_cases z : a = p
    · subst z; exact .inr hp
    · rw [upd_ne z] at k; exact e'.nw a u k

/-! names, constants -/
theorem de_var {i : Nat} {x : Str} (hρ : ρ[i]? = some (.dat d)) (hN : X.N[i]? = some x := by rfl) (hv : Vis X.env.scope x := by first | exact Or.inl rfl | exact Or.inr (Or.inl rfl) | exact Or.inr (Or.inr rfl))
    (hd : (x == ("__debug__" : Str)) = false := by decide) (hcd : (x == ("__classdict__" : Str)) = false := by decide) : DE X ρ (.Name x pos) d :=
  de_of (pe_var hN hv hd hcd) fun H₀ G H σ Q S q => by
    obtain ⟨v, e1, r⟩ := S.slot i _ hρ
    exact ⟨v, e1, q.of S.sub r⟩
theorem dv_var {i : Nat} {x : Str} {v : V} (hρ : ρ[i]? = some (.raw v)) (hN : X.N[i]? = some x := by rfl) (hv : Vis X.env.scope x := by first | exact Or.inl rfl | exact Or.inr (Or.inl rfl) | exact Or.inr (Or.inr rfl))
    (hd : (x == ("__debug__" : Str)) = false := by decide) (hcd : (x == ("__classdict__" : Str)) = false := by decide) : DV X ρ (.Name x pos) v :=
  .mk fun H₀ G H σ Q S q pins s I => (pe_var (X := X) (pos := pos) hN hv hd hcd).run pins s σ H Q I ⟨v, S.slot i _ hρ, q G H (.refl S.sub)⟩
theorem de_int {j : Int} {k} : DE X ρ (.Constant (.int j) k pos) (.int j) := de_of pe_int fun H₀ G H σ Q S q => q.of S.sub (.int j)
theorem de_bl {j : Bool} {k} : DE X ρ (.Constant (.bool j) k pos) (.bool j) := de_of pe_bl fun H₀ G H σ Q S q => q.of S.sub (.bl j)
theorem de_non {k} : DE X ρ (.Constant .none k pos) .none := de_of pe_non fun H₀ G H σ Q S q => q.of S.sub .non
theorem de_str {x : Str} {k} : DE X ρ (.Constant (.str x) k pos) (.str x) := de_of pe_str fun H₀ G H σ Q S q => q.of S.sub (.str x)
/-- a module's constant: an int, a text -/
theorem de_globI {x : Str} {j : Int} {t : Tok} (hm : X.mg x = some (.int j t)) (hg : Gl X x := by rfl) (hd : (x == ("__debug__" : Str)) = false := by decide) : DE X ρ (.Name x pos) (.int j) :=
  de_of (pe_glob hg hm (v := .int j) ⟨t, rfl⟩ hd) fun H₀ G H σ Q S q => q.of S.sub (.int j)
theorem de_globS {x y : Str} {t : Tok} (hm : X.mg x = some (.str y t)) (hg : Gl X x := by rfl) (hd : (x == ("__debug__" : Str)) = false := by decide) : DE X ρ (.Name x pos) (.str y) :=
  de_of (pe_glob hg hm (v := .str y) ⟨t, rfl⟩ hd) fun H₀ G H σ Q S q => q.of S.sub (.str y)

/-! two-place operations by their readings on data -/
def R2D (r : R2) (d1 d2 z : PyData) : Prop := ∀ G H x y Q, Sub G H → Rp G x d1 → Rp G y d2 → Res G H z Q → r x y H Q
theorem de_op {op : Operator} {r : R2} (ho : OpR X (binaryOp op) r) (hr : R2D r d1 d2 z) (ha : DE X ρ a d1) (hb : DE X ρ b d2) : DE X ρ (.BinOp a op b pos) z :=
  de_of (pe_op ho pe_D pe_D) fun H₀ G H σ Q S q => ha H₀ G H σ _ S fun v G1 H1 e1 r1 => hb H₀ G1 H1 σ _ (S.up e1) fun u G2 H2 e2 r2 => hr G2 H2 v u Q e2.gh (r1.up e2.gg) r2 (q.back (e1.trans e2))
theorem de_cmp {op : CmpOp} {r : R2} (ho : OpR X (compareOp op) r) (hr : R2D r d1 d2 z) (hm : behindInMarks op b = false) (ha : DE X ρ a d1) (hb : DE X ρ b d2) : DE X ρ (.Compare a [op] [b] pos) z :=
  de_of (pe_cmpR ho pe_D pe_D hm) fun H₀ G H σ Q S q => ha H₀ G H σ _ S fun v G1 H1 e1 r1 => hb H₀ G1 H1 σ _ (S.up e1) fun u G2 H2 e2 r2 => hr G2 H2 v u Q e2.gh (r1.up e2.gg) r2 (q.back (e1.trans e2))
theorem dt_cmp {op : CmpOp} {r : R2} {k : Bool} (ho : OpR X (compareOp op) r) (hr : R2D r d1 d2 (.bool k)) (hm : behindInMarks op b = false) (ha : DE X ρ a d1) (hb : DE X ρ b d2) : DT X ρ (.Compare a [op] [b] pos) k :=
  dt_of (pt_cmpR ho pe_D pe_D hm) fun H₀ G H σ Q S q => ha H₀ G H σ _ S fun v G1 H1 e1 r1 => hb H₀ G1 H1 σ _ (S.up e1) fun u G2 H2 e2 r2 => hr G2 H2 v u _ e2.gh (r1.up e2.gg) r2 fun w G3 H3 e3 r3 => by
    cases r3
    exact ⟨k, rfl, q G3 H3 ((e1.trans e2).trans e3)⟩
theorem r2_I {C : Int → Int → Prop} {g : Int → Int → Int} {i j : Int} (hc : C i j) : R2D (rI C fun i j => .int (g i j)) (.int i) (.int j) (.int (g i j)) := fun G H x y Q s r1 r2 q => by
  cases r1; cases r2
  exact ⟨i, j, rfl, rfl, hc, q.of s (.int _)⟩
theorem r2_I0 {g : Int → Int → Int} {i j : Int} : R2D (rI0 fun i j => .int (g i j)) (.int i) (.int j) (.int (g i j)) := fun G H x y Q s r1 r2 q => by
  cases r1; cases r2
  exact ⟨i, j, rfl, rfl, q.of s (.int _)⟩
theorem r2_B0 {g : Int → Int → Bool} {i j : Int} : R2D (rI0 fun i j => .bl (g i j)) (.int i) (.int j) (.bool (g i j)) := fun G H x y Q s r1 r2 q => by
  cases r1; cases r2
  exact ⟨i, j, rfl, rfl, q.of s (.bl _)⟩
theorem de_add {i j : Int} (ha : DE X ρ a (.int i)) (hb : DE X ρ b (.int j)) : DE X ρ (.BinOp a .Add b pos) (.int (i + j)) := de_op op_add r2_I0 ha hb
theorem de_sub {i j : Int} (ha : DE X ρ a (.int i)) (hb : DE X ρ b (.int j)) : DE X ρ (.BinOp a .Sub b pos) (.int (i - j)) := de_op op_sub r2_I0 ha hb
theorem de_modN {i j : Int} (ha : DE X ρ a (.int i)) (hb : DE X ρ b (.int j)) (h : j ≠ 0) : DE X ρ (.BinOp a .Mod b pos) (.int (i.fmod j)) := de_op op_modN (r2_I h) ha hb
theorem de_mod {i j : Int} (ha : DE X ρ a (.int i)) (hb : DE X ρ b (.int j)) (h : 0 < j) : DE X ρ (.BinOp a .Mod b pos) (.int (i % j)) := de_op op_mod (r2_I h) ha hb
theorem de_fdivS {i j : Int} (ha : DE X ρ a (.int i)) (hb : DE X ρ b (.int j)) (h : CDiv i j) : DE X ρ (.BinOp a .FloorDiv b pos) (.int (i / j)) := de_op op_fdiv (r2_I h) ha hb
theorem de_mulS {i j : Int} (ha : DE X ρ a (.int i)) (hb : DE X ρ b (.int j)) (h : CMul i j) : DE X ρ (.BinOp a .Mult b pos) (.int (i * j)) := de_op op_mul (r2_I h) ha hb
theorem de_pow {i j : Int} (ha : DE X ρ a (.int i)) (hb : DE X ρ b (.int j)) (h : CPow i j) : DE X ρ (.BinOp a .Pow b pos) (.int (i ^ j.toNat)) := de_op op_pow (r2_I h) ha hb
theorem de_neg {i : Int} (ha : DE X ρ a (.int i)) : DE X ρ (.UnaryOp .USub a pos) (.int (-i)) :=
  de_of (pe_un un_neg pe_D) fun H₀ G H σ Q S q => ha H₀ G H σ _ S fun v G1 H1 e1 r1 => by
    cases r1
    exact ⟨i, rfl, (q.back e1).of e1.gh (.int _)⟩
theorem de_lt {i j : Int} (ha : DE X ρ a (.int i)) (hb : DE X ρ b (.int j)) : DE X ρ (.Compare a [.Lt] [b] pos) (.bool (decide (i < j))) := de_cmp op_lt r2_B0 (nomark _) ha hb
theorem de_le {i j : Int} (ha : DE X ρ a (.int i)) (hb : DE X ρ b (.int j)) : DE X ρ (.Compare a [.LtE] [b] pos) (.bool (decide (i ≤ j))) := de_cmp op_le r2_B0 (nomark _) ha hb
theorem de_gt {i j : Int} (ha : DE X ρ a (.int i)) (hb : DE X ρ b (.int j)) : DE X ρ (.Compare a [.Gt] [b] pos) (.bool (decide (j < i))) := de_cmp op_gt r2_B0 (nomark _) ha hb
theorem de_ge {i j : Int} (ha : DE X ρ a (.int i)) (hb : DE X ρ b (.int j)) : DE X ρ (.Compare a [.GtE] [b] pos) (.bool (decide (j ≤ i))) := de_cmp op_ge r2_B0 (nomark _) ha hb
theorem dt_lt {i j : Int} (ha : DE X ρ a (.int i)) (hb : DE X ρ b (.int j)) : DT X ρ (.Compare a [.Lt] [b] pos) (decide (i < j)) := dt_cmp op_lt r2_B0 (nomark _) ha hb
theorem dt_le {i j : Int} (ha : DE X ρ a (.int i)) (hb : DE X ρ b (.int j)) : DT X ρ (.Compare a [.LtE] [b] pos) (decide (i ≤ j)) := dt_cmp op_le r2_B0 (nomark _) ha hb
theorem dt_gt {i j : Int} (ha : DE X ρ a (.int i)) (hb : DE X ρ b (.int j)) : DT X ρ (.Compare a [.Gt] [b] pos) (decide (j < i)) := dt_cmp op_gt r2_B0 (nomark _) ha hb
theorem dt_ge {i j : Int} (ha : DE X ρ a (.int i)) (hb : DE X ρ b (.int j)) : DT X ρ (.Compare a [.GtE] [b] pos) (decide (j ≤ i)) := dt_cmp op_ge r2_B0 (nomark _) ha hb
theorem r2_eq (h1 : SeqAt.shaped d1 = true) (h2 : SeqAt.shaped d2 = true) {K : PySem.W.Frag} : R2D (rEqD K) d1 d2 (.bool (PyData.eqv d1 d2)) := fun G H x y Q s r1 r2 q =>
  ⟨d1, d2, (r1.up s).dp, (r2.up s).dp, h1, h2, q.of s (.bl _)⟩
theorem r2_ne (h1 : SeqAt.shaped d1 = true) (h2 : SeqAt.shaped d2 = true) {K : PySem.W.Frag} : R2D (rNeD K) d1 d2 (.bool (!PyData.eqv d1 d2)) := fun G H x y Q s r1 r2 q =>
  ⟨d1, d2, (r1.up s).dp, (r2.up s).dp, h1, h2, q.of s (.bl _)⟩
theorem de_eq (hu : X.A.units + 64 < cLine) (ha : DE X ρ a d1) (hb : DE X ρ b d2) (h1 : SeqAt.shaped d1 = true) (h2 : SeqAt.shaped d2 = true) : DE X ρ (.Compare a [.Eq] [b] pos) (.bool (PyData.eqv d1 d2)) := de_cmp (op_eqD hu) (r2_eq h1 h2) (nomark _) ha hb
theorem de_ne (hu : X.A.units + 64 < cLine) (ha : DE X ρ a d1) (hb : DE X ρ b d2) (h1 : SeqAt.shaped d1 = true) (h2 : SeqAt.shaped d2 = true) : DE X ρ (.Compare a [.NotEq] [b] pos) (.bool (!PyData.eqv d1 d2)) := de_cmp (op_neD hu) (r2_ne h1 h2) (nomark _) ha hb
theorem dt_eq (hu : X.A.units + 64 < cLine) (ha : DE X ρ a d1) (hb : DE X ρ b d2) (h1 : SeqAt.shaped d1 = true) (h2 : SeqAt.shaped d2 = true) : DT X ρ (.Compare a [.Eq] [b] pos) (PyData.eqv d1 d2) := dt_cmp (op_eqD hu) (r2_eq h1 h2) (nomark _) ha hb
theorem dt_ne (hu : X.A.units + 64 < cLine) (ha : DE X ρ a d1) (hb : DE X ρ b d2) (h1 : SeqAt.shaped d1 = true) (h2 : SeqAt.shaped d2 = true) : DT X ρ (.Compare a [.NotEq] [b] pos) (!PyData.eqv d1 d2) := dt_cmp (op_neD hu) (r2_ne h1 h2) (nomark _) ha hb
theorem dt_eqI {i j : Int} (ha : DE X ρ a (.int i)) (hb : DE X ρ b (.int j)) : DT X ρ (.Compare a [.Eq] [b] pos) (decide (i = j)) := dt_cmp op_eq (fun G H x y Q s r1 r2 q => by
  cases r1; cases r2
  refine ⟨rfl, ?_⟩
  rw [show decide (V.int i = V.int j) = decide (i = j) by simp]
  exact q.of s (.bl _)) (nomark _) ha hb
theorem dt_neI {i j : Int} (ha : DE X ρ a (.int i)) (hb : DE X ρ b (.int j)) : DT X ρ (.Compare a [.NotEq] [b] pos) (!decide (i = j)) := dt_cmp op_ne (fun G H x y Q s r1 r2 q => by
  cases r1; cases r2
  refine ⟨rfl, ?_⟩
  rw [show decide (V.int i = V.int j) = decide (i = j) by simp]
  exact q.of s (.bl _)) (nomark _) ha hb
theorem de_eqI {i j : Int} (ha : DE X ρ a (.int i)) (hb : DE X ρ b (.int j)) : DE X ρ (.Compare a [.Eq] [b] pos) (.bool (decide (i = j))) := de_cmp op_eq (fun G H x y Q s r1 r2 q => by
  cases r1; cases r2
  refine ⟨rfl, ?_⟩
  rw [show decide (V.int i = V.int j) = decide (i = j) by simp]
  exact q.of s (.bl _)) (nomark _) ha hb
theorem de_neI {i j : Int} (ha : DE X ρ a (.int i)) (hb : DE X ρ b (.int j)) : DE X ρ (.Compare a [.NotEq] [b] pos) (.bool (!decide (i = j))) := de_cmp op_ne (fun G H x y Q s r1 r2 q => by
  cases r1; cases r2
  refine ⟨rfl, ?_⟩
  rw [show decide (V.int i = V.int j) = decide (i = j) by simp]
  exact q.of s (.bl _)) (nomark _) ha hb
/-- is None -/
def isNone : PyData → Bool
  | .none => true
  | _ => false
theorem rp_non {G : Hp} {v : V} (r : Rp G v d) : decide (v = .non) = isNone d := by cases r <;> rfl
theorem dt_isN (ha : DE X ρ a d) {k} {p2 : Pos} : DT X ρ (.Compare a [.Is] [.Constant .none k p2] pos) (isNone d) := dt_cmp (d2 := .none) op_isN (fun G H x y Q s r1 r2 q => by
  cases r2
  refine ⟨rfl, ?_⟩
  rw [rp_non r1]
  exact q.of s (.bl _)) (nomark _) ha de_non
theorem dt_notN (ha : DE X ρ a d) {k} {p2 : Pos} : DT X ρ (.Compare a [.IsNot] [.Constant .none k p2] pos) (!isNone d) := dt_cmp (d2 := .none) op_notN (fun G H x y Q s r1 r2 q => by
  cases r2
  refine ⟨rfl, ?_⟩
  rw [rp_non r1]
  exact q.of s (.bl _)) (nomark _) ha de_non
theorem de_isN (ha : DE X ρ a d) {k} {p2 : Pos} : DE X ρ (.Compare a [.Is] [.Constant .none k p2] pos) (.bool (isNone d)) := de_cmp (d2 := .none) op_isN (fun G H x y Q s r1 r2 q => by
  cases r2
  refine ⟨rfl, ?_⟩
  rw [rp_non r1]
  exact q.of s (.bl _)) (nomark _) ha de_non
/-- chains of two -/
theorem de_chain {op op' : CmpOp} {r r' : R2} {k k' : Bool} {d3 : PyData} (ho : OpR X (compareOp op) r) (ho' : OpR X (compareOp op') r') (h1 : R2D r d1 d2 (.bool k)) (h2 : R2D r' d2 d3 (.bool k'))
    (ha : DE X ρ a d1) (hb : DE X ρ b d2) (hc : DE X ρ c d3) (hm : lastMarks [op, op'] [b, c] = false := by with_unfolding_all rfl) : DE X ρ (.Compare a [op, op'] [b, c] pos) (.bool (k && k')) :=
  de_of (pe_chain ho ho' pe_D pe_D pe_D hm) fun H₀ G H σ Q S q => ha H₀ G H σ _ S fun x G1 H1 e1 r1 => hb H₀ G1 H1 σ _ (S.up e1) fun y G2 H2 e2 r2 => h1 G2 H2 x y _ e2.gh (r1.up e2.gg) r2 fun w G3 H3 e3 r3 => by
    cases r3
    refine ⟨k, rfl, ?_⟩
    have e13 := (e1.trans e2).trans e3
    cases k with
    | false => exact (q.back e13).of e3.gh (.bl _)
    | true => exact hc H₀ G3 H3 σ _ (S.up e13) fun z G4 H4 e4 r4 => h2 G4 H4 y z Q e4.gh (r2.up (e3.gg.trans e4.gg)) r4 (q.back (e13.trans e4))
theorem dt_chain {op op' : CmpOp} {r r' : R2} {k k' : Bool} {d3 : PyData} (ho : OpR X (compareOp op) r) (ho' : OpR X (compareOp op') r') (h1 : R2D r d1 d2 (.bool k)) (h2 : R2D r' d2 d3 (.bool k'))
    (ha : DE X ρ a d1) (hb : DE X ρ b d2) (hc : DE X ρ c d3) (hm : lastMarks [op, op'] [b, c] = false := by with_unfolding_all rfl) : DT X ρ (.Compare a [op, op'] [b, c] pos) (k && k') :=
  dt_of (pt_chain ho ho' pe_D pe_D pe_D hm) fun H₀ G H σ Q S q => by
    refine ha H₀ G H σ _ S fun x G1 H1 e1 r1 => ?_
    refine hb H₀ G1 H1 σ _ (S.up e1) fun y G2 H2 e2 r2 => ?_
    refine h1 G2 H2 x y _ e2.gh (r1.up e2.gg) r2 fun w G3 H3 e3 r3 => ?_
    cases r3
    refine ⟨k, rfl, ?_⟩
    have e13 := (e1.trans e2).trans e3
    cases k with
    | false => exact ⟨false, rfl, q _ _ e13⟩
    | true =>
      refine hc H₀ G3 H3 σ _ (S.up e13) fun z G4 H4 e4 r4 => ?_
      refine h2 G4 H4 y z _ e4.gh (r2.up (e3.gg.trans e4.gg)) r4 fun w G5 H5 e5 r5 => ?_
      cases r5
      exact ⟨k', rfl, q _ _ ((e13.trans e4).trans e5)⟩
theorem de_lele {i j k : Int} (ha : DE X ρ a (.int i)) (hb : DE X ρ b (.int j)) (hc : DE X ρ c (.int k)) (hm : lastMarks [.LtE, .LtE] [b, c] = false := by with_unfolding_all rfl) :
    DE X ρ (.Compare a [.LtE, .LtE] [b, c] pos) (.bool (decide (i ≤ j) && decide (j ≤ k))) := de_chain op_le op_le r2_B0 r2_B0 ha hb hc hm
theorem dt_lele {i j k : Int} (ha : DE X ρ a (.int i)) (hb : DE X ρ b (.int j)) (hc : DE X ρ c (.int k)) (hm : lastMarks [.LtE, .LtE] [b, c] = false := by with_unfolding_all rfl) :
    DT X ρ (.Compare a [.LtE, .LtE] [b, c] pos) (decide (i ≤ j) && decide (j ≤ k)) := dt_chain op_le op_le r2_B0 r2_B0 ha hb hc hm

/-! tests -/
theorem dt_val {k : Bool} (h : DE X ρ e (.bool k)) (he : ∀ whole, isTrue e X.env whole = (do let v ← whole; standAt e.pos; holding [v] (truthy v)) := by intro _; rfl) : DT X ρ e k :=
  dt_of (pt_val pe_D he) fun H₀ G H σ Q S q => h H₀ G H σ _ S fun v G1 H1 e1 r1 => by
    cases r1
    exact ⟨k, rfl, q _ _ e1⟩
/-- truth of data -/
def truD : PyData → Bool
  | .none => false
  | .bool b => b
  | .int i => i != 0
  | .str s => (s.length : Int) != 0
  | .list xs => !xs.isEmpty
  | .tuple xs => !xs.isEmpty
  | .dict _ => false
theorem isEmpty_rp {G : Hp} {vs : List V} {ds : List PyData} (h : RpA G vs ds) : vs.isEmpty = ds.isEmpty := by cases h <;> rfl
theorem dt_tru (h : DE X ρ e d) (hs : ∀ s, d = .str s → s.length ≤ sizeLine := by intro s h; cases h) (he : ∀ whole, isTrue e X.env whole = (do let v ← whole; standAt e.pos; holding [v] (truthy v)) := by intro _; rfl) : DT X ρ e (truD d) :=
  dt_of (pt_truth pe_D he) fun H₀ G H σ Q S q => h H₀ G H σ _ S fun v G1 H1 e1 r1 => by
    refine ⟨truD d, ?_, q _ _ e1⟩
    cases r1 with
    | non => exact rfl
    | bl b => exact rfl
    | int i => exact rfl
    | str s => exact ⟨hs s rfl, rfl⟩
    | lst h1 h2 => exact .inl ⟨_, .of (e1.gh _ _ h1), by rw [isEmpty_rp h2]; rfl⟩
    | tup h1 h2 => exact .inr (.inl ⟨_, .of (e1.gh _ _ h1), by rw [isEmpty_rp h2]; rfl⟩)
theorem dt_not {k : Bool} (h : DT X ρ a k) : DT X ρ (.UnaryOp .Not a pos) (!k) :=
  dt_of (pt_not pt_T) fun H₀ G H σ Q S q => h H₀ G H σ _ S fun G1 H1 e1 => q _ _ e1
theorem dw_and1 {k : Bool} (h : DT X ρ a k) : DW X ρ (.BoolOp .And [a] pos) k := .mk fun H₀ G H σ Q S q wh pins s I => (pw_and1 pt_T).run wh pins s σ H Q I (h H₀ G H σ Q S q)
theorem dw_or1 {k : Bool} (h : DT X ρ a k) : DW X ρ (.BoolOp .Or [a] pos) k := .mk fun H₀ G H σ Q S q wh pins s I => (pw_or1 pt_T).run wh pins s σ H Q I (h H₀ G H σ Q S q)
theorem dw_and {k k' : Bool} (h : DT X ρ a k) (h2 : k = true → DW X ρ (.BoolOp .And (b :: es) pos) k') : DW X ρ (.BoolOp .And (a :: b :: es) pos) (k && k') := .mk fun H₀ G H σ Q S q wh pins s I =>
  (pw_and pt_T pw_W).run wh pins s σ H Q I (h H₀ G H σ _ S fun G1 H1 e1 => by
    cases k with
    | false => exact q _ _ e1
    | true => exact h2 rfl H₀ G1 H1 σ Q (S.up e1) fun G2 H2 e2 => q _ _ (e1.trans e2))
theorem dw_or {k k' : Bool} (h : DT X ρ a k) (h2 : k = false → DW X ρ (.BoolOp .Or (b :: es) pos) k') : DW X ρ (.BoolOp .Or (a :: b :: es) pos) (k || k') := .mk fun H₀ G H σ Q S q wh pins s I =>
  (pw_or pt_T pw_W).run wh pins s σ H Q I (h H₀ G H σ _ S fun G1 H1 e1 => by
    cases k with
    | true => exact q _ _ e1
    | false => exact h2 rfl H₀ G1 H1 σ Q (S.up e1) fun G2 H2 e2 => q _ _ (e1.trans e2))
theorem dt_w {k : Bool} (h : DW X ρ e k) : DT X ρ e k := dt_of pw_W.pt h
theorem de_one {op} (h : DE X ρ a d) : DE X ρ (.BoolOp op [a] pos) d := de_of (pe_one pe_D) fun H₀ G H σ Q S q => h H₀ G H σ Q S q
theorem de_and {k : Bool} (h : DE X ρ a (.bool k)) (h2 : k = true → DE X ρ (.BoolOp .And (b :: es) pos) d) (h3 : k = false → d = .bool false) : DE X ρ (.BoolOp .And (a :: b :: es) pos) d :=
  de_of (pe_and pe_D pe_D) fun H₀ G H σ Q S q => h H₀ G H σ _ S fun v G1 H1 e1 r1 => by
    cases r1
    refine ⟨k, rfl, ?_⟩
    cases k with
    | true => exact h2 rfl H₀ G1 H1 σ Q (S.up e1) (q.back e1)
    | false => rw [h3 rfl] at q; exact (q.back e1).of e1.gh (.bl _)
theorem de_or {k : Bool} (h : DE X ρ a (.bool k)) (h2 : k = false → DE X ρ (.BoolOp .Or (b :: es) pos) d) (h3 : k = true → d = .bool true) : DE X ρ (.BoolOp .Or (a :: b :: es) pos) d :=
  de_of (pe_or pe_D pe_D) fun H₀ G H σ Q S q => h H₀ G H σ _ S fun v G1 H1 e1 r1 => by
    cases r1
    refine ⟨k, rfl, ?_⟩
    cases k with
    | false => exact h2 rfl H₀ G1 H1 σ Q (S.up e1) (q.back e1)
    | true => rw [h3 rfl] at q; exact (q.back e1).of e1.gh (.bl _)
theorem de_andB {k k' : Bool} (h : DE X ρ a (.bool k)) (h2 : k = true → DE X ρ (.BoolOp .And (b :: es) pos) (.bool k')) : DE X ρ (.BoolOp .And (a :: b :: es) pos) (.bool (k && k')) :=
  de_and h (fun e => by subst e; exact h2 rfl) (fun e => by subst e; rfl)
theorem de_orB {k k' : Bool} (h : DE X ρ a (.bool k)) (h2 : k = false → DE X ρ (.BoolOp .Or (b :: es) pos) (.bool k')) : DE X ρ (.BoolOp .Or (a :: b :: es) pos) (.bool (k || k')) :=
  de_or h (fun e => by subst e; exact h2 rfl) (fun e => by subst e; rfl)
theorem de_notB {k : Bool} (h : DE X ρ a (.bool k)) : DE X ρ (.UnaryOp .Not a pos) (.bool (!k)) :=
  de_of (pe_not pe_D) fun H₀ G H σ Q S q => h H₀ G H σ _ S fun v G1 H1 e1 r1 => by
    cases r1
    exact ⟨k, rfl, (q.back e1).of e1.gh (.bl _)⟩
theorem dx_if {k : Bool} (h : DT X ρ c k) (h1 : k = true → DX X W ρ a o) (h2 : k = false → DX X W ρ b o) : DX X W ρ (.IfExp c a b pos) o :=
  dx_of (pe_ifExp pt_T pe_D pe_D) fun H₀ G H σ Q S q => h H₀ G H σ _ S fun G1 H1 e1 => by
    cases k with
    | true => exact h1 rfl H₀ G1 H1 σ Q (S.up e1) (q.back e1)
    | false => exact h2 rfl H₀ G1 H1 σ Q (S.up e1) (q.back e1)
theorem de_if {k : Bool} (h : DT X ρ c k) (h1 : k = true → DE X ρ a d) (h2 : k = false → DE X ρ b d) : DE X ρ (.IfExp c a b pos) d :=
  .mk fun H₀ G H σ Q S q => dx_if (W := fun _ _ _ _ => False) (o := .ret d) h (fun e => dx_ret (h1 e)) (fun e => dx_ret (h2 e)) H₀ G H σ Q S q

/-! arguments, displays -/
theorem da_nil : DA X ρ [] [] := .mk fun H₀ G H σ Q S q pos pins s I => pa_nil.run pos pins s σ H Q I (q [] G H (.refl S.sub) .nil)
theorem da_cons {ds : List PyData} (h : DE X ρ e d) (hs : DA X ρ es ds) (hst : starEach (e :: es) X.env = (false, eval e X.env) :: starEach es X.env := by rfl) : DA X ρ (e :: es) (d :: ds) := .mk fun H₀ G H σ Q S q pos pins s I =>
  (pa_cons pe_D pa_A hst).run pos pins s σ H Q I (h H₀ G H σ _ S fun v G1 H1 e1 r1 => hs H₀ G1 H1 σ _ (S.up e1) fun vs G2 H2 e2 r2 => q _ _ _ (e1.trans e2) (.cons (r1.up e2.gg) r2))
theorem de_tup {ds : List PyData} {x1} (h : DA X ρ es ds) (hl : ds.length ≤ sizeLine := by first | decide | (simp; decide)) : DE X ρ (.Tuple es x1 pos) (.tuple ds) :=
  de_of (pe_tup pa_A) fun H₀ G H σ Q S q => h H₀ G H σ _ S fun vs G1 H1 e1 r1 => ⟨by rw [r1.length]; exact hl, fun p hp => by
    have e2 := Ext.new (o := .tup vs) e1.gh hp
    exact q _ _ _ (e1.trans e2) (.tup upd_same (r1.up e2.gg))⟩
theorem dl_lst {ds : List PyData} (h : DA X ρ es ds) (hl : ds.length ≤ sizeLine := by first | decide | (simp; decide)) : DL X ρ (.List es pos) ds := .mk fun H₀ G H σ Q S q pins s I =>
  (pe_lst pa_A).run pins s σ H Q I (h H₀ G H σ _ S fun vs G1 H1 e1 r1 => ⟨by rw [r1.length]; exact hl, fun p hp => by
    have e2 := Ext.new (o := .lst vs) e1.gh hp
    exact q p vs G1 _ ⟨e1.gg, e1.hh.trans e2.hh, e1.gh.trans e2.hh, e1.nw⟩ (free_back e1.hh hp) (free_back e1.gh hp) upd_same r1⟩)
theorem de_lst {ds : List PyData} (h : DA X ρ es ds) (hl : ds.length ≤ sizeLine := by first | decide | (simp; decide)) : DE X ρ (.List es pos) (.list ds) := de_ofL (dl_lst h hl)

/-! subscripts -/
theorem ixN_map {α β : Type} {xs : List α} {ys : List β} (h : xs.length = ys.length) (i : Int) : ixN xs.length i = ixN ys.length i := by rw [h]
theorem atI_rp {G : Hp} {vs : List V} {ds : List PyData} {i : Int} (h : RpA G vs ds) (ha : atI ds i = some d) : ∃ v, atI vs i = some v ∧ Rp G v d := by
  unfold atI at ha ⊢
  rw [h.length]
  cases q : ixN ds.length i with
  | none => rw [q] at ha; cases ha
  | some j =>
    rw [q] at ha
    exact h.get ha
theorem de_ixT {ds : List PyData} {i : Int} (ha : DE X ρ a (.tuple ds)) (hb : DE X ρ b (.int i)) (h : atI ds i = some d) (hs : PlainIx b := by exact fun _ _ => rfl) : DE X ρ (.Subscript a b pos) d :=
  de_of (pe_ix ix_tup pe_D pe_D hs) fun H₀ G H σ Q S q => ha H₀ G H σ _ S fun v G1 H1 e1 r1 => hb H₀ G1 H1 σ _ (S.up e1) fun u G2 H2 e2 r2 => by
    cases r2
    cases r1 with
    | tup h1 h2 =>
      obtain ⟨w, hw, rw'⟩ := atI_rp h2 h
      exact ⟨_, _, i, w, rfl, rfl, .of (e2.gh _ _ (e2.gg _ _ h1)), hw, (q.back (e1.trans e2)).of e2.gh (rw'.up e2.gg)⟩
theorem de_ixL {ds : List PyData} {i : Int} (ha : DE X ρ a (.list ds)) (hb : DE X ρ b (.int i)) (h : atI ds i = some d) (hs : PlainIx b := by exact fun _ _ => rfl) : DE X ρ (.Subscript a b pos) d :=
  de_of (pe_ix ix_list pe_D pe_D hs) fun H₀ G H σ Q S q => ha H₀ G H σ _ S fun v G1 H1 e1 r1 => hb H₀ G1 H1 σ _ (S.up e1) fun u G2 H2 e2 r2 => by
    cases r2
    cases r1 with
    | lst h1 h2 =>
      obtain ⟨w, hw, rw'⟩ := atI_rp h2 h
      exact ⟨_, _, i, w, rfl, rfl, .of (e2.gh _ _ (e2.gg _ _ h1)), hw, (q.back (e1.trans e2)).of e2.gh (rw'.up e2.gg)⟩
/-- of an own list -/
theorem de_ixO {ds : List PyData} {i : Int} {j : Nat} {x : Str} {px : Pos} (hρ : ρ[j]? = some (.own ds)) (hb : DE X ρ b (.int i)) (h : atI ds i = some d) (hN : X.N[j]? = some x := by rfl)
    (hv : Vis X.env.scope x := by first | exact Or.inl rfl | exact Or.inr (Or.inl rfl) | exact Or.inr (Or.inr rfl)) (hs : PlainIx b := by exact fun _ _ => rfl)
    (hd : (x == ("__debug__" : Str)) = false := by decide) (hcd : (x == ("__classdict__" : Str)) = false := by decide) : DE X ρ (.Subscript (.Name x px) b pos) d :=
  de_of (pe_ix ix_list (pe_var hN hv hd hcd) pe_D hs) fun H₀ G H σ Q S q => by
    obtain ⟨p, vs, e1, h0, hg, hh, r⟩ := S.slot j _ hρ
    refine ⟨_, e1, hb H₀ G H σ _ S fun u G2 H2 e2 r2 => ?_⟩
    cases r2
    obtain ⟨w, hw, rw'⟩ := atI_rp r h
    exact ⟨_, _, i, w, rfl, rfl, .of (e2.hh _ _ hh), hw, (q.back e2).of e2.gh (rw'.up e2.gg)⟩
/-- one sign of a text -/
theorem de_ixS {z : Str} {i : Int} {k : Nat} (ha : DE X ρ a (.str z)) (hb : DE X ρ b (.int i)) (hz : z.length ≤ sizeLine) (h : atI z.cps.toList i = some k) (hs : PlainIx b := by exact fun _ _ => rfl) : DE X ρ (.Subscript a b pos) (.str ⟨#[k]⟩) :=
  de_of (pe_ix ix_str pe_D pe_D hs) fun H₀ G H σ Q S q => ha H₀ G H σ _ S fun v G1 H1 e1 r1 => hb H₀ G1 H1 σ _ (S.up e1) fun u G2 H2 e2 r2 => by
    cases r2
    cases r1
    exact ⟨z, i, k, rfl, rfl, hz, h, (q.back (e1.trans e2)).of e2.gh (.str _)⟩
end
end DD
namespace DD
open PySem PySem.Spec PyProof.Rows L2

/-! ### statements -/
structure Post where
  nx : En → Prop
  rt : PyData → Prop
  bk : En → Prop := fun _ => False
  ct : En → Prop := fun _ => False
  ex : Exn → En → Prop := fun _ _ => False
  /-- data, with the slots at the end -/
  ro : PyData → En → Prop := fun _ _ => False
  /-- the object at an address -/
  rq : Addr → En → Prop := fun _ _ => False
structure PostOk (W : WX) (H₀ G₀ : Hp) (P : Post) (D : Ends) : Prop where
  nx : ∀ ρ σ G H, P.nx ρ → Ext G₀ H₀ G H → Sat H₀ G H σ ρ → D.nx σ H
  rt : ∀ d v G H, P.rt d → Ext G₀ H₀ G H → Rp G v d → D.rt v H
  bk : ∀ ρ σ G H, P.bk ρ → Ext G₀ H₀ G H → Sat H₀ G H σ ρ → D.bk σ H
  ct : ∀ ρ σ G H, P.ct ρ → Ext G₀ H₀ G H → Sat H₀ G H σ ρ → D.ct σ H
  ex : ∀ x ρ σ G H c a, P.ex x ρ → Ext G₀ H₀ G H → Sat H₀ G H σ ρ → ExcAt G H x c a → W c a σ H
  ro : ∀ d ρ v σ G H, P.ro d ρ → Ext G₀ H₀ G H → Sat H₀ G H σ ρ → Rp G v d → D.rt v H
  rq : ∀ q ρ σ G H, P.rq q ρ → Ext G₀ H₀ G H → Sat H₀ G H σ ρ → D.rt (.ref q) H
def tS (X : Cx) (ss : List Stmt) : TS := fun D σ H => ∀ (pins : List (Addr × Obj)) (s : Shared), Inv X pins σ H s → wpAny (model X.prog X.w) X.A (execs ss X.env) (SP X pins D) X.xe s
theorem pss_S {X : Cx} {ss : List Stmt} : PSs X ss (tS X ss) := ⟨fun pins s _ _ _ I h => h pins s I⟩
structure DS (X : Cx) (W : WX) (ρ : En) (ss : List Stmt) (P : Post) : Prop where
  run : ∀ H₀ G₀ G H σ D, Ext G₀ H₀ G H → Sat H₀ G H σ ρ → PostOk W H₀ G₀ P D → tS X ss D σ H
instance {X : Cx} {W : WX} {ρ : En} {ss : List Stmt} {P : Post} : CoeFun (DS X W ρ ss P) (fun _ => ∀ H₀ G₀ G H σ D, Ext G₀ H₀ G H → Sat H₀ G H σ ρ → PostOk W H₀ G₀ P D → tS X ss D σ H) := ⟨DS.run⟩

theorem Ext.step {G₀ H₀ G H G' H' : Hp} (a : Ext G₀ H₀ G H) (b : Ext G H G' H') : Ext G₀ H₀ G' H' := a.trans b
/-- an own list is changed -/
theorem Sat.mut {H₀ G H : Hp} {σ : L2.St} {ρ : En} {i : Nat} {p : Addr} {vs ws : List V} {ds es : List PyData} (h : Sat H₀ G H σ ρ) (hi : ρ[i]? = some (.own ds)) (hp : σ[i]? = some (some (.ref p)))
    (r : RpA G ws es) : Sat H₀ G (upd H p (.lst ws)) σ (ρ.set i (.own es)) ∧ H₀ p = none ∧ G p = none := by
  obtain ⟨p', vs', e1, h0, hg, hh, r0⟩ := h.slot i _ hi
  have ep : p' = p := by
    rw [hp] at e1
    injection e1 with e1; injection e1 with e1; injection e1 with e1
    exact e1.symm
  subst ep
  refine ⟨⟨fun a u q => ?_, by rw [List.length_set, h.len], fun j t q => ?_, fun a b s t pp hab q1 q2 o1 o2 r1 => ?_, fun a u q => by rw [upd_ne (ne_of_none q h0)]; exact h.old a u q⟩, h0, hg⟩
  · rw [upd_ne (ne_of_none q hg)]; exact h.sub a u q
  · by_cases e : i = j
    · subst e
      have hl : i < ρ.length := (List.getElem?_eq_some_iff.mp hi).1
      rw [List.getElem?_set_self hl] at q; cases q
      exact ⟨p', ws, e1, h0, hg, upd_same, r⟩
    · rw [List.getElem?_set_ne e] at q
      have x := h.slot j t q
      cases t with
      | un => trivial
      | dat d => exact x
      | raw v => exact x
      | pin v φ m => exact x
      | own fs =>
        obtain ⟨p2, us, e2, h02, hg2, hh2, r2⟩ := x
        have ne : p2 ≠ p' := fun z => h.apart i j _ _ p' e hi q rfl rfl e1 (by rw [e2, z])
        exact ⟨p2, us, e2, h02, hg2, by rw [upd_ne ne]; exact hh2, r2⟩
      | obj φ m =>
        obtain ⟨p2, u, e2, h02, hg2, hh2, r2⟩ := x
        have ne : p2 ≠ p' := fun z => h.apart i j _ _ p' e hi q rfl rfl e1 (by rw [e2, z])
        exact ⟨p2, u, e2, h02, hg2, by rw [upd_ne ne]; exact hh2, r2⟩
  · have back : ∀ {a : Nat} {s : SV}, (ρ.set i (.own es))[a]? = some s → s.isOwn = true → ∃ s', ρ[a]? = some s' ∧ s'.isOwn = true := by
      intro a s q o
      by_cases e : i = a
      · subst e; exact ⟨_, hi, rfl⟩
      · rw [List.getElem?_set_ne e] at q; exact ⟨s, q, o⟩
    obtain ⟨s', q1', o1'⟩ := back q1 o1
    obtain ⟨t', q2', o2'⟩ := back q2 o2
    exact h.apart a b s' t' pp hab q1' q2' o1' o2' r1
/-- a new address is in no own slot -/
theorem Sat.fresh {H₀ G H : Hp} {σ : L2.St} {ρ : En} (S : Sat H₀ G H σ ρ) {q : Addr} (hp : H q = none) {j : Nat} {t : SV} (ht : ρ[j]? = some t) (ho : t.isOwn = true) : σ[j]? ≠ some (some (.ref q)) := fun hq => by
  cases t with
  | own es =>
    obtain ⟨p', vs', e', _, _, hh', _⟩ := S.slot j _ ht
    rw [hq] at e'
    injection e' with e'; injection e' with e'; injection e' with e'
    subst e'
    rw [hp] at hh'; cases hh'
  | obj φ m =>
    obtain ⟨p', u, e', _, _, hh', _⟩ := S.slot j _ ht
    rw [hq] at e'
    injection e' with e'; injection e' with e'; injection e' with e'
    subst e'
    rw [hp] at hh'; cases hh'
  | _ => cases ho
/-- an own object is changed -/
theorem Sat.mutO {H₀ G H : Hp} {σ : L2.St} {ρ : En} {i : Nat} {p : Addr} {o' : HO} {φ φ' : Hp → Addr → HO → Prop} {m : ∀ G G' p o, Sub G G' → φ G p o → φ G' p o} {m' : ∀ G G' p o, Sub G G' → φ' G p o → φ' G' p o} (h : Sat H₀ G H σ ρ) (hi : ρ[i]? = some (.obj φ m)) (hp : σ[i]? = some (some (.ref p)))
    (r : φ' G p o') : Sat H₀ G (upd H p o') σ (ρ.set i (.obj φ' m')) ∧ H₀ p = none ∧ G p = none := by
  obtain ⟨p', o1, e1, h0, hg, hh, r0⟩ := h.slot i _ hi
  have ep : p' = p := by
    rw [hp] at e1
    injection e1 with e1; injection e1 with e1; injection e1 with e1
    exact e1.symm
  subst ep
  refine ⟨⟨fun a u q => ?_, by rw [List.length_set, h.len], fun j t q => ?_, fun a b s t pp hab q1 q2 o1 o2 r1 => ?_, fun a u q => by rw [upd_ne (ne_of_none q h0)]; exact h.old a u q⟩, h0, hg⟩
  · rw [upd_ne (ne_of_none q hg)]; exact h.sub a u q
  · by_cases e : i = j
    · subst e
      have hl : i < ρ.length := (List.getElem?_eq_some_iff.mp hi).1
      rw [List.getElem?_set_self hl] at q; cases q
      exact ⟨p', o', e1, h0, hg, upd_same, r⟩
    · rw [List.getElem?_set_ne e] at q
      have x := h.slot j t q
      cases t with
      | un => trivial
      | dat d => exact x
      | raw v => exact x
      | pin v φ m => exact x
      | own fs =>
        obtain ⟨p2, us, e2, h02, hg2, hh2, r2⟩ := x
        have ne : p2 ≠ p' := fun z => h.apart i j _ _ p' e hi q rfl rfl e1 (by rw [e2, z])
        exact ⟨p2, us, e2, h02, hg2, by rw [upd_ne ne]; exact hh2, r2⟩
      | obj φ m =>
        obtain ⟨p2, u, e2, h02, hg2, hh2, r2⟩ := x
        have ne : p2 ≠ p' := fun z => h.apart i j _ _ p' e hi q rfl rfl e1 (by rw [e2, z])
        exact ⟨p2, u, e2, h02, hg2, by rw [upd_ne ne]; exact hh2, r2⟩
  · have back : ∀ {a : Nat} {s : SV}, (ρ.set i (.obj φ' m'))[a]? = some s → s.isOwn = true → ∃ s', ρ[a]? = some s' ∧ s'.isOwn = true := by
      intro a s q o
      by_cases e : i = a
      · subst e; exact ⟨_, hi, rfl⟩
      · rw [List.getElem?_set_ne e] at q; exact ⟨s, q, o⟩
    obtain ⟨s', q1', o1'⟩ := back q1 o1
    obtain ⟨t', q2', o2'⟩ := back q2 o2
    exact h.apart a b s' t' pp hab q1' q2' o1' o2' r1
theorem Ext.mut {G₀ H₀ G H : Hp} {p : Addr} {o : HO} (e : Ext G₀ H₀ G H) (h0 : H₀ p = none) (hg : G p = none) : Ext G₀ H₀ G (upd H p o) :=
  ⟨e.gg, fun a u q => by rw [upd_ne (ne_of_none q h0)]; exact e.hh a u q, fun a u q => by rw [upd_ne (ne_of_none q hg)]; exact e.gh a u q, e.nw⟩

section
variable {X : Cx} {W : WX} {ρ ρ' : En} {e a b c : Expr} {es : List Expr} {d : PyData} {o : Out} {pos : Pos} {P : Post} {ss rest body orelse : List Stmt}

theorem ds_of {t : TS} (h : PSs X ss t) (hr : ∀ H₀ G₀ G H σ D, Ext G₀ H₀ G H → Sat H₀ G H σ ρ → PostOk W H₀ G₀ P D → t D σ H) : DS X W ρ ss P :=
  .mk fun H₀ G₀ G H σ D E S p pins s I => h.run pins s σ H D I (hr H₀ G₀ G H σ D E S p)
theorem ds_nil (h : P.nx ρ') (w : Weak ρ ρ') : DS X W ρ [] P := ds_of pss_nil fun H₀ G₀ G H σ D E S p => p.nx ρ' σ G H h E (S.weak w)
theorem ds_end (h : P.nx ρ) : DS X W ρ [] P := ds_nil h (Weak.refl _)
theorem ds_weak (h : DS X W ρ' ss P) (w : Weak ρ ρ') : DS X W ρ ss P := .mk fun H₀ G₀ G H σ D E S p => h H₀ G₀ G H σ D E (S.weak w) p
theorem ds_freeze (i : Nat) {ds : List PyData} (hi : ρ[i]? = some (.own ds)) (h : DS X W (ρ.set i (.dat (.list ds))) ss P) : DS X W ρ ss P := .mk fun H₀ G₀ G H σ D E S p => by
  obtain ⟨G', g1, g2, g3, S'⟩ := S.freeze hi
  exact h H₀ G₀ G' H σ D ⟨E.gg.trans g1, E.hh, g2, fun a o q => (g3 a o q).elim (E.nw a o) .inr⟩ S' p
/-- one statement, then the rest -/
theorem ds_cons {st : Stmt} {t : TS} (h : PS X st t) (hr : ∀ H₀ G₀ G H σ D, Ext G₀ H₀ G H → Sat H₀ G H σ ρ → PostOk W H₀ G₀ P D → t { D with nx := tS X rest D } σ H) : DS X W ρ (st :: rest) P :=
  ds_of (pss_cons h pss_S) hr
theorem PostOk.seq {H₀ G₀ : Hp} {D : Ends} (p : PostOk W H₀ G₀ P D) {Pn : En → Prop} (h : ∀ ρ, Pn ρ → DS X W ρ rest P) : PostOk W H₀ G₀ { P with nx := Pn } { D with nx := tS X rest D } :=
  ⟨fun ρ σ G H q E S => h ρ q H₀ G₀ G H σ D E S p, p.rt, p.bk, p.ct, p.ex, p.ro, p.rq⟩

theorem ds_set (i : Nat) {x : Str} {p2 : Pos} (he : DE X ρ e d) (h : DS X W (ρ.set i (.dat d)) rest P) (hN : X.N.Nodup) (hi : X.N[i]? = some x := by rfl) (hx : Loc X.env.scope x := by first | exact Or.inl rfl | exact Or.inr rfl)
    (hs : swapsWith e (some (.Name x p2)) pos.line X.env = pure false := by rfl) (hf : X.fn x = true ∨ X.env.scope.names.lookup x = some .local := by first | exact .inl rfl | exact .inr rfl) :
    DS X W ρ (.Assign [.Name x p2] e pos :: rest) P :=
  ds_cons (ps_set hN hi hx pe_D hs hf) fun H₀ G₀ G H σ D E S p => he H₀ G H σ _ S fun v G1 H1 e1 r1 =>
    h H₀ G₀ G1 H1 _ D (E.step e1) ((S.up e1).set ⟨v, rfl, r1⟩ (fun z => by cases z)) p
theorem ds_own (i : Nat) {x : Str} {p2 : Pos} {ds : List PyData} (he : DL X ρ e ds) (h : DS X W (ρ.set i (.own ds)) rest P) (hN : X.N.Nodup) (hi : X.N[i]? = some x := by rfl) (hx : Loc X.env.scope x := by first | exact Or.inl rfl | exact Or.inr rfl)
    (hs : swapsWith e (some (.Name x p2)) pos.line X.env = pure false := by rfl) (hf : X.fn x = true ∨ X.env.scope.names.lookup x = some .local := by first | exact .inl rfl | exact .inr rfl) :
    DS X W ρ (.Assign [.Name x p2] e pos :: rest) P :=
  ds_cons (ps_set hN hi hx pe_D hs hf) fun H₀ G₀ G H σ D E S p => he H₀ G H σ _ S fun q vs G1 H1 e1 hp gp hh r1 =>
    h H₀ G₀ G1 H1 _ D (E.step e1) ((S.up e1).set ⟨q, vs, rfl, free_back E.hh hp, gp, hh, r1⟩ (fun _ j t hj ht ho => S.fresh hp ht ho)) p
/-- x = a call that raises -/
theorem ds_setX (i : Nat) {x : Str} {p2 : Pos} {ex : Exn} (he : DX X W ρ e (.exc ex)) (h : P.ex ex ρ) (hN : X.N.Nodup) (hi : X.N[i]? = some x := by rfl) (hx : Loc X.env.scope x := by first | exact Or.inl rfl | exact Or.inr rfl)
    (hs : swapsWith e (some (.Name x p2)) pos.line X.env = pure false := by rfl) (hf : X.fn x = true ∨ X.env.scope.names.lookup x = some .local := by first | exact .inl rfl | exact .inr rfl) :
    DS X W ρ (.Assign [.Name x p2] e pos :: rest) P :=
  ds_cons (ps_set hN hi hx pe_D hs hf) fun H₀ G₀ G H σ D E S p => he H₀ G H σ _ S fun c a G1 H1 e1 r1 => p.ex ex ρ σ G1 H1 c a h (E.step e1) (S.up e1) r1
theorem ds_ret (he : DE X ρ e d) (h : P.rt d) : DS X W ρ (.Return (some e) pos :: rest) P :=
  ds_cons (ps_ret pe_D) fun H₀ G₀ G H σ D E S p => he H₀ G H σ _ S fun v G1 H1 e1 r1 => p.rt d v G1 H1 h (E.step e1) r1
theorem ds_retX (he : DX X W ρ e o) (h : match o with | .ret d => P.rt d | .exc x => P.ex x ρ) : DS X W ρ (.Return (some e) pos :: rest) P :=
  ds_cons (ps_ret pe_D) fun H₀ G₀ G H σ D E S p => he H₀ G H σ _ S (by
    cases o with
    | ret d => exact fun v G1 H1 e1 r1 => p.rt d v G1 H1 h (E.step e1) r1
    | exc x => exact fun c a G1 H1 e1 r1 => p.ex x ρ σ G1 H1 c a h (E.step e1) (S.up e1) r1)
theorem ds_retN (h : P.rt .none) : DS X W ρ (.Return none pos :: rest) P :=
  ds_cons ps_retN fun H₀ G₀ G H σ D E S p => p.rt .none .non G H h E .non
theorem ds_expr (he : DE X ρ e d) (h : DS X W ρ rest P) (hs : swapsWith e none pos.line X.env = pure false := by rfl) : DS X W ρ (.Expr e pos :: rest) P :=
  ds_cons (ps_expr pe_D hs) fun H₀ G₀ G H σ D E S p => he H₀ G H σ _ S fun v G1 H1 e1 r1 => h H₀ G₀ G1 H1 σ D (E.step e1) (S.up e1) p
theorem ds_exprX (he : DX X W ρ e o) (h : match o with | .ret _ => DS X W ρ rest P | .exc x => P.ex x ρ) (hs : swapsWith e none pos.line X.env = pure false := by rfl) : DS X W ρ (.Expr e pos :: rest) P :=
  ds_cons (ps_expr pe_D hs) fun H₀ G₀ G H σ D E S p => he H₀ G H σ _ S (by
    cases o with
    | ret d => exact fun v G1 H1 e1 r1 => h H₀ G₀ G1 H1 σ D (E.step e1) (S.up e1) p
    | exc x => exact fun c a G1 H1 e1 r1 => p.ex x ρ σ G1 H1 c a h (E.step e1) (S.up e1) r1)
theorem ds_pass (h : DS X W ρ rest P) : DS X W ρ (.Pass pos :: rest) P := ds_cons ps_pass fun H₀ G₀ G H σ D E S p => h H₀ G₀ G H σ D E S p
theorem ds_if (k : Bool) (hc : DT X ρ c k) (h1 : k = true → DS X W ρ body { P with nx := fun ρ => DS X W ρ rest P }) (h2 : k = false → DS X W ρ orelse { P with nx := fun ρ => DS X W ρ rest P }) : DS X W ρ (.If c body orelse pos :: rest) P :=
  ds_cons (ps_if pt_T pss_S pss_S) fun H₀ G₀ G H σ D E S p => hc H₀ G H σ _ S fun G1 H1 e1 => by
    cases k with
    | true => exact h1 rfl H₀ G₀ G1 H1 σ _ (E.step e1) (S.up e1) (p.seq fun _ h => h)
    | false => exact h2 rfl H₀ G₀ G1 H1 σ _ (E.step e1) (S.up e1) (p.seq fun _ h => h)
theorem ds_ifT (hc : DT X ρ c true) (h1 : DS X W ρ body { P with nx := fun ρ => DS X W ρ rest P }) : DS X W ρ (.If c body orelse pos :: rest) P := ds_if true hc (fun _ => h1) (fun z => by cases z)
/-- no else, the test is false -/
theorem ds_ifF (hc : DT X ρ c false) (h2 : DS X W ρ rest P) : DS X W ρ (.If c body [] pos :: rest) P := ds_if false hc (fun z => by cases z) (fun _ => ds_end h2)
theorem ds_ifE (hc : DT X ρ c false) (h2 : DS X W ρ orelse { P with nx := fun ρ => DS X W ρ rest P }) : DS X W ρ (.If c body orelse pos :: rest) P := ds_if false hc (fun z => by cases z) (fun _ => h2)
/-- x op= e on whole numbers -/
theorem ip_mul : PIp X .Mult (rI CMul fun i j => .int (i * j)) := fun pins s σ H x y v u Q I rx ry q => iop_mul pins s σ H x y v u Q I rx ry q
theorem ds_augI (i : Nat) {x : Str} {p2 : Pos} {op : Operator} {r : R2} {d2 d3 : PyData} (hρ : ρ[i]? = some (.dat d2)) (ho : PIp X op r) (hr : R2D r d2 d d3) (he : DE X ρ e d) (h : DS X W (ρ.set i (.dat d3)) rest P) (hN : X.N.Nodup) (hi : X.N[i]? = some x := by rfl)
    (hx : Loc X.env.scope x := by first | exact Or.inl rfl | exact Or.inr rfl) (hf : X.fn x = true ∨ X.env.scope.names.lookup x = some .local := by first | exact .inl rfl | exact .inr rfl) : DS X W ρ (.AugAssign (.Name x p2) op e pos :: rest) P :=
  ds_cons (ps_aug hN hi hx pe_D ho hf) fun H₀ G₀ G H σ D E S p => by
    obtain ⟨v, ev, rv⟩ := S.slot i _ hρ
    refine ⟨v, ev, he H₀ G H σ _ S fun u G1 H1 e1 r1 => hr G1 H1 v u _ e1.gh (rv.up e1.gg) r1 fun z G2 H2 e2 r2 => ?_⟩
    have e12 := e1.trans e2
    exact h H₀ G₀ G2 H2 _ D (E.step e12) ((S.up e12).set ⟨z, rfl, r2⟩ (fun q => by cases q)) p
theorem ds_augMul (i : Nat) {x : Str} {p2 : Pos} {m n : Int} (hρ : ρ[i]? = some (.dat (.int m))) (he : DE X ρ e (.int n)) (hc : CMul m n) (h : DS X W (ρ.set i (.dat (.int (m * n)))) rest P) (hN : X.N.Nodup) (hi : X.N[i]? = some x := by rfl)
    (hx : Loc X.env.scope x := by first | exact Or.inl rfl | exact Or.inr rfl) (hf : X.fn x = true ∨ X.env.scope.names.lookup x = some .local := by first | exact .inl rfl | exact .inr rfl) : DS X W ρ (.AugAssign (.Name x p2) .Mult e pos :: rest) P :=
  ds_augI i hρ ip_mul (r2_I hc) he h hN hi hx hf

/-! own lists changed -/
theorem ds_app (i : Nat) {ds : List PyData} {x : Str} {p2 p3 p4 : Pos} (hρ : ρ[i]? = some (.own ds)) (he : DE X ρ e d) (hz : ds.length < sizeLine) (h : DS X W (ρ.set i (.own (ds ++ [d]))) rest P) (hN : X.N[i]? = some x := by rfl)
    (hv : Vis X.env.scope x := by first | exact Or.inl rfl | exact Or.inr (Or.inl rfl) | exact Or.inr (Or.inr rfl)) (hd : (x == ("__debug__" : Str)) = false := by decide) (hcd : (x == ("__classdict__" : Str)) = false := by decide)
    (hst : starEach [e] X.env = (false, eval e X.env) :: starEach [] X.env := by rfl) (hbase : attributeBase (.Name x p2) "append" X.env (eval (.Name x p2) X.env) = eval (.Name x p2) X.env := by rfl)
    (hfew : ((backTo p4 (starEach [e] X.env)).all (fun x => !x.1) && (backToKw p4 (keywordEach [] X.env)).all (fun x => x.1.isSome) && decide ([e].length + ([] : List Keyword).length + (if ([] : List Keyword).isEmpty then 0 else 1) < 30)) = true := by rfl)
    (hline : (p3.endLine == p4.line) = true := by rfl) (hpl : (backTo p4 (starEach ([] : List Expr) X.env)).any (·.1) = false := by rfl) (hs : swapsWith (.Call (.Attribute (.Name x p2) "append" p3) [e] [] p4) none pos.line X.env = pure false := by rfl) :
    DS X W ρ (.Expr (.Call (.Attribute (.Name x p2) "append" p3) [e] [] p4) pos :: rest) P :=
  ds_cons (ps_expr (pe_bm PySem.F.plainAttrs_list PySem.F.slot_list_append PySem.F.type_list_append mt_append (pe_var hN hv hd hcd) (pa_cons pe_D pa_nil hst) hbase hfew hline hst hpl) hs) fun H₀ G₀ G H σ D E S p => by
    obtain ⟨q, vs, e1, h0, hg, hh, r⟩ := S.slot i _ hρ
    refine ⟨_, e1, .inl ⟨rfl, _, .of hh⟩, he H₀ G H σ _ S fun v G1 H1 ex r1 => ?_⟩
    refine ⟨q, vs, v, rfl, rfl, ex.hh _ _ hh, by rw [r.length]; exact hz, ?_⟩
    have S1 := S.up ex
    obtain ⟨S2, k0, kg⟩ := S1.mut hρ e1 ((r.up ex.gg).append (.cons r1 .nil)) (vs := vs)
    exact h H₀ G₀ G1 _ σ D ((E.step ex).mut k0 kg) S2 p
theorem ds_ext (i : Nat) {ds es' : List PyData} {x : Str} {p2 p3 p4 : Pos} (hρ : ρ[i]? = some (.own ds)) (he : DL X ρ e es') (hz : ds.length + es'.length ≤ sizeLine) (h : DS X W (ρ.set i (.own (ds ++ es'))) rest P) (hN : X.N[i]? = some x := by rfl)
    (hv : Vis X.env.scope x := by first | exact Or.inl rfl | exact Or.inr (Or.inl rfl) | exact Or.inr (Or.inr rfl)) (hd : (x == ("__debug__" : Str)) = false := by decide) (hcd : (x == ("__classdict__" : Str)) = false := by decide)
    (hst : starEach [e] X.env = (false, eval e X.env) :: starEach [] X.env := by rfl) (hbase : attributeBase (.Name x p2) "extend" X.env (eval (.Name x p2) X.env) = eval (.Name x p2) X.env := by rfl)
    (hfew : ((backTo p4 (starEach [e] X.env)).all (fun x => !x.1) && (backToKw p4 (keywordEach [] X.env)).all (fun x => x.1.isSome) && decide ([e].length + ([] : List Keyword).length + (if ([] : List Keyword).isEmpty then 0 else 1) < 30)) = true := by rfl)
    (hline : (p3.endLine == p4.line) = true := by rfl) (hpl : (backTo p4 (starEach ([] : List Expr) X.env)).any (·.1) = false := by rfl) (hs : swapsWith (.Call (.Attribute (.Name x p2) "extend" p3) [e] [] p4) none pos.line X.env = pure false := by rfl) :
    DS X W ρ (.Expr (.Call (.Attribute (.Name x p2) "extend" p3) [e] [] p4) pos :: rest) P :=
  ds_cons (ps_expr (pe_bm PySem.F.plainAttrs_list PySem.F.slot_list_extend PySem.F.type_list_extend mt_extend (pe_var hN hv hd hcd) (pa_cons pe_D pa_nil hst) hbase hfew hline hst hpl) hs) fun H₀ G₀ G H σ D E S p => by
    obtain ⟨q, vs, e1, h0, hg, hh, r⟩ := S.slot i _ hρ
    refine ⟨_, e1, .inl ⟨rfl, _, .of hh⟩, he H₀ G H σ _ S fun p' ws G1 H1 ex hp gp hb r1 => ?_⟩
    refine ⟨q, p', vs, ws, rfl, rfl, ex.hh _ _ hh, hb, by rw [r.length, r1.length]; exact hz, ?_⟩
    have S1 := S.up ex
    obtain ⟨S2, k0, kg⟩ := S1.mut hρ e1 ((r.up ex.gg).append r1) (vs := vs)
    exact h H₀ G₀ G1 _ σ D ((E.step ex).mut k0 kg) S2 p
theorem ds_setI (i : Nat) {ds : List PyData} {x : Str} {p2 p3 : Pos} {k : Int} {j : Nat} (hρ : ρ[i]? = some (.own ds)) (he : DE X ρ e d) (hi : DE X ρ a (.int k)) (hk : ixN ds.length k = some j) (h : DS X W (ρ.set i (.own (ds.set j d))) rest P) (hN : X.N[i]? = some x := by rfl)
    (hv : Vis X.env.scope x := by first | exact Or.inl rfl | exact Or.inr (Or.inl rfl) | exact Or.inr (Or.inr rfl)) (hd : (x == ("__debug__" : Str)) = false := by decide) (hcd : (x == ("__classdict__" : Str)) = false := by decide)
    (ha : ∀ v, assign (.Subscript (.Name x p2) a p3) X.env v = (do
      let ov ← holding [v] (eval (.Name x p2) X.env)
      let iv ← holding [v, ov] (eval a X.env)
      standAt p3
      holding [v, ov, iv] (setItem ov iv v)
      release [v, ov, iv] []) := by intro _; rfl)
    (hs : swapsWithSole [.Subscript (.Name x p2) a p3] e pos.line X.env = pure false := by rfl) (hw : swappedStores [.Subscript (.Name x p2) a p3] e X.env = pure none := by rfl)
    (h1 : (assignEach [.Subscript (.Name x p2) a p3] X.env).map (·.2) = [assign (.Subscript (.Name x p2) a p3) X.env] := by rfl) : DS X W ρ (.Assign [.Subscript (.Name x p2) a p3] e pos :: rest) P :=
  ds_cons (ps_asg pe_D (pg_sub (pe_var hN hv hd hcd) pe_D set_list ha) hs hw h1) fun H₀ G₀ G H σ D E S p => by
    obtain ⟨q, vs, e1, h0, hg, hh, r⟩ := S.slot i _ hρ
    refine he H₀ G H σ _ S fun v G1 H1 ex r1 => ⟨_, e1, hi H₀ G1 H1 σ _ (S.up ex) fun u G2 H2 ex2 r2 => ?_⟩
    cases r2
    have e12 := ex.trans ex2
    refine ⟨q, vs, k, j, rfl, rfl, e12.hh _ _ hh, by rw [r.length]; exact hk, ?_⟩
    obtain ⟨S2, k0, kg⟩ := (S.up e12).mut hρ e1 (RpA.set (r1.up ex2.gg) j (r.up e12.gg)) (vs := vs)
    exact h H₀ G₀ G2 _ σ D ((E.step e12).mut k0 kg) S2 p

/-! ### what is walked -/
structure SrcOk (J : It) (G : Hp) (ds : List PyData) : Prop where
  go : ∀ i G' H', Sub G G' → Sub G' H' → i < ds.length → J.go i H'
  yld : ∀ i G' H' x H'' d, Sub G G' → Sub G' H' → ds[i]? = some d → J.yld i H' x H'' → ∃ G'', Ext G' H' G'' H'' ∧ Rp G'' x d
  stop : ∀ i G' H', Sub G G' → Sub G' H' → i = ds.length → J.stop i H'
def tI (X : Cx) (tg iter : Expr) : TI := fun σ H R => ∀ (pins : List (Addr × Obj)) (s : Shared), Inv X pins σ H s →
  wpAny (model X.prog X.w) X.A (eval iter X.env) (fun v s1 => wpAny (model X.prog X.w) X.A (pyIter v) (PIE X pins σ tg R) X.xe s1) X.xe s
theorem pi_I {tg iter : Expr} : PI X tg iter (tI X tg iter) := ⟨fun pins s _ _ _ I h => h pins s I⟩
structure DI (X : Cx) (ρ : En) (tg iter : Expr) (ds : List PyData) : Prop where
  run : ∀ H₀ G H σ R, Sat H₀ G H σ ρ → (∀ J G' H', Ext G H G' H' → SrcOk J G' ds → R J H') → tI X tg iter σ H R
instance {X : Cx} {ρ : En} {tg iter : Expr} {ds : List PyData} : CoeFun (DI X ρ tg iter ds) (fun _ => ∀ H₀ G H σ R, Sat H₀ G H σ ρ → (∀ J G' H', Ext G H G' H' → SrcOk J G' ds → R J H') → tI X tg iter σ H R) := ⟨DI.run⟩
theorem di_of {tg iter : Expr} {wi : TI} {ds : List PyData} (h : PI X tg iter wi) (hr : ∀ H₀ G H σ R, Sat H₀ G H σ ρ → (∀ J G' H', Ext G H G' H' → SrcOk J G' ds → R J H') → wi σ H R) : DI X ρ tg iter ds :=
  .mk fun H₀ G H σ R S q pins s I => h.run pins s σ H R I (hr H₀ G H σ R S q)
theorem lst_inj {K : PySem.W.Frag} {H : Hp} {q : Addr} {vs ws : List V} (h : H q = some (.lst vs)) (hs : SqL K H q ws) (hK : K.lookup q = none) : ws = vs := by
  rcases hs with (z | ⟨o, z⟩) | ⟨o, its, n, z, _⟩
  · rw [h] at z; cases z; rfl
  · rw [h] at z; cases z
  · rw [hK] at z; cases z
theorem src_list {K : PySem.W.Frag} {G : Hp} {p : Addr} {vs : List V} {ds : List PyData} (h : G p = some (.lst vs)) (r : RpA G vs ds) : SrcOk (Itl K p) G ds where
  go := fun i G' H' s1 s2 hi => by
    have hl := r.length
    exact ⟨vs, vs[i]'(by omega), .of (s2 _ _ (s1 _ _ h)), List.getElem?_eq_getElem (by omega)⟩
  yld := fun i G' H' x H'' d s1 s2 hd y => by
    obtain ⟨e, f⟩ := y
    subst e
    obtain ⟨v, hv, rv⟩ := r.get hd
    have e : x = v := Option.some.inj ((f _ (.of (s2 _ _ (s1 _ _ h)))).symm.trans hv)
    subst e
    exact ⟨G', .refl s2, rv.up s1⟩
  stop := fun i G' H' s1 s2 hi => ⟨vs, .of (s2 _ _ (s1 _ _ h)), by rw [r.length, hi]; exact Nat.le_refl _⟩
theorem src_tup {K : PySem.W.Frag} {G : Hp} {p : Addr} {vs : List V} {ds : List PyData} (h : G p = some (.tup vs)) (r : RpA G vs ds) : SrcOk (Itt K p) G ds where
  go := fun i G' H' s1 s2 hi => by
    have hl := r.length
    exact ⟨vs, vs[i]'(by omega), .of (s2 _ _ (s1 _ _ h)), List.getElem?_eq_getElem (by omega)⟩
  yld := fun i G' H' x H'' d s1 s2 hd y => by
    obtain ⟨e, f⟩ := y
    subst e
    obtain ⟨v, hv, rv⟩ := r.get hd
    have e : x = v := Option.some.inj ((f _ (.of (s2 _ _ (s1 _ _ h)))).symm.trans hv)
    subst e
    exact ⟨G', .refl s2, rv.up s1⟩
  stop := fun i G' H' s1 s2 hi => ⟨vs, .of (s2 _ _ (s1 _ _ h)), by rw [r.length, hi]; exact Nat.le_refl _⟩
theorem di_list {tg iter : Expr} {ds : List PyData} (he : DE X ρ iter (.list ds)) : DI X ρ tg iter ds :=
  di_of (pi_list pe_D) fun H₀ G H σ R S q => he H₀ G H σ _ S fun v G1 H1 e1 r1 => by
    cases r1 with
    | lst h1 h2 => exact ⟨_, rfl, ⟨_, .of (e1.gh _ _ h1)⟩, q _ _ _ e1 (src_list h1 h2)⟩
theorem di_tup {tg iter : Expr} {ds : List PyData} (he : DE X ρ iter (.tuple ds)) : DI X ρ tg iter ds :=
  di_of (pi_tup pe_D) fun H₀ G H σ R S q => he H₀ G H σ _ S fun v G1 H1 e1 r1 => by
    cases r1 with
    | tup h1 h2 => exact ⟨_, rfl, ⟨_, .of (e1.gh _ _ h1)⟩, q _ _ _ e1 (src_tup h1 h2)⟩
/-- the whole numbers lo, lo + 1, .. -/
def intsL (lo : Int) (n : Nat) : List Int := (List.range n).map fun (i : Nat) => lo + (i : Int)
theorem intsL_len (lo : Int) (n : Nat) : (intsL lo n).length = n := by unfold intsL; rw [List.length_map, List.length_range]
theorem intsL_at {lo : Int} {n i : Nat} {z : Int} (h : (intsL lo n)[i]? = some z) : i < n ∧ z = lo + i := by
  have hl : i < (intsL lo n).length := (List.getElem?_eq_some_iff.mp h).1
  rw [intsL_len] at hl
  unfold intsL at h
  rw [List.getElem?_map, List.getElem?_range hl] at h
  exact ⟨hl, (Option.some.inj h).symm⟩
theorem src_range {G : Hp} {lo : Int} {n : Nat} : SrcOk (Itr lo n) G ((intsL lo n).map PyData.int) where
  go := fun i G' H' s1 s2 hi => by rw [List.length_map, intsL_len] at hi; exact hi
  yld := fun i G' H' x H'' d s1 s2 hd y => by
    obtain ⟨e, f⟩ := y
    subst e f
    rw [List.getElem?_map] at hd
    cases q : (intsL lo n)[i]? with
    | none => rw [q] at hd; cases hd
    | some z =>
      rw [q] at hd
      obtain ⟨_, ez⟩ := intsL_at q
      have : d = .int (lo + i) := by rw [← ez]; exact (Option.some.inj hd).symm
      subst this
      exact ⟨G', .refl s2, .int _⟩
  stop := fun i G' H' s1 s2 hi => by rw [List.length_map, intsL_len] at hi; exact Nat.le_of_eq hi.symm
theorem di_range1 {tg : Expr} {p : Pos} {n : Int} (he : DE X ρ a (.int n)) (hn : -(2 ^ 62) ≤ n ∧ n < 2 ^ 62) (hm : X.mg "range" = none) (hg : Gl X "range" := by rfl) (hs : starEach [a] X.env = [(false, eval a X.env)] := by rfl) :
    DI X ρ tg (.Call (.Name "range" p) [a] [] pos) ((intsL 0 n.toNat).map PyData.int) :=
  di_of (pi_range1 hg hm pa_A hs) fun H₀ G H σ R S q => da_cons he da_nil (by rw [hs]; rfl) H₀ G H σ _ S fun vs G1 H1 e1 r1 => by
    cases r1 with
    | cons r rr =>
      cases rr; cases r
      exact ⟨n, rfl, hn.1, hn.2, q _ _ _ e1 src_range⟩
theorem di_range2 {tg : Expr} {p : Pos} {m n : Int} (he : DE X ρ a (.int m)) (hb : DE X ρ b (.int n)) (hn : -(2 ^ 62) ≤ m ∧ m < 2 ^ 62 ∧ -(2 ^ 62) ≤ n ∧ n < 2 ^ 62) (hm : X.mg "range" = none) (hg : Gl X "range" := by rfl)
    (hs : starEach [a, b] X.env = [(false, eval a X.env), (false, eval b X.env)] := by rfl) (hs2 : starEach [b] X.env = [(false, eval b X.env)] := by rfl) :
    DI X ρ tg (.Call (.Name "range" p) [a, b] [] pos) ((intsL m (n - m).toNat).map PyData.int) :=
  di_of (pi_range2 hg hm pa_A hs hs2) fun H₀ G H σ R S q => da_cons he (da_cons hb da_nil (by rw [hs2]; rfl)) (by rw [hs, hs2]) H₀ G H σ _ S fun vs G1 H1 e1 r1 => by
    cases r1 with
    | cons r rr =>
      cases rr with
      | cons r' rr =>
        cases rr; cases r; cases r'
        exact ⟨m, n, rfl, hn, q _ _ _ e1 src_range⟩

/-! targets -/
def tG (X : Cx) (tg : Expr) : TG := fun v σ H Q => ∀ (pins : List (Addr × Obj)) (s : Shared) (u : Value), Inv X pins σ H s → RelV v u →
  wpAny (model X.prog X.w) X.A (assign tg X.env u) (fun _ s' => ∃ σ' H', Inv X pins σ' H' s' ∧ Q σ' H') X.xe s
theorem pg_G {tg : Expr} : PG X tg (tG X tg) := ⟨fun pins s _ _ _ u _ I r h => h pins s u I r⟩
/-- the target given data makes the slots ρ' -/
structure DG (X : Cx) (tg : Expr) (d : PyData) (ρ ρ' : En) : Prop where
  run : ∀ H₀ G H σ v Q, Sat H₀ G H σ ρ → Rp G v d → (∀ σ', Sat H₀ G H σ' ρ' → Q σ' H) → tG X tg v σ H Q
instance {X : Cx} {tg : Expr} {d : PyData} {ρ ρ' : En} : CoeFun (DG X tg d ρ ρ') (fun _ => ∀ H₀ G H σ v Q, Sat H₀ G H σ ρ → Rp G v d → (∀ σ', Sat H₀ G H σ' ρ' → Q σ' H) → tG X tg v σ H Q) := ⟨DG.run⟩
theorem dg_name (i : Nat) {x : Str} (hN : X.N.Nodup) (hi : X.N[i]? = some x := by rfl) (hx : Loc X.env.scope x := by first | exact Or.inl rfl | exact Or.inr rfl) (hf : X.fn x = true ∨ X.env.scope.names.lookup x = some .local := by first | exact .inl rfl | exact .inr rfl) :
    DG X (.Name x pos) d ρ (ρ.set i (.dat d)) := .mk fun H₀ G H σ v Q S r q pins s u I ru =>
  (pg_name hN hi hx hf).run pins s σ H v u Q I ru (q _ (S.set ⟨v, rfl, r⟩ (fun z => by cases z)))
theorem dg_tup2 (i j : Nat) {x y : Str} {k : Nat} {p1 p2 : Pos} {d1 d2 : PyData} (hN : X.N.Nodup) (hc : X.calm = true) (hi : X.N[i]? = some x := by rfl) (hx : Loc X.env.scope x := by first | exact Or.inl rfl | exact Or.inr rfl) (hf : X.fn x = true ∨ X.env.scope.names.lookup x = some .local := by first | exact .inl rfl | exact .inr rfl)
    (hj : X.N[j]? = some y := by rfl) (hy : Loc X.env.scope y := by first | exact Or.inl rfl | exact Or.inr rfl) (hfy : X.fn y = true ∨ X.env.scope.names.lookup y = some .local := by first | exact .inl rfl | exact .inr rfl)
    (hn : (assignEach [.Name x p1, .Name y p2] X.env).length = 2 := by rfl) (hst : (assignEach [.Name x p1, .Name y p2] X.env).findIdx? (·.1) = none := by rfl)
    (hs1 : (assignEach [.Name x p1, .Name y p2] X.env).map (·.2) = assign (.Name x p1) X.env :: (assignEach [.Name y p2] X.env).map (·.2) := by rfl) (hs2 : (assignEach [.Name y p2] X.env).map (·.2) = assign (.Name y p2) X.env :: (assignEach [] X.env).map (·.2) := by rfl) :
    DG X (.Tuple [.Name x p1, .Name y p2] k pos) (.tuple [d1, d2]) ρ ((ρ.set i (.dat d1)).set j (.dat d2)) := .mk fun H₀ G H σ v Q S r q pins s u I ru => by
  refine (pg_tup (pos := pos) (k := k) hc (pgs_cons (pg_name hN hi hx hf) (pgs_cons (pg_name hN hj hy hfy) pgs_nil hs2) hs1) hn hst).run pins s σ H v u Q I ru ?_
  cases r with
  | tup h1 h2 =>
    cases h2 with
    | cons r1 h2 =>
      cases h2 with
      | cons r2 h2 =>
        cases h2
        refine ⟨_, _, rfl, .of (S.sub _ _ h1), rfl, _, _, rfl, _, _, rfl, rfl, ?_⟩
        exact q _ ((S.set (s := .dat d1) ⟨_, rfl, r1⟩ (fun z => by cases z)).set (s := .dat d2) ⟨_, rfl, r2⟩ (fun z => by cases z))

/-! for: J i what holds of the slots ahead of turn i -/
theorem ds_for {tg iter : Expr} {ds : List PyData} (J : Nat → En → Prop) (hi : DI X ρ tg iter ds) (h0 : J 0 ρ) (tgt : ∀ i d ρ', ds[i]? = some d → J i ρ' → ∃ ρ2, DG X tg d ρ' ρ2 ∧ DS X W ρ2 body { P with nx := J (i + 1), ct := J (i + 1), bk := fun ρ => DS X W ρ rest P })
    (hd : ∀ ρ', J ds.length ρ' → DS X W ρ' rest P) (hc : X.calm = true := by rfl) (hp : PassesOwn (model X.prog X.w) X.A X.env X.xe := by first | exact PassesOwn.never | exact passes_of rfl)
    (hs : ∀ x, foldedSetIterable iter X.env x = pure x := by intro _; rfl) : DS X W ρ (.For tg iter body [] pos :: rest) P :=
  ds_cons (ps_for hp hc pi_I pg_G pss_S hs) fun H₀ G₀ G H σ D E S p => by
    refine hi H₀ G H σ _ S fun J' G1 H1 e1 src => ?_
    refine ⟨fun i m σ' H' => m = ds.length - i ∧ i ≤ ds.length ∧ ∃ G' ρ', Sub G1 G' ∧ Ext G₀ H₀ G' H' ∧ Sat H₀ G' H' σ' ρ' ∧ J i ρ', ⟨ds.length, by simp, Nat.zero_le _, G1, ρ, .refl _, E.step e1, S.up e1, h0⟩, ?_⟩
    rintro i m σ' H' ⟨rfl, hil, G', ρ', gg, E', S', hJ⟩
    by_cases hlt : i < ds.length
    · refine .inr ⟨src.go i G' H' gg S'.sub hlt, fun σ2 H2 => ∃ G2 ρ2, Sub G1 G2 ∧ Ext G₀ H₀ G2 H2 ∧ Sat H₀ G2 H2 σ2 ρ2 ∧ J (i + 1) ρ2, fun σ2 H2 ⟨G2, ρ2, a1, a2, a3, a4⟩ => ⟨ds.length - (i + 1), by omega, rfl, hlt, G2, ρ2, a1, a2, a3, a4⟩, fun x H2 y => ?_⟩
      have hd' : ds[i]? = some ds[i] := List.getElem?_eq_getElem hlt
      obtain ⟨G2, e2, r2⟩ := src.yld i G' H' x H2 _ gg S'.sub hd' y
      obtain ⟨ρ2, hg, hb⟩ := tgt i _ ρ' hd' hJ
      refine hg H₀ G2 H2 σ' x _ (S'.up e2) r2 fun σ3 S3 => ?_
      have gg2 : Sub G1 G2 := gg.trans e2.gg
      -- relative to G2 as the base of data, H₀ as the entry
      have E2 : Ext G2 H₀ G2 H2 := ⟨.refl _, (E'.step e2).hh, e2.gh, fun a o h => .inl h⟩
      refine hb H₀ G2 G2 H2 σ3 _ E2 S3 ⟨fun ρ5 σ5 G5 H5 q E5 S5 => ?_, fun d v G5 H5 q E5 r5 => ?_, fun ρ5 σ5 G5 H5 q E5 S5 => ?_, fun ρ5 σ5 G5 H5 q E5 S5 => ?_, fun x5 ρ5 σ5 G5 H5 c5 a5 q E5 S5 x6 => ?_, fun d ρ5 v σ5 G5 H5 q E5 S5 r5 => ?_, fun q5 ρ5 σ5 G5 H5 q E5 S5 => ?_⟩
      · exact ⟨G5, ρ5, gg2.trans E5.gg, ⟨(E'.step e2).gg.trans E5.gg, E5.hh, E5.gh, fun a o h => (E5.nw a o h).elim ((E'.step e2).nw a o) .inr⟩, S5, q⟩
      · exact p.rt d v G5 H5 q ⟨(E'.step e2).gg.trans E5.gg, E5.hh, E5.gh, fun a o h => (E5.nw a o h).elim ((E'.step e2).nw a o) .inr⟩ r5
      · exact q H₀ G₀ G5 H5 σ5 D ⟨(E'.step e2).gg.trans E5.gg, E5.hh, E5.gh, fun a o h => (E5.nw a o h).elim ((E'.step e2).nw a o) .inr⟩ S5 p
      · exact ⟨G5, ρ5, gg2.trans E5.gg, ⟨(E'.step e2).gg.trans E5.gg, E5.hh, E5.gh, fun a o h => (E5.nw a o h).elim ((E'.step e2).nw a o) .inr⟩, S5, q⟩
      · exact p.ex x5 ρ5 σ5 G5 H5 c5 a5 q ⟨(E'.step e2).gg.trans E5.gg, E5.hh, E5.gh, fun a o h => (E5.nw a o h).elim ((E'.step e2).nw a o) .inr⟩ S5 x6
      · exact p.ro d ρ5 v σ5 G5 H5 q ⟨(E'.step e2).gg.trans E5.gg, E5.hh, E5.gh, fun a o h => (E5.nw a o h).elim ((E'.step e2).nw a o) .inr⟩ S5 r5
      · exact p.rq q5 ρ5 σ5 G5 H5 q ⟨(E'.step e2).gg.trans E5.gg, E5.hh, E5.gh, fun a o h => (E5.nw a o h).elim ((E'.step e2).nw a o) .inr⟩ S5
    · have ei : i = ds.length := by omega
      subst ei
      exact .inl ⟨src.stop _ G' H' gg S'.sub rfl, hd ρ' hJ H₀ G₀ G' H' σ' D E' S' p⟩
theorem ds_while {c : Expr} (J : Nat → En → Prop) (m0 : Nat) (h0 : J m0 ρ) (turn : ∀ m ρ', J m ρ' → ∃ k, DT X ρ' c k ∧ (k = true → DS X W ρ' body { P with nx := fun ρ => ∃ m', m' < m ∧ J m' ρ, ct := fun ρ => ∃ m', m' < m ∧ J m' ρ, bk := fun ρ => DS X W ρ rest P }) ∧ (k = false → DS X W ρ' rest P))
    (hp : PassesOwn (model X.prog X.w) X.A X.env X.xe := by first | exact PassesOwn.never | exact passes_of rfl) : DS X W ρ (.While c body [] pos :: rest) P :=
  ds_cons (ps_while hp pt_T pss_S) fun H₀ G₀ G H σ D E S p => by
    refine ⟨fun m σ' H' => ∃ G' ρ', Ext G₀ H₀ G' H' ∧ Sat H₀ G' H' σ' ρ' ∧ J m ρ', ⟨m0, G, ρ, E, S, h0⟩, ?_⟩
    rintro m σ' H' ⟨G', ρ', E', S', hJ⟩
    obtain ⟨k, ht, h1, h2⟩ := turn m ρ' hJ
    refine ht H₀ G' H' σ' _ S' fun G1 H1 e1 => ?_
    cases k with
    | true =>
      refine ⟨fun σ2 H2 => ∃ m', m' < m ∧ ∃ G2 ρ2, Ext G₀ H₀ G2 H2 ∧ Sat H₀ G2 H2 σ2 ρ2 ∧ J m' ρ2, fun σ2 H2 ⟨m', hm, G2, ρ2, a⟩ => ⟨m', hm, G2, ρ2, a⟩, ?_⟩
      exact h1 rfl H₀ G₀ G1 H1 σ' _ (E'.step e1) (S'.up e1) ⟨fun ρ5 σ5 G5 H5 ⟨m', hm, q⟩ E5 S5 => ⟨m', hm, G5, ρ5, E5, S5, q⟩, p.rt, fun ρ5 σ5 G5 H5 q E5 S5 => q H₀ G₀ G5 H5 σ5 D E5 S5 p, fun ρ5 σ5 G5 H5 ⟨m', hm, q⟩ E5 S5 => ⟨m', hm, G5, ρ5, E5, S5, q⟩, p.ex, p.ro, p.rq⟩
    | false => exact h2 rfl H₀ G₀ G1 H1 σ' D (E'.step e1) (S'.up e1) p
/-- a, b = x, y on plain locals -/
theorem ds_par (i j : Nat) {x y : Str} {d1 d2 : PyData} {px py pt : Pos} {kt k2 pt2} (h1 : DA X ρ [a, b] [d1, d2]) (h : DS X W ((ρ.set i (.dat d1)).set j (.dat d2)) rest P) (hN : X.N.Nodup) (hc : X.calm = true := by rfl) (hi : X.N[i]? = some x := by rfl) (hj : X.N[j]? = some y := by rfl) (hij : i ≠ j := by decide)
    (hx : X.env.scope.names.lookup x = some .local := by rfl) (hy : X.env.scope.names.lookup y = some .local := by rfl)
    (hw : swappedStores [.Tuple [.Name x px, .Name y py] kt pt] (.Tuple [a, b] k2 pt2) X.env = pure (some [x, y]) := by rfl)
    (hs : swapsWithSole [.Tuple [.Name x px, .Name y py] kt pt] (.Tuple [a, b] k2 pt2) pos.line X.env = pure false := by rfl) :
    DS X W ρ (.Assign [.Tuple [.Name x px, .Name y py] kt pt] (.Tuple [a, b] k2 pt2) pos :: rest) P :=
  ds_cons (ps_par hc hN hi hj hij hx hy pa_A hw hs) fun H₀ G₀ G H σ D E S p => h1 H₀ G H σ _ S fun vs G1 H1 e1 r1 => by
    cases r1 with
    | cons r1 rr =>
      cases rr with
      | cons r2 rr =>
        cases rr
        exact ⟨_, _, rfl, h H₀ G₀ G1 H1 _ D (E.step e1) (((S.up e1).set (s := .dat d1) ⟨_, rfl, r1⟩ (fun z => by cases z)).set (s := .dat d2) ⟨_, rfl, r2⟩ (fun z => by cases z)) p⟩
/-- target = e by a target's rule -/
theorem ds_asg {tg : Expr} (he : DE X ρ e d) (hg : DG X tg d ρ ρ') (h : DS X W ρ' rest P) (hs : swapsWithSole [tg] e pos.line X.env = pure false := by rfl) (hw : swappedStores [tg] e X.env = pure none := by rfl)
    (h1 : (assignEach [tg] X.env).map (·.2) = [assign tg X.env] := by rfl) : DS X W ρ (.Assign [tg] e pos :: rest) P :=
  ds_cons (ps_asg pe_D pg_G hs hw h1) fun H₀ G₀ G H σ D E S p => he H₀ G H σ _ S fun v G1 H1 e1 r1 =>
    hg H₀ G1 H1 σ v _ (S.up e1) r1 fun σ' S' => h H₀ G₀ G1 H1 σ' D (E.step e1) S' p
theorem ds_asgX {tg : Expr} {ex : Exn} (he : DX X W ρ e (.exc ex)) (h : P.ex ex ρ) (hs : swapsWithSole [tg] e pos.line X.env = pure false := by rfl) (hw : swappedStores [tg] e X.env = pure none := by rfl)
    (h1 : (assignEach [tg] X.env).map (·.2) = [assign tg X.env] := by rfl) : DS X W ρ (.Assign [tg] e pos :: rest) P :=
  ds_cons (ps_asg pe_D pg_G hs hw h1) fun H₀ G₀ G H σ D E S p => he H₀ G H σ _ S fun c a G1 H1 e1 r1 => p.ex ex ρ σ G1 H1 c a h (E.step e1) (S.up e1) r1
end
end DD
namespace DD
open PySem PySem.Spec PyProof.Rows L2

/-! ### comprehensions -/
def wipeE (ρ : En) : List Nat → En
  | [] => ρ
  | v :: vs => (wipeE ρ vs).set v .un
theorem wipeE_length (ρ : En) : ∀ vs : List Nat, (wipeE ρ vs).length = ρ.length
  | [] => rfl
  | v :: vs => by unfold wipeE; rw [List.length_set, wipeE_length ρ vs]
theorem wipeE_at {ρ : En} {i : Nat} {s : SV} : ∀ {vs : List Nat}, (wipeE ρ vs)[i]? = some s → s = .un ∨ (i ∉ vs ∧ ρ[i]? = some s)
  | [], h => .inr ⟨by simp, h⟩
  | v :: vs, h => by
    unfold wipeE at h
    by_cases hi : v = i
    · subst hi
      by_cases hv : v < (wipeE ρ vs).length
      · rw [List.getElem?_set_self hv] at h; cases h; exact .inl rfl
      · rw [List.getElem?_eq_none (by simpa using hv)] at h; cases h
    · rw [List.getElem?_set_ne hi] at h
      rcases wipeE_at h with z | ⟨z1, z2⟩
      · exact .inl z
      · exact .inr ⟨by simp only [List.mem_cons, not_or]; exact ⟨fun e => hi e.symm, z1⟩, z2⟩
theorem Sat.wipe {H₀ G H : Hp} {σ : L2.St} {ρ : En} (h : Sat H₀ G H σ ρ) (vs : List Nat) : Sat H₀ G H (L2.wipe σ vs) (wipeE ρ vs) := by
  refine ⟨h.sub, by rw [wipe_length, wipeE_length, h.len], fun i s q => ?_, fun i j s t p hij q1 q2 o1 o2 r1 => ?_, h.old⟩
  · rcases wipeE_at q with z | ⟨z1, z2⟩
    · subst z; trivial
    · rw [wipe_out z1]; exact h.slot i s z2
  · rcases wipeE_at q1 with z | ⟨z1, z2⟩
    · subst z; cases o1
    · rcases wipeE_at q2 with w | ⟨w1, w2⟩
      · subst w; cases o2
      · rw [wipe_out z1] at r1
        rw [wipe_out w1]
        exact h.apart i j s t p hij z2 w2 o1 o2 r1
theorem wipe_set {v : Option V} {i : Nat} : ∀ {σ : L2.St} {vs : List Nat}, i ∈ vs → L2.wipe (σ.set i v) vs = L2.wipe σ vs
  | _, [], h => by simp at h
  | σ, w :: vs, h => by
    unfold L2.wipe
    by_cases e : i ∈ vs
    · rw [wipe_set e]
    · have ew : i = w := by
        rcases List.mem_cons.mp h with z | z
        · exact z
        · exact absurd z e
      subst ew
      apply List.ext_getElem?
      intro j
      by_cases hj : i = j
      · subst hj
        rw [List.getElem?_set, List.getElem?_set, wipe_length, wipe_length, List.length_set]
        simp
      · rw [List.getElem?_set_ne hj, List.getElem?_set_ne hj]
        have key : ∀ (us : List Nat) (σ : L2.St), (L2.wipe (σ.set i v) us)[j]? = (L2.wipe σ us)[j]? := by
          intro us
          induction us with
          | nil => intro σ; exact List.getElem?_set_ne hj
          | cons u us ih =>
            intro σ
            unfold L2.wipe
            by_cases hu : u = j
            · subst hu
              rw [List.getElem?_set, List.getElem?_set, wipe_length, wipe_length, List.length_set]
              simp
            · rw [List.getElem?_set_ne hu, List.getElem?_set_ne hu]
              exact ih σ
        exact key vs σ

theorem wipe_none {i : Nat} : ∀ {σ : L2.St} {vs : List Nat}, i ∈ vs → (L2.wipe σ vs)[i]? = if i < σ.length then some none else none
  | _, [], h => by simp at h
  | σ, w :: vs, h => by
    unfold L2.wipe
    by_cases e : w = i
    · subst e
      rw [List.getElem?_set, wipe_length]
      simp
    · rw [List.getElem?_set_ne e]
      rcases List.mem_cons.mp h with z | z
      · exact absurd z.symm e
      · exact wipe_none z
theorem wipe_wipe (σ : L2.St) (vs : List Nat) : L2.wipe (L2.wipe σ vs) vs = L2.wipe σ vs := by
  apply List.ext_getElem?
  intro j
  by_cases h : j ∈ vs
  · rw [wipe_none h, wipe_none h, wipe_length]
  · rw [wipe_out h]
section
variable {X : Cx} {W : WX} {ρ ρ' : En} {e a b c elt tg iter : Expr} {es : List Expr} {d : PyData} {o : Out} {pos : Pos} {P : Post} {rest : List Stmt}
/-- a target within a comprehension -/
structure DGc (X : Cx) (tg : Expr) (d : PyData) (ρ ρ' : En) (vs : List Nat) : Prop where
  run : ∀ H₀ G H σ v Q, Sat H₀ G H σ ρ → Rp G v d → (∀ σ', Sat H₀ G H σ' ρ' → L2.wipe σ' vs = L2.wipe σ vs → Q σ' H) → tG X tg v σ H Q
instance {X : Cx} {tg : Expr} {d : PyData} {ρ ρ' : En} {vs : List Nat} : CoeFun (DGc X tg d ρ ρ' vs) (fun _ => ∀ H₀ G H σ v Q, Sat H₀ G H σ ρ → Rp G v d → (∀ σ', Sat H₀ G H σ' ρ' → L2.wipe σ' vs = L2.wipe σ vs → Q σ' H) → tG X tg v σ H Q) := ⟨DGc.run⟩
theorem dgc_name (i : Nat) {x : Str} {vs : List Nat} (hN : X.N.Nodup) (hm : i ∈ vs := by decide) (hi : X.N[i]? = some x := by rfl) (hx : Loc X.env.scope x := by first | exact Or.inl rfl | exact Or.inr rfl) (hf : X.fn x = true ∨ X.env.scope.names.lookup x = some .local := by first | exact .inl rfl | exact .inr rfl) :
    DGc X (.Name x pos) d ρ (ρ.set i (.dat d)) vs := .mk fun H₀ G H σ v Q S r q pins s u I ru =>
  (pg_name (pos := pos) hN hi hx hf).run pins s σ H v u Q I ru (q _ (S.set ⟨v, rfl, r⟩ (fun z => by cases z)) (wipe_set hm))
theorem dgc_tup2 (i j : Nat) {x y : Str} {k : Nat} {p1 p2 : Pos} {d1 d2 : PyData} {vs : List Nat} (hN : X.N.Nodup) (hc : X.calm = true := by rfl) (hm : i ∈ vs := by decide) (hm2 : j ∈ vs := by decide) (hi : X.N[i]? = some x := by rfl) (hx : Loc X.env.scope x := by first | exact Or.inl rfl | exact Or.inr rfl) (hf : X.fn x = true ∨ X.env.scope.names.lookup x = some .local := by first | exact .inl rfl | exact .inr rfl)
    (hj : X.N[j]? = some y := by rfl) (hy : Loc X.env.scope y := by first | exact Or.inl rfl | exact Or.inr rfl) (hfy : X.fn y = true ∨ X.env.scope.names.lookup y = some .local := by first | exact .inl rfl | exact .inr rfl)
    (hn : (assignEach [.Name x p1, .Name y p2] X.env).length = 2 := by rfl) (hst : (assignEach [.Name x p1, .Name y p2] X.env).findIdx? (·.1) = none := by rfl)
    (hs1 : (assignEach [.Name x p1, .Name y p2] X.env).map (·.2) = assign (.Name x p1) X.env :: (assignEach [.Name y p2] X.env).map (·.2) := by rfl) (hs2 : (assignEach [.Name y p2] X.env).map (·.2) = assign (.Name y p2) X.env :: (assignEach [] X.env).map (·.2) := by rfl) :
    DGc X (.Tuple [.Name x p1, .Name y p2] k pos) (.tuple [d1, d2]) ρ ((ρ.set i (.dat d1)).set j (.dat d2)) vs := .mk fun H₀ G H σ v Q S r q pins s u I ru => by
  refine (pg_tup (pos := pos) (k := k) hc (pgs_cons (pg_name hN hi hx hf) (pgs_cons (pg_name hN hj hy hfy) pgs_nil hs2) hs1) hn hst).run pins s σ H v u Q I ru ?_
  cases r with
  | tup h1 h2 =>
    cases h2 with
    | cons r1 h2 =>
      cases h2 with
      | cons r2 h2 =>
        cases h2
        refine ⟨_, _, rfl, .of (S.sub _ _ h1), rfl, _, _, rfl, _, _, rfl, rfl, ?_⟩
        exact q _ ((S.set (s := .dat d1) ⟨_, rfl, r1⟩ (fun z => by cases z)).set (s := .dat d2) ⟨_, rfl, r2⟩ (fun z => by cases z)) ((wipe_set hm2).trans (wipe_set hm))
/-- the tests of a comprehension -/
def tTs (X : Cx) (ifs : List Expr) : TT := fun σ H Q => ∀ t : TT, PTs X ifs t → ∀ (pins : List (Addr × Obj)) (s : Shared), Inv X pins σ H s → True
def DTs (X : Cx) (ρ : En) (ifs : List Expr) (k : Bool) : Prop := ∃ t, PTs X ifs t ∧ ∀ H₀ G H σ Q, Sat H₀ G H σ ρ → (∀ G' H', Ext G H G' H' → Q k H') → t σ H Q
theorem dts_nil : DTs X ρ [] true := ⟨tYes, pts_nil, fun H₀ G H σ Q S q => q G H (.refl S.sub)⟩
theorem dts_one {k : Bool} (h : DT X ρ c k) : DTs X ρ [c] k := ⟨tT X c, pts_one pt_T, h⟩
end
/-- the tests by what they mean -/
def tts (ifs : List Expr) (X : Cx) : TT := fun σ H Q => ∃ t, PTs X ifs t ∧ t σ H Q
theorem pts_tts {X : Cx} {ifs : List Expr} : PTs X ifs (tts ifs X) := ⟨fun pins s σ H Q I h => let ⟨t, h1, h2⟩ := h; h1.run pins s σ H Q I h2⟩

section
variable {X : Cx} {W : WX} {ρ ρ' : En} {elt tg iter : Expr} {ifs : List Expr} {scope : Scope} {pos : Pos} {P : Post} {rest : List Stmt} {T : Type}
/-- what a comprehension's parts mean in its block, whatever the block's start -/
abbrev tgB (X : Cx) (scope : Scope) (tg : Expr) : TG := fun v σ H Q => ∀ (s' : Shared) (H' : Hp) (C : Addr) (cl : List (Str × Addr)) (fp : List Addr), tG (X.blk s' H' scope (compEnvC scope cl C X.env) fp) tg v σ H Q
abbrev ttB (X : Cx) (scope : Scope) (ifs : List Expr) : TT := fun σ H Q => ∀ (s' : Shared) (H' : Hp) (C : Addr) (cl : List (Str × Addr)) (fp : List Addr), tts ifs (X.blk s' H' scope (compEnvC scope cl C X.env) fp) σ H Q
abbrev teB (X : Cx) (scope : Scope) (elt : Expr) : TE := fun σ H Q => ∀ (s' : Shared) (H' : Hp) (C : Addr) (cl : List (Str × Addr)) (fp : List Addr), tD (X.blk s' H' scope (compEnvC scope cl C X.env) fp) elt σ H Q
theorem lc_read (xs : List T) (enc : T → PyData) (keep : T → Bool) (f : T → PyData) (vs : List Nat) (ρ2 : T → En) (hi : DI X ρ tg iter (xs.map enc))
    (hg : ∀ s H C cl fp x, x ∈ xs → DGc (X.blk s H scope (compEnvC scope cl C X.env) fp) tg (enc x) (wipeE ρ vs) (ρ2 x) vs)
    (ht : ∀ s H C cl fp x, x ∈ xs → DTs (X.blk s H scope (compEnvC scope cl C X.env) fp) (ρ2 x) ifs (keep x))
    (he : ∀ s H C cl fp x, x ∈ xs → keep x = true → DE (X.blk s H scope (compEnvC scope cl C X.env) fp) (ρ2 x) elt (f x)) (hl : xs.length < sizeLine)
    (H₀ G H : Hp) (σ : L2.St) (Q : VK) (S : Sat H₀ G H σ ρ) (q : ∀ p vs G' H', Ext G H G' H' → H p = none → G' p = none → H' p = some (.lst vs) → RpA G' vs ((xs.filter keep).map f) → Q (.ref p) H') :
    tLc (tI X tg iter) (tgB X scope tg) (ttB X scope ifs) (teB X scope elt) vs σ H Q := by
  refine hi H₀ G H σ _ S fun J G1 H1 e1 src Dl hD => ?_
  have gD : G1 Dl = none := free_back e1.gh hD
  have hD0 : H Dl = none := free_back e1.hh hD
  refine ⟨fun i m H' => m = xs.length - i ∧ i ≤ xs.length ∧ ∃ G' ws, Ext G1 H1 G' H' ∧ G' Dl = none ∧ H' Dl = some (.lst ws) ∧ RpA G' ws (((xs.take i).filter keep).map f), ⟨xs.length, by simp, Nat.zero_le _, G1, [], ?_, gD, upd_same, by simpa using RpA.nil⟩, ?_⟩
  · exact ⟨.refl _, fun a u k => by rw [upd_ne (ne_of_none k hD)]; exact k, fun a u k => by rw [upd_ne (ne_of_none k gD)]; exact e1.gh a u k, fun a u k => .inl k⟩
  · rintro i m H' ⟨rfl, hil, G', ws, E', gd, hd, rw'⟩
    by_cases hlt : i < xs.length
    · refine .inr ⟨src.go i G' H' E'.gg E'.gh (by rw [List.length_map]; exact hlt), fun H2 => i + 1 ≤ xs.length ∧ ∃ G2 ws2, Ext G1 H1 G2 H2 ∧ G2 Dl = none ∧ H2 Dl = some (.lst ws2) ∧ RpA G2 ws2 (((xs.take (i + 1)).filter keep).map f), fun H2 ⟨a0, a⟩ => ⟨xs.length - (i + 1), by omega, rfl, a0, a⟩, fun x H2 y => ?_⟩
      have hx : xs[i]? = some xs[i] := List.getElem?_eq_getElem hlt
      have hmem : xs[i] ∈ xs := List.getElem_mem hlt
      have hxd : (xs.map enc)[i]? = some (enc xs[i]) := by rw [List.getElem?_map, hx]; rfl
      obtain ⟨G2, e2, r2⟩ := src.yld i G' H' x H2 _ E'.gg E'.gh hxd y
      have S2 : Sat H₀ G2 H2 (L2.wipe σ vs) (wipeE ρ vs) := by
        have a1 := (S.up e1).wipe vs
        exact (a1.up (E'.trans e2))
      have gd2 : G2 Dl = none := by
        cases z : G2 Dl with
        | none => rfl
        | some u =>
          rcases e2.nw _ _ z with w | w
          · rw [gd] at w; cases w
          · rw [hd] at w; cases w
      have hd2 : H2 Dl = some (.lst ws) := e2.hh _ _ hd
      intro s' Hs C cl fp
      refine hg s' Hs C cl fp _ hmem H₀ G2 H2 _ x _ S2 r2 fun σ3 S3 w3 => ⟨w3.trans (wipe_wipe σ vs), ?_⟩
      intro s' Hs C cl fp
      obtain ⟨t, pt, rt⟩ := ht s' Hs C cl fp _ hmem
      refine ⟨t, pt, rt H₀ G2 H2 σ3 _ S3 fun G3 H3 e3 => ?_⟩
      have E3 : Ext G1 H1 G3 H3 := (E'.trans e2).trans e3
      have gd3 : G3 Dl = none := by
        cases z : G3 Dl with
        | none => rfl
        | some u =>
          rcases e3.nw _ _ z with w | w
          · rw [gd2] at w; cases w
          · rw [hd2] at w; cases w
      have hd3 : H3 Dl = some (.lst ws) := e3.hh _ _ hd2
      have tk : xs.take (i + 1) = xs.take i ++ [xs[i]] := by rw [List.take_add_one, hx]; rfl
      cases hk : keep xs[i] with
      | false =>
        rw [if_neg Bool.false_ne_true]
        refine ⟨hlt, G3, ws, E3, gd3, hd3, ?_⟩
        rw [tk, List.filter_append, List.filter_cons, if_neg (by rw [hk]; exact Bool.false_ne_true)]
        simp only [List.filter_nil, List.append_nil]
        exact rw'.up (e2.gg.trans e3.gg)
      | true =>
        rw [if_pos rfl]
        intro s' Hs C cl fp
        refine he s' Hs C cl fp _ hmem hk H₀ G3 H3 σ3 _ (S3.up e3) fun v G4 H4 e4 r4 => ?_
        have gd4 : G4 Dl = none := by
          cases z : G4 Dl with
          | none => rfl
          | some u =>
            rcases e4.nw _ _ z with w | w
            · rw [gd3] at w; cases w
            · rw [hd3] at w; cases w
        have hd4 : H4 Dl = some (.lst ws) := e4.hh _ _ hd3
        have hlen : ws.length ≤ i := by
          rw [rw'.length, List.length_map]
          exact Nat.le_trans (List.length_filter_le _ _) (by rw [List.length_take]; exact Nat.min_le_left _ _)
        refine ⟨ws, hd4, by omega, hlt, G4, ws ++ [v], ?_, gd4, upd_same, ?_⟩
        · have E4 := E3.trans e4
          exact ⟨E4.gg, fun a u k => by rw [upd_ne (ne_of_none k hD)]; exact E4.hh a u k, fun a u k => by rw [upd_ne (ne_of_none k gd4)]; exact E4.gh a u k, E4.nw⟩
        · rw [tk, List.filter_append, List.filter_cons, if_pos hk, List.filter_nil, List.map_append]
          exact (rw'.up ((e2.gg.trans e3.gg).trans e4.gg)).append (.cons r4 .nil)
    · have ei : i = xs.length := by omega
      subst ei
      refine .inl ⟨src.stop _ G' H' E'.gg E'.gh (by rw [List.length_map]), ?_⟩
      rw [List.take_length] at rw'
      exact q Dl ws G' H' (e1.trans E') hD0 gd hd rw'
theorem dl_lc (xs : List T) (enc : T → PyData) (keep : T → Bool) (f : T → PyData) (own : List (Str × Nat)) (ρ2 : T → En) (hi : DI X ρ tg iter (xs.map enc)) (hN : X.N.Nodup) (ok : BlkOk X.N X.env.scope scope own)
    (hg : ∀ s H C cl fp x, x ∈ xs → DGc (X.blk s H scope (compEnvC scope cl C X.env) fp) tg (enc x) (wipeE ρ (own.map (·.2))) (ρ2 x) (own.map (·.2)))
    (ht : ∀ s H C cl fp x, x ∈ xs → DTs (X.blk s H scope (compEnvC scope cl C X.env) fp) (ρ2 x) ifs (keep x))
    (he : ∀ s H C cl fp x, x ∈ xs → keep x = true → DE (X.blk s H scope (compEnvC scope cl C X.env) fp) (ρ2 x) elt (f x)) (hl : xs.length < sizeLine) (hc : X.calm = true := by rfl)
    (hs : ∀ x, foldedSetIterable iter X.env x = pure x := by intro _; rfl) : DL X ρ (.ListComp elt [⟨tg, iter, ifs, 0⟩] scope pos) ((xs.filter keep).map f) := .mk fun H₀ G H σ Q S q pins s I =>
  (pe_lc (pos := pos) hc hN pi_I ok (fun s' H' C cl fp => ⟨fun pins s σ H v u Q I r h => h s' H' C cl fp pins s u I r⟩) (fun s' H' C cl fp => ⟨fun pins s σ H Q I h => pts_tts.run pins s σ H Q I (h s' H' C cl fp)⟩) (fun s' H' C cl fp => ⟨fun pins s σ H Q I h => h s' H' C cl fp pins s I⟩) hs).run pins s σ H Q I
    (lc_read xs enc keep f _ ρ2 hi hg ht he hl H₀ G H σ Q S q)
/-- name = [..] -/
theorem ds_setLcO (i : Nat) {y : Str} {py : Pos} (xs : List T) (enc : T → PyData) (keep : T → Bool) (f : T → PyData) (own : List (Str × Nat)) (ρ2 : T → En) {spos : Pos} (hi : DI X ρ tg iter (xs.map enc)) (hN : X.N.Nodup) (ok : BlkOk X.N X.env.scope scope own)
    (hg : ∀ s H C cl fp x, x ∈ xs → DGc (X.blk s H scope (compEnvC scope cl C X.env) fp) tg (enc x) (wipeE ρ (own.map (·.2))) (ρ2 x) (own.map (·.2)))
    (ht : ∀ s H C cl fp x, x ∈ xs → DTs (X.blk s H scope (compEnvC scope cl C X.env) fp) (ρ2 x) ifs (keep x))
    (he : ∀ s H C cl fp x, x ∈ xs → keep x = true → DE (X.blk s H scope (compEnvC scope cl C X.env) fp) (ρ2 x) elt (f x)) (hl : xs.length < sizeLine)
    (h : DS X W (ρ.set i (.own ((xs.filter keep).map f))) rest P)
    (hsw : swapsWith (.ListComp elt [⟨tg, iter, ifs, 0⟩] scope pos) (some (.Name y py)) spos.line X.env = pure true := by exact sw_true rfl rfl rfl (by decide +kernel)) (hy : X.N[i]? = some y := by rfl) (hyl : X.env.scope.names.lookup y = some .local := by rfl) (hc : X.calm = true := by rfl)
    (hs : ∀ x, foldedSetIterable iter X.env x = pure x := by intro _; rfl) : DS X W ρ (.Assign [.Name y py] (.ListComp elt [⟨tg, iter, ifs, 0⟩] scope pos) spos :: rest) P :=
  ds_cons (ps_setLc hc hN hy hyl hsw pi_I ok (fun s' H' C cl fp => ⟨fun pins s σ H v u Q I r h => h s' H' C cl fp pins s u I r⟩) (fun s' H' C cl fp => ⟨fun pins s σ H Q I h => pts_tts.run pins s σ H Q I (h s' H' C cl fp)⟩) (fun s' H' C cl fp => ⟨fun pins s σ H Q I h => h s' H' C cl fp pins s I⟩) hs)
    fun H₀ G₀ G H σ D E S p => lc_read xs enc keep f _ ρ2 hi hg ht he hl H₀ G H σ _ S fun q vs G1 H1 e1 hp gp hh r1 =>
      h H₀ G₀ G1 H1 _ D (E.step e1) ((S.up e1).set ⟨q, vs, rfl, free_back E.hh hp, gp, hh, r1⟩ (fun _ j t hj ht ho => S.fresh hp ht ho)) p
end

/-! ### calls of defs -/
def spD (S : List PyData → Out → Prop) : Sp := fun vs H Q E => ∃ G ds o, Sub G H ∧ RpA G vs ds ∧ S ds o ∧
  match o with
  | .ret d => Res G H d Q
  | .exc x => ∀ c a G' H', Ext G H G' H' → ExcAt G' H' x c a → E c a H'
/-- a def of the module, at a level, by what it does with data -/
def FnIn (P : Program) (w : World) (K : PySem.W.Frag) (mg : Str → Option Value) (base : Heap) (k : Nat) (name : Str) (S : List PyData → Out → Prop) : Prop :=
  ∃ (f : Addr) (fd : FuncData) (ps : List Str), FnOk P w K mg base (L2.CX P w) k f fd ps (spD S) ∧ mg name = some (.ref f) ∧ PySem.W.keepIn K (.ref f) = true ∧ Binds K fd ps []
theorem FnIn.imp {P : Program} {w : World} {K : PySem.W.Frag} {mg : Str → Option Value} {base : Heap} {k : Nat} {name : Str} {S S' : List PyData → Out → Prop} (F : FnIn P w K mg base k name S) (h : ∀ ds o, S' ds o → S ds o) : FnIn P w K mg base k name S' :=
  let ⟨f, fd, ps, a, b⟩ := F
  ⟨f, fd, ps, a.imp fun vs H Q E ⟨G, ds, o, x, y, z, q⟩ => ⟨G, ds, o, x, y, h _ _ z, q⟩, b⟩
section
variable {X : Cx} {W : WX} {ρ : En} {e : Expr} {es : List Expr} {d : PyData} {ds : List PyData} {o : Out} {pos p : Pos} {k : Nat} {name : Str} {S : List PyData → Out → Prop}
theorem dx_call (F : FnIn X.prog X.w X.K X.mg X.base k name S) (hr : Room k X.A) (tk : Takes X W) (ha : DA X ρ (e :: es) ds) (hS : S ds o) (hg : Gl X name := by rfl) (hdb : (name == ("__debug__" : Str)) = false := by decide)
    (he : starEach (e :: es) X.env = (false, eval e X.env) :: starEach es X.env := by rfl) (hpl : (backTo pos (starEach es X.env)).any (·.1) = false := by rfl) : DX X W ρ (.Call (.Name name p) (e :: es) [] pos) o := by
  obtain ⟨f, fd, ps, F, hm, hk, hb⟩ := F
  refine dx_of (pe_callS F hr hg hm hk hb (fun σ => passAt tk σ) pa_A hdb he hpl) fun H₀ G H σ Q St q => ?_
  refine ha H₀ G H σ _ St fun vs G1 H1 e1 r1 => ⟨G1, ds, o, e1.gh, r1, hS, ?_⟩
  cases o with
  | ret d => exact Res.back q e1
  | exc x => exact fun c a G' H' e2 x2 => q c a G' H' (e1.trans e2) x2
theorem de_call (F : FnIn X.prog X.w X.K X.mg X.base k name S) (hr : Room k X.A) (ha : DA X ρ (e :: es) ds) (hS : S ds (.ret d)) (hg : Gl X name := by rfl) (hdb : (name == ("__debug__" : Str)) = false := by decide)
    (he : starEach (e :: es) X.env = (false, eval e X.env) :: starEach es X.env := by rfl) (hpl : (backTo pos (starEach es X.env)).any (·.1) = false := by rfl) : DE X ρ (.Call (.Name name p) (e :: es) [] pos) d := by
  obtain ⟨f, fd, ps, F, hm, hk, hb⟩ := F
  refine de_of (pe_call F hr hg hm hk hb .nil passL pa_A hdb he hpl) fun H₀ G H σ Q St q => ?_
  refine ha H₀ G H σ _ St fun vs G1 H1 e1 r1 => ?_
  show spD S (vs ++ []) H1 Q E0
  rw [List.append_nil]
  exact ⟨G1, ds, _, e1.gh, r1, hS, Res.back q e1⟩
end

/-! ### a def's own proof -/
def PostO (o : Out) : Post := { nx := fun _ => o = .ret .none, rt := fun d => o = .ret d, ex := fun x _ => o = .exc x }
theorem start_at {N : List Str} {vs : List V} {ds : List PyData} {G : Hp} (r : RpA G vs ds) (hl : vs.length ≤ N.length) : (L2.start N vs).length = (ds.map SV.dat ++ List.replicate (N.length - ds.length) SV.un).length := by
  unfold L2.start
  rw [List.length_append, List.length_append, List.length_map, List.length_map, List.length_replicate, List.length_replicate, r.length]
theorem start_sat {N : List Str} {vs : List V} {ds : List PyData} {G H : Hp} (s : Sub G H) (r : RpA G vs ds) (hl : vs.length ≤ N.length) : Sat H G H (L2.start N vs) (ds.map SV.dat ++ List.replicate (N.length - ds.length) SV.un) := by
  have key : ∀ (i : Nat) (s : SV), (ds.map SV.dat ++ List.replicate (N.length - ds.length) SV.un)[i]? = some s → s = .un ∨ ∃ d, s = .dat d ∧ ds[i]? = some d := by
    intro i s q
    by_cases hi : i < ds.length
    · rw [List.getElem?_append_left (by rw [List.length_map]; exact hi), List.getElem?_map] at q
      cases z : ds[i]? with
      | none => rw [z] at q; cases q
      | some d => rw [z] at q; cases q; exact .inr ⟨d, rfl, rfl⟩
    · rw [List.getElem?_append_right (by rw [List.length_map]; omega)] at q
      have := List.mem_of_getElem? q
      exact .inl (List.eq_of_mem_replicate this)
  refine ⟨s, start_at r hl, fun i s q => ?_, fun i j s t p hij q1 q2 o1 o2 r1 => ?_, .refl _⟩
  · rcases key i s q with z | ⟨d, z, hd⟩
    · subst z; trivial
    · subst z
      obtain ⟨v, hv, rv⟩ := r.get hd
      refine ⟨v, ?_, rv⟩
      have hi : i < vs.length := (List.getElem?_eq_some_iff.mp hv).1
      unfold L2.start
      rw [List.getElem?_append_left (by rw [List.length_map]; exact hi), List.getElem?_map, hv]
      rfl
  · rcases key i s q1 with z | ⟨d, z, _⟩ <;> (subst z; cases o1)
theorem fn_ok {P : Program} {w : World} {K : PySem.W.Frag} {mg : Str → Option Value} {base : Heap} {x qual : Str} {st : Stmt} {f : Addr} {fd : FuncData} {N ps : List Str} {k : Nat} {S : List PyData → Out → Prop} (F : Fun K x qual st f fd) (SC : FnScope N ps (defScope st))
    (hlen : ∀ ds o, S ds o → ds.length = ps.length) (hps : ps.length ≤ N.length)
    (hbody : ∀ (cdv : Value) (A : Around) (outer : List Env) (s : Shared) (H : Hp) (E : XK) (ds : List PyData) (o : Out), Room k (A.deeper (envOfC qual (defScope st) s.heap.objs.size f cdv)) → S ds o →
      Takes (cxOf (L2.CX P w) P w K mg base N qual (defScope st) f cdv A outer s H E) (fun c a _ H => E c a H) →
      DS (cxOf (L2.CX P w) P w K mg base N qual (defScope st) f cdv A outer s H E) (fun c a _ H => E c a H) (ds.map SV.dat ++ List.replicate (N.length - ps.length) SV.un) (defBody st) (PostO o)) : FnOk P w K mg base (L2.CX P w) (k + 1) f fd ps (spD S) := by
  refine F.okX SC (fun vs H Q E ⟨G, ds, o, s, r, hS, _⟩ => by rw [r.length]; exact hlen ds o hS) fun cdv A outer s H vs Q E hr ⟨G, ds, o, sb, r, hS, q⟩ => ?_
  refine ⟨_, pss_S, ?_⟩
  have hl := hlen ds o hS
  have tk : Takes (cxOf (L2.CX P w) P w K mg base N qual (defScope st) f cdv A outer s H E) (fun c a _ H => E c a H) := takes_of rfl rfl rfl rfl
  have S0 := start_sat (N := N) sb r (by rw [r.length, hl]; exact hps)
  rw [hl] at S0
  refine hbody cdv A outer s H E ds o hr hS tk H G G H _ _ (.refl sb) S0 ⟨fun ρ σ G' H' z e' _ => ?_, fun d v G' H' z e' rv => ?_, fun ρ σ G' H' z => z.elim, fun ρ σ G' H' z => z.elim, fun x ρ σ G' H' c a z e' _ ea => ?_, fun d ρ v σ G' H' z => z.elim, fun q ρ σ G' H' z => z.elim⟩
  · have z : o = .ret .none := z
    subst z
    exact q _ G' H' e' .non
  · have z : o = .ret d := z
    subst z
    exact q _ G' H' e' rv
  · have z : o = .exc x := z
    subst z
    exact q c a G' H' e' ea
/-- .. whose first argument is the script -/
def spP (K : PySem.W.Frag) (S : List Int → List PyData → Out → Prop) : Sp := fun vs H Q E => ∃ (a : Addr) (ns : List Int) (vs' : List V) (G : Hp) (ds : List PyData) (o : Out), vs = .ref a :: vs' ∧ SqL K H a (ns.map V.int) ∧ Sub G H ∧ RpA G vs' ds ∧ S ns ds o ∧
  match o with
  | .ret d => Res G H d Q
  | .exc x => ∀ c a G' H', Ext G H G' H' → ExcAt G' H' x c a → E c a H'
theorem sq_up {K : PySem.W.Frag} {a : Addr} {vs : List V} (H H' : Hp) (s : Sub H H') (h : SqL K H a vs) : SqL K H' a vs := by
  rcases h with (h | ⟨o, h⟩) | h
  · exact .inl (.inl (s _ _ h))
  · exact .inl (.inr ⟨o, s _ _ h⟩)
  · exact .inr h
/-- the script at a slot -/
abbrev SV.scr (K : PySem.W.Frag) (a : Addr) (ns : List Int) : SV := .pin (.ref a) (fun H => SqL K H a (ns.map V.int)) (fun H H' s h => sq_up H H' s h)
theorem fnP_ok {P : Program} {w : World} {K : PySem.W.Frag} {mg : Str → Option Value} {base : Heap} {x qual : Str} {st : Stmt} {f : Addr} {fd : FuncData} {N ps : List Str} {k : Nat} {S : List Int → List PyData → Out → Prop} (F : Fun K x qual st f fd) (SC : FnScope N ps (defScope st))
    (hlen : ∀ ns ds o, S ns ds o → ds.length + 1 = ps.length) (hps : ps.length ≤ N.length)
    (hbody : ∀ (cdv : Value) (A : Around) (outer : List Env) (s : Shared) (H : Hp) (E : XK) (a : Addr) (ns : List Int) (ds : List PyData) (o : Out), Room k (A.deeper (envOfC qual (defScope st) s.heap.objs.size f cdv)) → S ns ds o →
      Takes (cxOf (L2.CX P w) P w K mg base N qual (defScope st) f cdv A outer s H E) (fun c a _ H => E c a H) →
      DS (cxOf (L2.CX P w) P w K mg base N qual (defScope st) f cdv A outer s H E) (fun c a _ H => E c a H) (SV.scr K a ns :: (ds.map SV.dat ++ List.replicate (N.length - ps.length) SV.un)) (defBody st) (PostO o)) : FnOk P w K mg base (L2.CX P w) (k + 1) f fd ps (spP K S) := by
  refine F.okX SC (fun vs H Q E ⟨a, ns, vs', G, ds, o, e, _, s, r, hS, _⟩ => by rw [e, List.length_cons, r.length]; exact hlen ns ds o hS) fun cdv A outer s H vs Q E hr ⟨a, ns, vs', G, ds, o, e, hq, sb, r, hS, q⟩ => ?_
  subst e
  refine ⟨_, pss_S, ?_⟩
  have hl := hlen ns ds o hS
  have tk : Takes (cxOf (L2.CX P w) P w K mg base N qual (defScope st) f cdv A outer s H E) (fun c a _ H => E c a H) := takes_of rfl rfl rfl rfl
  have hl2 := r.length
  have S0 : Sat H G H (L2.start N (.ref a :: vs')) (SV.scr K a ns :: (ds.map SV.dat ++ List.replicate (N.length - ps.length) SV.un)) := by
    have e1 : L2.start N (.ref a :: vs') = some (.ref a) :: L2.start (List.replicate (N.length - 1) "") vs' := by
      unfold L2.start
      rw [List.map_cons, List.length_replicate, List.length_cons, List.cons_append]
      congr 3
      omega
    have T := start_sat (N := List.replicate (N.length - 1) "") sb r (by rw [List.length_replicate]; omega)
    rw [List.length_replicate, show N.length - 1 - ds.length = N.length - ps.length by omega] at T
    rw [e1]
    refine ⟨sb, by rw [List.length_cons, List.length_cons, T.len], fun i s q => ?_, fun i j s t p hij q1 q2 o1 o2 r1 => ?_, .refl _⟩
    · cases i with
      | zero => cases q; exact ⟨rfl, hq⟩
      | succ i => exact T.slot i s q
    · cases i with
      | zero => cases q1; cases o1
      | succ i =>
        cases j with
        | zero => cases q2; cases o2
        | succ j => exact T.apart i j s t p (by omega) q1 q2 o1 o2 r1
  refine hbody cdv A outer s H E a ns ds o hr hS tk H G G H _ _ (.refl sb) S0 ⟨fun ρ σ G' H' z e' _ => ?_, fun d v G' H' z e' rv => ?_, fun ρ σ G' H' z => z.elim, fun ρ σ G' H' z => z.elim, fun x ρ σ G' H' c a z e' _ ea => ?_, fun d ρ v σ G' H' z => z.elim, fun q ρ σ G' H' z => z.elim⟩
  · have z : o = .ret .none := z
    subst z
    exact q _ G' H' e' .non
  · have z : o = .ret d := z
    subst z
    exact q _ G' H' e' rv
  · have z : o = .exc x := z
    subst z
    exact q c a G' H' e' ea
def FnInP (P : Program) (w : World) (K : PySem.W.Frag) (mg : Str → Option Value) (base : Heap) (k : Nat) (name : Str) (S : List Int → List PyData → Out → Prop) : Prop :=
  ∃ (f : Addr) (fd : FuncData) (ps : List Str), FnOk P w K mg base (L2.CX P w) k f fd ps (spP K S) ∧ mg name = some (.ref f) ∧ PySem.W.keepIn K (.ref f) = true ∧ Binds K fd ps []
section
variable {X : Cx} {W : WX} {ρ : En} {e : Expr} {es : List Expr} {d : PyData} {ds : List PyData} {o : Out} {pos p px : Pos} {k : Nat} {name : Str} {S : List Int → List PyData → Out → Prop}
/-- f(script, ..) -/
theorem de_callP {i : Nat} {x : Str} {a : Addr} {ns : List Int} (F : FnInP X.prog X.w X.K X.mg X.base k name S) (hr : Room k X.A) (hρ : ρ[i]? = some (SV.scr X.K a ns)) (ha : DA X ρ es ds) (hS : S ns ds (.ret d)) (hN : X.N[i]? = some x := by rfl)
    (hv : Vis X.env.scope x := by first | exact Or.inl rfl | exact Or.inr (Or.inl rfl) | exact Or.inr (Or.inr rfl)) (hd : (x == ("__debug__" : Str)) = false := by decide) (hcd : (x == ("__classdict__" : Str)) = false := by decide) (hg : Gl X name := by rfl) (hdb : (name == ("__debug__" : Str)) = false := by decide)
    (he : starEach (.Name x px :: es) X.env = (false, eval (.Name x px) X.env) :: starEach es X.env := by rfl) (hpl : (backTo pos (starEach es X.env)).any (·.1) = false := by rfl) : DE X ρ (.Call (.Name name p) (.Name x px :: es) [] pos) d := by
  obtain ⟨f, fd, ps, F, hm, hk, hb⟩ := F
  refine de_of (pe_call F hr hg hm hk hb .nil passL (pa_cons (pe_var hN hv hd hcd) pa_A he) hdb he hpl) fun H₀ G H σ Q St q => ?_
  obtain ⟨e0, hφ⟩ := St.slot i _ hρ
  refine ⟨.ref a, e0, ha H₀ G H σ _ St fun vs G1 H1 e1 r1 => ?_⟩
  show spP X.K S ((.ref a :: vs) ++ []) H1 Q E0
  rw [List.append_nil]
  exact ⟨a, ns, vs, G1, ds, _, rfl, sq_up _ _ (St.old.trans e1.hh) hφ, e1.gh, r1, hS, Res.back q e1⟩
/-- len(script), script[i] -/
theorem de_lenP {i : Nat} {x : Str} {a : Addr} {ns : List Int} (hm : X.mg "len" = none) (hρ : ρ[i]? = some (SV.scr X.K a ns)) (hN : X.N[i]? = some x := by rfl)
    (hv : Vis X.env.scope x := by first | exact Or.inl rfl | exact Or.inr (Or.inl rfl) | exact Or.inr (Or.inr rfl)) (hd : (x == ("__debug__" : Str)) = false := by decide) (hcd : (x == ("__classdict__" : Str)) = false := by decide) (hg : Gl X "len" := by rfl)
    (he : starEach [.Name x px] X.env = (false, eval (.Name x px) X.env) :: starEach [] X.env := by rfl) (hpl : (backTo pos (starEach ([] : List Expr) X.env)).any (·.1) = false := by rfl) : DE X ρ (.Call (.Name "len" p) [.Name x px] [] pos) (.int (ns.length : Int)) :=
  de_of (pe_callB call_len hg hm PySem.boot_len (pa_cons (pe_var hN hv hd hcd) pa_nil he) (by decide) (by decide) he hpl) fun H₀ G H σ Q St q => by
    obtain ⟨e0, hφ⟩ := St.slot i _ hρ
    exact ⟨.ref a, e0, .ref a, ns.length, rfl, .inl ⟨_, sq_up _ _ St.old hφ, by rw [List.length_map]⟩, q.of St.sub (.int _)⟩
theorem de_ixP {i : Nat} {b : Expr} {x : Str} {a : Addr} {ns : List Int} {j : Int} {z : Int} (hρ : ρ[i]? = some (SV.scr X.K a ns)) (hb : DE X ρ b (.int j)) (h : atI ns j = some z) (hN : X.N[i]? = some x := by rfl)
    (hv : Vis X.env.scope x := by first | exact Or.inl rfl | exact Or.inr (Or.inl rfl) | exact Or.inr (Or.inr rfl)) (hs : PlainIx b := by exact fun _ _ => rfl) (hd : (x == ("__debug__" : Str)) = false := by decide) (hcd : (x == ("__classdict__" : Str)) = false := by decide) :
    DE X ρ (.Subscript (.Name x px) b pos) (.int z) :=
  de_of (pe_ix ix_list (pe_var hN hv hd hcd) pe_D hs) fun H₀ G H σ Q St q => by
    obtain ⟨e0, hφ⟩ := St.slot i _ hρ
    refine ⟨.ref a, e0, hb H₀ G H σ _ St fun u G2 H2 e2 r2 => ?_⟩
    cases r2
    refine ⟨a, _, j, .int z, rfl, rfl, sq_up _ _ (St.old.trans e2.hh) hφ, ?_, (q.back e2).of e2.gh (.int z)⟩
    unfold atI at h ⊢
    rw [List.length_map]
    cases qq : ixN ns.length j with
    | none => rw [qq] at h; cases h
    | some k =>
      rw [qq] at h
      show (ns.map V.int)[k]? = some (V.int z)
      rw [List.getElem?_map, show ns[k]? = some z from h]
      rfl
end
theorem fn_in {P : Program} {w : World} {K : PySem.W.Frag} {mg : Str → Option Value} {base : Heap} {x qual name : Str} {st : Stmt} {f : Addr} {fd : FuncData} {ps : List Str} {k : Nat} {S : List PyData → Out → Prop} (F : Fun K x qual st f fd) (hm : mg name = some (.ref f)) (hb : Binds K fd ps [])
    (h : FnOk P w K mg base (L2.CX P w) k f fd ps (spD S)) : FnIn P w K mg base k name S := ⟨f, fd, ps, h, hm, F.kp, hb⟩
end DD
namespace DD
open PySem PySem.Spec PyProof.Rows L2

section
variable {X : Cx} {W : WX} {ρ : En} {e a b c : Expr} {es : List Expr} {d d1 d2 z : PyData} {ds : List PyData} {o : Out} {pos p : Pos} {P : Post} {rest : List Stmt}

/-! ### builtins called by name, by what they do with data -/
def CRD (r : List V → Hp → VK → Prop) (ds : List PyData) (z : PyData) : Prop := ∀ G H vs Q, Sub G H → RpA G vs ds → Res G H z Q → r vs H Q
theorem de_callB {x : Str} {id : String} {r : List V → Hp → VK → Prop} (hc : CallR X (.builtin id) r) (hr : CRD r ds z) (hm : X.mg x = none) (hv : bootBuiltins x = some (.builtin id)) (ha : DA X ρ (e :: es) ds) (hg : Gl X x := by rfl) (hn : x ≠ "__name__" := by decide) (hdb : (x == ("__debug__" : Str)) = false := by decide)
    (he : starEach (e :: es) X.env = (false, eval e X.env) :: starEach es X.env := by rfl) (hpl : (backTo pos (starEach es X.env)).any (·.1) = false := by rfl) : DE X ρ (.Call (.Name x p) (e :: es) [] pos) z :=
  de_of (pe_callB hc hg hm hv pa_A hn hdb he hpl) fun H₀ G H σ Q S q => ha H₀ G H σ _ S fun vs G1 H1 e1 r1 => hr G1 H1 vs Q e1.gh r1 (q.back e1)
theorem de_callTy {x : Str} {T : String} {r : List V → Hp → VK → Prop} (hc : CallR X (.type T) r) (hr : CRD r ds z) (hm : X.mg x = none) (hv : bootBuiltins x = some (.type T)) (ha : DA X ρ (e :: es) ds) (hg : Gl X x := by rfl) (hn : x ≠ "__name__" := by decide) (hdb : (x == ("__debug__" : Str)) = false := by decide)
    (he : starEach (e :: es) X.env = (false, eval e X.env) :: starEach es X.env := by rfl) (hpl : (backTo pos (starEach es X.env)).any (·.1) = false := by rfl) : DE X ρ (.Call (.Name x p) (e :: es) [] pos) z :=
  de_of (pe_callTy hc hg hm hv pa_A hn hdb he hpl) fun H₀ G H σ Q S q => ha H₀ G H σ _ S fun vs G1 H1 e1 r1 => hr G1 H1 vs Q e1.gh r1 (q.back e1)
theorem cr_len_list : CRD (fun xs H Q => ∃ x n, xs = [x] ∧ LenV X.K x H n ∧ Q (.int n) H) [.list ds] (.int (ds.length : Int)) := fun G H vs Q s r q => by
  cases r with
  | cons r1 rr =>
    cases rr
    cases r1 with
    | lst h1 h2 => exact ⟨_, ds.length, rfl, .inl ⟨_, .of (s _ _ h1), h2.length.symm⟩, q.of s (.int _)⟩
theorem cr_len_tup : CRD (fun xs H Q => ∃ x n, xs = [x] ∧ LenV X.K x H n ∧ Q (.int n) H) [.tuple ds] (.int (ds.length : Int)) := fun G H vs Q s r q => by
  cases r with
  | cons r1 rr =>
    cases rr
    cases r1 with
    | tup h1 h2 => exact ⟨_, ds.length, rfl, .inr ⟨_, .of (s _ _ h1), h2.length.symm⟩, q.of s (.int _)⟩
theorem cr_len_str {x : Str} (hz : x.length ≤ sizeLine) : CRD (fun xs H Q => ∃ x n, xs = [x] ∧ LenV X.K x H n ∧ Q (.int n) H) [.str x] (.int (x.length : Int)) := fun G H vs Q s r q => by
  cases r with
  | cons r1 rr =>
    cases rr
    cases r1
    exact ⟨_, x.length, rfl, ⟨hz, rfl⟩, q.of s (.int _)⟩
theorem de_lenL (hm : X.mg "len" = none) (ha : DE X ρ e (.list ds)) (hg : Gl X "len" := by rfl) (he : starEach [e] X.env = (false, eval e X.env) :: starEach [] X.env := by rfl) (hpl : (backTo pos (starEach ([] : List Expr) X.env)).any (·.1) = false := by rfl) : DE X ρ (.Call (.Name "len" p) [e] [] pos) (.int (ds.length : Int)) :=
  de_callB call_len cr_len_list hm PySem.boot_len (da_cons ha da_nil he) hg (by decide) (by decide) he hpl
theorem de_lenT (hm : X.mg "len" = none) (ha : DE X ρ e (.tuple ds)) (hg : Gl X "len" := by rfl) (he : starEach [e] X.env = (false, eval e X.env) :: starEach [] X.env := by rfl) (hpl : (backTo pos (starEach ([] : List Expr) X.env)).any (·.1) = false := by rfl) : DE X ρ (.Call (.Name "len" p) [e] [] pos) (.int (ds.length : Int)) :=
  de_callB call_len cr_len_tup hm PySem.boot_len (da_cons ha da_nil he) hg (by decide) (by decide) he hpl
theorem de_lenS {x : Str} (hm : X.mg "len" = none) (ha : DE X ρ e (.str x)) (hz : x.length ≤ sizeLine) (hg : Gl X "len" := by rfl) (he : starEach [e] X.env = (false, eval e X.env) :: starEach [] X.env := by rfl) (hpl : (backTo pos (starEach ([] : List Expr) X.env)).any (·.1) = false := by rfl) : DE X ρ (.Call (.Name "len" p) [e] [] pos) (.int (x.length : Int)) :=
  de_callB call_len (cr_len_str hz) hm PySem.boot_len (da_cons ha da_nil he) hg (by decide) (by decide) he hpl

/-- isinstance with a built-in type -/
def tyD : PyData → String
  | .none => "NoneType"
  | .bool _ => "bool"
  | .int _ => "int"
  | .str _ => "str"
  | .list _ => "list"
  | .tuple _ => "tuple"
  | .dict _ => "dict"
theorem ty_of {K : PySem.W.Frag} {G H : Hp} {v : V} (s : Sub G H) (r : Rp G v d) : TyX K H v (.type (tyD d)) := by
  cases r with
  | non => exact .base .non
  | bl b => exact .base (.bl b)
  | int i => exact .base (.int i)
  | str x => exact .base (.str x)
  | lst h1 h2 => exact .base (.lst (s _ _ h1))
  | tup h1 h2 => exact .base (.tup (s _ _ h1))
theorem de_isi {T : String} {k : Bool} {p2 : Pos} (hm : X.mg "isinstance" = none) (hmT : X.mg (Str.ofString T) = none) (hT : bootBuiltins (Str.ofString T) = some (.type T)) (ha : DE X ρ a d) (hk : kitB (tyD d) T = some k) (hg : Gl X "isinstance" := by rfl) (hgT : Gl X (Str.ofString T) := by rfl)
    (hn : Str.ofString T ≠ "__name__" := by decide) (hd : (Str.ofString T == ("__debug__" : Str)) = false := by decide)
    (he : starEach [a, .Name (Str.ofString T) p2] X.env = (false, eval a X.env) :: starEach [.Name (Str.ofString T) p2] X.env := by rfl) (he2 : starEach [.Name (Str.ofString T) p2] X.env = (false, eval (.Name (Str.ofString T) p2) X.env) :: starEach [] X.env := by rfl)
    (hpl : (backTo pos (starEach [.Name (Str.ofString T) p2] X.env)).any (·.1) = false := by rfl) :
    DE X ρ (.Call (.Name "isinstance" p) [a, .Name (Str.ofString T) p2] [] pos) (.bool k) :=
  de_of (pe_callB call_isi hg hm (by decide +kernel) (pa_cons pe_D (pa_cons (pe_bltn hgT hmT hT (v := .ty T) rfl hn hd) pa_nil he2) he) (by decide) (by decide) he hpl) fun H₀ G H σ Q S q =>
    ha H₀ G H σ _ S fun v G1 H1 e1 r1 => ⟨v, .ty T, _, _, k, rfl, .ty T, ty_of e1.gh r1, kit_ty hk, (q.back e1).of e1.gh (.bl k)⟩

theorem cr_abs {i : Int} : CRD (fun xs H Q => ∃ i, xs = [.int i] ∧ Q (.int (if i < 0 then -i else i)) H) [.int i] (.int (i.natAbs : Int)) := fun G H vs Q s r q => by
  cases r with
  | cons r1 rr =>
    cases rr
    cases r1
    refine ⟨i, rfl, ?_⟩
    have : (if i < 0 then -i else i) = (i.natAbs : Int) := by split <;> omega
    rw [this]
    exact q.of s (.int _)
theorem de_abs {i : Int} (hm : X.mg "abs" = none) (ha : DE X ρ e (.int i)) (hg : Gl X "abs" := by rfl) (he : starEach [e] X.env = (false, eval e X.env) :: starEach [] X.env := by rfl) (hpl : (backTo pos (starEach ([] : List Expr) X.env)).any (·.1) = false := by rfl) : DE X ρ (.Call (.Name "abs" p) [e] [] pos) (.int (i.natAbs : Int)) :=
  de_callB call_abs cr_abs hm (by decide +kernel) (da_cons ha da_nil he) hg (by decide) (by decide) he hpl
theorem cr_min2D {i j : Int} : CRD (fun xs H Q => ∃ i j, xs = [.int i, .int j] ∧ Q (.int (if j < i then j else i)) H) [.int i, .int j] (.int (min i j)) := fun G H vs Q s r q => by
  cases r with
  | cons r1 rr =>
    cases rr with
    | cons r2 rr =>
      cases rr; cases r1; cases r2
      refine ⟨i, j, rfl, ?_⟩
      have : (if j < i then j else i) = min i j := by rw [Int.min_def]; split <;> split <;> omega
      rw [this]
      exact q.of s (.int _)
theorem de_min2 {i j : Int} (hm : X.mg "min" = none) (ha : DE X ρ a (.int i)) (hb : DE X ρ b (.int j)) (hc : X.calm = true := by rfl) (hg : Gl X "min" := by rfl) (he : starEach [a, b] X.env = (false, eval a X.env) :: starEach [b] X.env := by rfl) (he2 : starEach [b] X.env = (false, eval b X.env) :: starEach [] X.env := by rfl)
    (hpl : (backTo pos (starEach [b] X.env)).any (·.1) = false := by rfl) : DE X ρ (.Call (.Name "min" p) [a, b] [] pos) (.int (min i j)) :=
  de_callB (call_min2 hc) cr_min2D hm (by decide +kernel) (da_cons ha (da_cons hb da_nil he2) he) hg (by decide) (by decide) he hpl
theorem rpA_ints {G : Hp} : ∀ {ns : List Int} {vs : List V}, RpA G vs (ns.map PyData.int) → vs = ns.map V.int
  | [], _, h => by cases h; rfl
  | n :: ns, _, h => by
    cases h with
    | cons h1 h2 =>
      cases h1
      rw [rpA_ints h2]; rfl
theorem cr_sumD {ns : List Int} : CRD (rSum X.K) [.list (ns.map .int)] (.int ns.sum) := fun G H vs Q s r q => by
  cases r with
  | cons r1 rr =>
    cases rr
    cases r1 with
    | lst h1 h2 =>
      have e := rpA_ints h2
      subst e
      exact ⟨_, ns, rfl, .of (s _ _ h1), q.of s (.int _)⟩
theorem de_sum {ns : List Int} (hm : X.mg "sum" = none) (ha : DE X ρ e (.list (ns.map .int))) (hc : X.calm = true := by rfl) (hg : Gl X "sum" := by rfl) (he : starEach [e] X.env = (false, eval e X.env) :: starEach [] X.env := by rfl) (hpl : (backTo pos (starEach ([] : List Expr) X.env)).any (·.1) = false := by rfl) : DE X ρ (.Call (.Name "sum" p) [e] [] pos) (.int ns.sum) :=
  de_callB (cr_sum hc) cr_sumD hm (by decide +kernel) (da_cons ha da_nil he) hg (by decide) (by decide) he hpl
theorem cr_maxD {ns : List Int} {m : Int} (h : m ∈ ns) (hle : ∀ y ∈ ns, y ≤ m) : CRD (rMax X.K) [.list (ns.map .int)] (.int m) := fun G H vs Q s r q => by
  cases r with
  | cons r1 rr =>
    cases rr
    cases r1 with
    | lst h1 h2 =>
      have e := rpA_ints h2
      subst e
      refine ⟨_, ns, rfl, .of (s _ _ h1), List.length_pos_of_mem h, fun m' h' hle' => ?_⟩
      have : m' = m := Int.le_antisymm (hle _ h') (hle' _ h)
      subst this
      exact q.of s (.int _)
theorem de_maxL {ns : List Int} {m : Int} (hm : X.mg "max" = none) (ha : DE X ρ e (.list (ns.map .int))) (h : m ∈ ns) (hle : ∀ y ∈ ns, y ≤ m) (hc : X.calm = true := by rfl) (hg : Gl X "max" := by rfl) (he : starEach [e] X.env = (false, eval e X.env) :: starEach [] X.env := by rfl) (hpl : (backTo pos (starEach ([] : List Expr) X.env)).any (·.1) = false := by rfl) : DE X ρ (.Call (.Name "max" p) [e] [] pos) (.int m) :=
  de_callB (cr_max hc) (cr_maxD h hle) hm (by decide +kernel) (da_cons ha da_nil he) hg (by decide) (by decide) he hpl
theorem cr_minD {ns : List Int} {m : Int} (h : m ∈ ns) (hle : ∀ y ∈ ns, m ≤ y) : CRD (rMin X.K) [.list (ns.map .int)] (.int m) := fun G H vs Q s r q => by
  cases r with
  | cons r1 rr =>
    cases rr
    cases r1 with
    | lst h1 h2 =>
      have e := rpA_ints h2
      subst e
      refine ⟨_, ns, rfl, .of (s _ _ h1), List.length_pos_of_mem h, fun m' h' hle' => ?_⟩
      have : m' = m := Int.le_antisymm (hle' _ h) (hle _ h')
      subst this
      exact q.of s (.int _)
theorem de_minL {ns : List Int} {m : Int} (hm : X.mg "min" = none) (ha : DE X ρ e (.list (ns.map .int))) (h : m ∈ ns) (hle : ∀ y ∈ ns, m ≤ y) (hc : X.calm = true := by rfl) (hg : Gl X "min" := by rfl) (he : starEach [e] X.env = (false, eval e X.env) :: starEach [] X.env := by rfl) (hpl : (backTo pos (starEach ([] : List Expr) X.env)).any (·.1) = false := by rfl) : DE X ρ (.Call (.Name "min" p) [e] [] pos) (.int m) :=
  de_callB (cr_min hc) (cr_minD h hle) hm (by decide +kernel) (da_cons ha da_nil he) hg (by decide) (by decide) he hpl
/-- int(a bool) -/
theorem de_intB {k : Bool} (hm : X.mg "int" = none) (ha : DE X ρ e (.bool k)) (hg : Gl X "int" := by rfl) (he : starEach [e] X.env = (false, eval e X.env) :: starEach [] X.env := by rfl) (hpl : (backTo pos (starEach ([] : List Expr) X.env)).any (·.1) = false := by rfl) : DE X ρ (.Call (.Name "int" p) [e] [] pos) (.int (if k then 1 else 0)) :=
  de_callTy call_int1 (fun G H vs Q s r q => by
    cases r with
    | cons r1 rr =>
      cases rr; cases r1
      exact .inr ⟨k, rfl, q.of s (.int _)⟩) hm (by decide +kernel) (da_cons ha da_nil he) hg (by decide) (by decide) he hpl
/-- tuple(a list), of a value, of an own list -/
theorem de_tupleL (hm : X.mg "tuple" = none) (ha : DE X ρ e (.list ds)) (hg : Gl X "tuple" := by rfl) (he : starEach [e] X.env = (false, eval e X.env) :: starEach [] X.env := by rfl) (hpl : (backTo pos (starEach ([] : List Expr) X.env)).any (·.1) = false := by rfl) : DE X ρ (.Call (.Name "tuple" p) [e] [] pos) (.tuple ds) :=
  de_callTy call_tuple_of (fun G H vs Q s r q => by
    cases r with
    | cons r1 rr =>
      cases rr
      cases r1 with
      | @lst q1 ws _ h1 h2 =>
        refine ⟨_, _, rfl, .inl ⟨.of (s _ _ h1), fun l hl => ?_⟩⟩
        have e := Ext.new (o := .tup ws) s hl
        exact q _ _ _ e (.tup upd_same (h2.up e.gg))) hm (by decide +kernel) (da_cons ha da_nil he) hg (by decide) (by decide) he hpl
theorem de_tupleT (hm : X.mg "tuple" = none) (ha : DE X ρ e (.tuple ds)) (hg : Gl X "tuple" := by rfl) (he : starEach [e] X.env = (false, eval e X.env) :: starEach [] X.env := by rfl) (hpl : (backTo pos (starEach ([] : List Expr) X.env)).any (·.1) = false := by rfl) : DE X ρ (.Call (.Name "tuple" p) [e] [] pos) (.tuple ds) :=
  de_callTy call_tuple_of (fun G H vs Q s r q => by
    cases r with
    | cons r1 rr =>
      cases rr
      cases r1 with
      | tup h1 h2 => exact ⟨_, _, rfl, .inr ⟨.of (s _ _ h1), q.of s (.tup h1 h2)⟩⟩) hm (by decide +kernel) (da_cons ha da_nil he) hg (by decide) (by decide) he hpl
theorem de_tupleO {i : Nat} {x : Str} {px : Pos} (hm : X.mg "tuple" = none) (hρ : ρ[i]? = some (.own ds)) (hN : X.N[i]? = some x := by rfl) (hv : Vis X.env.scope x := by first | exact Or.inl rfl | exact Or.inr (Or.inl rfl) | exact Or.inr (Or.inr rfl)) (hd : (x == ("__debug__" : Str)) = false := by decide) (hcd : (x == ("__classdict__" : Str)) = false := by decide)
    (hg : Gl X "tuple" := by rfl) (he : starEach [.Name x px] X.env = (false, eval (.Name x px) X.env) :: starEach [] X.env := by rfl) (hpl : (backTo pos (starEach ([] : List Expr) X.env)).any (·.1) = false := by rfl) : DE X ρ (.Call (.Name "tuple" p) [.Name x px] [] pos) (.tuple ds) :=
  de_of (pe_callTy call_tuple_of hg hm (by decide +kernel) (pa_cons (pe_var hN hv hd hcd) pa_nil he) (by decide) (by decide) he hpl) fun H₀ G H σ Q S q => by
    obtain ⟨r, vs, e1, h0, hgp, hh, rr⟩ := S.slot i _ hρ
    refine ⟨_, e1, _, vs, rfl, .inl ⟨.of hh, fun l hl => ?_⟩⟩
    have e := Ext.new (o := .tup vs) S.sub hl
    exact q _ _ _ e (.tup upd_same (rr.up e.gg))
/-- list(a list), list(a tuple) -/
theorem dl_listL (hm : X.mg "list" = none) (ha : DE X ρ e (.list ds)) (hg : Gl X "list" := by rfl) (he : starEach [e] X.env = (false, eval e X.env) :: starEach [] X.env := by rfl) (hpl : (backTo pos (starEach ([] : List Expr) X.env)).any (·.1) = false := by rfl) : DL X ρ (.Call (.Name "list" p) [e] [] pos) ds :=
  .mk fun H₀ G H σ Q S q pins s I => (pe_callTy (pos := pos) (p := p) call_list_of hg hm (by decide +kernel) (pa_cons pe_D pa_nil he) (by decide) (by decide) he hpl).run pins s σ H Q I (ha H₀ G H σ _ S fun v G1 H1 e1 r1 => by
    cases r1 with
    | @lst q1 ws _ h1 h2 =>
      refine ⟨_, _, rfl, .inl (.of (e1.gh _ _ h1)), fun l hl => ?_⟩
      have e2 := Ext.new (o := .lst ws) e1.gh hl
      exact q l _ G1 _ ⟨e1.gg, e1.hh.trans e2.hh, e1.gh.trans e2.hh, e1.nw⟩ (free_back e1.hh hl) (free_back e1.gh hl) upd_same h2)
theorem dl_listT (hm : X.mg "list" = none) (ha : DE X ρ e (.tuple ds)) (hg : Gl X "list" := by rfl) (he : starEach [e] X.env = (false, eval e X.env) :: starEach [] X.env := by rfl) (hpl : (backTo pos (starEach ([] : List Expr) X.env)).any (·.1) = false := by rfl) : DL X ρ (.Call (.Name "list" p) [e] [] pos) ds :=
  .mk fun H₀ G H σ Q S q pins s I => (pe_callTy (pos := pos) (p := p) call_list_of hg hm (by decide +kernel) (pa_cons pe_D pa_nil he) (by decide) (by decide) he hpl).run pins s σ H Q I (ha H₀ G H σ _ S fun v G1 H1 e1 r1 => by
    cases r1 with
    | @tup q1 ws _ h1 h2 =>
      refine ⟨_, _, rfl, .inr (.of (e1.gh _ _ h1)), fun l hl => ?_⟩
      have e2 := Ext.new (o := .lst ws) e1.gh hl
      exact q l _ G1 _ ⟨e1.gg, e1.hh.trans e2.hh, e1.gh.trans e2.hh, e1.nw⟩ (free_back e1.hh hl) (free_back e1.gh hl) upd_same h2)
/-- list(range(n)) -/
theorem rpA_mapInt {G : Hp} : ∀ ns : List Int, RpA G (ns.map V.int) (ns.map PyData.int)
  | [] => .nil
  | _ :: ns => .cons (.int _) (rpA_mapInt ns)
theorem rgV_eq (lo hi : Int) : rgV lo hi = (intsL lo (hi - lo).toNat).map V.int := by
  unfold rgV intsL
  rw [List.map_map]
  rfl
theorem dl_listR1 {n : Int} {p2 p3 : Pos} (hm : X.mg "list" = none) (hmr : X.mg "range" = none) (ha : DE X ρ a (.int n)) (hn : RgOk 0 n) (hc : X.calm = true := by rfl) (hg : Gl X "list" := by rfl) (hgr : Gl X "range" := by rfl) (na : starEach [a] X.env = (false, eval a X.env) :: starEach [] X.env := by rfl)
    (na2 : starEach [.Call (.Name "range" p2) [a] [] p3] X.env = (false, eval (.Call (.Name "range" p2) [a] [] p3) X.env) :: starEach [] X.env := by rfl) : DL X ρ (.Call (.Name "list" p) [.Call (.Name "range" p2) [a] [] p3] [] pos) ((intsL 0 n.toNat).map PyData.int) :=
  .mk fun H₀ G H σ Q S q pins s I => (pe_listRg (pos := pos) (p := p) hc hg hm (prg_1 (p := p2) (pos := p3) hgr hmr pe_D na) na2).run pins s σ H Q I (ha H₀ G H σ _ S fun v G1 H1 e1 r1 => by
    cases r1
    refine ⟨n, rfl, hn, fun l hl => ?_⟩
    have e2 := Ext.new (o := .lst (rgV 0 n)) e1.gh hl
    refine q l (rgV 0 n) G1 _ ⟨e1.gg, e1.hh.trans e2.hh, e1.gh.trans e2.hh, e1.nw⟩ (free_back e1.hh hl) (free_back e1.gh hl) upd_same ?_
    rw [rgV_eq, Int.sub_zero]
    exact rpA_mapInt _)

/-! slices, sums of lists and tuples -/
def cutD (xs : List PyData) (lo hi : Option Int) : List PyData := (xs.drop (HT.sIx xs.length 0 lo)).take (HT.sIx xs.length xs.length hi - HT.sIx xs.length 0 lo)
theorem cut_rp {G : Hp} {vs : List V} {lo hi : Option Int} (r : RpA G vs ds) : RpA G (cutV vs lo hi) (cutD ds lo hi) := by
  unfold cutV cutD
  rw [r.length]
  exact (r.drop _).take _
/-- an optional part of a slice -/
inductive DO (X : Cx) (ρ : En) : Option Expr → Option Int → Prop where
  | no : DO X ρ none none
  | yes {e : Expr} {i : Int} (h : DE X ρ e (.int i)) : DO X ρ (some e) (some i)
def tPt (X : Cx) : Option Expr → TO
  | none => tNoPart
  | some e => tPart (tD X e)
theorem po_Pt : ∀ {e : Option Expr}, PO X e (tPt X e)
  | none => po_none
  | some _ => po_some pe_D
theorem DO.run {e : Option Expr} {i : Option Int} (h : DO X ρ e i) : ∀ H₀ G H σ Q, Sat H₀ G H σ ρ → (∀ G' H', Ext G H G' H' → Q i H') → tPt X e σ H Q := fun H₀ G H σ Q S q => by
  cases h with
  | no => exact q G H (.refl S.sub)
  | yes h => exact h H₀ G H σ _ S fun v G1 H1 e1 r1 => by cases r1; exact ⟨_, rfl, q _ _ e1⟩
theorem dl_sl {lo hi : Option Expr} {i j : Option Int} {p2 : Pos} (ha : DE X ρ a (.list ds)) (hl : DO X ρ lo i) (hh : DO X ρ hi j) : DL X ρ (.Subscript a (.Slice lo hi none p2) pos) (cutD ds i j) := .mk fun H₀ G H σ Q S q pins s I =>
  (pe_slice (pos := pos) sl_list pe_D po_Pt po_Pt).run pins s σ H Q I (by
    refine ha H₀ G H σ _ S fun v G1 H1 e1 r1 => ?_
    refine hl.run H₀ G1 H1 σ _ (S.up e1) fun G2 H2 e2 => ?_
    refine hh.run H₀ G2 H2 σ _ ((S.up e1).up e2) fun G3 H3 e3 => ?_
    cases r1 with
    | @lst q1 ws _ h1 h2 =>
      have e13 := (e1.trans e2).trans e3
      refine ⟨_, _, rfl, .of (e3.gh _ _ (e3.gg _ _ (e2.gg _ _ h1))), fun l hl => ?_⟩
      have e4 := Ext.new (o := .lst (cutV ws i j)) e3.gh hl
      exact q l _ G3 _ ⟨e13.gg, e13.hh.trans e4.hh, e3.gh.trans e4.hh, e13.nw⟩ (free_back e13.hh hl) (free_back e3.gh hl) upd_same (cut_rp (h2.up (e2.gg.trans e3.gg))))
theorem cut_whole {lo hi : Option Int} (h : HT.sIx ds.length 0 lo = 0 ∧ HT.sIx ds.length ds.length hi = ds.length) : cutD ds lo hi = ds := by
  unfold cutD
  rw [h.1, h.2, List.drop_zero, Nat.sub_zero, List.take_length]
theorem de_slT {lo hi : Option Expr} {i j : Option Int} {p2 : Pos} (ha : DE X ρ a (.tuple ds)) (hl : DO X ρ lo i) (hh : DO X ρ hi j) : DE X ρ (.Subscript a (.Slice lo hi none p2) pos) (.tuple (cutD ds i j)) :=
  de_of (pe_slice sl_tupA pe_D po_Pt po_Pt) fun H₀ G H σ Q S q => by
    refine ha H₀ G H σ _ S fun v G1 H1 e1 r1 => ?_
    refine hl.run H₀ G1 H1 σ _ (S.up e1) fun G2 H2 e2 => ?_
    refine hh.run H₀ G2 H2 σ _ ((S.up e1).up e2) fun G3 H3 e3 => ?_
    cases r1 with
    | @tup q1 ws _ h1 h2 =>
      have e13 := (e1.trans e2).trans e3
      have g3 := e2.gg.trans e3.gg
      refine ⟨_, _, rfl, .of (e3.gh _ _ (g3 _ _ h1)), fun w => ?_, fun _ l hl => ?_⟩
      · rw [h2.length] at w
        rw [cut_whole w] at q
        exact (q.back e13).of e3.gh (.tup (g3 _ _ h1) (h2.up g3))
      · have e4 := Ext.new (o := .tup (cutV ws i j)) e3.gh hl
        exact q _ _ _ (e13.trans e4) (.tup upd_same (cut_rp (h2.up (g3.trans e4.gg))))
theorem dl_cat {d2s : List PyData} (ha : DE X ρ a (.list ds)) (hb : DE X ρ b (.list d2s)) (hz : ds.length + d2s.length ≤ sizeLine) : DL X ρ (.BinOp a .Add b pos) (ds ++ d2s) := .mk fun H₀ G H σ Q S q pins s I =>
  (pe_op (pos := pos) op_cat pe_D pe_D).run pins s σ H Q I (by
    refine ha H₀ G H σ _ S fun v G1 H1 e1 r1 => ?_
    refine hb H₀ G1 H1 σ _ (S.up e1) fun u G2 H2 e2 r2 => ?_
    cases r1 with
    | @lst q1 ws _ h1 h2 =>
      cases r2 with
      | @lst q2 us _ h3 h4 =>
        have e12 := e1.trans e2
        refine ⟨_, _, _, _, rfl, rfl, e2.gh _ _ (e2.gg _ _ h1), e2.gh _ _ h3, by rw [h2.length, h4.length]; exact hz, fun l hl => ?_⟩
        have e3 := Ext.new (o := .lst (ws ++ us)) e2.gh hl
        exact q l _ G2 _ ⟨e12.gg, e12.hh.trans e3.hh, e2.gh.trans e3.hh, e12.nw⟩ (free_back e12.hh hl) (free_back e2.gh hl) upd_same ((h2.up e2.gg).append h4))
theorem de_catT {d2s : List PyData} (ha : DE X ρ a (.tuple ds)) (hb : DE X ρ b (.tuple d2s)) (hz : ds.length + d2s.length ≤ sizeLine) : DE X ρ (.BinOp a .Add b pos) (.tuple (ds ++ d2s)) :=
  de_of (pe_op op_catA pe_D pe_D) fun H₀ G H σ Q S q => by
    refine ha H₀ G H σ _ S fun v G1 H1 e1 r1 => ?_
    refine hb H₀ G1 H1 σ _ (S.up e1) fun u G2 H2 e2 r2 => ?_
    cases r1 with
    | @tup q1 ws _ h1 h2 =>
      cases r2 with
      | @tup q2 us _ h3 h4 =>
        have e12 := e1.trans e2
        refine ⟨_, _, _, _, rfl, rfl, .of (e2.gh _ _ (e2.gg _ _ h1)), .of (e2.gh _ _ h3), by rw [h2.length, h4.length]; exact hz, fun z => ?_, fun z1 z2 => ?_, fun _ _ l hl => ?_⟩
        · subst z
          cases h2
          exact (q.back e12).of e2.gh (.tup h3 h4)
        · subst z2
          cases h4
          rw [List.append_nil] at q
          exact (q.back e12).of e2.gh (.tup (e2.gg _ _ h1) (h2.up e2.gg))
        · have e3 := Ext.new (o := .tup (ws ++ us)) e2.gh hl
          exact q _ _ _ (e12.trans e3) (.tup upd_same ((h2.up (e2.gg.trans e3.gg)).append (h4.up e3.gg)))
theorem dl_rep {k : Int} (ha : DE X ρ a (.list ds)) (hb : DE X ρ b (.int k)) (h1 : -(2 ^ 63) ≤ k) (h2 : k < 2 ^ 63) (hz : ds.length * k.toNat ≤ sizeLine) : DL X ρ (.BinOp a .Mult b pos) (List.replicate k.toNat ds).flatten := .mk fun H₀ G H σ Q S q pins s I =>
  (pe_op (pos := pos) op_rep pe_D pe_D).run pins s σ H Q I (by
    refine ha H₀ G H σ _ S fun v G1 H1 e1 r1 => ?_
    refine hb H₀ G1 H1 σ _ (S.up e1) fun u G2 H2 e2 r2 => ?_
    cases r2
    cases r1 with
    | @lst q1 ws _ h3 h4 =>
      have e12 := e1.trans e2
      refine ⟨_, k, _, rfl, rfl, e2.gh _ _ (e2.gg _ _ h3), h1, h2, by rw [h4.length]; exact hz, fun l hl => ?_⟩
      have e3 := Ext.new (o := .lst (List.replicate k.toNat ws).flatten) e2.gh hl
      exact q l _ G2 _ ⟨e12.gg, e12.hh.trans e3.hh, e2.gh.trans e3.hh, e12.nw⟩ (free_back e12.hh hl) (free_back e2.gh hl) upd_same (RpA.rep (h4.up e2.gg) _))
theorem flat_one {α : Type} (x : α) : ∀ n : Nat, (List.replicate n [x]).flatten = List.replicate n x
  | 0 => rfl
  | n + 1 => by rw [List.replicate_succ, List.replicate_succ, List.flatten_cons, flat_one x n]; rfl
/-- [x] * k -/
theorem dl_rep1 {k : Int} {n : Nat} (hk : k = (n : Int)) (ha : DE X ρ a (.list [d])) (hb : DE X ρ b (.int k)) (hz : n ≤ sizeLine) : DL X ρ (.BinOp a .Mult b pos) (List.replicate n d) := by
  subst hk
  have h := dl_rep (pos := pos) ha hb (by omega) (by have := line63; omega) (by simpa using hz)
  rw [flat_one] at h
  simpa using h

/-! methods of lists -/
theorem de_count {ns : List Int} {k : Int} {p2 p3 : Pos} (ha : DE X ρ a (.list (ns.map .int))) (hb : DE X ρ b (.int k)) (hbase : attributeBase a "count" X.env (eval a X.env) = eval a X.env := by rfl)
    (hfew : ((backTo p3 (starEach [b] X.env)).all (fun x => !x.1) && (backToKw p3 (keywordEach [] X.env)).all (fun x => x.1.isSome) && decide ([b].length + ([] : List Keyword).length + (if ([] : List Keyword).isEmpty then 0 else 1) < 30)) = true := by rfl)
    (hline : (p2.endLine == p3.line) = true := by rfl) (he : starEach [b] X.env = (false, eval b X.env) :: starEach [] X.env := by rfl) (hpl : (backTo p3 (starEach ([] : List Expr) X.env)).any (·.1) = false := by rfl) :
    DE X ρ (.Call (.Attribute a "count" p2) [b] [] p3) (.int (ns.count k : Nat)) :=
  de_of (pe_bm PySem.F.plainAttrs_list PySem.F.slot_list_count PySem.F.type_list_count mt_lcount pe_D (pa_cons pe_D pa_nil he) hbase hfew hline he hpl) fun H₀ G H σ Q S q => by
    refine ha H₀ G H σ _ S fun v G1 H1 e1 r1 => ?_
    cases r1 with
    | lst h1 h2 =>
      have e := rpA_ints h2
      subst e
      refine ⟨.inl ⟨rfl, _, .of (e1.gh _ _ h1)⟩, hb H₀ G1 H1 σ _ (S.up e1) fun u G2 H2 e2 r2 => ?_⟩
      cases r2
      exact ⟨_, ns, k, rfl, rfl, .of (e2.gh _ _ (e2.gg _ _ h1)), (q.back (e1.trans e2)).of e2.gh (.int _)⟩
/-! x in a list of data -/
theorem r2_in {K : PySem.W.Frag} (h1 : SeqAt.shaped d = true) (h2 : SeqAt.shaped (.list ds) = true) : R2D (rInD K) d (.list ds) (.bool (ds.any fun z => PyData.eqv z d)) := fun G H x y Q s r1 r2 q =>
  ⟨d, ds, (r1.up s).dp, (r2.up s).dp, h1, h2, q.of s (.bl _)⟩
theorem r2_notin {K : PySem.W.Frag} (h1 : SeqAt.shaped d = true) (h2 : SeqAt.shaped (.list ds) = true) : R2D (rNotInD K) d (.list ds) (.bool (!ds.any fun z => PyData.eqv z d)) := fun G H x y Q s r1 r2 q =>
  ⟨d, ds, (r1.up s).dp, (r2.up s).dp, h1, h2, q.of s (.bl _)⟩
end

/-! isinstance with the types that are asked -/
section
variable {X : Cx} {ρ : En} {a : Expr} {d : PyData} {pos p p2 : Pos}
def isI : PyData → Bool
  | .int _ => true
  | .bool _ => true
  | _ => false
def isBl : PyData → Bool
  | .bool _ => true
  | _ => false
def isTu : PyData → Bool
  | .tuple _ => true
  | _ => false
def isSt : PyData → Bool
  | .str _ => true
  | _ => false
theorem kit_I : ∀ d : PyData, kitB (tyD d) "int" = some (isI d)
  | .none => (by decide +kernel : kitB "NoneType" "int" = some false)
  | .bool _ => (by decide +kernel : kitB "bool" "int" = some true)
  | .int _ => (by decide +kernel : kitB "int" "int" = some true)
  | .str _ => (by decide +kernel : kitB "str" "int" = some false)
  | .list _ => (by decide +kernel : kitB "list" "int" = some false)
  | .tuple _ => (by decide +kernel : kitB "tuple" "int" = some false)
  | .dict _ => (by decide +kernel : kitB "dict" "int" = some false)
theorem kit_Bl : ∀ d : PyData, kitB (tyD d) "bool" = some (isBl d)
  | .none => (by decide +kernel : kitB "NoneType" "bool" = some false)
  | .bool _ => (by decide +kernel : kitB "bool" "bool" = some true)
  | .int _ => (by decide +kernel : kitB "int" "bool" = some false)
  | .str _ => (by decide +kernel : kitB "str" "bool" = some false)
  | .list _ => (by decide +kernel : kitB "list" "bool" = some false)
  | .tuple _ => (by decide +kernel : kitB "tuple" "bool" = some false)
  | .dict _ => (by decide +kernel : kitB "dict" "bool" = some false)
theorem kit_Tu : ∀ d : PyData, kitB (tyD d) "tuple" = some (isTu d)
  | .none => (by decide +kernel : kitB "NoneType" "tuple" = some false)
  | .bool _ => (by decide +kernel : kitB "bool" "tuple" = some false)
  | .int _ => (by decide +kernel : kitB "int" "tuple" = some false)
  | .str _ => (by decide +kernel : kitB "str" "tuple" = some false)
  | .list _ => (by decide +kernel : kitB "list" "tuple" = some false)
  | .tuple _ => (by decide +kernel : kitB "tuple" "tuple" = some true)
  | .dict _ => (by decide +kernel : kitB "dict" "tuple" = some false)
theorem kit_St : ∀ d : PyData, kitB (tyD d) "str" = some (isSt d)
  | .none => (by decide +kernel : kitB "NoneType" "str" = some false)
  | .bool _ => (by decide +kernel : kitB "bool" "str" = some false)
  | .int _ => (by decide +kernel : kitB "int" "str" = some false)
  | .str _ => (by decide +kernel : kitB "str" "str" = some true)
  | .list _ => (by decide +kernel : kitB "list" "str" = some false)
  | .tuple _ => (by decide +kernel : kitB "tuple" "str" = some false)
  | .dict _ => (by decide +kernel : kitB "dict" "str" = some false)
theorem de_isI (hm : X.mg "isinstance" = none) (hmT : X.mg "int" = none) (ha : DE X ρ a d) (hg : Gl X "isinstance" := by rfl) (hgT : Gl X "int" := by rfl)
    (he : starEach [a, .Name "int" p2] X.env = (false, eval a X.env) :: starEach [.Name "int" p2] X.env := by rfl) (he2 : starEach [.Name "int" p2] X.env = (false, eval (.Name "int" p2) X.env) :: starEach [] X.env := by rfl)
    (hpl : (backTo pos (starEach [.Name "int" p2] X.env)).any (·.1) = false := by rfl) : DE X ρ (.Call (.Name "isinstance" p) [a, .Name "int" p2] [] pos) (.bool (isI d)) :=
  de_isi (T := "int") hm hmT (by decide +kernel) ha (kit_I d) hg hgT (by decide) (by decide) he he2 hpl
theorem de_isBl (hm : X.mg "isinstance" = none) (hmT : X.mg "bool" = none) (ha : DE X ρ a d) (hg : Gl X "isinstance" := by rfl) (hgT : Gl X "bool" := by rfl)
    (he : starEach [a, .Name "bool" p2] X.env = (false, eval a X.env) :: starEach [.Name "bool" p2] X.env := by rfl) (he2 : starEach [.Name "bool" p2] X.env = (false, eval (.Name "bool" p2) X.env) :: starEach [] X.env := by rfl)
    (hpl : (backTo pos (starEach [.Name "bool" p2] X.env)).any (·.1) = false := by rfl) : DE X ρ (.Call (.Name "isinstance" p) [a, .Name "bool" p2] [] pos) (.bool (isBl d)) :=
  de_isi (T := "bool") hm hmT (by decide +kernel) ha (kit_Bl d) hg hgT (by decide) (by decide) he he2 hpl
theorem de_isTu (hm : X.mg "isinstance" = none) (hmT : X.mg "tuple" = none) (ha : DE X ρ a d) (hg : Gl X "isinstance" := by rfl) (hgT : Gl X "tuple" := by rfl)
    (he : starEach [a, .Name "tuple" p2] X.env = (false, eval a X.env) :: starEach [.Name "tuple" p2] X.env := by rfl) (he2 : starEach [.Name "tuple" p2] X.env = (false, eval (.Name "tuple" p2) X.env) :: starEach [] X.env := by rfl)
    (hpl : (backTo pos (starEach [.Name "tuple" p2] X.env)).any (·.1) = false := by rfl) : DE X ρ (.Call (.Name "isinstance" p) [a, .Name "tuple" p2] [] pos) (.bool (isTu d)) :=
  de_isi (T := "tuple") hm hmT (by decide +kernel) ha (kit_Tu d) hg hgT (by decide) (by decide) he he2 hpl
theorem de_isSt (hm : X.mg "isinstance" = none) (hmT : X.mg "str" = none) (ha : DE X ρ a d) (hg : Gl X "isinstance" := by rfl) (hgT : Gl X "str" := by rfl)
    (he : starEach [a, .Name "str" p2] X.env = (false, eval a X.env) :: starEach [.Name "str" p2] X.env := by rfl) (he2 : starEach [.Name "str" p2] X.env = (false, eval (.Name "str" p2) X.env) :: starEach [] X.env := by rfl)
    (hpl : (backTo pos (starEach [.Name "str" p2] X.env)).any (·.1) = false := by rfl) : DE X ρ (.Call (.Name "isinstance" p) [a, .Name "str" p2] [] pos) (.bool (isSt d)) :=
  de_isi (T := "str") hm hmT (by decide +kernel) ha (kit_St d) hg hgT (by decide) (by decide) he he2 hpl
/-! products, divisions of great numbers -/
theorem de_mulW {a b : Expr} {i j : Int} (ha : DE X ρ a (.int i)) (hb : DE X ρ b (.int j)) (h : CMulW i j) : DE X ρ (.BinOp a .Mult b pos) (.int (i * j)) := de_op op_mulW (r2_I h) ha hb
theorem de_fdivW {a b : Expr} {i j : Int} (ha : DE X ρ a (.int i)) (hb : DE X ρ b (.int j)) (h : CDivW i j) : DE X ρ (.BinOp a .FloorDiv b pos) (.int (i / j)) := de_op op_fdivW (r2_I h) ha hb
end
end DD
namespace DD
open PySem PySem.Spec PyProof.Rows L2

/-! ### raise -/
/-- an exception class of the text, made with a text -/
structure ECls (K : PySem.W.Frag) (mg : Str → Option Value) (x : Str) (C : Addr) : Prop where
  q : PySem.W.excIn K C [.type "ValueError", .type "Exception", .type "BaseException", .type "object"] "ValueError.__new__" = true
  g : mg x = some (.ref C)
  k : PySem.W.keepIn K (.ref C) = true
  b : PySem.W.subIn K (.ref C) (.type "BaseException") = some true
  t : PySem.W.typeIn K (.ref C) = some (.type "type")
section
variable {X : Cx} {W : WX} {ρ : En} {pos : Pos} {P : Post} {rest : List Stmt}
theorem ds_raise {x m : Str} {C : Addr} {j : Nat} {p p2 p3 : Pos} (E : ECls X.K X.mg x C) (tk : Takes X W) (h : P.ex ⟨C, none⟩ ρ) (hc : X.calm = true := by rfl) (hg : Gl X x := by rfl) (hdb : (x == ("__debug__" : Str)) = false := by decide) :
    DS X W ρ (.Raise (some (.Call (.Name x p) [.Constant (.str m) j p2] [] p3)) none pos :: rest) P :=
  ds_cons (ps_raise hc tk (pmk_own PySem.F.excBase_ValueError E.q E.g E.k (raises_own E.b E.t) hg hdb)) fun H₀ G₀ G H σ D Ex S p => p.ex _ ρ σ G H _ _ h Ex S ⟨rfl, rfl⟩
end

/-! ### try with clauses «except C as n» -/
/-- one clause: the class's name and value, its suite -/
structure Cl where
  x : Str
  c : Value
  su : List Stmt
/-- what is wished of an exception: the first clause that takes it runs with slot i -/
def wCl (X : Cx) (i : Nat) (Wout : WX) (D : Ends) : List Cl → WX
  | [] => Wout
  | k :: r => fun cls d σ H => ∃ b, PySem.W.exmOne X.K cls k.c = some b ∧
      (b = true → ∀ a, H a = none → ∀ (oe : Obj) (pn : List (Addr × Obj)), Zc cls d oe → (∃ vs, oe.data = .fields vs) →
        tS (X.suite a ((a, oe) :: pn)) k.su { nx := fun σ' H' => D.nx (σ'.set i none) H', rt := D.rt, bk := fun σ' H' => D.bk (σ'.set i none) H', ct := fun σ' H' => D.ct (σ'.set i none) H' } (σ.set i (some (.ref a))) H) ∧
      (b = false → wCl X i Wout D r cls d σ H)
inductive ClsAre (X : Cx) (n : Str) : List ExceptHandler → List Cl → Prop
  | nil : ClsAre X n [] []
  | cons {x : Str} {c : Value} {b₀ : Stmt} {su : List Stmt} {np p : Pos} {hs : List ExceptHandler} {l : List Cl} (hx : Names X x c) (r : ClsAre X n hs l) :
      ClsAre X n (.ExceptHandler (some (.Name x np)) (some n) (b₀ :: su) p :: hs) (⟨x, c, b₀ :: su⟩ :: l)
section
variable {X : Cx} {n : Str} {i : Nat} {body : List Stmt} {h₀ : ExceptHandler} {hs : List ExceptHandler} {l : List Cl} {pos : Pos} {tb : WX → TS} {Wout : WX}
theorem ps_try_cl (hst : X.stack = X.env :: X.outer) (hf : X.env.frame = some X.env.locals) (hN : X.N.Nodup) (hi : X.N[i]? = some n) (hln : X.env.kindOf n = some .local) (tk : Takes X Wout)
    (hb : ∀ (W : WX) (pn : List (Addr × Obj)) (xe : Value → Shared → Prop), Takes (X.tr pn xe) W → PassesOwn (model X.prog X.w) X.A X.env xe → PSs (X.tr pn xe) body (tb W))
    (hk : ClsAre X n (h₀ :: hs) l) : PS X (.Try body (h₀ :: hs) [] [] pos) (fun D σ H => tb (wCl X i Wout D l) D σ H) := by
  constructor
  intro pins s σ H D I hyp
  have ok := I.ok
  have hfr : X.A.frames = some (X.env :: X.outer) := by rw [ok.frames, hst]
  have hloc : Loc X.env.scope n := .inl hln
  refine wpAny_Try_except ?_
  let xe' : Value → Shared → Prop := fun e s₁ => wpAny (model X.prog X.w) X.A (noteFrame e X.env) (fun _ s₂ =>
    wpAny (model X.prog X.w) X.A (setFlight e none) (fun _ s₃ => wpAny (model X.prog X.w) X.A (handleBy e X.env (h₀ :: hs)) (SP X pins D) X.xe s₃) X.xe s₂) X.xe s₁
  have takes : Takes (X.tr (X.pn ++ pins) xe') (wCl X i Wout D l) := by
    intro u s' xx
    obtain ⟨a, B, sI, pins', σ', H', cls, d, rfl, J', nb, up, sky, na, os, ag, w⟩ := xx
    have J : Inv X pins σ' H' sI := J'.ofTry ok
    have sky' : Sky B (X.env :: X.outer) a (Zc cls d) X.env.locals s'.heap := by rw [← hst]; exact sky
    show wpAny (model X.prog X.w) X.A (noteFrame (.ref a) X.env) _ _ _
    refine Sky.land Zc.steady hfr hf sky' fun g3 f3 u3 => ?_
    have J3 : Inv X pins σ' H' { s' with heap := g3 } := J.landed nb f3.1 (up.trans u3) os ag
    obtain ⟨o3, v3, e3, z3, d3⟩ := f3.there
    have apart : a ∉ frs (X.env :: X.outer) := by
      intro hm
      obtain ⟨_, o', e', hnf⟩ := f3.2.2.1.mem hm
      rw [e3] at e'
      cases e'
      exact hnf _ d3
    have nL : a ≠ X.env.locals := fun z => apart (List.mem_filterMap.mpr ⟨X.env, List.mem_cons_self, by rw [hf, z]⟩)
    have nF : a ∉ X.fs := fun hm => let ⟨e, he, q⟩ := List.mem_filterMap.mp hm; apart (List.mem_filterMap.mpr ⟨e, List.mem_cons_of_mem _ he, q⟩)
    have S3 := J3.suite e3 d3 na nL nF
    have LT : PySem.W.Looks (model X.prog X.w) g3 (typeOf (.ref a)) cls := fun A Q E s k q => wpAny_typeOf_ref (k _ _ e3) (by rw [z3.1]; exact q)
    have step : ∀ {hs' : List ExceptHandler} {l' : List Cl}, ClsAre X n hs' l' → wCl X i Wout D l' cls d σ' H' → wpAny (model X.prog X.w) X.A (handleBy (.ref a) X.env hs') (SP X pins D) X.xe { s' with heap := g3 } := by
      intro hs' l' hc
      induction hc with
      | nil =>
        intro w
        refine wpAny_handleBy_nil ?_
        obtain ⟨k1, k2, k3, oe, vs, T, oT, ts', he, hz, hd, h1, hr⟩ := id f3
        unfold PySem.passOn
        refine wpAny_bind (wpAny_field he hd h1 ?_)
        rw [if_neg (show ¬ ((Value.ref T == Value.none) = true) from by simp)]
        have onward : wpAny (model X.prog X.w) X.A (setFlight (.ref a) X.env.frame) (fun _ s4 => wpAny (model X.prog X.w) X.A (throw (.ref a) : Sem Flow) (SP X pins D) X.xe s4) X.xe { s' with heap := g3 } := by
          rw [hf]
          refine HandSPX.setFlight_upZ f3 fun g4 f4 u4 => wpAny_throw (tk _ _ ?_)
          exact ⟨a, B, sI, pins, σ', H', cls, d, rfl, J, nb, (up.trans u3).trans u4, .inr (.inr (by rw [hst]; exact f4)), na, os, ag, w⟩
        first
          | exact wpAny_bind (wpAny_pure (wpAny_bind onward))
          | exact wpAny_bind onward
      | @cons x c b₀ su np p hs2 l2 hx r ih =>
        intro w
        obtain ⟨b, hb1, yes, no⟩ := w
        have LM := PySem.W.exm_one (M := model X.prog X.w) (J3.kIn) LT hb1
        refine wpAny_handleBy_cons (codeAny_handlers_test ?_) (by intro q; cases q)
        have named : ∀ {Q : Value → Shared → Prop} {E : Value → Shared → Prop}, Q c { s' with heap := g3 } → wpAny (model X.prog X.w) (X.A.mark (some (.ref a))) (eval (.Name x np) X.env) Q E { s' with heap := g3 } := by
          intro Q E q
          obtain ⟨hg, hdbg, hm | ⟨hm, hv, hnn⟩⟩ := hx
          · exact ld_glob (X := X.suite a ((a, o3) :: (X.pn ++ pins))) S3 hg hm q hdbg
          · exact ld_blt (X := X.suite a ((a, o3) :: (X.pn ++ pins))) S3 hg hm hv q hnn hdbg
        refine named (LM.here ?_)
        cases b with
        | false =>
          show wpAny _ X.A (handleBy (.ref a) X.env hs2) _ _ _
          exact ih (no rfl)
        | true =>
          refine codeAny_handlers_suite_as ?_
          refine HandSPX.lands_againZ f3 fun g4 f4 u4 => ?_
          have J4 : Inv X pins σ' H' { s' with heap := g4 } := J.landed nb f4.1 ((up.trans u3).trans u4) os ag
          obtain ⟨o4, v4, e4, z4, d4⟩ := f4.there
          have S4 := J4.suite e4 d4 na nL nF
          refine store_ok (X := X.suite a ((a, o4) :: (X.pn ++ pins))) (v := .ref a) S4 hN hi hloc rfl (fun s5 S5 => ?_) (.inr hln)
          have run := yes rfl a na o4 (X.pn ++ pins) z4 ⟨_, d4⟩ [] s5 S5
          refine wpAny_mono run (fun f s6 hsp => ?_) (fun _ _ z => False.elim z)
          have done : ∀ {σ6 : L2.St} {H6 : Hp} {Q : Shared → Prop}, Inv (X.suite a ((a, o4) :: (X.pn ++ pins))) [] σ6 H6 s6 → (∀ s7, Inv X pins (σ6.set i none) H6 s7 → Q s7) →
              wpAny (model X.prog X.w) X.A (do bindName X.env n .none; unbindBehindTheSuite X.env n p) (fun _ s7 => Q s7) X.xe s6 := fun S6 hq => gone_ok (S6.unsuite ok) hN hi hln hq
          cases f with
          | next => obtain ⟨σ6, H6, S6, q6⟩ := hsp; exact done S6 fun s7 J7 => ⟨_, _, J7, q6⟩
          | brk => obtain ⟨σ6, H6, S6, q6⟩ := hsp; exact done S6 fun s7 J7 => ⟨_, _, J7, q6⟩
          | cont => obtain ⟨σ6, H6, S6, q6⟩ := hsp; exact done S6 fun s7 J7 => ⟨_, _, J7, q6⟩
          | ret u => obtain ⟨v6, σ6, H6, S6, r6, q6⟩ := hsp; exact done S6 fun s7 J7 => ⟨_, _, _, J7, r6, q6⟩
    exact step hk w
  refine wpAny_mono ((hb (wCl X i Wout D l) (X.pn ++ pins) xe' takes PassesOwn.looking).run [] s σ H D (I.toTry _) hyp) (fun f s1 hsp => ?_) (fun e s1 he => he)
  cases f with
  | next => obtain ⟨σ', H', J', q⟩ := hsp; exact wpAny_execs_nil ⟨σ', H', J'.ofTry ok, q⟩
  | brk => obtain ⟨σ', H', J', q⟩ := hsp; exact ⟨σ', H', J'.ofTry ok, q⟩
  | cont => obtain ⟨σ', H', J', q⟩ := hsp; exact ⟨σ', H', J'.ofTry ok, q⟩
  | ret u => obtain ⟨v, σ', H', J', r, q⟩ := hsp; exact ⟨v, σ', H', J'.ofTry ok, r, q⟩

/-- an exception met by the clauses: with the slots ρ at the raise -/
def Handled (X : Cx) (W : WX) (i : Nat) (P : Post) (rest : List Stmt) : List Cl → Exn → En → Prop
  | [] => fun x ρ => P.ex x ρ
  | k :: r => fun x ρ => ∃ b, PySem.W.exmOne X.K (.ref x.cls) k.c = some b ∧
      (b = true → ∀ (a : Addr) (oe : Obj) (pn : List (Addr × Obj)) (d : Option Addr), Zc (.ref x.cls) d oe → (x.line = none → d = none) → (∃ vs, oe.data = .fields vs) →
        DS (X.suite a ((a, oe) :: pn)) (fun _ _ _ _ => False) (ρ.set i (.raw (.ref a))) k.su { nx := fun ρ' => DS X W (ρ'.set i .un) rest P, rt := P.rt, bk := fun ρ' => P.bk (ρ'.set i .un), ct := fun ρ' => P.ct (ρ'.set i .un), ro := fun d ρ' => P.ro d (ρ'.set i .un) }) ∧
      (b = false → Handled X W i P rest r x ρ)
theorem Sat.unset {H₀ G H : Hp} {σ : L2.St} {ρ : En} {i : Nat} (h : Sat H₀ G H σ ρ) : Sat H₀ G H (σ.set i none) (ρ.set i .un) := by
  refine ⟨h.sub, by rw [List.length_set, List.length_set, h.len], fun j t q => ?_, fun a b s t p hab q1 q2 o1 o2 r1 => ?_, h.old⟩
  · by_cases e : i = j
    · subst e
      by_cases hl : i < ρ.length
      · rw [List.getElem?_set_self hl] at q; cases q; trivial
      · rw [List.getElem?_eq_none (by rw [List.length_set]; omega)] at q; cases q
    · rw [List.getElem?_set_ne e] at q ⊢; exact h.slot j t q
  · have back : ∀ {a : Nat} {s : SV}, (ρ.set i .un)[a]? = some s → s.isOwn = true → i ≠ a ∧ ρ[a]? = some s := by
      intro a s q o
      by_cases e : i = a
      · subst e
        by_cases hl : i < ρ.length
        · rw [List.getElem?_set_self hl] at q; cases q; cases o
        · rw [List.getElem?_eq_none (by rw [List.length_set]; omega)] at q; cases q
      · rw [List.getElem?_set_ne e] at q; exact ⟨e, q⟩
    obtain ⟨n1, k1⟩ := back q1 o1
    obtain ⟨n2, k2⟩ := back q2 o2
    rw [List.getElem?_set_ne n1] at r1
    rw [List.getElem?_set_ne n2]
    exact h.apart a b s t p hab k1 k2 o1 o2 r1
theorem ds_try {W : WX} {ρ : En} {P : Post} {rest : List Stmt} (i : Nat) (hk : ClsAre X n (h₀ :: hs) l) (tk : Takes X W)
    (hb : ∀ (W' : WX) (pn : List (Addr × Obj)) (xe : Value → Shared → Prop), Takes (X.tr pn xe) W' → PassesOwn (model X.prog X.w) X.A X.env xe →
      DS (X.tr pn xe) W' ρ body { nx := fun ρ => DS X W ρ rest P, rt := P.rt, bk := P.bk, ct := P.ct, ex := Handled X W i P rest l, ro := P.ro, rq := P.rq })
    (hN : X.N.Nodup) (hst : X.stack = X.env :: X.outer := by rfl) (hf : X.env.frame = some X.env.locals := by rfl) (hi : X.N[i]? = some n := by rfl) (hln : X.env.kindOf n = some .local := by rfl) : DS X W ρ (.Try body (h₀ :: hs) [] [] pos :: rest) P := by
  refine ds_cons (ps_try_cl (tb := fun W' D σ H => ∀ (pn : List (Addr × Obj)) (xe : Value → Shared → Prop), Takes (X.tr pn xe) W' → PassesOwn (model X.prog X.w) X.A X.env xe → tS (X.tr pn xe) body D σ H) hst hf hN hi hln tk (fun W' pn xe t1 t2 => ⟨fun pins s σ H D I h => h pn xe t1 t2 pins s I⟩) hk) ?_
  intro H₀ G₀ G H σ D E S p pn xe t1 t2
  refine hb _ pn xe t1 t2 H₀ G₀ G H σ _ E S ⟨fun ρ' σ' G' H' q E' S' => q H₀ G₀ G' H' σ' D E' S' p, p.rt, p.bk, p.ct, fun x ρ' σ' G' H' c a q E' S' ea => ?_, p.ro, p.rq⟩
  obtain ⟨rfl, ea⟩ := ea
  have main : ∀ l : List Cl, Handled X W i P rest l x ρ' → wCl X i W { D with nx := tS X rest D } l (.ref x.cls) a σ' H' := by
    intro l
    induction l with
    | nil => exact fun q => p.ex x ρ' σ' G' H' _ a q E' S' ⟨rfl, ea⟩
    | cons k r ih =>
      intro q
      obtain ⟨b, e1, e2, e3⟩ := q
      refine ⟨b, e1, fun hb a' na oe pn hz hv => ?_, fun hb => ih (e3 hb)⟩
      have hl : x.line = none → a = none := fun z => by rw [z] at ea; exact ea
      refine e2 hb a' oe pn a hz hl hv H₀ G₀ G' H' _ _ E' (S'.set rfl (fun z => by cases z)) ⟨fun ρ2 σ2 G2 H2 q2 E2 S2 => ?_, p.rt, fun ρ2 σ2 G2 H2 q2 E2 S2 => ?_, fun ρ2 σ2 G2 H2 q2 E2 S2 => ?_, fun x2 ρ2 σ2 G2 H2 c2 a2 z => z.elim, fun d ρ2 v σ2 G2 H2 q2 E2 S2 r2 => p.ro d _ v _ G2 H2 q2 E2 S2.unset r2, fun q ρ2 σ2 G2 H2 z => z.elim⟩
      · exact q2 H₀ G₀ G2 H2 _ D E2 S2.unset p
      · exact p.bk _ _ G2 H2 q2 E2 S2.unset
      · exact p.ct _ _ G2 H2 q2 E2 S2.unset
  exact main l q
end

/-! isinstance(e, C) of the exception that is held -/
section
variable {X : Cx} {ρ : En}
theorem de_isE {a : Addr} {oe : Obj} {pn : List (Addr × Obj)} {D : Addr} {x y : Str} {c : Value} {k : Bool} {i : Nat} {p p1 p2 pos : Pos} (C : L2.ExcC X.K D) (hz : Zc (.ref D) none oe) (hv : ∃ vs, oe.data = .fields vs) (hρ : ρ[i]? = some (.raw (.ref a)))
    (hm : X.mg "isinstance" = none) (hc : X.mg y = some c) (hr : ∃ A, c = .ref A) (hk : PySem.W.kitOne X.K (.ref D) c = some k) (hN : X.N[i]? = some x := by rfl) (hx : Vis X.env.scope x := by first | exact Or.inl rfl | exact Or.inr (Or.inl rfl) | exact Or.inr (Or.inr rfl))
    (hd : (x == ("__debug__" : Str)) = false := by decide) (hcd : (x == ("__classdict__" : Str)) = false := by decide) (hg : Gl X "isinstance" := by rfl) (hgy : Gl X y := by rfl) (hdy : (y == ("__debug__" : Str)) = false := by decide)
    (he : starEach [.Name x p1, .Name y p2] X.env = (false, eval (.Name x p1) X.env) :: starEach [.Name y p2] X.env := by rfl) (he2 : starEach [.Name y p2] X.env = (false, eval (.Name y p2) X.env) :: starEach [] X.env := by rfl) (hpl : (backTo pos (starEach [.Name y p2] X.env)).any (·.1) = false := by rfl) :
    DE (X.suite a ((a, oe) :: pn)) ρ (.Call (.Name "isinstance" p) [.Name x p1, .Name y p2] [] pos) (.bool k) := by
  obtain ⟨A, rfl⟩ := hr
  exact de_of (pe_callB (X := X.suite a ((a, oe) :: pn)) (call_isE C hz hv) hg hm (by decide +kernel) (pa_cons (pe_var hN hx hd hcd) (pa_cons (pe_glob (v := .ref A) hgy hc rfl hdy) pa_nil he2) he) (by decide) (by decide) he hpl) fun H₀ G H σ Q S q =>
    ⟨_, S.slot i _ hρ, .ref A, .ref A, k, rfl, fun u hu => hu, hk, q.of S.sub (.bl k)⟩
end
end DD
namespace DD
open PySem PySem.Spec PyProof.Rows L2
section
variable {X : Cx} {W : WX} {ρ ρ' : En} {e a b c tg iter : Expr} {es : List Expr} {d : PyData} {o : Out} {pos : Pos} {P : Post} {rest body : List Stmt} {T : Type}
theorem de_andF {k : Bool} (h : DE X ρ a (.bool k)) (hk : k = false := by first | rfl | assumption) : DE X ρ (.BoolOp .And (a :: b :: es) pos) (.bool false) := by subst hk; exact de_and h (fun z => by cases z) (fun _ => rfl)
theorem de_orT {k : Bool} (h : DE X ρ a (.bool k)) (hk : k = true := by first | rfl | assumption) : DE X ρ (.BoolOp .Or (a :: b :: es) pos) (.bool true) := by subst hk; exact de_or h (fun z => by cases z) (fun _ => rfl)
theorem de_andT {k : Bool} (h : DE X ρ a (.bool k)) (h2 : DE X ρ (.BoolOp .And (b :: es) pos) d) (hk : k = true := by first | rfl | assumption) : DE X ρ (.BoolOp .And (a :: b :: es) pos) d := by subst hk; exact de_and h (fun _ => h2) (fun z => by cases z)
theorem de_orF {k : Bool} (h : DE X ρ a (.bool k)) (h2 : DE X ρ (.BoolOp .Or (b :: es) pos) d) (hk : k = false := by first | rfl | assumption) : DE X ρ (.BoolOp .Or (a :: b :: es) pos) d := by subst hk; exact de_or h (fun _ => h2) (fun z => by cases z)
theorem dw_andF {k : Bool} (h : DT X ρ a k) (hk : k = false := by first | rfl | assumption) : DW X ρ (.BoolOp .And (a :: b :: es) pos) false := by subst hk; exact dw_and (k' := false) h (fun z => by cases z)
theorem dw_orT {k : Bool} (h : DT X ρ a k) (hk : k = true := by first | rfl | assumption) : DW X ρ (.BoolOp .Or (a :: b :: es) pos) true := by subst hk; exact dw_or (k' := true) h (fun z => by cases z)
theorem dw_andT {k k2 : Bool} (h : DT X ρ a k2) (h2 : DW X ρ (.BoolOp .And (b :: es) pos) k) (hk : k2 = true := by first | rfl | assumption) : DW X ρ (.BoolOp .And (a :: b :: es) pos) k := by subst hk; have := dw_and (k := true) h (fun _ => h2); simpa using this
theorem dw_orF {k k2 : Bool} (h : DT X ρ a k2) (h2 : DW X ρ (.BoolOp .Or (b :: es) pos) k) (hk : k2 = false := by first | rfl | assumption) : DW X ρ (.BoolOp .Or (a :: b :: es) pos) k := by subst hk; have := dw_or (k := false) h (fun _ => h2); simpa using this
theorem de_ifT {k : Bool} (h : DT X ρ c k) (h1 : DE X ρ a d) (hk : k = true := by first | rfl | assumption) : DE X ρ (.IfExp c a b pos) d := by subst hk; exact de_if h (fun _ => h1) (fun z => by cases z)
theorem de_ifF {k : Bool} (h : DT X ρ c k) (h1 : DE X ρ b d) (hk : k = false := by first | rfl | assumption) : DE X ρ (.IfExp c a b pos) d := by subst hk; exact de_if h (fun z => by cases z) (fun _ => h1)
theorem dx_ifT {k : Bool} (h : DT X ρ c k) (h1 : DX X W ρ a o) (hk : k = true := by first | rfl | assumption) : DX X W ρ (.IfExp c a b pos) o := by subst hk; exact dx_if h (fun _ => h1) (fun z => by cases z)
theorem dx_ifF {k : Bool} (h : DT X ρ c k) (h1 : DX X W ρ b o) (hk : k = false := by first | rfl | assumption) : DX X W ρ (.IfExp c a b pos) o := by subst hk; exact dx_if h (fun z => by cases z) (fun _ => h1)
/-- if .. : the test known -/
theorem ds_T {k : Bool} {orelse : List Stmt} (h : DT X ρ c k) (h1 : DS X W ρ body { P with nx := fun ρ => DS X W ρ rest P }) (hk : k = true := by first | rfl | assumption) : DS X W ρ (.If c body orelse pos :: rest) P := by subst hk; exact ds_ifT h h1
theorem ds_F {k : Bool} (h : DT X ρ c k) (h2 : DS X W ρ rest P) (hk : k = false := by first | rfl | assumption) : DS X W ρ (.If c body [] pos :: rest) P := by subst hk; exact ds_ifF h h2
theorem ds_E {k : Bool} {orelse : List Stmt} (h : DT X ρ c k) (h2 : DS X W ρ orelse { P with nx := fun ρ => DS X W ρ rest P }) (hk : k = false := by first | rfl | assumption) : DS X W ρ (.If c body orelse pos :: rest) P := by subst hk; exact ds_ifE h h2
theorem di_is {ds ds' : List PyData} (h : DI X ρ tg iter ds) (e : ds = ds') : DI X ρ tg iter ds' := e ▸ h
theorem di_r1 {p : Pos} {n : Int} {xs : List PyData} (he : DE X ρ a (.int n)) (hn : -(2 ^ 62) ≤ n ∧ n < 2 ^ 62) (hm : X.mg "range" = none) (e : (intsL 0 n.toNat).map PyData.int = xs := by rfl) (hg : Gl X "range" := by rfl) (hs : starEach [a] X.env = [(false, eval a X.env)] := by rfl) :
    DI X ρ tg (.Call (.Name "range" p) [a] [] pos) xs := e ▸ di_range1 he hn hm hg hs
theorem di_r2 {p : Pos} {m n : Int} {xs : List PyData} (he : DE X ρ a (.int m)) (hb : DE X ρ b (.int n)) (hn : -(2 ^ 62) ≤ m ∧ m < 2 ^ 62 ∧ -(2 ^ 62) ≤ n ∧ n < 2 ^ 62) (hm : X.mg "range" = none) (e : (intsL m (n - m).toNat).map PyData.int = xs := by rfl) (hg : Gl X "range" := by rfl)
    (hs : starEach [a, b] X.env = [(false, eval a X.env), (false, eval b X.env)] := by rfl) (hs2 : starEach [b] X.env = [(false, eval b X.env)] := by rfl) :
    DI X ρ tg (.Call (.Name "range" p) [a, b] [] pos) xs := e ▸ di_range2 he hb hn hm hg hs hs2
theorem Weak.eqd {d d' : PyData} {ρ ρ' : En} (h : d = d') (w : Weak ρ ρ') : Weak (.dat d :: ρ) (.dat d' :: ρ') := by subst h; exact .eq w
theorem Weak.eqo {d d' : List PyData} {ρ ρ' : En} (h : d = d') (w : Weak ρ ρ') : Weak (.own d :: ρ) (.own d' :: ρ') := by subst h; exact .eq w
theorem Weak.set {ρ ρ' : En} (i : Nat) {s : SV} (w : Weak ρ ρ') : Weak (ρ.set i s) (ρ'.set i s) := by
  induction w generalizing i with
  | nil => exact .nil
  | eq w ih =>
    cases i with
    | zero => exact .eq w
    | succ i => exact .eq (ih i)
  | un w ih =>
    cases i with
    | zero => exact .eq w
    | succ i => exact .un (ih i)
/-- a loop whose slots are known ahead of each turn -/
theorem ds_forE (xs : List T) (enc : T → PyData) (env : List T → En) (ρ2 : List T → T → En) (hi : DI X ρ tg iter (xs.map enc)) (h0 : Weak ρ (env []))
    (hg : ∀ pre x post, xs = pre ++ x :: post → DG X tg (enc x) (env pre) (ρ2 pre x))
    (hb : ∀ pre x post, xs = pre ++ x :: post → DS X W (ρ2 pre x) body { P with nx := fun ρ => ρ = env (pre ++ [x]), ct := fun ρ => ρ = env (pre ++ [x]), bk := fun ρ => DS X W ρ rest P })
    (hd : DS X W (env xs) rest P) (hc : X.calm = true := by rfl) (hp : PassesOwn (model X.prog X.w) X.A X.env X.xe := by first | exact PassesOwn.never | exact passes_of rfl)
    (hs : ∀ x, foldedSetIterable iter X.env x = pure x := by intro _; rfl) : DS X W ρ (.For tg iter body [] pos :: rest) P := by
  have cut : ∀ {i : Nat} {x : T}, xs[i]? = some x → xs = xs.take i ++ x :: xs.drop (i + 1) := by
    intro i x h
    obtain ⟨hl, e⟩ := List.getElem?_eq_some_iff.mp h
    rw [← e, List.getElem_cons_drop, List.take_append_drop]
  refine ds_for (fun i ρ' => Weak ρ' (env (xs.take i))) hi (by simpa using h0) (fun i d ρ' hd' w => ?_) (fun ρ' w => ?_) hc hp hs
  · rw [List.getElem?_map] at hd'
    cases hx : xs[i]? with
    | none => rw [hx] at hd'; cases hd'
    | some x =>
      rw [hx] at hd'
      have ed : enc x = d := Option.some.inj hd'
      subst ed
      have e := cut hx
      have et : xs.take (i + 1) = xs.take i ++ [x] := by rw [List.take_add_one, hx]; rfl
      refine ⟨ρ2 (xs.take i) x, .mk fun H₀ G H σ v Q S r q => hg _ _ _ e H₀ G H σ v Q (S.weak w) r q, ?_⟩
      have b := hb _ _ _ e
      refine .mk fun H₀ G₀ G H σ D E S p => ?_
      refine b H₀ G₀ G H σ D E S ⟨fun ρ5 σ5 G5 H5 q E5 S5 => ?_, p.rt, p.bk, fun ρ5 σ5 G5 H5 q E5 S5 => ?_, p.ex, p.ro, p.rq⟩
      · exact p.nx ρ5 σ5 G5 H5 (by rw [et, q]; exact Weak.refl _) E5 S5
      · exact p.ct ρ5 σ5 G5 H5 (by rw [et, q]; exact Weak.refl _) E5 S5
  · rw [List.length_map, List.take_length] at w
    exact ds_weak hd w
/-- .. with a word of what the turns so far have shown -/
theorem ds_forI (xs : List T) (enc : T → PyData) (I : List T → Prop) (env : List T → En) (ρ2 : List T → T → En) (hi : DI X ρ tg iter (xs.map enc)) (h0 : Weak ρ (env [])) (i0 : I [])
    (hg : ∀ pre x post, xs = pre ++ x :: post → DG X tg (enc x) (env pre) (ρ2 pre x))
    (hb : ∀ pre x post, xs = pre ++ x :: post → I pre → DS X W (ρ2 pre x) body { P with nx := fun ρ => ρ = env (pre ++ [x]) ∧ I (pre ++ [x]), ct := fun ρ => ρ = env (pre ++ [x]) ∧ I (pre ++ [x]), bk := fun ρ => DS X W ρ rest P })
    (hd : I xs → DS X W (env xs) rest P) (hc : X.calm = true := by rfl) (hp : PassesOwn (model X.prog X.w) X.A X.env X.xe := by first | exact PassesOwn.never | exact passes_of rfl)
    (hs : ∀ x, foldedSetIterable iter X.env x = pure x := by intro _; rfl) : DS X W ρ (.For tg iter body [] pos :: rest) P := by
  have cut : ∀ {i : Nat} {x : T}, xs[i]? = some x → xs = xs.take i ++ x :: xs.drop (i + 1) := by
    intro i x h
    obtain ⟨hl, e⟩ := List.getElem?_eq_some_iff.mp h
    rw [← e, List.getElem_cons_drop, List.take_append_drop]
  refine ds_for (fun i ρ' => Weak ρ' (env (xs.take i)) ∧ I (xs.take i)) hi ⟨by simpa using h0, by simpa using i0⟩ (fun i d ρ' hd' ⟨w, hI⟩ => ?_) (fun ρ' ⟨w, hI⟩ => ?_) hc hp hs
  · rw [List.getElem?_map] at hd'
    cases hx : xs[i]? with
    | none => rw [hx] at hd'; cases hd'
    | some x =>
      rw [hx] at hd'
      have ed : enc x = d := Option.some.inj hd'
      subst ed
      have e := cut hx
      have et : xs.take (i + 1) = xs.take i ++ [x] := by rw [List.take_add_one, hx]; rfl
      refine ⟨ρ2 (xs.take i) x, .mk fun H₀ G H σ v Q S r q => hg _ _ _ e H₀ G H σ v Q (S.weak w) r q, ?_⟩
      have b := hb _ _ _ e hI
      refine .mk fun H₀ G₀ G H σ D E S p => ?_
      refine b H₀ G₀ G H σ D E S ⟨fun ρ5 σ5 G5 H5 ⟨q, qI⟩ E5 S5 => ?_, p.rt, p.bk, fun ρ5 σ5 G5 H5 ⟨q, qI⟩ E5 S5 => ?_, p.ex, p.ro, p.rq⟩
      · exact p.nx ρ5 σ5 G5 H5 ⟨by rw [et, q]; exact Weak.refl _, by rw [et]; exact qI⟩ E5 S5
      · exact p.ct ρ5 σ5 G5 H5 ⟨by rw [et, q]; exact Weak.refl _, by rw [et]; exact qI⟩ E5 S5
  · rw [List.length_map, List.take_length] at w hI
    exact ds_weak (hd hI) w
/-- a comprehension without a test -/
theorem dl_lcM {elt : Expr} {scope : Scope} (xs : List T) (enc : T → PyData) (f : T → PyData) (own : List (Str × Nat)) (ρ2 : T → En) (hi : DI X ρ tg iter (xs.map enc)) (hN : X.N.Nodup) (ok : BlkOk X.N X.env.scope scope own)
    (hg : ∀ s H C cl fp x, x ∈ xs → DGc (X.blk s H scope (compEnvC scope cl C X.env) fp) tg (enc x) (wipeE ρ (own.map (·.2))) (ρ2 x) (own.map (·.2)))
    (he : ∀ s H C cl fp x, x ∈ xs → DE (X.blk s H scope (compEnvC scope cl C X.env) fp) (ρ2 x) elt (f x)) (hl : xs.length < sizeLine) (hc : X.calm = true := by rfl)
    (hs : ∀ x, foldedSetIterable iter X.env x = pure x := by intro _; rfl) : DL X ρ (.ListComp elt [⟨tg, iter, [], 0⟩] scope pos) (xs.map f) := by
  have h := dl_lc (pos := pos) xs enc (fun _ => true) f own ρ2 hi hN ok hg (fun _ _ _ _ _ _ _ => dts_nil) (fun s H C cl fp x hx _ => he s H C cl fp x hx) hl hc hs
  rwa [List.filter_eq_self.mpr (fun _ _ => rfl)] at h
theorem dl_is {ds ds' : List PyData} (h : DL X ρ e ds) (q : ds = ds') : DL X ρ e ds' := q ▸ h
/-- name = [..] without a test, from then on data -/
theorem ds_setLcM {elt : Expr} {scope : Scope} (i : Nat) {y : Str} {py : Pos} (xs : List T) (enc : T → PyData) (f : T → PyData) (own : List (Str × Nat)) (ρ2 : T → En) {spos : Pos} (hi : DI X ρ tg iter (xs.map enc)) (hN : X.N.Nodup) (ok : BlkOk X.N X.env.scope scope own)
    (hg : ∀ s H C cl fp x, x ∈ xs → DGc (X.blk s H scope (compEnvC scope cl C X.env) fp) tg (enc x) (wipeE ρ (own.map (·.2))) (ρ2 x) (own.map (·.2)))
    (he : ∀ s H C cl fp x, x ∈ xs → DE (X.blk s H scope (compEnvC scope cl C X.env) fp) (ρ2 x) elt (f x)) (hl : xs.length < sizeLine)
    (h : DS X W (ρ.set i (.dat (.list (xs.map f)))) rest P) (hlen : i < ρ.length := by simp)
    (hsw : swapsWith (.ListComp elt [⟨tg, iter, [], 0⟩] scope pos) (some (.Name y py)) spos.line X.env = pure true := by exact sw_true rfl rfl rfl (by decide +kernel)) (hy : X.N[i]? = some y := by rfl) (hyl : X.env.scope.names.lookup y = some .local := by rfl) (hc : X.calm = true := by rfl)
    (hs : ∀ x, foldedSetIterable iter X.env x = pure x := by intro _; rfl) : DS X W ρ (.Assign [.Name y py] (.ListComp elt [⟨tg, iter, [], 0⟩] scope pos) spos :: rest) P := by
  refine ds_setLcO i xs enc (fun _ => true) f own ρ2 hi hN ok hg (fun _ _ _ _ _ _ _ => dts_nil) (fun s H C cl fp x hx _ => he s H C cl fp x hx) hl ?_ hsw hy hyl hc hs
  rw [List.filter_eq_self.mpr (fun _ _ => rfl)]
  refine ds_freeze i (ds := xs.map f) (List.getElem?_set_self hlen) ?_
  rw [List.set_set]
  exact h
theorem at_last {α β : Type} {xs : List α} {d : α} (f : α → β) (h : xs ≠ []) : atI (xs.map f) (-1) = some (f (xs.getLast?.getD d)) := by
  obtain ⟨l, z, rfl⟩ : ∃ l z, xs = l ++ [z] := ⟨xs.dropLast, xs.getLast h, (List.dropLast_concat_getLast h).symm⟩
  rw [List.map_append]
  have := atI_last (l.map f) (f z)
  simpa using this
theorem rep_tup {k : Int} {ds : List PyData} {n : Nat} (hk : k = (n : Int)) (ha : DE X ρ a (.tuple ds)) (hb : DE X ρ b (.int k)) (h0 : ds ≠ []) (h1 : 2 ≤ n) (h2 : n ≤ 1000) (h3 : ds.length ≤ 1000) : DE X ρ (.BinOp a .Mult b pos) (.tuple (List.replicate n ds).flatten) :=
  de_of (pe_op op_repT pe_D pe_D) fun H₀ G H σ Q S q => by
    subst hk
    refine ha H₀ G H σ _ S fun v G1 H1 e1 r1 => ?_
    refine hb H₀ G1 H1 σ _ (S.up e1) fun u G2 H2 e2 r2 => ?_
    cases r2
    cases r1 with
    | @tup q1 ws _ h3' h4 =>
      have e12 := e1.trans e2
      refine ⟨_, n, _, rfl, rfl, .of (e2.gh _ _ (e2.gg _ _ h3')), (by intro z; subst z; cases h4; exact h0 rfl), by omega, by omega, by rw [h4.length]; exact h3, fun l hl => ?_⟩
      have e3 := Ext.new (o := .tup (List.replicate n ws).flatten) e2.gh hl
      exact q _ _ _ (e12.trans e3) (.tup upd_same (RpA.rep (h4.up (e2.gg.trans e3.gg)) _))
end

/-! ### data compared -/
/-- of bounded depth, without dicts -/
def Sh (n : Nat) (d : PyData) : Prop := d.canLay0 = true ∧ d.depth ≤ n
theorem Sh.up {n m : Nat} {d : PyData} (h : Sh n d) (l : n ≤ m) : Sh m d := ⟨h.1, Nat.le_trans h.2 l⟩
theorem Sh.shaped {n : Nat} {d : PyData} (h : Sh n d) (l : n ≤ 64 := by decide) : SeqAt.shaped d = true := by
  unfold SeqAt.shaped
  rw [h.1, decide_eq_true (Nat.le_trans h.2 l)] <;> rfl
theorem sh_none {n : Nat} : Sh n .none := ⟨rfl, Nat.zero_le _⟩
theorem sh_bool {n : Nat} {b : Bool} : Sh n (.bool b) := ⟨rfl, Nat.zero_le _⟩
theorem sh_int {n : Nat} {i : Int} : Sh n (.int i) := ⟨rfl, Nat.zero_le _⟩
theorem sh_all {n : Nat} : ∀ {ds : List PyData}, (∀ d ∈ ds, Sh n d) → PyData.canLayAll0 ds = true ∧ PyData.depthAll ds ≤ n
  | [], _ => ⟨rfl, Nat.zero_le _⟩
  | d :: ds, h => by
    obtain ⟨a1, a2⟩ := h d List.mem_cons_self
    obtain ⟨b1, b2⟩ := sh_all fun x hx => h x (List.mem_cons_of_mem _ hx)
    refine ⟨?_, Nat.max_le.mpr ⟨a2, b2⟩⟩
    show (d.canLay0 && PyData.canLayAll0 ds) = true
    rw [a1, b1] <;> rfl
theorem sh_tup {n : Nat} {ds : List PyData} (h : ∀ d ∈ ds, Sh n d) : Sh (n + 1) (.tuple ds) := ⟨(sh_all h).1, Nat.succ_le_succ (sh_all h).2⟩
theorem sh_lst {n : Nat} {ds : List PyData} (h : ∀ d ∈ ds, Sh n d) : Sh (n + 1) (.list ds) := ⟨(sh_all h).1, Nat.succ_le_succ (sh_all h).2⟩
theorem sh_map {T : Type} {n : Nat} {f : T → PyData} {xs : List T} (h : ∀ x ∈ xs, Sh n (f x)) : ∀ d ∈ xs.map f, Sh n d := fun d hd => by
  obtain ⟨x, hx, rfl⟩ := List.mem_map.mp hd
  exact h x hx
theorem sh_tupI {l : List Int} : Sh 1 (.tuple (l.map .int)) := sh_tup (n := 0) (sh_map fun _ _ => sh_int)
theorem sh_lstI {l : List Int} : Sh 1 (.list (l.map .int)) := sh_lst (n := 0) (sh_map fun _ _ => sh_int)
/-- a typed form whose == is equality -/
def EqEnc {T : Type} [DecidableEq T] (f : T → PyData) : Prop := ∀ x y, PyData.eqv (f x) (f y) = decide (x = y)
theorem eq_int : EqEnc PyData.int := fun x y => by
  show (x == y) = decide (x = y)
  rw [Bool.eq_iff_iff]; simp
theorem eqv_all {T : Type} [DecidableEq T] {f : T → PyData} (h : EqEnc f) : ∀ xs ys : List T, PyData.eqvAll (xs.map f) (ys.map f) = decide (xs = ys)
  | [], [] => rfl
  | [], y :: ys => rfl
  | x :: xs, [] => rfl
  | x :: xs, y :: ys => by
    show (PyData.eqv (f x) (f y) && PyData.eqvAll (xs.map f) (ys.map f)) = _
    rw [h, eqv_all h xs ys, Bool.eq_iff_iff]
    simp
theorem eq_tup {T : Type} [DecidableEq T] {f : T → PyData} (h : EqEnc f) : EqEnc fun xs : List T => .tuple (xs.map f) := fun xs ys => eqv_all h xs ys
theorem eq_lst {T : Type} [DecidableEq T] {f : T → PyData} (h : EqEnc f) : EqEnc fun xs : List T => .list (xs.map f) := fun xs ys => eqv_all h xs ys
theorem eqv_self {T : Type} [DecidableEq T] {f : T → PyData} (h : EqEnc f) (x : T) : PyData.eqv (f x) (f x) = true := by rw [h, decide_eq_true rfl]
theorem getD_in {α : Type} {l : List α} {i : Nat} {d : α} (h : i < l.length) : l.getD i d = l[i] := by
  rw [List.getD_eq_getElem?_getD, List.getElem?_eq_getElem h]; rfl
theorem getD_out {α : Type} {l : List α} {i : Nat} {d : α} (h : l.length ≤ i) : l.getD i d = d := by
  rw [List.getD_eq_getElem?_getD, List.getElem?_eq_none h]; rfl

theorem intsL_mem {lo : Int} {n : Nat} {x : Int} (h : x ∈ intsL lo n) : lo ≤ x ∧ x < lo + n := by
  unfold intsL at h
  obtain ⟨j, hj, rfl⟩ := List.mem_map.mp h
  have := List.mem_range.mp hj
  omega
/-! ### the clauses that the laws write -/
/-- of two exception classes of the text: what an except clause and isinstance say -/
structure RelC (K : PySem.W.Frag) (D C : Addr) (b : Bool) : Prop where
  ex : PySem.W.exmOne K (.ref D) (.ref C) = some b
  ki : PySem.W.kitOne K (.ref D) (.ref C) = some b
theorem ds_clause {X : Cx} {W : WX} {ρ : En} {P : Post} {a : Addr} {oe : Obj} {pn : List (Addr × Obj)} {D A B : Addr} {d : Option Addr} {x y z s1 s2 : Str} {k1 k2 : Nat} {i : Nat} {p1 p2 p3 p4 p5 p6 p7 p8 p9 p10 p11 p12 p13 p14 : Pos} (E : L2.ExcC X.K D) (hz : Zc (.ref D) d oe) (hd : d = none) (hv : ∃ vs, oe.data = .fields vs)
    (hm : X.mg "isinstance" = none) (hA : X.mg y = some (.ref A)) (hB : X.mg z = some (.ref B)) (rA : RelC X.K D A true) (rB : RelC X.K D B false) (hρ : ρ[i]? = some (.raw (.ref a))) (h : P.rt (.str s1))
    (hN : X.N[i]? = some x := by rfl) (hx : Vis X.env.scope x := by first | exact Or.inl rfl | exact Or.inr (Or.inl rfl) | exact Or.inr (Or.inr rfl))
    (hd1 : (x == ("__debug__" : Str)) = false := by decide) (hcd : (x == ("__classdict__" : Str)) = false := by decide) (hg : Gl X "isinstance" := by rfl) (hgy : Gl X y := by rfl) (hdy : (y == ("__debug__" : Str)) = false := by decide) (hgz : Gl X z := by rfl) (hdz : (z == ("__debug__" : Str)) = false := by decide)
    (e1 : starEach [.Name x p2, .Name y p3] X.env = (false, eval (.Name x p2) X.env) :: starEach [.Name y p3] X.env := by rfl) (e2 : starEach [.Name y p3] X.env = (false, eval (.Name y p3) X.env) :: starEach [] X.env := by rfl) (e3 : (backTo p4 (starEach [.Name y p3] X.env)).any (·.1) = false := by rfl)
    (e4 : starEach [.Name x p6, .Name z p7] X.env = (false, eval (.Name x p6) X.env) :: starEach [.Name z p7] X.env := by rfl) (e5 : starEach [.Name z p7] X.env = (false, eval (.Name z p7) X.env) :: starEach [] X.env := by rfl) (e6 : (backTo p8 (starEach [.Name z p7] X.env)).any (·.1) = false := by rfl) :
    DS (X.suite a ((a, oe) :: pn)) W ρ [.Return (some (.IfExp (.BoolOp .And [.Call (.Name "isinstance" p1) [.Name x p2, .Name y p3] [] p4, .UnaryOp .Not (.Call (.Name "isinstance" p5) [.Name x p6, .Name z p7] [] p8) p9] p10) (.Constant (.str s1) k1 p11) (.Constant (.str s2) k2 p12) p13)) p14] P := by
  subst hd
  have t1 := de_isE (p := p1) (p1 := p2) (p2 := p3) (pos := p4) (pn := pn) E hz hv hρ hm hA ⟨A, rfl⟩ rA.ki hN hx hd1 hcd hg hgy hdy e1 e2 e3
  have t2 := de_isE (p := p5) (p1 := p6) (p2 := p7) (pos := p8) (pn := pn) E hz hv hρ hm hB ⟨B, rfl⟩ rB.ki hN hx hd1 hcd hg hgz hdz e4 e5 e6
  exact ds_ret (de_ifT (k := true) (dt_w (dw_andT (dt_val t1) (dw_and1 (k := true) (dt_not (dt_val t2))))) de_str) h
theorem relC_mk {K : PySem.W.Frag} {D C : Addr} {b : Bool} (h1 : PySem.W.subIn K (.ref C) (.type "BaseException") = some true) (hd : PySem.W.hasDictIn K C = true) (ht : PySem.W.typeIn K (.ref C) = some (.type "type")) (h4 : PySem.W.subIn K (.ref D) (.ref C) = some b) (hn : b = true ∨ D ≠ C) : RelC K D C b := by
  have e := PySem.W.exm_ref (cls := .ref D) h1 hd ht h4
  refine ⟨e, ?_⟩
  unfold PySem.W.exmOne at e
  rw [if_pos (by rw [h1] <;> rfl)] at e
  unfold PySem.W.kitOne
  split
  · rename_i q
    have q : D = C := Value.ref.inj (eq_of_beq q)
    rcases hn with rfl | hn
    · rfl
    · exact absurd q hn
  · exact e
theorem cx_none {P : Program} {w : World} {outer : List Env} {H : Hp} {s : Shared} {u : Value} {s' : Shared} (h : L2.CX P w outer H s (fun _ _ _ => False) u s') : False := by
  obtain ⟨_, _, _, _, _, _, _, _, _, _, _, _, h⟩ := h
  exact h
end DD
namespace DD
open PySem PySem.Spec PyProof.Rows L2

/-! ### zip of lists and tuples in any mix (t: a tuple) -/
def SqX (K : PySem.W.Frag) (t : Bool) (H : Hp) (a : Addr) (xs : List V) : Prop := if t = true then SqT K H a xs else SqL K H a xs
def ItX (t : Bool) (h : Heap) (i a : Addr) (k : Nat) : Prop := if t = true then h.IsTupleIter i a k else h.IsListIter i a k
def IsX (t : Bool) (h : Heap) (a : Addr) (its : Array Value) : Prop := if t = true then h.IsTuple a its else h.IsList a its
theorem drawX {prog : Program} {w : World} {A : Around} (t : Bool) (hh : A.handled = none) (it l : Addr) (hne : l ≠ it) (items : Array Value) :
    Draws prog w A it [it, l] items.size (fun i v => items[i]? = some v) (fun i h => ItX t h it l i ∧ IsX t h l items) := by
  cases t with
  | true => exact Draws.tuple hh it l hne items
  | false => exact Draws.list hh it l hne items
theorem ItX.obj {t : Bool} {h : Heap} {i a : Addr} {k : Nat} (x : ItX t h i a k) : ∃ o, h.get? i = some o ∧ ∀ v, o.data ≠ .cell v := by
  cases t with
  | true =>
    obtain ⟨o, e, _, d⟩ := x
    exact ⟨o, e, fun v q => by rw [d] at q; cases q⟩
  | false =>
    obtain ⟨o, e, _, d⟩ := x
    exact ⟨o, e, fun v q => by rw [d] at q; cases q⟩
theorem ItX.at {t : Bool} {h h' : Heap} {i a : Addr} {k : Nat} (x : ItX t h i a k) (q : ∀ o, h.get? i = some o → h'.get? i = some o) : ItX t h' i a k := by
  cases t with
  | true => exact Heap.IsTupleIter.at x q
  | false => exact Heap.IsListIter.at x q
theorem invX {X : Cx} {pins : List (Addr × Obj)} {σ : L2.St} {H : Hp} {s : Shared} {t : Bool} {a : Addr} {xs : List V} (I : Inv X pins σ H s) (h : SqX X.K t H a xs) : ∃ its : List Value, Vals xs its ∧ IsX t s.heap a its.toArray ∧ a < s.heap.objs.size := by
  cases t with
  | true =>
    obtain ⟨its, rv, p, _⟩ := I.tuple h
    obtain ⟨o, ho, _⟩ := id p
    exact ⟨its, rv, p, Heap.lt_size ho⟩
  | false =>
    obtain ⟨its, rv, p, _⟩ := I.list h
    exact ⟨its, rv, p.isList, p.lt⟩
theorem injX {X : Cx} {pins : List (Addr × Obj)} {σ : L2.St} {H : Hp} {s : Shared} {t : Bool} {a : Addr} {xs ys : List V} (I : Inv X pins σ H s) (h : SqX X.K t H a xs) (h' : SqX X.K t H a ys) : xs = ys := by
  cases t with
  | true => exact I.tuple_inj h h'
  | false => exact I.list_inj h h'
/-- the two as they stand at each turn, the items in new pairs -/
def ItzX (K : PySem.W.Frag) (t u : Bool) (a b : Addr) : It :=
  ⟨fun i H => ∃ (xs ys : List V) (x y : V), SqX K t H a xs ∧ SqX K u H b ys ∧ xs[i]? = some x ∧ ys[i]? = some y,
    fun i H v H' => ∃ T x y, v = .ref T ∧ H T = none ∧ H' = upd H T (.tup [x, y]) ∧ (∀ xs, SqX K t H a xs → xs[i]? = some x) ∧ ∀ ys, SqX K u H b ys → ys[i]? = some y,
    fun i H => ∃ xs ys : List V, SqX K t H a xs ∧ SqX K u H b ys ∧ ((xs.length = i ∧ i ≤ ys.length) ∨ (ys.length = i ∧ i ≤ xs.length))⟩
theorem turn_zipX {P : Program} {w : World} {K : PySem.W.Frag} {elts : List Expr} {kk : Nat} {tpos : Pos} {t u : Bool} {a b z TI TO i1 i2 : Addr} (D : ZipSep2 z TI TO i1 i2 [i1, a] [i2, b]) (na : a ≠ i1) (nb : b ≠ i2) :
    Turn P w K (.Tuple elts kk tpos) (ItzX K t u a b) [z, TI, TO, i1, i2] z (fun i h => IsZip h z TI TO .none ∧ IsTupOf2 h TI (.ref i1) (.ref i2) ∧ (∃ x y, IsTupOf2 h TO x y) ∧ ItX t h i1 a i ∧ ItX u h i2 b i) where
  mem := by simp
  obj := fun i h st c hc => by
    obtain ⟨hz, hTI, ⟨x, y, hTO⟩, y1, y2⟩ := st
    have e' : c = z ∨ c = TI ∨ c = TO ∨ c = i1 ∨ c = i2 := by simpa using hc
    rcases e' with rfl | rfl | rfl | rfl | rfl
    · exact ⟨_, hz, fun v q => nomatch q⟩
    · exact ⟨_, hTI, fun v q => nomatch q⟩
    · exact ⟨_, hTO, fun v q => nomatch q⟩
    · exact y1.obj
    · exact y2.obj
  keep := fun i h h' st k => by
    obtain ⟨hz, hTI, ⟨x, y, hTO⟩, y1, y2⟩ := st
    exact ⟨k z (by simp) _ hz, k TI (by simp) _ hTI, ⟨x, y, k TO (by simp) _ hTO⟩, y1.at fun o q => k i1 (by simp) o q, y2.at fun o q => k i2 (by simp) o q⟩
  item := by
    intro X hP hw hK hc i pins s σ H E I hf st hg
    subst hP hw hK
    obtain ⟨hz, hTI, ⟨x0, y0, hTO⟩, y1, y2⟩ := st
    obtain ⟨xs, ys, x, y, hqx, hqy, hx, hy⟩ := hg
    obtain ⟨its, rv, p, _⟩ := invX I hqx
    obtain ⟨its2, rv2, p2, _⟩ := invX I hqy
    obtain ⟨v1, hu, ru⟩ := rv.get hx
    obtain ⟨v2, hu2, ru2⟩ := rv2.get hy
    have hh := I.ok.hd hc
    have hzl : z < s.heap.objs.size := Heap.lt_size hz
    have D1 := drawX (prog := X.prog) (w := X.w) (A := X.A.in1) t hh i1 a na its.toArray
    have D2 := drawX (prog := X.prog) (w := X.w) (A := X.A.in1) u hh i2 b nb its2.toArray
    refine wpAny_pyNext_zipD2_item D D1 D2 hz hTI hTO ⟨y1, p⟩ ⟨y2, p2⟩ (by have := (List.getElem?_eq_some_iff.mp hu).1; simpa using this) (by have := (List.getElem?_eq_some_iff.mp hu2).1; simpa using this) fun x1 x2 h' tk q1 q2 z' TO' s1' s2' hT hsz hk => ?_
    have e1 : x1 = v1 := by
      have : its[i]? = some x1 := by simpa using q1
      exact Option.some.inj (this.symm.trans hu)
    have e2 : x2 = v2 := by
      have : its2[i]? = some x2 := by simpa using q2
      exact Option.some.inj (this.symm.trans hu2)
    subst e1 e2
    refine ⟨_, rfl, wpAny_letOwnedTupleGo_zip (s := { s with heap := h', toks := tk }) z' fun h'' z'' sb => ?_⟩
    have hT2 : h''.get? s.heap.objs.size = some { cls := .type "tuple", data := .seq #[x1, x2] } := (sb.2 _ (Nat.ne_of_gt hzl)).trans hT
    have new : ObjOk X.prog X.w (upd H s.heap.objs.size (.tup [x, y])) h'' s.heap.objs.size (.tup [x, y]) :=
      ⟨by show 2 ≤ sizeLine; decide, [x1, x2], .cons ru (.cons ru2 .nil), ⟨_, hT2, rfl, _, rfl⟩⟩
    have I1 : Inv X pins σ (upd H s.heap.objs.size (.tup [x, y])) { s with heap := h'', toks := tk } :=
      I.turnedNew (t' := tk) (ch := [z, TI, TO, i1, i2]) (fun c o hb q => (sb.2 c (fun q' => hb (by simp [q']))).trans (hk c o (fun q' => hb (by simp [q'])) (fun q' => hb (by simp [q'])) (fun q' => hb (by simp [q'])) (fun q' => hb (by simp [q'])) q)) hf (Nat.le_refl _) new
    refine ⟨.ref s.heap.objs.size, _, I1, rfl, ⟨_, x, y, rfl, I.hok.fresh (Nat.le_refl _), rfl, fun l hl => by rw [injX I hl hqx]; exact hx, fun l hl => by rw [injX I hl hqy]; exact hy⟩, ⟨z'', ?_, ⟨x1, x2, ?_⟩, ?_, ?_⟩, fun c hcm => ?_⟩
    · exact (sb.2 _ D.TIz).trans (hk _ _ D.TIz D.TITO D.TIi1 D.TIi2 hTI)
    · exact (sb.2 _ D.TOz).trans TO'
    · exact s1'.1.at fun o q => (sb.2 _ (fun q' => D.zi1 q'.symm)).trans q
    · exact s2'.1.at fun o q => (sb.2 _ (fun q' => D.zi2 q'.symm)).trans q
    · have hlt : c < s.heap.objs.size := by
        have e' : c = z ∨ c = TI ∨ c = TO ∨ c = i1 ∨ c = i2 := by simpa using hcm
        rcases e' with rfl | rfl | rfl | rfl | rfl
        · exact hzl
        · exact Heap.lt_size hTI
        · exact Heap.lt_size hTO
        · obtain ⟨_, e1, _⟩ := y1.obj; exact Heap.lt_size e1
        · obtain ⟨_, e2, _⟩ := y2.obj; exact Heap.lt_size e2
      rw [upd_ne (Nat.ne_of_lt hlt)]
      exact (hf c hcm).1
  done := by
    intro X hP hw hK hc i pins s σ H E I hf st hg
    subst hP hw hK
    obtain ⟨hz, hTI, ⟨x0, y0, hTO⟩, y1, y2⟩ := st
    obtain ⟨xs, ys, hqx, hqy, hend⟩ := hg
    obtain ⟨its, rv, p, _⟩ := invX I hqx
    obtain ⟨its2, rv2, p2, _⟩ := invX I hqy
    have l1 := rv.length
    have l2 := rv2.length
    have hh := I.ok.hd hc
    have D1 := drawX (prog := X.prog) (w := X.w) (A := X.A.in1) t hh i1 a na its.toArray
    have D2 := drawX (prog := X.prog) (w := X.w) (A := X.A.in1) u hh i2 b nb its2.toArray
    have s1 : its.toArray.size = its.length := by simp
    have s2 : its2.toArray.size = its2.length := by simp
    exact wpAny_pyNext_zipD2_end D D1 D2 hz hTI hTO ⟨y1, p⟩ ⟨y2, p2⟩ (by omega) (by omega) (by omega) fun h' tk hk => ⟨rfl, I.turnedL (t' := tk) (ch := [z, TI, TO, i1, i2]) (fun c o hb q =>
      hk c o (fun q' => hb (by simp [q'])) (fun q' => hb (by simp [q'])) (fun q' => hb (by simp [q'])) (fun q' => hb (by simp [q'])) q) hf⟩
  self := fun A i s Q E st h => wpAny_pyIter_zip st.1 h
def iZipX (K : PySem.W.Frag) (ta : TA) : TI := fun σ H R => ta σ H fun vs H1 => ∃ t u a b xs ys, vs = [.ref a, .ref b] ∧ SqX K t H1 a xs ∧ SqX K u H1 b ys ∧ R (ItzX K t u a b) H1
theorem beginsX {t : Bool} {a : Addr} {its : Array Value} : ∃ o, Begins (.ref a) o (fun h => IsX t h a its) ∧ ∀ h i, h.get? i = some o → ItX t h i a 0 := by
  cases t with
  | true => exact ⟨_, begins_tuple a its, fun h i e => ⟨_, e, rfl, rfl⟩⟩
  | false => exact ⟨_, begins_list a its, fun h i e => ⟨_, e, rfl, rfl⟩⟩
theorem pi_zipX {X : Cx} {e e2 : Expr} {ta : TA} {p pos tpos : Pos} {elts : List Expr} {kk : Nat} (hg : Gl X "zip") (hm : X.mg "zip" = none) (ha : PA X [e, e2] ta)
    (hs : starEach [e, e2] X.env = (false, eval e X.env) :: starEach [e2] X.env := by rfl) (hpl : (backTo pos (starEach [e2] X.env)).any (·.1) = false := by rfl) :
    PI X (.Tuple elts kk tpos) (.Call (.Name "zip" p) [e, e2] [] pos) (iZipX X.K ta) := by
  refine ⟨fun pins s σ H R I h => ?_⟩
  refine Call_ (ld_blt I hg hm PyProof.Rows.boot_zip (PyProof.Rows.callWith_type1 (thn (ha.run pos pins s σ H _ I h) fun us s1 ⟨vs, H1, I1, r1, q1⟩ => ?_) hs hpl))
  obtain ⟨t, u, a, b, xs, ys, ex, hqx, hqy, q⟩ := q1
  subst ex
  cases r1 with
  | cons r rr =>
    cases rr with
    | cons r' rr =>
      cases rr
      cases r
      cases r'
      obtain ⟨its, rv, p1, la⟩ := invX I1 hqx
      obtain ⟨its2, rv2, p2, lb⟩ := invX I1 hqy
      obtain ⟨o1, B1, g1⟩ := beginsX (t := t) (a := a) (its := its.toArray)
      obtain ⟨o2, B2, g2⟩ := beginsX (t := u) (a := b) (its := its2.toArray)
      refine zip_begins2 B1 B2 p1 p2 fun h' hz hTI hTO h1 h2 hsz hk => wpAny_pyIter_zip hz ?_
      have I2 : Inv X pins σ H1 { s1 with heap := h' } := I1.kept (t' := s1.toks) hk
      refine ⟨s1.heap.objs.size + 4, [s1.heap.objs.size + 4, s1.heap.objs.size + 2, s1.heap.objs.size + 3, s1.heap.objs.size, s1.heap.objs.size + 1], _, _, H1, rfl, I2,
        turn_zipX (zip_sep2 (N := s1.heap.objs.size) (fp1 := [a]) (fp2 := [b]) (by intro c hc; rw [List.mem_singleton.mp hc]; exact la) (by intro c hc; rw [List.mem_singleton.mp hc]; exact lb)) (Nat.ne_of_lt la) (Nat.ne_of_lt (Nat.lt_succ_of_lt lb)), ⟨hz, hTI, ⟨_, _, hTO⟩, g1 _ _ h1, g2 _ _ h2⟩, fun c hcm => ?_, q⟩
      have e' : c = s1.heap.objs.size + 4 ∨ c = s1.heap.objs.size + 2 ∨ c = s1.heap.objs.size + 3 ∨ c = s1.heap.objs.size ∨ c = s1.heap.objs.size + 1 := by simpa using hcm
      have hle : s1.heap.objs.size ≤ c := by
        rcases e' with z | z | z | z | z
        · rw [z]; exact Nat.le_add_right _ _
        · rw [z]; exact Nat.le_add_right _ _
        · rw [z]; exact Nat.le_add_right _ _
        · rw [z]; exact Nat.le_refl _
        · rw [z]; exact Nat.le_add_right _ _
      exact I1.fpOk hle (I1.hok.fresh hle)
/-- a list or a tuple of data -/
inductive SeqD (G : Hp) : Bool → Addr → List V → Prop
  | l {a : Addr} {vs : List V} : G a = some (.lst vs) → SeqD G false a vs
  | t {a : Addr} {vs : List V} : G a = some (.tup vs) → SeqD G true a vs
theorem SeqD.up {G G' : Hp} {t : Bool} {a : Addr} {vs : List V} (s : Sub G G') : SeqD G t a vs → SeqD G' t a vs
  | .l h => .l (s _ _ h)
  | .t h => .t (s _ _ h)
theorem SeqD.x {K : PySem.W.Frag} {G : Hp} {t : Bool} {a : Addr} {vs : List V} : SeqD G t a vs → SqX K t G a vs
  | .l h => SqL.of h
  | .t h => SqT.of h
/-- the items of what is walked together -/
def pairD (xs ys : List PyData) : List PyData := List.zipWith (fun x y => .tuple [x, y]) xs ys
theorem src_zip {K : PySem.W.Frag} {G : Hp} {t u : Bool} {p q : Addr} {vs ws : List V} {ds es : List PyData} (h : SeqD G t p vs) (h' : SeqD G u q ws) (r : RpA G vs ds) (r' : RpA G ws es) : SrcOk (ItzX K t u p q) G (pairD ds es) where
  go := fun i G' H' s1 s2 hi => by
    have hl := r.length
    have hl' := r'.length
    have hi : i < min ds.length es.length := by simpa [pairD] using hi
    exact ⟨vs, ws, vs[i]'(by omega), ws[i]'(by omega), ((h.up s1).up s2).x, ((h'.up s1).up s2).x, List.getElem?_eq_getElem (by omega), List.getElem?_eq_getElem (by omega)⟩
  yld := fun i G' H' x H'' d s1 s2 hd y => by
    obtain ⟨T, x1, x2, rfl, hT, rfl, f1, f2⟩ := y
    have f1 := f1 _ ((h.up s1).up s2).x
    have f2 := f2 _ ((h'.up s1).up s2).x
    obtain ⟨d1, e1, r1⟩ := r.gets f1
    obtain ⟨d2, e2, r2⟩ := r'.gets f2
    have ed : d = .tuple [d1, d2] := by
      unfold pairD at hd
      rw [List.getElem?_zipWith, e1, e2] at hd
      exact (Option.some.inj hd).symm
    subst ed
    have e3 := Ext.new (o := .tup [x1, x2]) s2 hT
    exact ⟨_, e3, .tup upd_same (.cons ((r1.up s1).up e3.gg) (.cons ((r2.up s1).up e3.gg) .nil))⟩
  stop := fun i G' H' s1 s2 hi => by
    have hl := r.length
    have hl' := r'.length
    have hi : i = min ds.length es.length := by simpa [pairD] using hi
    exact ⟨vs, ws, ((h.up s1).up s2).x, ((h'.up s1).up s2).x, by omega⟩
/-- zip of two, each a list or a tuple -/
inductive SeqE (X : Cx) (ρ : En) (e : Expr) (ds : List PyData) : Prop
  | l (h : DE X ρ e (.list ds))
  | t (h : DE X ρ e (.tuple ds))
theorem SeqE.run {X : Cx} {ρ : En} {e : Expr} {ds : List PyData} (he : SeqE X ρ e ds) {H₀ G H : Hp} {σ : L2.St} {Q : VK} (S : Sat H₀ G H σ ρ)
    (q : ∀ t p vs G' H', Ext G H G' H' → SeqD G' t p vs → RpA G' vs ds → Q (.ref p) H') : tD X e σ H Q := by
  cases he with
  | l h =>
    refine h H₀ G H σ _ S fun v G1 H1 e1 r1 => ?_
    cases r1 with
    | lst h1 h2 => exact q _ _ _ _ _ e1 (.l h1) h2
  | t h =>
    refine h H₀ G H σ _ S fun v G1 H1 e1 r1 => ?_
    cases r1 with
    | tup h1 h2 => exact q _ _ _ _ _ e1 (.t h1) h2
theorem di_zip {X : Cx} {ρ : En} {a b : Expr} {d1 d2 : List PyData} {p pos tpos : Pos} {elts : List Expr} {kk : Nat} (ha : SeqE X ρ a d1) (hb : SeqE X ρ b d2) (hm : X.mg "zip" = none) (hg : Gl X "zip" := by rfl)
    (hs : starEach [a, b] X.env = (false, eval a X.env) :: starEach [b] X.env := by rfl) (hs2 : starEach [b] X.env = (false, eval b X.env) :: starEach [] X.env := by rfl) (hpl : (backTo pos (starEach [b] X.env)).any (·.1) = false := by rfl) :
    DI X ρ (.Tuple elts kk tpos) (.Call (.Name "zip" p) [a, b] [] pos) (pairD d1 d2) :=
  di_of (pi_zipX hg hm (pa_cons pe_D (pa_cons pe_D pa_nil hs2) hs) hs hpl) fun H₀ G H σ R S q => by
    refine ha.run S fun t p1 vs G1 H1 e1 h1 r1 => ?_
    refine hb.run (S.up e1) fun u p2 ws G2 H2 e2 h2 r2 => ?_
    exact ⟨t, u, p1, p2, vs, ws, rfl, ((h1.up e2.gg).up e2.gh).x, (h2.up e2.gh).x, q _ _ _ (e1.trans e2) (src_zip (h1.up e2.gg) h2 (r1.up e2.gg) r2)⟩
theorem pairD_map {T U : Type} {f : T → PyData} {g : U → PyData} (xs : List T) (ys : List U) : pairD (xs.map f) (ys.map g) = (xs.zip ys).map fun z => .tuple [f z.1, g z.2] := by
  unfold pairD
  rw [List.zipWith_map, List.zip, List.map_zipWith]
/-! ### enumerate(list) -/
def enumD (ds : List PyData) : List PyData := List.zipWith (fun (i : Nat) (d : PyData) => PyData.tuple [.int (i : Int), d]) (List.range ds.length) ds
theorem enumD_map {T : Type} {f : T → PyData} (xs : List T) : enumD (xs.map f) = ((List.range xs.length).zip xs).map fun z => PyData.tuple [.int (z.1 : Int), f z.2] := by
  unfold enumD
  rw [List.length_map, List.zip, List.map_zipWith, List.zipWith_map_right]
theorem src_enum {K : PySem.W.Frag} {G : Hp} {p : Addr} {vs : List V} {ds : List PyData} (h : G p = some (.lst vs)) (r : RpA G vs ds) : SrcOk (Ite K p) G (enumD ds) where
  go := fun i G' H' s1 s2 hi => by
    have hl := r.length
    have hi : i < ds.length := by simpa [enumD] using hi
    exact ⟨vs, vs[i]'(by omega), .of (s2 _ _ (s1 _ _ h)), List.getElem?_eq_getElem (by omega)⟩
  yld := fun i G' H' x H'' d s1 s2 hd y => by
    obtain ⟨T, x1, rfl, hT, rfl, f1⟩ := y
    have f1 := f1 _ (.of (s2 _ _ (s1 _ _ h)))
    obtain ⟨d1, e1, r1⟩ := r.gets f1
    have ed : d = .tuple [.int (i : Int), d1] := by
      unfold enumD at hd
      have hl : i < ds.length := (List.getElem?_eq_some_iff.mp e1).1
      rw [List.getElem?_zipWith, e1, List.getElem?_range hl] at hd
      exact (Option.some.inj hd).symm
    subst ed
    have e3 := Ext.new (o := .tup [.int (i : Nat), x1]) s2 hT
    exact ⟨_, e3, .tup upd_same (.cons (.int _) (.cons ((r1.up s1).up e3.gg) .nil))⟩
  stop := fun i G' H' s1 s2 hi => by
    have hl := r.length
    have hi : i = ds.length := by simpa [enumD] using hi
    exact ⟨vs, .of (s2 _ _ (s1 _ _ h)), by omega⟩
theorem di_enumL {X : Cx} {ρ : En} {a : Expr} {ds : List PyData} {p pos tpos : Pos} {elts : List Expr} {kk : Nat} (ha : DE X ρ a (.list ds)) (hm : X.mg "enumerate" = none) (hg : Gl X "enumerate" := by rfl)
    (hs : starEach [a] X.env = (false, eval a X.env) :: starEach [] X.env := by rfl) : DI X ρ (.Tuple elts kk tpos) (.Call (.Name "enumerate" p) [a] [] pos) (enumD ds) :=
  di_of (pi_enum hg hm (pa_cons pe_D pa_nil hs) hs) fun H₀ G H σ R S q => ha H₀ G H σ _ S fun v G1 H1 e1 r1 => by
    cases r1 with
    | lst h1 h2 => exact ⟨_, _, rfl, .of (e1.gh _ _ h1), q _ _ _ e1 (src_enum h1 h2)⟩
/-! ### small rules -/
theorem de_notT {X : Cx} {ρ : En} {a : Expr} {d : PyData} {pos : Pos} (h : DE X ρ a d) (hs : ∀ s, d = .str s → s.length ≤ sizeLine := by intro s h; cases h) : DE X ρ (.UnaryOp .Not a pos) (.bool (!truD d)) :=
  de_of (pe_notT pe_D) fun H₀ G H σ Q S q => h H₀ G H σ _ S fun v G1 H1 e1 r1 => by
    refine ⟨truD d, ?_, (q.back e1).of e1.gh (.bl _)⟩
    cases r1 with
    | non => exact rfl
    | bl b => exact rfl
    | int i => exact rfl
    | str s => exact ⟨hs s rfl, rfl⟩
    | lst h1 h2 => exact .inl ⟨_, .of (e1.gh _ _ h1), by rw [isEmpty_rp h2]; rfl⟩
    | tup h1 h2 => exact .inr (.inl ⟨_, .of (e1.gh _ _ h1), by rw [isEmpty_rp h2]; rfl⟩)
/-- a list or a tuple of these -/
inductive IsSeq : PyData → List PyData → Prop
  | l (ds : List PyData) : IsSeq (.list ds) ds
  | t (ds : List PyData) : IsSeq (.tuple ds) ds
theorem SeqE.of {X : Cx} {ρ : En} {e : Expr} {d : PyData} {ds : List PyData} (h : DE X ρ e d) (q : IsSeq d ds) : SeqE X ρ e ds := by
  cases q with
  | l => exact .l h
  | t => exact .t h
theorem di_seq {X : Cx} {ρ : En} {tg e : Expr} {d : PyData} {ds : List PyData} (h : DE X ρ e d) (q : IsSeq d ds) : DI X ρ tg e ds := by
  cases q with
  | l => exact di_list h
  | t => exact di_tup h
theorem de_ixS2 {X : Cx} {ρ : En} {a b : Expr} {d z : PyData} {ds : List PyData} {i : Int} {pos : Pos} (ha : DE X ρ a d) (q : IsSeq d ds) (hb : DE X ρ b (.int i)) (h : atI ds i = some z) (hs : PlainIx b := by exact fun _ _ => rfl) : DE X ρ (.Subscript a b pos) z := by
  cases q with
  | l => exact de_ixL ha hb h hs
  | t => exact de_ixT ha hb h hs
end DD
namespace DD
open PySem PySem.Spec PyProof.Rows L2

/-! ### data as keys of a dict -/
section
variable {X : Cx} {pins : List (Addr × Obj)} {σ : L2.St} {G H : Hp} {s : Shared}
mutual
theorem rp_key (I : Inv X pins σ H s) (sub : Sub G H) : ∀ (k : NestedKey) {v : V} {u : Value}, Rp G v k.data → RelV v u → NestedIs s.heap k u
  | .none, v, u, r, q => by
    cases r
    have q : u = .none := q
    subst q
    exact .none
  | .num i, v, u, r, q => by
    cases r
    obtain ⟨t, rfl⟩ := q
    exact .int _ _
  | .text x, v, u, r, q => by
    cases r
    obtain ⟨t, rfl⟩ := q
    exact .text _ _
  | .tup ks, v, u, r, q => by
    have r : Rp G v (.tuple (NestedKey.datas ks)) := r
    cases r with
    | tup h1 h2 =>
      cases q
      obtain ⟨z, its, rv, o, ho, hc, n, hd⟩ := (show ObjOk X.prog X.w H s.heap _ (.tup _) from I.hok _ _ (sub _ _ h1))
      exact .tup ho hc hd (by simpa using rp_keys I sub ks h2 rv)
theorem rp_keys (I : Inv X pins σ H s) (sub : Sub G H) : ∀ (ks : List NestedKey) {vs : List V} {us : List Value}, RpA G vs (NestedKey.datas ks) → Vals vs us → NestedAll s.heap ks us
  | [], vs, us, r, q => by
    have r : RpA G vs [] := r
    cases r
    cases q
    exact .nil
  | k :: ks, vs, us, r, q => by
    have r : RpA G vs (k.data :: NestedKey.datas ks) := r
    cases r with
    | cons r1 r2 =>
      cases q with
      | cons q1 q2 => exact .cons (rp_key I sub k r1 q1) (rp_keys I sub ks r2 q2)
end
end

theorem paired_mono {α β : Type} {R S : α → β → Prop} {xs : List α} {ys : List β} (r : Paired R xs ys) (h : ∀ a b, R a b → S a b) : Paired S xs ys := by
  induction r with
  | nil => exact .nil
  | cons q t ih => exact .cons (h _ _ q) ih
/-! ### a dict with such keys, one's own -/
abbrev Dx := List (NestedKey × Addr × V)
abbrev Dy := List (NestedKey × Addr × Value)
def DRel (x : NestedKey × Addr × V) (y : NestedKey × Addr × Value) : Prop := x.1 = y.1 ∧ x.2.1 = y.2.1 ∧ RelV x.2.2 y.2.2
def DcOk (P : Program) (w : World) (p : Addr) (xs : Dx) (h : Heap) : Prop :=
  xs.length ≤ sizeLine ∧ (p == sysModules) = false ∧ ∃ ys : Dy, Paired DRel xs ys ∧ ∃ o es ep, h.get? p = some o ∧ o.ExactDict ∧ o.data = .dict es ep ∧ es.toList = ys.map (entryOfKey (nestedKind P w)) ∧ (ys.map (·.1)).Nodup
def DcO (P : Program) (w : World) (p : Addr) (xs : Dx) : HO := .ext (DcOk P w p xs)
theorem dcO_ok {P : Program} {w : World} {p : Addr} {xs : Dx} {H : Hp} {h : Heap} (R : DcOk P w p xs h) : ObjOk P w H h p (DcO P w p xs) := by
  refine ⟨R, ?_, fun h1 h2 R k => ?_⟩
  · obtain ⟨_, _, _, _, o, _, _, e, _⟩ := R; exact ⟨o, e⟩
  · obtain ⟨a, b, ys, c, o, es, ep, e, r⟩ := R
    exact ⟨a, b, ys, c, o, es, ep, k o e, r⟩
/-- what the data says of the dict's entries -/
def DKv (G : Hp) (x : NestedKey × Addr × V) (kv : NestedKey × PyData) : Prop := x.1 = kv.1 ∧ x.1.depth ≤ 8 ∧ Rp G (.ref x.2.1) x.1.data ∧ Rp G x.2.2 kv.2
def DcS (P : Program) (w : World) (kvs : List (NestedKey × PyData)) (G : Hp) (p : Addr) (o : HO) : Prop := ∃ xs, o = DcO P w p xs ∧ Paired (DKv G) xs kvs
def SV.dct (P : Program) (w : World) (kvs : List (NestedKey × PyData)) : SV := .obj (DcS P w kvs) fun G G' p o s ⟨xs, e, r⟩ => ⟨xs, e, paired_mono r fun a b ⟨h1, h2, h3, h4⟩ => ⟨h1, h2, h3.up s, h4.up s⟩⟩
/-- key → value, the newest value at the first place of the key -/
def putD (kvs : List (NestedKey × PyData)) (k : NestedKey) (d : PyData) : List (NestedKey × PyData) :=
  if kvs.any (fun kv => decide (kv.1 = k)) then kvs.map (fun kv => if kv.1 = k then (kv.1, d) else kv) else kvs ++ [(k, d)]
def putX (xs : Dx) (k : NestedKey) (a : Addr) (v : V) : Dx :=
  if xs.any (fun x => decide (x.1 = k)) then xs.map (fun x => if x.1 = k then (x.1, x.2.1, v) else x) else xs ++ [(k, a, v)]
def lookD (kvs : List (NestedKey × PyData)) (k : NestedKey) : Option PyData := (kvs.find? fun kv => decide (kv.1 = k)).map (·.2)
theorem drel_any {xs : Dx} {ys : Dy} (r : Paired DRel xs ys) (k : NestedKey) : xs.any (fun x => decide (x.1 = k)) = (atKey ys k).isSome := by
  induction r with
  | nil => rfl
  | @cons x y xs ys h t ih =>
    obtain ⟨e, _⟩ := h
    unfold atKey at ih ⊢
    rw [List.any_cons, List.find?_cons, e, ih]
    by_cases q : y.1 = k
    · simp [q]
    · simp [q]
theorem dkv_any {G : Hp} {xs : Dx} {kvs : List (NestedKey × PyData)} (r : Paired (DKv G) xs kvs) (k : NestedKey) : xs.any (fun x => decide (x.1 = k)) = kvs.any (fun x => decide (x.1 = k)) := by
  induction r with
  | nil => rfl
  | cons h t ih => rw [List.any_cons, List.any_cons, h.1, ih]
theorem paired_map {α β α' β' : Type} {R : α → β → Prop} {S : α' → β' → Prop} {f : α → α'} {g : β → β'} {xs : List α} {ys : List β} (r : Paired R xs ys) (h : ∀ a b, R a b → S (f a) (g b)) : Paired S (xs.map f) (ys.map g) := by
  induction r with
  | nil => exact .nil
  | cons q t ih => exact .cons (h _ _ q) ih
theorem paired_snoc {α β : Type} {R : α → β → Prop} {xs : List α} {ys : List β} {a : α} {b : β} (r : Paired R xs ys) (h : R a b) : Paired R (xs ++ [a]) (ys ++ [b]) := by
  induction r with
  | nil => exact .cons h .nil
  | cons q t ih => exact .cons q ih
theorem paired_len {α β : Type} {R : α → β → Prop} {xs : List α} {ys : List β} (r : Paired R xs ys) : xs.length = ys.length := by
  induction r with
  | nil => rfl
  | cons q t ih => rw [List.length_cons, List.length_cons, ih]
theorem drel_put {xs : Dx} {ys : Dy} (r : Paired DRel xs ys) (k : NestedKey) (a : Addr) {v : V} {u : Value} (q : RelV v u) : Paired DRel (putX xs k a v) (storedH ys k a u) := by
  unfold putX storedH
  rw [drel_any r k]
  split
  · refine paired_map r fun x y h => ?_
    obtain ⟨h1, h2, h3⟩ := h
    unfold putAt
    rw [h1]
    split
    · exact ⟨rfl, h2, q⟩
    · exact ⟨h1, h2, h3⟩
  · exact paired_snoc r ⟨rfl, rfl, q⟩
theorem dkv_put {G : Hp} {xs : Dx} {kvs : List (NestedKey × PyData)} (r : Paired (DKv G) xs kvs) {k : NestedKey} {a : Addr} {v : V} {d : PyData} (hk : k.depth ≤ 8) (ra : Rp G (.ref a) k.data) (rv : Rp G v d) : Paired (DKv G) (putX xs k a v) (putD kvs k d) := by
  unfold putX putD
  rw [dkv_any r k]
  split
  · refine paired_map r fun x y h => ?_
    obtain ⟨h1, h2, h3, h4⟩ := h
    rw [← h1]
    split
    · exact ⟨rfl, h2, h3, rv⟩
    · exact ⟨h1, h2, h3, h4⟩
  · exact paired_snoc r ⟨rfl, hk, ra, rv⟩
section
variable {X : Cx} {W : WX} {ρ : En} {P : Post} {rest : List Stmt} {e a : Expr} {d : PyData} {pos : Pos}
theorem dc_get {pins : List (Addr × Obj)} {σ : L2.St} {G H : Hp} {s : Shared} {p : Addr} {xs : Dx} {kvs : List (NestedKey × PyData)} (I : Inv X pins σ H s) (sub : Sub G H) (hp : H p = some (DcO X.prog X.w p xs)) (r : Paired (DKv G) xs kvs) :
    xs.length ≤ sizeLine ∧ (p == sysModules) = false ∧ ∃ ys : Dy, Paired DRel xs ys ∧ s.heap.DictOfH (nestedKind X.prog X.w) p ys := by
  obtain ⟨z, lo, ys, rel, o, es, ep, h1, h2, h3, h4, h5⟩ : DcOk X.prog X.w p xs s.heap := (show ObjOk X.prog X.w H s.heap p (DcO X.prog X.w p xs) from I.hok p _ hp).1
  refine ⟨z, lo, ys, rel, o, es, ep, h1, h2, h3, h4, ?_, h5⟩
  clear h1 h2 h3 h4 h5 hp z
  induction rel generalizing kvs with
  | nil => intro x hx; cases hx
  | cons q t ih =>
    cases r with
    | cons r1 r2 =>
      intro x hx
      rcases List.mem_cons.mp hx with e | e
      · subst e
        obtain ⟨q1, q2, _⟩ := q
        obtain ⟨_, w2, w3, _⟩ := r1
        rw [← q1, ← q2]
        exact ⟨rp_key I sub _ w3 rfl, w2⟩
      · exact ih r2 x e
/-- name = {} -/
theorem ds_dct0 (i : Nat) {x : Str} {p2 p3 : Pos} (h : DS X W (ρ.set i (SV.dct X.prog X.w [])) rest P) (hN : X.N.Nodup) (hi : X.N[i]? = some x := by rfl) (hx : Loc X.env.scope x := by first | exact Or.inl rfl | exact Or.inr rfl)
    (hs : swapsWith (.Dict [] [] p3) (some (.Name x p2)) pos.line X.env = pure false := by rfl) (hf : X.fn x = true ∨ X.env.scope.names.lookup x = some .local := by first | exact .inl rfl | exact .inr rfl) :
    DS X W ρ (.Assign [.Name x p2] (.Dict [] [] p3) pos :: rest) P := by
  have pe : PE X (.Dict [] [] p3) (fun _ H Q => ∀ p, H p = none → Q (.ref p) (upd H p (DcO X.prog X.w p []))) := ⟨fun pins s σ H Q I h =>
    wpAny_Dict_empty ⟨.ref s.heap.objs.size, _, I.laid (a := s.heap.objs.size) (o := DcO X.prog X.w s.heap.objs.size []) (t' := s.toks) (fun _ _ q => Heap.get?_push_of_some _ q) (Nat.le_refl _)
      (dcO_ok ⟨Nat.zero_le _, beq_eq_false_iff_ne.mpr (Ne.symm (Nat.ne_of_lt I.big)), [], .nil, _, #[], 0, Heap.get?_push_size _ rfl, ⟨rfl, rfl, rfl⟩, rfl, rfl, List.nodup_nil⟩), rfl, h _ (I.hok.fresh (Nat.le_refl _))⟩⟩
  refine ds_cons (ps_set hN hi hx pe hs hf) fun H₀ G₀ G H σ D E S p => fun q hq => ?_
  have gq : G q = none := free_back S.sub hq
  have hh : Sub H (upd H q (DcO X.prog X.w q [])) := fun b u e => by rw [upd_ne (ne_of_none e hq)]; exact e
  have S1 : Sat H₀ G (upd H q (DcO X.prog X.w q [])) σ ρ := S.up ⟨.refl _, hh, S.sub.trans hh, fun a o z => .inl z⟩
  have E1 : Ext G₀ H₀ G (upd H q (DcO X.prog X.w q [])) := E.step ⟨.refl _, hh, S.sub.trans hh, fun a o z => .inl z⟩
  refine h H₀ G₀ G _ _ D E1 (S1.set ⟨q, _, rfl, free_back E.hh hq, gq, upd_same, [], rfl, .nil⟩ fun _ j t hj ht ho => S.fresh hq ht ho) p
/-- name[key] = value -/
theorem set_dct : PSet X (fun o i v H Q => ∃ p b xs k kvs G, o = .ref p ∧ i = .ref b ∧ H p = some (DcO X.prog X.w p xs) ∧ Sub G H ∧ Paired (DKv G) xs kvs ∧ k.depth ≤ 8 ∧ Rp G (.ref b) (NestedKey.data k) ∧ xs.length < sizeLine ∧ X.A.units + 64 < cLine ∧ Q (upd H p (DcO X.prog X.w p (putX xs k b v)))) := by
  intro pins s σ H o i v ov iv u Q I ro ri rv h
  obtain ⟨p, b, xs, k, kvs, G, rfl, rfl, hp, sub, r, hd, rb, hz, hu, q⟩ := h
  cases ro
  cases ri
  obtain ⟨z, lo, ys, rel, dd⟩ := dc_get I sub hp r
  have hlen := paired_len rel
  refine wpAny_setItem_heap (knd := nestedKind X.prog X.w) (k := k) (by show X.A.in1.units + 8 < cLine; show X.A.units + 1 + 8 < cLine; omega) ⟨rp_key I sub k rb rfl, hd⟩ dd (fun h' hd' hs => ?_) (by omega)
  have rel2 := drel_put rel k b rv
  refine ⟨_, I.write (e := p) (t' := _) (by rw [hp]; trivial) (.inl rfl) (fun c o hc e => (hs.2 c hc).trans e) ?_ (dcO_ok ?_), q⟩
  · obtain ⟨o, _, _, e, _⟩ := hd'; exact ⟨o, e⟩
  · obtain ⟨o, es, ep, e1, e2, e3, e4, _, e6⟩ := hd'
    refine ⟨?_, lo, _, rel2, o, es, ep, e1, e2, e3, e4, e6⟩
    unfold putX
    split
    · rw [List.length_map]; omega
    · rw [List.length_append, List.length_singleton]; omega
theorem ds_dctSet (i : Nat) {x : Str} {p2 p3 : Pos} {kvs : List (NestedKey × PyData)} {k : NestedKey} (hρ : ρ[i]? = some (SV.dct X.prog X.w kvs)) (he : DE X ρ e d) (hi : DE X ρ a k.data) (ht : ∃ ks, k = .tup ks) (hk : k.depth ≤ 8) (hz : kvs.length < sizeLine) (hu : X.A.units + 64 < cLine)
    (h : DS X W (ρ.set i (SV.dct X.prog X.w (putD kvs k d))) rest P) (hN : X.N[i]? = some x := by rfl)
    (hv : Vis X.env.scope x := by first | exact Or.inl rfl | exact Or.inr (Or.inl rfl) | exact Or.inr (Or.inr rfl)) (hd : (x == ("__debug__" : Str)) = false := by decide) (hcd : (x == ("__classdict__" : Str)) = false := by decide)
    (ha : ∀ v, assign (.Subscript (.Name x p2) a p3) X.env v = (do
      let ov ← holding [v] (eval (.Name x p2) X.env)
      let iv ← holding [v, ov] (eval a X.env)
      standAt p3
      holding [v, ov, iv] (setItem ov iv v)
      release [v, ov, iv] []) := by intro _; rfl)
    (hs : swapsWithSole [.Subscript (.Name x p2) a p3] e pos.line X.env = pure false := by rfl) (hw : swappedStores [.Subscript (.Name x p2) a p3] e X.env = pure none := by rfl)
    (h1 : (assignEach [.Subscript (.Name x p2) a p3] X.env).map (·.2) = [assign (.Subscript (.Name x p2) a p3) X.env] := by rfl) : DS X W ρ (.Assign [.Subscript (.Name x p2) a p3] e pos :: rest) P :=
  ds_cons (ps_asg pe_D (pg_sub (pe_var hN hv hd hcd) pe_D set_dct ha) hs hw h1) fun H₀ G₀ G H σ D E S p => by
    obtain ⟨q, o, e1, h0, hg, hh, xs, rfl, r⟩ := S.slot i _ hρ
    refine he H₀ G H σ _ S fun v G1 H1 ex r1 => ⟨_, e1, hi H₀ G1 H1 σ _ (S.up ex) fun u G2 H2 ex2 r2 => ?_⟩
    have e12 := ex.trans ex2
    have rr : Paired (DKv G2) xs kvs := paired_mono r fun a b ⟨h1, h2, h3, h4⟩ => ⟨h1, h2, h3.up e12.gg, h4.up e12.gg⟩
    have hlen := paired_len r
    obtain ⟨ks, rfl⟩ := ht
    obtain ⟨b, rfl⟩ : ∃ b, u = .ref b := by
      have r2 : Rp G2 u (.tuple (NestedKey.datas ks)) := r2
      cases r2 with
      | tup h1 h2 => exact ⟨_, rfl⟩
    refine ⟨q, b, xs, _, kvs, G2, rfl, rfl, e12.hh _ _ hh, e12.gh, rr, hk, r2, by omega, hu, ?_⟩
    obtain ⟨S2, k0, kg⟩ := (S.up e12).mutO (o' := DcO X.prog X.w q (putX xs (.tup ks) b v)) (φ' := DcS X.prog X.w (putD kvs (.tup ks) d)) (m' := fun G G' p o s ⟨xs, e, r⟩ => ⟨xs, e, paired_mono r fun a b ⟨h1, h2, h3, h4⟩ => ⟨h1, h2, h3.up s, h4.up s⟩⟩) hρ e1 ⟨_, rfl, dkv_put rr hk r2 (r1.up ex2.gg)⟩
    exact h H₀ G₀ G2 _ σ D ((E.step e12).mut k0 kg) S2 p
end
end DD
namespace DD
open PySem PySem.Spec PyProof.Rows L2

/-! ### data read in the heap -/
section
variable {X : Cx} {pins : List (Addr × Obj)} {σ : L2.St} {G H : Hp} {s : Shared} {h' : Heap}
mutual
theorem rp_reads (I : Inv X pins σ H s) (sub : Sub G H) (k : ∀ b o, s.heap.get? b = some o → h'.get? b = some o) : ∀ {d : PyData} {v : V} {u : Value}, Rp G v d → RelV v u → ∃ as, Reads h' u d as
  | _, _, u, .non, q => by
    have q : u = .none := q
    subst q
    exact ⟨_, .none⟩
  | _, _, u, .bl b, q => by
    have q : u = .bool b := q
    subst q
    exact ⟨_, .bool _⟩
  | _, _, u, .int i, q => by
    obtain ⟨t, rfl⟩ := q
    exact ⟨_, .int _ _⟩
  | _, _, u, .str x, q => by
    obtain ⟨t, rfl⟩ := q
    exact ⟨_, .str _ _⟩
  | _, _, u, .lst h1 h2, q => by
    cases q
    obtain ⟨z, its, n, rv, e⟩ := (show ObjOk X.prog X.w H s.heap _ (.lst _) from I.hok _ _ (sub _ _ h1))
    obtain ⟨as, ra⟩ := rp_readsAll I sub k h2 rv
    exact ⟨_, .list (k _ _ e) rfl rfl (by simpa using ra)⟩
  | _, _, u, .tup h1 h2, q => by
    cases q
    obtain ⟨z, its, rv, o, ho, hc, n, hd⟩ := (show ObjOk X.prog X.w H s.heap _ (.tup _) from I.hok _ _ (sub _ _ h1))
    obtain ⟨as, ra⟩ := rp_readsAll I sub k h2 rv
    exact ⟨_, .tuple (k _ _ ho) hc hd (by simpa using ra)⟩
theorem rp_readsAll (I : Inv X pins σ H s) (sub : Sub G H) (k : ∀ b o, s.heap.get? b = some o → h'.get? b = some o) : ∀ {ds : List PyData} {vs : List V} {us : List Value}, RpA G vs ds → Vals vs us → ∃ as, ReadsAll h' us ds as
  | _, _, us, .nil, q => by
    cases q
    exact ⟨_, .nil⟩
  | _, _, us, .cons r1 r2, q => by
    cases q with
    | cons q1 q2 =>
      obtain ⟨as, h1⟩ := rp_reads I sub k r1 q1
      obtain ⟨bs, h2⟩ := rp_readsAll I sub k r2 q2
      exact ⟨_, .cons h1 h2⟩
end
end

/-! ### the order of data -/
theorem swo_data {α : Type} (f : α → PyData) : SrtO.Swo fun x y => PySem.W.dataLt (f x) (f y) := by
  refine ⟨fun x y h => ?_, fun x y z h1 h2 => ?_⟩
  · rcases SrtO.bcase (PySem.W.dataLt (f y) (f x)) with q | q
    · have := lex_trans (O := itemOrd) _ _ _ h q
      rw [lex_irrefl] at this
      cases this
    · exact q
  · rcases SrtO.bcase (PySem.W.dataLt (f z) (f x)) with q | q
    · rcases lex_negTrans (O := itemOrd) _ (PySem.W.keyToks (f y)) _ q with a | a
      · have h2 : lexLt itemOrd (PySem.W.keyToks (f z)) (PySem.W.keyToks (f y)) = false := h2
        rw [h2] at a; cases a
      · have h1 : lexLt itemOrd (PySem.W.keyToks (f y)) (PySem.W.keyToks (f x)) = false := h1
        rw [h1] at a; cases a
    · exact q
theorem data_total {x y : PyData} (ha : PySem.W.alike x y = true) (h1 : PySem.W.dataLt x y = false) (h2 : PySem.W.dataLt y x = false) : PyData.eqv x y = true := by
  have e := lex_total (O := itemOrd) _ _ h1 h2
  rcases SrtO.bcase (PyData.eqv x y) with q | q
  · exact q
  · have h := (PySem.W.toks_eqv x y ha).2 q [] [.inl 0]
    rw [e, List.append_nil, lex_irrefl] at h
    have h3 : ∀ l : List (Int ⊕ List Nat), lexLt itemOrd l (l ++ [.inl 0]) = true := fun l => by
      have := PySem.W.lex_pre l [] [.inl 0]
      rw [List.append_nil] at this
      rw [this]
      rfl
    rw [h3] at h
    cases h
mutual
theorem key_eqv : ∀ (a b : NestedKey), PyData.eqv a.data b.data = true → a = b
  | .none, b, h => by cases b <;> first | rfl | (simp [NestedKey.data, PyData.eqv] at h)
  | .num i, b, h => by
    cases b with
    | num j => simp [NestedKey.data, PyData.eqv] at h; rw [h]
    | _ => simp [NestedKey.data, PyData.eqv] at h
  | .text x, b, h => by
    cases b with
    | text y => simp [NestedKey.data, PyData.eqv] at h; rw [h]
    | _ => simp [NestedKey.data, PyData.eqv] at h
  | .tup ks, b, h => by
    cases b with
    | tup ls =>
      have h : PyData.eqvAll (NestedKey.datas ks) (NestedKey.datas ls) = true := by simpa [NestedKey.data, PyData.eqv] using h
      rw [keys_eqv ks ls h]
    | _ => simp [NestedKey.data, PyData.eqv] at h
theorem keys_eqv : ∀ (as bs : List NestedKey), PyData.eqvAll (NestedKey.datas as) (NestedKey.datas bs) = true → as = bs
  | [], [], _ => rfl
  | [], b :: bs, h => by simp [NestedKey.datas, PyData.eqvAll] at h
  | a :: as, [], h => by simp [NestedKey.datas, PyData.eqvAll] at h
  | a :: as, b :: bs, h => by
    simp [NestedKey.datas, PyData.eqvAll] at h
    rw [key_eqv a b h.1, keys_eqv as bs h.2]
end
theorem key_total {a b : NestedKey} (ha : PySem.W.alike a.data b.data = true) (h1 : PySem.W.dataLt a.data b.data = false) (h2 : PySem.W.dataLt b.data a.data = false) : a = b := key_eqv a b (data_total ha h1 h2)
/-- two sorted rearrangements without ties are one -/
theorem sorted_uniq {α : Type} {lt : α → α → Bool} : ∀ {l m : List α}, (∀ x ∈ l, ∀ y ∈ l, lt x y = false → lt y x = false → x = y) → l.Pairwise (fun x y => lt y x = false) → m.Pairwise (fun x y => lt y x = false) → l.Perm m → l = m
  | [], m, _, _, _, h => (List.Perm.eq_nil h.symm).symm
  | x :: l, [], _, _, _, h => absurd h.length_eq (by simp)
  | x :: l, y :: m, ht, hl, hm, h => by
    have hym : y ∈ x :: l := h.mem_iff.mpr List.mem_cons_self
    have hxm : x ∈ y :: m := h.mem_iff.mp List.mem_cons_self
    have e : x = y := by
      rcases List.mem_cons.mp hym with e | hy
      · exact e.symm
      · rcases List.mem_cons.mp hxm with e | hx
        · exact e
        · exact ht x List.mem_cons_self y hym ((List.pairwise_cons.mp hm).1 x hx) ((List.pairwise_cons.mp hl).1 y hy)
    subst e
    rw [sorted_uniq (fun a ha b hb => ht a (List.mem_cons_of_mem _ ha) b (List.mem_cons_of_mem _ hb)) (List.pairwise_cons.mp hl).2 (List.pairwise_cons.mp hm).2 h.cons_inv]

theorem nodup_map_inj {α β : Type} {f : α → β} : ∀ {l : List α}, (l.map f).Nodup → ∀ {x y : α}, x ∈ l → y ∈ l → f x = f y → x = y
  | [], _, x, y, hx, _, _ => by cases hx
  | a :: l, h, x, y, hx, hy, e => by
    rw [List.map_cons, List.nodup_cons] at h
    rcases List.mem_cons.mp hx with e1 | e1
    · rcases List.mem_cons.mp hy with e2 | e2
      · rw [e1, e2]
      · exact absurd (List.mem_map.mpr ⟨y, e2, by rw [← e, e1]⟩) h.1
    · rcases List.mem_cons.mp hy with e2 | e2
      · exact absurd (List.mem_map.mpr ⟨x, e1, by rw [e, e2]⟩) h.1
      · exact nodup_map_inj h.2 e1 e2 e
/-! ### sorted(d), d a dict of one's own with such keys -/
/-- the key that stands at an address -/
def dOf (ys : Dy) : Value → PyData
  | .ref a => ((ys.find? fun y => decide (y.2.1 = a)).map fun y => y.1.data).getD .none
  | _ => .none
/-- keys that are tuples, a tuple first -/
def TT (k : NestedKey) : Prop := ∃ f r, k = .tup (.tup f :: r)
section
variable {X : Cx} {ρ : En} {P : Post}
theorem dOf_at {ys : Dy} (inj : ∀ y ∈ ys, ∀ z ∈ ys, y.2.1 = z.2.1 → y.1 = z.1) {y : NestedKey × Addr × Value} (hy : y ∈ ys) : dOf ys (.ref y.2.1) = y.1.data := by
  show ((ys.find? fun z => decide (z.2.1 = y.2.1)).map fun y => y.1.data).getD .none = y.1.data
  cases q : ys.find? fun z => decide (z.2.1 = y.2.1) with
  | none =>
    have := List.find?_eq_none.mp q y hy
    simp at this
  | some z =>
    have h1 := List.find?_some q
    have h2 := List.mem_of_find?_eq_some q
    have h1 : z.2.1 = y.2.1 := by simpa using h1
    show z.1.data = y.1.data
    rw [inj z h2 y hy h1]
theorem katTups_of' {h : Heap} : ∀ {vs : List Value}, (∀ v ∈ vs, ∃ a o xs n f, v = .ref a ∧ h.get? a = some o ∧ o.cls = .type "tuple" ∧ o.data = .seq xs n ∧ xs[0]? = some f ∧ ∃ c oc, f = .ref c ∧ h.get? c = some oc ∧ oc.cls = .type "tuple") →
    ∃ fs, PySem.W.KatTups h vs fs ∧ fs.length = vs.length ∧ ∀ f ∈ fs, ∃ c oc, f = .ref c ∧ h.get? c = some oc ∧ oc.cls = .type "tuple"
  | [], _ => ⟨[], .nil, rfl, fun f hf => by cases hf⟩
  | v :: vs, hv => by
    obtain ⟨a, o, xs, n, f, rfl, h1, h2, h3, h4, h5⟩ := hv v List.mem_cons_self
    obtain ⟨fs, k1, k2, k3⟩ := katTups_of' (vs := vs) fun u hu => hv u (List.mem_cons_of_mem _ hu)
    refine ⟨f :: fs, .cons h1 h2 h3 h4 k1, by rw [List.length_cons, List.length_cons, k2], fun g hg => ?_⟩
    rcases List.mem_cons.mp hg with e | e
    · subst e; exact h5
    · exact k3 g e
theorem keys_sortable {prog : Program} {w : World} {A : Around} {s : Shared} {a : Addr} {vs : List Value} {D : Value → PyData} (h0 : 0 < vs.length)
    (hv : ∀ v ∈ vs, ∃ b f r, v = .ref b ∧ D v = .tuple (.tuple f :: r))
    (hr : ∀ (h' : Heap), (∀ b o, b ≠ a → s.heap.get? b = some o → h'.get? b = some o) → ∀ v ∈ vs, ∃ as, Reads h' v (D v) as)
    (hal : ∀ v ∈ vs, ∀ u ∈ vs, PySem.W.alike (D v) (D u) = true) (hu : ∀ v ∈ vs, A.units + (D v).depth < cLine) : SrtO.SortableO prog w A s a vs fun v u => PySem.W.dataLt (D v) (D u) := by
  intro h' keep
  have hr := hr h' keep
  obtain ⟨fs, h1, h2, h3⟩ := katTups_of' (h := h') (vs := vs) fun v hm => by
    obtain ⟨b, f, r, rfl, e⟩ := hv v hm
    obtain ⟨as, ra⟩ := hr _ hm
    rw [e] at ra
    cases ra with
    | tuple k1 k2 k3 k4 =>
      cases hvs : (List.ofFn fun _ : Fin 0 => Value.none) with
      | cons _ _ => cases hvs
      | nil =>
      rename_i o vs0 n
      obtain ⟨l⟩ := vs0
      cases k4 with
      | cons r1 r2 =>
        cases r1 with
        | tuple q1 q2 q3 q4 => exact ⟨b, o, _, n, _, rfl, k1, k2, k3, rfl, _, _, rfl, q1, q2⟩
  refine ⟨tuples' false, fun Q E hq => ?_, fun p q hp hq => ?_⟩
  · refine PySem.W.kat_kind (T := .type "tuple") h1 (by omega) (fun f hm => ?_) (by rfl) ?_
    · obtain ⟨c, oc, rfl, e1, e2⟩ := h3 f hm
      rw [← e2]
      exact (PySem.W.Looks.ld e1).andThen .now
    · have e : (Value.type "tuple" != Value.type "tuple") = false := by first | decide +kernel | rfl | decide
      rw [e]
      exact hq
  · obtain ⟨v, i⟩ := p
    obtain ⟨u, j⟩ := q
    have hp : v ∈ vs := hp
    have hq : u ∈ vs := hq
    obtain ⟨b, f, r, rfl, e⟩ := hv v hp
    obtain ⟨c, f', r', rfl, e'⟩ := hv u hq
    obtain ⟨as, ra⟩ := hr _ hp
    obtain ⟨bs, rb⟩ := hr _ hq
    have hal := hal _ hp _ hq
    have hu := hu _ hp
    show wpAny _ _ (keyLt' (tuples' false) (.ref b) (.ref c)) (fun r s' => s' = _ ∧ r = PySem.W.dataLt (D (.ref b)) (D (.ref c))) _ _
    rw [e] at ra hal hu ⊢
    rw [e'] at rb hal ⊢
    cases ra with
    | tuple k1 k2 k3 k4 =>
      cases rb with
      | tuple l1 l2 l3 l4 =>
        refine PySem.W.kat_lt k1 k3 l1 l3 (PySem.W.katLex_alike _ _ 0 _ _ _ _ k4 l4 hal ?_ (fun z => by cases z) ?_ ⟨rfl, ?_⟩)
        · have : (PyData.tuple (.tuple f :: r)).depth = PyData.depthAll (.tuple f :: r) + 1 := rfl
          omega
        · have n1 := SeqAt.ReadsAll.length _ _ _ k4
          have n2 := SeqAt.ReadsAll.length _ _ _ l4
          rw [← n1, ← n2, Array.length_toList, Array.length_toList]
        · rw [PySem.W.dataLt_tuple]
/-- the keys' addresses in an order of the keys -/
theorem sort_call (hc : X.calm = true) {pins : List (Addr × Obj)} {σ : L2.St} {G H : Hp} {s : Shared} {E : Value → Shared → Prop} {p : Addr} {xs : Dx} {kvs : List (NestedKey × PyData)} {zs : List NestedKey} {Q : VK} (I : Inv X pins σ H s) (sub : Sub G H) (hp : H p = some (DcO X.prog X.w p xs)) (r : Paired (DKv G) xs kvs)
    (hT : ∀ kv ∈ kvs, TT kv.1) (hal : ∀ a ∈ kvs, ∀ b ∈ kvs, PySem.W.alike a.1.data b.1.data = true) (hz : zs.Perm (kvs.map (·.1))) (hs : zs.Pairwise fun x y => PySem.W.dataLt y.data x.data = false) (hd : ∀ kv ∈ kvs, kv.1.data.depth ≤ 20) (hu : X.A.units + 64 < cLine)
    (q : ∀ a vs, H a = none → RpA G vs (zs.map NestedKey.data) → Q (.ref a) (upd H a (.lst vs))) :
    wpAny (model X.prog X.w) X.A (call (.builtin "sorted") [.ref p]) (EP X pins σ Q) E s := by
  obtain ⟨z, lo, ys, rel, dd⟩ := dc_get I sub hp r
  obtain ⟨es, ep, hraw, hes, hent⟩ := dd.raw
  have hlen := paired_len rel
  refine Calls.call_function_entry PyProof.Rows.kind_sorted PyProof.Rows.plain_sorted PyProof.Rows.entry_sorted (PyProof.Rows.args_sorted1 _) ?_
  unfold Builtin.«sorted»
  refine wpAny_bind (m := checkCount "sorted" 1 1 _) (wpAny_pure ?_)
  refine wpAny_bind (PySem.W.kdu_collect (A := X.A.in1) (PySem.KdlSrc.rawDict lo) (I.ok.hd hc) hraw (by omega) fun h' tk acc hk hacc => ?_)
  have hacc2 : acc.toList = ys.map fun y => Value.ref y.2.1 := by
    refine List.ext_getElem (by rw [Array.length_toList, hacc.1, List.length_map, hes]) fun i h1 h2 => ?_
    obtain ⟨hi, e⟩ := hacc.2 i (acc.toList[i]) (by simp)
    obtain ⟨y, hy, e1, e2, e3⟩ := hent i hi
    rw [e, e1]
    rw [List.getElem_map]
    have hy2 : i < ys.length := (List.getElem?_eq_some_iff.mp hy).1
    have : ys[i] = y := by have := List.getElem?_eq_getElem hy2; rw [hy] at this; exact (Option.some.inj this).symm
    rw [this]
  have I1 : Inv X pins σ H { s with heap := h', toks := tk } := I.kept hk
  refine wpAny_bind (wpAny_newList ?_ (by rw [Array.length_toList, hacc.1]; omega))
  have hoL : (h'.push (seqObj "list" acc.toList.toArray 0)).get? h'.objs.size = some (seqObj "list" acc.toList.toArray 0) := Heap.get?_push_size _ rfl
  have inj : ∀ y ∈ ys, ∀ z ∈ ys, y.2.1 = z.2.1 → y.1 = z.1 := fun y hy z hz e => by
    obtain ⟨_, _, _, _, _, _, _, his, _⟩ := dd
    have a1 := his y hy
    have a2 := his z hz
    rw [e] at a1
    exact NestedIs.inj _ _ _ a1.1 a2.1
  -- what stands at each key's address
  have hent2 : ∀ y ∈ ys, ∃ kv ∈ kvs, y.1 = kv.1 ∧ Rp G (.ref y.2.1) kv.1.data := by
    clear hent hacc2 hlen hes hoL hal hT hd hz inj dd hp z lo
    induction rel generalizing kvs with
    | nil => intro y hy; cases hy
    | cons q t ih =>
      cases r with
      | cons r1 r2 =>
        intro y hy
        rcases List.mem_cons.mp hy with e | e
        · subst e
          refine ⟨_, List.mem_cons_self, q.1.symm.trans r1.1, ?_⟩
          rw [← q.2.1, ← r1.1]
          exact r1.2.2.1
        · obtain ⟨kv, m, h⟩ := ih r2 y e
          exact ⟨kv, List.mem_cons_of_mem _ m, h⟩
  have hkeys : ys.map (·.1) = kvs.map (·.1) := by
    clear hent hacc2 hlen hes hoL hal hT hd hz inj dd hp z lo hent2
    induction rel generalizing kvs with
    | nil => cases r; rfl
    | cons q t ih =>
      cases r with
      | cons r1 r2 => rw [List.map_cons, List.map_cons, ih r2, ← q.1, r1.1]
  have hz' : acc.toList.length ≤ sizeLine := by rw [Array.length_toList, hacc.1]; omega
  show wpAny _ _ _ _ _ { s with heap := h'.push (seqObj "list" acc.toList.toArray 0), toks := tk }
  refine wpAny_bind (wpAny_holding (wpAny_call_entry PyProof.Rows.slot_list_sort ⟨_, hoL, rfl⟩ PyProof.Rows.entry_list_sort
    (SrtO.list_sort_ord (ltv := fun v u => PySem.W.dataLt (dOf ys v) (dOf ys u)) (s := { s with heap := h'.push (seqObj "list" acc.toList.toArray 0), toks := tk }) (swo_data _) hoL hz' (fun h2 => ?_) fun out g1 g2 => ⟨_, rfl, ?_⟩) (PyProof.Rows.args_list_sort _)))
  · refine keys_sortable (by omega) (fun v hv => ?_) (fun h2 k2 v hv => ?_) (fun v hv u hu' => ?_) (fun v hv => ?_)
    · rw [hacc2] at hv
      obtain ⟨y, hy, rfl⟩ := List.mem_map.mp hv
      obtain ⟨kv, m, e, _⟩ := hent2 y hy
      obtain ⟨f, r, e2⟩ := hT kv m
      refine ⟨_, NestedKey.datas f, NestedKey.datas r, rfl, ?_⟩
      rw [dOf_at inj hy, e, e2]
      rfl
    · rw [hacc2] at hv
      obtain ⟨y, hy, rfl⟩ := List.mem_map.mp hv
      obtain ⟨kv, m, e, rr⟩ := hent2 y hy
      rw [dOf_at inj hy, e]
      refine rp_reads I sub (fun b o eb => ?_) rr rfl
      have hb : b < h'.objs.size := Heap.lt_size (hk b o eb)
      exact k2 b o (Nat.ne_of_lt hb) (Heap.get?_push_of_some _ (hk b o eb))
    · rw [hacc2] at hv hu'
      obtain ⟨y, hy, rfl⟩ := List.mem_map.mp hv
      obtain ⟨y2, hy2, rfl⟩ := List.mem_map.mp hu'
      obtain ⟨kv, m, e, rr⟩ := hent2 y hy
      obtain ⟨kv2, m2, e2, rr2⟩ := hent2 y2 hy2
      rw [dOf_at inj hy, dOf_at inj hy2, e, e2]
      exact hal kv m kv2 m2
    · rw [hacc2] at hv
      obtain ⟨y, hy, rfl⟩ := List.mem_map.mp hv
      obtain ⟨kv, m, e, rr⟩ := hent2 y hy
      have := hd kv m
      rw [dOf_at inj hy, e]
      show X.A.units + 1 + 1 + _ < cLine
      omega
  · -- the addresses that came out
    have hperm : out.Perm (ys.map fun y => Value.ref y.2.1) := by rw [← hacc2]; exact g2.perm
    -- the order that is wished, by addresses
    obtain ⟨ws, hw1, hw2⟩ : ∃ ws : Dy, ws.Perm ys ∧ ws.map (·.1) = zs := by
      have : ∀ (zs : List NestedKey) (l : Dy), zs.Perm (l.map (·.1)) → ∃ ws : Dy, ws.Perm l ∧ ws.map (·.1) = zs := by
        intro zs l h
        generalize hm : l.map (·.1) = m at h
        induction h generalizing l with
        | nil => exact ⟨[], by rw [List.map_eq_nil_iff.mp hm], rfl⟩
        | cons x h ih =>
          cases l with
          | nil => cases hm
          | cons y l =>
            have hm : y.1 :: l.map (·.1) = _ := hm
            obtain ⟨e1, e2⟩ := List.cons.inj hm
            obtain ⟨ws, w1, w2⟩ := ih l e2
            exact ⟨y :: ws, w1.cons y, by rw [List.map_cons, w2, e1]⟩
        | swap x y l' =>
          cases l with
          | nil => cases hm
          | cons a l =>
            cases l with
            | nil => cases hm
            | cons b l =>
              have hm : a.1 :: b.1 :: l.map (·.1) = _ := hm
              obtain ⟨e1, e2⟩ := List.cons.inj hm
              obtain ⟨e2, e3⟩ := List.cons.inj e2
              exact ⟨b :: a :: l, List.Perm.swap a b l, by rw [List.map_cons, List.map_cons, e1, e2, e3]⟩
        | trans h1 h2 ih1 ih2 =>
          obtain ⟨w2, a1, a2⟩ := ih2 l hm
          obtain ⟨w1, b1, b2⟩ := ih1 w2 a2
          exact ⟨w1, b1.trans a1, b2⟩
      exact this zs ys (by rw [hkeys]; exact hz)
    have hwm : ∀ y ∈ ws, y ∈ ys := fun y hy => hw1.mem_iff.mp hy
    have hout : out = ws.map fun y => Value.ref y.2.1 := by
      refine sorted_uniq (lt := fun v u => PySem.W.dataLt (dOf ys v) (dOf ys u)) (fun v hv u hu' a1 a2 => ?_) g1 ?_ (hperm.trans (hw1.map _).symm)
      · obtain ⟨y, hy, rfl⟩ := List.mem_map.mp (hperm.mem_iff.mp hv)
        obtain ⟨y2, hy2, rfl⟩ := List.mem_map.mp (hperm.mem_iff.mp hu')
        simp only [dOf_at inj hy, dOf_at inj hy2] at a1 a2
        obtain ⟨kv, m, e, rr⟩ := hent2 y hy
        obtain ⟨kv2, m2, e2, rr2⟩ := hent2 y2 hy2
        have ek : y.1 = y2.1 := key_total (by rw [e, e2]; exact hal kv m kv2 m2) a1 a2
        obtain ⟨_, _, _, _, _, _, _, _, hn⟩ := dd
        have : y = y2 := nodup_map_inj hn hy hy2 ek
        rw [this]
      · rw [List.pairwise_map]
        have hs2 : ws.Pairwise fun x y => PySem.W.dataLt y.1.data x.1.data = false := by
          rw [← hw2, List.pairwise_map] at hs
          exact hs
        refine hs2.imp_of_mem fun {x y} hx hy h => ?_
        rw [dOf_at inj (hwm _ hx), dOf_at inj (hwm _ hy)]
        exact h
    obtain ⟨e', he'⟩ := PyProof.Rows.sortedHeap_at (vs := acc.toList) (out := out.toArray) hoL
    have hol : out.length ≤ sizeLine := by rw [hperm.length_eq, List.length_map]; omega
    refine wpAny_pure ⟨_, rfl, .ref h'.objs.size, upd H h'.objs.size (.lst (ws.map fun y => V.ref y.2.1)), I1.laid (t' := tk) (fun b u e => ?_) (Nat.le_refl _)
      (show ObjOk X.prog X.w _ _ _ (.lst (ws.map fun y => V.ref y.2.1)) from ⟨by rw [List.length_map, hw1.length_eq]; omega, out, e', ?_, he'⟩), rfl, q _ _ (I1.hok.fresh (Nat.le_refl _)) ?_⟩
    · have hb : b < h'.objs.size := Heap.lt_size e
      rw [PyProof.Rows.sortedHeap_old (Nat.ne_of_lt hb) (by rw [size_push']; exact Nat.lt_succ_of_lt hb)]
      exact Heap.get?_push_of_some _ e
    · rw [hout]
      clear hout hw1 hw2 hwm
      induction ws with
      | nil => exact .nil
      | cons y ws ih => exact .cons rfl ih
    · rw [← hw2]
      clear hout hw1 hw2
      induction ws with
      | nil => exact .nil
      | cons y ws ih =>
        obtain ⟨kv, m, e, rr⟩ := hent2 y (hwm _ List.mem_cons_self)
        refine .cons ?_ (ih fun z hz => hwm z (List.mem_cons_of_mem _ hz))
        show Rp G (.ref y.2.1) y.1.data
        rw [e]
        exact rr
def rSortK (X : Cx) : List V → Hp → VK → Prop := fun vs H Q => ∃ (p : Addr) (xs : Dx) (kvs : List (NestedKey × PyData)) (G : Hp) (zs : List NestedKey), vs = [.ref p] ∧ H p = some (DcO X.prog X.w p xs) ∧ Sub G H ∧ Paired (DKv G) xs kvs ∧ (∀ kv ∈ kvs, TT kv.1) ∧
  (∀ a ∈ kvs, ∀ b ∈ kvs, PySem.W.alike a.1.data b.1.data = true) ∧ zs.Perm (kvs.map (·.1)) ∧ (zs.Pairwise fun x y => PySem.W.dataLt y.data x.data = false) ∧ (∀ kv ∈ kvs, kv.1.data.depth ≤ 20) ∧ ∀ a vs, H a = none → RpA G vs (zs.map NestedKey.data) → Q (.ref a) (upd H a (.lst vs))
theorem cr_sortK (hc : X.calm = true) (hu : X.A.units + 64 < cLine) : CallR X (.builtin "sorted") (rSortK X) := by
  intro pins s σ H vs us Q I r h
  obtain ⟨p, xs, kvs, G, zs, rfl, h1, h2, h3, h4, h5, h6, h7, h8, q⟩ := h
  cases r with
  | cons r rr =>
    cases rr
    cases r
    exact sort_call hc I h2 h1 h3 h4 h5 h6 h7 h8 hu q
theorem dl_sortK {i : Nat} {x : Str} {p px pos : Pos} {kvs : List (NestedKey × PyData)} {zs : List NestedKey} (hm : X.mg "sorted" = none) (hρ : ρ[i]? = some (SV.dct X.prog X.w kvs)) (hT : ∀ kv ∈ kvs, TT kv.1) (hal : ∀ a ∈ kvs, ∀ b ∈ kvs, PySem.W.alike a.1.data b.1.data = true)
    (hz : zs.Perm (kvs.map (·.1))) (hs : zs.Pairwise fun x y => PySem.W.dataLt y.data x.data = false) (hd : ∀ kv ∈ kvs, kv.1.data.depth ≤ 20) (hu : X.A.units + 64 < cLine) (hN : X.N[i]? = some x := by rfl)
    (hv : Vis X.env.scope x := by first | exact Or.inl rfl | exact Or.inr (Or.inl rfl) | exact Or.inr (Or.inr rfl)) (hdb : (x == ("__debug__" : Str)) = false := by decide) (hcd : (x == ("__classdict__" : Str)) = false := by decide) (hc : X.calm = true := by rfl) (hg : Gl X "sorted" := by rfl)
    (he : starEach [.Name x px] X.env = (false, eval (.Name x px) X.env) :: starEach [] X.env := by rfl) (hpl : (backTo pos (starEach ([] : List Expr) X.env)).any (·.1) = false := by rfl) : DL X ρ (.Call (.Name "sorted" p) [.Name x px] [] pos) (zs.map NestedKey.data) := .mk fun H₀ G H σ Q S q pins s I =>
  (pe_callB (pos := pos) (cr_sortK hc hu) hg hm (by decide +kernel) (pa_cons (pe_var hN hv hdb hcd) pa_nil he) (by decide) (by decide) he hpl).run pins s σ H Q I (by
    obtain ⟨p', o, e1, h0, hg', hh, xs, rfl, r⟩ := S.slot i _ hρ
    refine ⟨.ref p', e1, p', xs, kvs, G, zs, rfl, hh, S.sub, r, hT, hal, hz, hs, hd, fun a vs ha ra => ?_⟩
    have ga : G a = none := free_back S.sub ha
    exact q a vs G _ ⟨.refl _, fun b u e => by rw [upd_ne (ne_of_none e ha)]; exact e, fun b u e => by rw [upd_ne (ne_of_none e ga)]; exact S.sub _ _ e, fun b u e => .inl e⟩ ha ga upd_same ra)
end
theorem units65 {k : Nat} {A : Around} (r : Room k A) : A.units + 65 < cLine := by have := r.un; omega
section
variable {X : Cx} {ρ : En} {a b : Expr} {d : PyData} {ds : List PyData} {pos : Pos}
theorem dt_inL (hu : X.A.units + 65 < cLine) (ha : DE X ρ a d) (hb : DE X ρ b (.list ds)) (h1 : SeqAt.shaped d = true) (h2 : SeqAt.shaped (.list ds) = true) (hm : behindInMarks .In b = false := by rfl) : DT X ρ (.Compare a [.In] [b] pos) (ds.any fun z => PyData.eqv z d) := dt_cmp (op_inD hu) (r2_in h1 h2) hm ha hb
theorem dt_notinL (hu : X.A.units + 65 < cLine) (ha : DE X ρ a d) (hb : DE X ρ b (.list ds)) (h1 : SeqAt.shaped d = true) (h2 : SeqAt.shaped (.list ds) = true) (hm : behindInMarks .NotIn b = false := by rfl) : DT X ρ (.Compare a [.NotIn] [b] pos) (!ds.any fun z => PyData.eqv z d) := dt_cmp (op_notInD hu) (r2_notin h1 h2) hm ha hb
end
end DD
namespace DD
open PySem PySem.Spec PyProof.Rows L2
section
variable {X : Cx} {W : WX} {ρ ρ' : En} {e a b c : Expr} {es : List Expr} {d : PyData} {o : Out} {pos : Pos} {P : Post} {rest body : List Stmt} {T : Type}
theorem da_i {ds : List PyData} {i : Int} {k} (h : DA X ρ es ds) (hst : starEach (.Constant (.int i) k pos :: es) X.env = (false, eval (.Constant (.int i) k pos) X.env) :: starEach es X.env := by rfl) : DA X ρ (.Constant (.int i) k pos :: es) (.int i :: ds) := da_cons de_int h hst
end
end DD
namespace DD
open PySem PySem.Spec PyProof.Rows L2
/-! ### tuple * k for k below 2 -/
theorem tuple_mulW1 (l : Addr) (items : Array Value) (n : Nat) (dd : Option Addr) (sl : Array (Option Value)) (x : Int) (u : Tok) (c0 : (decide (x < -(2 ^ 63)) || decide (x ≥ 2 ^ 63)) = false) (c1 : (items.isEmpty || x == 1) = true) :
    Meets (Builtin.«tuple.__mul__» ⟨[.ref l, .int x u], []⟩) (fun _ R s => s.heap.get? l = some { cls := .type "tuple", dict := dd, data := .seq items n, slots := sl } ∧ R (.ok (.ret (Value.ref l))) s) :=
  .of_wp fun prog w A R s h => by
    obtain ⟨hp, g, d, tk, os⟩ := s
    obtain ⟨hl, h⟩ := h
    have f1 := AutoSeq1.idx_int
    wp_walk using wpAny_loadPart' hl
    repeat (first
      | (refine wpAny_ite_false (decide_eq_false (by rw [c0]; exact Bool.false_ne_true)) ?_; wp_walk using wpAny_loadPart' hl)
      | (refine wpAny_ite_true (decide_eq_true c1) ?_; wp_walk using wpAny_loadPart' hl))
    exact ⟨_, rfl, h⟩
theorem tuple_mulW0 (l : Addr) (items : Array Value) (n : Nat) (dd : Option Addr) (sl : Array (Option Value)) (x : Int) (u : Tok) (c0 : (decide (x < -(2 ^ 63)) || decide (x ≥ 2 ^ 63)) = false) (c1 : (items.isEmpty || x == 1) = false) (c2 : (decide (x ≤ 0) || items.isEmpty) = true) :
    Meets (Builtin.«tuple.__mul__» ⟨[.ref l, .int x u], []⟩) (fun _ R s => s.heap.get? l = some { cls := .type "tuple", dict := dd, data := .seq items n, slots := sl } ∧
      R (.ok (.ret (Value.ref s.heap.objs.size))) { s with heap := s.heap.push { cls := Value.type "tuple", data := Data.seq #[] }, toks := s.toks }) :=
  .of_wp fun prog w A R s h => by
    obtain ⟨hp, g, d, tk, os⟩ := s
    obtain ⟨hl, h⟩ := h
    have f1 := AutoSeq1.idx_int
    wp_walk using wpAny_loadPart' hl
    repeat (first
      | (refine wpAny_ite_false (decide_eq_false (by rw [c0]; exact Bool.false_ne_true)) ?_; wp_walk using wpAny_loadPart' hl)
      | (refine wpAny_ite_false (decide_eq_false (by rw [c1]; exact Bool.false_ne_true)) ?_; wp_walk using wpAny_loadPart' hl)
      | (refine wpAny_ite_true (decide_eq_true c2) ?_; wp_walk using wpAny_loadPart' hl))
    exact ⟨_, rfl, h⟩
def rRepT1 (K : PySem.W.Frag) : R2 := fun x y H Q => ∃ l k xs, x = .ref l ∧ y = .int k ∧ SqT K H l xs ∧ xs ≠ [] ∧ k = 1 ∧ Q (.ref l) H
def rRepT0 (K : PySem.W.Frag) : R2 := fun x y H Q => ∃ l k xs, x = .ref l ∧ y = .int k ∧ SqT K H l xs ∧ xs ≠ [] ∧ k ≤ 0 ∧ -1000 ≤ k ∧ ∀ p, H p = none → Q (.ref p) (upd H p (.tup []))
section
variable {X : Cx}
theorem op_repT1 : OpR X (binaryOp .Mult) (rRepT1 X.K) := by
  intro pins s σ H x y v u Q I rx ry h
  obtain ⟨l, k, xs, rfl, rfl, hT, hne, rfl, q⟩ := h
  cases rx
  obtain ⟨t, rfl⟩ := ry
  obtain ⟨its, r, ⟨⟨cls, dd, data, sl⟩, ho, hc, n, hd⟩, hs⟩ := I.tuple hT
  simp only at hc hd
  subst hc hd
  refine wpAny_binaryOp_repeat_ref (T := "tuple") (U := "int") (by decide) ⟨_, ho, rfl⟩ (fun s' => typeIs_int s' 1 t) noFill_tuple_mul PySem.F.fills_int_mul PySem.F.slot_int_rmul repeat_tuple PySem.F.slot_int_index.lookup
    (call_meets PySem.F.slot_int_rmul (typeIs_int s 1 t) PySem.F.entry_int_rmul (PySem.F.args_int_rmul_2 _ _) (int_rmul_tuple 1 t l its.toArray n dd sl)
      ⟨ho, rfl, ⟨_, ho, rfl⟩, call_meets PySem.F.slot_tuple_mul ⟨_, ho, rfl⟩ PySem.F.entry_tuple_mul (PySem.F.args_tuple_mul_2 _ _) (tuple_mulW1 l its.toArray n dd sl 1 t (by decide) (by simp)) ⟨ho, ?_⟩⟩)
  exact ⟨.ref l, _, I, rfl, q⟩
theorem op_repT0 : OpR X (binaryOp .Mult) (rRepT0 X.K) := by
  intro pins s σ H x y v u Q I rx ry h
  obtain ⟨l, k, xs, rfl, rfl, hT, hne, h1, h2, q⟩ := h
  cases rx
  obtain ⟨t, rfl⟩ := ry
  obtain ⟨its, r, ⟨⟨cls, dd, data, sl⟩, ho, hc, n, hd⟩, hs⟩ := I.tuple hT
  simp only at hc hd
  subst hc hd
  have hle : its.length = xs.length := r.length.symm
  have hn : its ≠ [] := fun e => hne (by
    rw [e] at hle
    exact List.eq_nil_of_length_eq_zero hle.symm)
  have hi : its.toArray.isEmpty = false := by
    cases its with
    | nil => exact absurd rfl hn
    | cons a b => rfl
  have c0 : (decide (k < -(2 ^ 63)) || decide (k ≥ 2 ^ 63)) = false := by
    rw [decide_eq_false (by omega), decide_eq_false (by omega)] <;> rfl
  have c1 : (its.toArray.isEmpty || k == 1) = false := by
    rw [hi, Bool.false_or]
    exact beq_eq_false_iff_ne.mpr (by omega)
  have c2 : (decide (k ≤ 0) || its.toArray.isEmpty) = true := by
    rw [hi, Bool.or_false]
    exact decide_eq_true (by omega)
  refine wpAny_binaryOp_repeat_ref (T := "tuple") (U := "int") (by decide) ⟨_, ho, rfl⟩ (fun s' => typeIs_int s' k t) noFill_tuple_mul PySem.F.fills_int_mul PySem.F.slot_int_rmul repeat_tuple PySem.F.slot_int_index.lookup
    (call_meets PySem.F.slot_int_rmul (typeIs_int s k t) PySem.F.entry_int_rmul (PySem.F.args_int_rmul_2 _ _) (int_rmul_tuple k t l its.toArray n dd sl)
      ⟨ho, rfl, ⟨_, ho, rfl⟩, call_meets PySem.F.slot_tuple_mul ⟨_, ho, rfl⟩ PySem.F.entry_tuple_mul (PySem.F.args_tuple_mul_2 _ _) (tuple_mulW0 l its.toArray n dd sl k t c0 c1 c2) ⟨ho, ?_⟩⟩)
  refine ⟨.ref s.heap.objs.size, _, I.laid (t' := s.toks) (o := .tup []) (fun b ob q => Heap.get?_push_of_some _ q) (Nat.le_refl _) ?_, rfl, q _ (I.hok.fresh (Nat.le_refl _))⟩
  exact ⟨by show (0 : Nat) ≤ sizeLine; rw [sizeLine_eq]; decide, [], .nil, IsTup.new _ _⟩
variable {ρ : En} {a b : Expr} {ds : List PyData} {pos : Pos}
/-- tuple * k for any small k -/
theorem de_repT {k : Int} (ha : DE X ρ a (.tuple ds)) (hb : DE X ρ b (.int k)) (h0 : ds ≠ []) (h1 : -1000 ≤ k) (h2 : k ≤ 1000) (h3 : ds.length ≤ 1000) : DE X ρ (.BinOp a .Mult b pos) (.tuple (List.replicate k.toNat ds).flatten) := by
  by_cases c2 : 2 ≤ k
  · exact rep_tup (n := k.toNat) (by omega) ha hb h0 (by omega) (by omega) h3
  · by_cases c1 : k = 1
    · subst c1
      refine de_of (pe_op op_repT1 pe_D pe_D) fun H₀ G H σ Q S q => ?_
      refine ha H₀ G H σ _ S fun v G1 H1 e1 r1 => ?_
      refine hb H₀ G1 H1 σ _ (S.up e1) fun u G2 H2 e2 r2 => ?_
      cases r2
      cases r1 with
      | @tup q1 ws _ h3' h4 =>
        refine ⟨_, 1, _, rfl, rfl, .of (e2.gh _ _ (e2.gg _ _ h3')), (by intro z; subst z; cases h4; exact h0 rfl), rfl, ?_⟩
        have e : (List.replicate (1 : Int).toNat ds).flatten = ds := by show (List.replicate 1 ds).flatten = ds; simp
        rw [e] at q
        exact (q.back (e1.trans e2)).of e2.gh (.tup (e2.gg _ _ h3') (h4.up e2.gg))
    · refine de_of (pe_op op_repT0 pe_D pe_D) fun H₀ G H σ Q S q => ?_
      refine ha H₀ G H σ _ S fun v G1 H1 e1 r1 => ?_
      refine hb H₀ G1 H1 σ _ (S.up e1) fun u G2 H2 e2 r2 => ?_
      cases r2
      cases r1 with
      | @tup q1 ws _ h3' h4 =>
        refine ⟨_, k, _, rfl, rfl, .of (e2.gh _ _ (e2.gg _ _ h3')), (by intro z; subst z; cases h4; exact h0 rfl), by omega, h1, fun p hp => ?_⟩
        have e : (List.replicate k.toNat ds).flatten = [] := by rw [show k.toNat = 0 by omega]; rfl
        rw [e] at q
        have e3 := Ext.new (o := .tup []) e2.gh hp
        exact q _ _ _ ((e1.trans e2).trans e3) (.tup upd_same .nil)
end
end DD
namespace DD
open PySem PySem.Spec PyProof.Rows L2
theorem intsL_split {lo : Int} {n : Nat} {pre post : List Int} {x : Int} (h : intsL lo n = pre ++ x :: post) : x = lo + pre.length ∧ pre.length < n ∧ pre = intsL lo pre.length := by
  have hx : (intsL lo n)[pre.length]? = some x := by rw [h, List.getElem?_append_right (Nat.le_refl _), Nat.sub_self]; rfl
  obtain ⟨h1, h2⟩ := intsL_at hx
  refine ⟨h2, h1, ?_⟩
  have e : pre = (intsL lo n).take pre.length := by rw [h, List.take_left]
  conv => lhs; rw [e]
  unfold intsL
  rw [← List.map_take, List.take_range, Nat.min_eq_left (Nat.le_of_lt h1)]
/-! ### in_range -/
def inR : PyData → Int → Int → Bool
  | .int i, lo, hi => decide (lo ≤ i) && decide (i ≤ hi)
  | _, _, _ => false
theorem inR_iff {v : PyData} {lo hi : Int} : inR v lo hi = true ↔ ∃ i : Int, v = .int i ∧ lo ≤ i ∧ i ≤ hi := by
  cases v with
  | int i => simp [inR]
  | _ => simp [inR]
def S_in_range (ds : List PyData) (o : Out) : Prop := ∃ (v : PyData) (lo hi : Int), ds = [v, .int lo, .int hi] ∧ o = .ret (.bool (inR v lo hi))
/-! ### greatest_divisor -/
def S_greatest_divisor (ds : List PyData) (o : Out) : Prop := ∃ a b : Nat, ds = [.int (a : Int), .int (b : Int)] ∧ o = .ret (.int (Nat.gcd a b : Nat))
/-! ### reduced -/
def encF (f : Int × Int) : PyData := .tuple [.int f.1, .int f.2]
/-- the fraction in lowest terms -/
def redM (a b : Int) : Int × Int := (a / (Nat.gcd a.natAbs b.natAbs : Nat), b / (Nat.gcd a.natAbs b.natAbs : Nat))
def S_reduced (ds : List PyData) (o : Out) : Prop := ∃ a b : Int, ds = [.int a, .int b] ∧ 0 < b ∧ b.natAbs < 2 ^ 9000 ∧ o = .ret (encF (redM a b))
/-! ### tuples of places -/
def encP (l : List Int) : PyData := .tuple (l.map .int)
/-! ### is_fraction -/
def isFr : PyData → Bool
  | .tuple [x, y] => inR x (-99999) 99999 && (match x, y with
    | .int a, .int b => inR y 1 99999 && decide (Nat.gcd a.natAbs b.natAbs = 1)
    | _, _ => false)
  | _ => false
/-- a fraction that may be given -/
def Frac (f : Int × Int) : Prop := -99999 ≤ f.1 ∧ f.1 ≤ 99999 ∧ 1 ≤ f.2 ∧ f.2 ≤ 99999 ∧ Nat.gcd f.1.natAbs f.2.natAbs = 1
theorem isFr_iff {v : PyData} : isFr v = true ↔ ∃ f, v = encF f ∧ Frac f := by
  constructor
  · intro h
    unfold isFr at h
    split at h
    · rename_i x y
      rw [Bool.and_eq_true] at h
      obtain ⟨i, rfl, i1, i2⟩ := inR_iff.mp h.1
      have h2 := h.2
      cases y with
      | int b =>
        rw [Bool.and_eq_true] at h2
        obtain ⟨j, e, j1, j2⟩ := inR_iff.mp h2.1
        cases e
        exact ⟨(i, b), rfl, i1, i2, j1, j2, of_decide_eq_true h2.2⟩
      | _ => cases h2
    · cases h
  · rintro ⟨⟨a, b⟩, rfl, h1, h2, h3, h4, h5⟩
    show (inR (.int a) (-99999) 99999 && (inR (.int b) 1 99999 && decide (Nat.gcd a.natAbs b.natAbs = 1))) = true
    simp only [inR]
    simp [h1, h2, h3, h4, h5]
def S_is_fraction (ds : List PyData) (o : Out) : Prop := ∃ v : PyData, ds = [v] ∧ o = .ret (.bool (isFr v))
/-! ### plus -/
/-- the parts have less than n bits -/
def Fz (n : Nat) (f : Int × Int) : Prop := 0 < f.2 ∧ f.1.natAbs < 2 ^ n ∧ f.2.natAbs < 2 ^ n
theorem Fz.up {n m : Nat} {f : Int × Int} (h : Fz n f) (l : n ≤ m) : Fz m f := ⟨h.1, Nat.lt_of_lt_of_le h.2.1 (Nat.pow_le_pow_right (by decide) l), Nat.lt_of_lt_of_le h.2.2 (Nat.pow_le_pow_right (by decide) l)⟩
def plusM (f g : Int × Int) : Int × Int := redM (f.1 * g.2 + g.1 * f.2) (f.2 * g.2)
def timesM (f g : Int × Int) : Int × Int := redM (f.1 * g.1) (f.2 * g.2)
theorem redM_den {a b : Int} (h : 0 < b) : 0 < (redM a b).2 := by
  have hg : 0 < Nat.gcd a.natAbs b.natAbs := Nat.gcd_pos_of_pos_right _ (by omega)
  have hd : ((Nat.gcd a.natAbs b.natAbs : Nat) : Int) ∣ b := Int.ofNat_dvd_left.mpr (Nat.gcd_dvd_right _ _)
  exact Int.ediv_pos_of_pos_of_dvd h (by omega) hd
theorem redM_size {a b : Int} {n : Nat} (h : 0 < b) (ha : a.natAbs < 2 ^ n) (hb : b.natAbs < 2 ^ n) : Fz n (redM a b) := by
  refine ⟨redM_den h, ?_, ?_⟩
  · exact Nat.lt_of_le_of_lt (Int.natAbs_ediv_le_natAbs _ _) ha
  · exact Nat.lt_of_le_of_lt (Int.natAbs_ediv_le_natAbs _ _) hb
theorem plusM_size {n m : Nat} {f g : Int × Int} (hf : Fz n f) (hg : Fz m g) : Fz (n + m + 1) (plusM f g) := by
  have h1 : (f.1 * g.2).natAbs < 2 ^ (n + m) := wide_lt hf.2.1 hg.2.2
  have h2 : (g.1 * f.2).natAbs < 2 ^ (n + m) := by rw [Nat.add_comm]; exact wide_lt hg.2.1 hf.2.2
  have h3 : (f.2 * g.2).natAbs < 2 ^ (n + m) := wide_lt hf.2.2 hg.2.2
  refine redM_size (Int.mul_pos hf.1 hg.1) ?_ ?_
  · rw [Nat.pow_succ]
    have := Int.natAbs_add_le (f.1 * g.2) (g.1 * f.2)
    omega
  · rw [Nat.pow_succ]; omega
theorem timesM_size {n m : Nat} {f g : Int × Int} (hf : Fz n f) (hg : Fz m g) : Fz (n + m) (timesM f g) := redM_size (Int.mul_pos hf.1 hg.1) (wide_lt hf.2.1 hg.2.1) (wide_lt hf.2.2 hg.2.2)
theorem Frac.size {f : Int × Int} (h : Frac f) : Fz 17 f := by
  obtain ⟨h1, h2, h3, h4, _⟩ := h
  exact ⟨by omega, by omega, by omega⟩
/-- a product of parts of such fractions -/
theorem mulW {i j : Int} {n m : Nat} (hi : i.natAbs < 2 ^ n) (hj : j.natAbs < 2 ^ m) (h : n + m ≤ 8990) : CMulW i j :=
  wide_mul (a := n + 1) (b := m + 1) (Nat.lt_of_lt_of_le hi (Nat.pow_le_pow_right (by decide) (by omega))) (Nat.lt_of_lt_of_le hj (Nat.pow_le_pow_right (by decide) (by omega))) (by omega) (by omega) (by omega)
def S_plus (ds : List PyData) (o : Out) : Prop := ∃ (f g : Int × Int) (n m : Nat), ds = [encF f, encF g] ∧ Fz n f ∧ Fz m g ∧ n + m ≤ 8900 ∧ o = .ret (encF (plusM f g))
/-! ### times -/
def S_times (ds : List PyData) (o : Out) : Prop := ∃ (f g : Int × Int) (n m : Nat), ds = [encF f, encF g] ∧ Fz n f ∧ Fz m g ∧ n + m ≤ 8900 ∧ o = .ret (encF (timesM f g))
/-! ### check_last -/
def S_check_last (C : Addr) (ds : List PyData) (o : Out) : Prop := ∃ v : PyData, ds = [v] ∧ o = if inR v 1 6 = true then .ret .none else .exc ⟨C, none⟩
/-! ### minus -/
def minusM (f g : Int × Int) : Int × Int := plusM f (-g.1, g.2)
def S_minus (ds : List PyData) (o : Out) : Prop := ∃ (f g : Int × Int) (n m : Nat), ds = [encF f, encF g] ∧ Fz n f ∧ Fz m g ∧ n + m ≤ 8900 ∧ o = .ret (encF (minusM f g))
theorem Fz.neg {n : Nat} {f : Int × Int} (h : Fz n f) : Fz n (-f.1, f.2) := ⟨h.1, by rw [Int.natAbs_neg]; exact h.2.1, h.2.2⟩
/-! ### is_less -/
def lessM (f g : Int × Int) : Bool := decide (f.1 * g.2 < g.1 * f.2)
def S_is_less (ds : List PyData) (o : Out) : Prop := ∃ (f g : Int × Int) (n m : Nat), ds = [encF f, encF g] ∧ Fz n f ∧ Fz m g ∧ n + m ≤ 8900 ∧ o = .ret (.bool (lessM f g))
/-! ### least -/
def leastS (b x : Int × Int) : Int × Int := if lessM x b then x else b
def leastM (fs : List (Int × Int)) : Int × Int := fs.foldl leastS (fs.headD (0, 1))
theorem least_in (b : Int × Int) : ∀ fs : List (Int × Int), fs.foldl leastS b = b ∨ fs.foldl leastS b ∈ fs := by
  intro fs
  induction fs generalizing b with
  | nil => exact .inl rfl
  | cons x fs ih =>
    rw [List.foldl_cons]
    rcases ih (leastS b x) with h | h
    · rw [h]
      unfold leastS
      split
      · exact .inr List.mem_cons_self
      · exact .inl rfl
    · exact .inr (List.mem_cons_of_mem _ h)
def S_least (ds : List PyData) (o : Out) : Prop := ∃ (fs : List (Int × Int)) (n : Nat), ds = [.list (fs.map encF)] ∧ fs ≠ [] ∧ (∀ f ∈ fs, Fz n f) ∧ n ≤ 4400 ∧ o = .ret (encF (leastM fs))
/-! ### greatest -/
def greatestS (b x : Int × Int) : Int × Int := if lessM b x then x else b
def greatestM (fs : List (Int × Int)) : Int × Int := fs.foldl greatestS (fs.headD (0, 1))
theorem greatest_in (b : Int × Int) : ∀ fs : List (Int × Int), fs.foldl greatestS b = b ∨ fs.foldl greatestS b ∈ fs := by
  intro fs
  induction fs generalizing b with
  | nil => exact .inl rfl
  | cons x fs ih =>
    rw [List.foldl_cons]
    rcases ih (greatestS b x) with h | h
    · rw [h]
      unfold greatestS
      split
      · exact .inr List.mem_cons_self
      · exact .inl rfl
    · exact .inr (List.mem_cons_of_mem _ h)
def S_greatest (ds : List PyData) (o : Out) : Prop := ∃ (fs : List (Int × Int)) (n : Nat), ds = [.list (fs.map encF)] ∧ fs ≠ [] ∧ (∀ f ∈ fs, Fz n f) ∧ n ≤ 4400 ∧ o = .ret (encF (greatestM fs))
/-! ### total -/
def totalM (fs : List (Int × Int)) : Int × Int := fs.foldl plusM (0, 1)
theorem totalM_snoc (fs : List (Int × Int)) (x : Int × Int) : totalM (fs ++ [x]) = plusM (totalM fs) x := by unfold totalM; rw [List.foldl_append]; rfl
theorem totalM_size {n : Nat} : ∀ fs : List (Int × Int), (∀ f ∈ fs, Fz n f) → Fz ((n + 1) * fs.length + 1) (totalM fs) := by
  intro fs
  have key : ∀ (fs : List (Int × Int)) (b : Int × Int) (m : Nat), Fz m b → (∀ f ∈ fs, Fz n f) → Fz (m + (n + 1) * fs.length) (fs.foldl plusM b) := by
    intro fs
    induction fs with
    | nil => intro b m hb _; simpa using hb
    | cons x fs ih =>
      intro b m hb h
      rw [List.foldl_cons]
      have := ih (plusM b x) (m + n + 1) (plusM_size hb (h x List.mem_cons_self)) (fun f hf => h f (List.mem_cons_of_mem _ hf))
      refine this.up ?_
      rw [List.length_cons, Nat.mul_succ]
      omega
  intro h
  have := key fs (0, 1) 1 ⟨by decide, by decide, by decide⟩ h
  exact this.up (by omega)
def S_total (ds : List PyData) (o : Out) : Prop := ∃ (d : PyData) (fs : List (Int × Int)) (n : Nat), ds = [d] ∧ IsSeq d (fs.map encF) ∧ (∀ f ∈ fs, Fz n f) ∧ (n + 1) * fs.length + n ≤ 8800 ∧ o = .ret (encF (totalM fs))
/-! ### are_averages -/
def areAv (last : Nat) : PyData → Bool
  | .tuple vs => decide (1 ≤ vs.length) && decide (vs.length ≤ min last 3) && vs.all isFr
  | _ => false
def encL (fs : List (Int × Int)) : PyData := .tuple (fs.map encF)
theorem frs_typed : ∀ {xs : List PyData}, xs.all isFr = true → ∃ fs : List (Int × Int), xs = fs.map encF ∧ ∀ f ∈ fs, Frac f
  | [], _ => ⟨[], rfl, fun z hz => by simp at hz⟩
  | x :: xs, h => by
    rw [List.all_cons, Bool.and_eq_true] at h
    obtain ⟨fs, rfl, ha⟩ := frs_typed h.2
    obtain ⟨f, rfl, hf⟩ := isFr_iff.mp h.1
    refine ⟨f :: fs, rfl, fun z hz => ?_⟩
    rcases List.mem_cons.mp hz with e | e
    · subst e; exact hf
    · exact ha z e
theorem frs_ok {fs : List (Int × Int)} (h : ∀ f ∈ fs, Frac f) : (fs.map encF).all isFr = true := by
  rw [List.all_map, List.all_eq_true]
  exact fun f hf => isFr_iff.mpr ⟨f, rfl, h f hf⟩
/-- averages that may be given -/
def AvOk (last : Nat) (avs : List (Int × Int)) : Prop := 1 ≤ avs.length ∧ avs.length ≤ last ∧ avs.length ≤ 3 ∧ ∀ f ∈ avs, Frac f
theorem areAv_iff {last : Nat} {v : PyData} : areAv last v = true ↔ ∃ avs, v = encL avs ∧ AvOk last avs := by
  constructor
  · intro h
    cases v with
    | tuple vs =>
      have h : (decide (1 ≤ vs.length) && decide (vs.length ≤ min last 3) && vs.all isFr) = true := h
      rw [Bool.and_eq_true, Bool.and_eq_true] at h
      obtain ⟨fs, rfl, hf⟩ := frs_typed h.2
      have h1 := of_decide_eq_true h.1.1
      have h2 := of_decide_eq_true h.1.2
      rw [List.length_map] at h1 h2
      exact ⟨fs, rfl, h1, by omega, by omega, hf⟩
    | _ => cases h
  · rintro ⟨avs, rfl, h1, h2, h3, hf⟩
    show (decide (1 ≤ (avs.map encF).length) && decide ((avs.map encF).length ≤ min last 3) && (avs.map encF).all isFr) = true
    rw [frs_ok hf, List.length_map, decide_eq_true h1, decide_eq_true (by omega)] <;> rfl
def S_are_averages (ds : List PyData) (o : Out) : Prop := ∃ (last : Nat) (v : PyData), ds = [.int (last : Int), v] ∧ o = .ret (.bool (areAv last v))
/-! ### check_averages -/
/-- none: valid; some true: InvalidNumber; some false: the other -/
def chkV (l v : PyData) : Option Bool := if inR l 1 6 = true then (match l with | .int i => if areAv i.toNat v = true then none else some false | _ => some true) else some true
theorem chkV_ok {l v : PyData} (h : chkV l v = none) : ∃ (last : Nat) (avs : List (Int × Int)), l = .int last ∧ v = encL avs ∧ 1 ≤ last ∧ last ≤ 6 ∧ AvOk last avs := by
  unfold chkV at h
  split at h
  · rename_i h1
    obtain ⟨i, rfl, i1, i2⟩ := inR_iff.mp h1
    simp only at h
    split at h
    · rename_i h2
      obtain ⟨avs, rfl, ha⟩ := areAv_iff.mp h2
      exact ⟨i.toNat, avs, by congr 1; omega, rfl, by omega, by omega, ha⟩
    · cases h
  · cases h
theorem chkV_of {last : Nat} {avs : List (Int × Int)} (h1 : 1 ≤ last) (h2 : last ≤ 6) (h : AvOk last avs) : chkV (.int last) (encL avs) = none := by
  unfold chkV
  rw [if_pos (inR_iff.mpr ⟨_, rfl, by omega, by omega⟩)]
  show (if areAv (Int.toNat (last : Int)) (encL avs) = true then none else some false) = none
  rw [Int.toNat_natCast, if_pos (areAv_iff.mpr ⟨avs, rfl, h⟩)]
def outV (CN CA : Addr) : Option Bool → Out
  | none => .ret .none
  | some true => .exc ⟨CN, none⟩
  | some false => .exc ⟨CA, none⟩
def S_check_averages (CN CA : Addr) (ds : List PyData) (o : Out) : Prop := ∃ l v : PyData, ds = [l, v] ∧ o = outV CN CA (chkV l v)
/-! ### power -/
def S_power (ds : List PyData) (o : Out) : Prop := ∃ (p : Int) (n : Nat), ds = [.int p, .int (n : Int)] ∧ p.natAbs < 2 ^ 64 ∧ n < 2 ^ 62 ∧ o = .ret (.int (p ^ n))
/-! ### are_weights -/
theorem eq_encF : EqEnc encF := fun f g => by
  show (PyData.eqv (.int f.1) (.int g.1) && (PyData.eqv (.int f.2) (.int g.2) && true)) = _
  rw [DD.eq_int, DD.eq_int, Bool.and_true, Bool.eq_iff_iff]
  simp [Prod.ext_iff]
theorem sh_F {f : Int × Int} : Sh 1 (encF f) := sh_tup (n := 0) (fun d hd => by
  rcases List.mem_cons.mp hd with e | e
  · subst e; exact sh_int
  · rcases List.mem_cons.mp e with e | e
    · subst e; exact sh_int
    · cases e)
theorem sh_L {fs : List (Int × Int)} : Sh 2 (encL fs) := sh_tup (n := 1) (sh_map fun _ _ => sh_F)
def frOf : PyData → Int × Int
  | .tuple [.int a, .int b] => (a, b)
  | _ => (0, 1)
theorem frOf_enc (f : Int × Int) : frOf (encF f) = f := rfl
def areWt (last : Nat) : PyData → Bool
  | .tuple vs => decide (vs.length = last + 1) && (vs.all (fun x => isFr x && decide (0 ≤ (frOf x).1)) && decide (totalM (vs.map frOf) = (1, 1)))
  | _ => false
/-- weights that may be given -/
def WtOk (last : Nat) (ws : List (Int × Int)) : Prop := ws.length = last + 1 ∧ (∀ f ∈ ws, Frac f ∧ 0 ≤ f.1) ∧ totalM ws = (1, 1)
theorem map_frOf (fs : List (Int × Int)) : (fs.map encF).map frOf = fs := by rw [List.map_map]; exact List.map_id fs
theorem wts_typed : ∀ {xs : List PyData}, xs.all (fun x => isFr x && decide (0 ≤ (frOf x).1)) = true → ∃ fs : List (Int × Int), xs = fs.map encF ∧ ∀ f ∈ fs, Frac f ∧ 0 ≤ f.1
  | [], _ => ⟨[], rfl, fun z hz => by simp at hz⟩
  | x :: xs, h => by
    rw [List.all_cons, Bool.and_eq_true, Bool.and_eq_true] at h
    obtain ⟨fs, rfl, ha⟩ := wts_typed h.2
    obtain ⟨f, rfl, hf⟩ := isFr_iff.mp h.1.1
    refine ⟨f :: fs, rfl, fun z hz => ?_⟩
    rcases List.mem_cons.mp hz with e | e
    · subst e; exact ⟨hf, of_decide_eq_true h.1.2⟩
    · exact ha z e
theorem areWt_iff {last : Nat} {v : PyData} : areWt last v = true ↔ ∃ ws, v = encL ws ∧ WtOk last ws := by
  constructor
  · intro h
    cases v with
    | tuple vs =>
      have h : (decide (vs.length = last + 1) && (vs.all (fun x => isFr x && decide (0 ≤ (frOf x).1)) && decide (totalM (vs.map frOf) = (1, 1)))) = true := h
      rw [Bool.and_eq_true, Bool.and_eq_true] at h
      obtain ⟨fs, rfl, hf⟩ := wts_typed h.2.1
      have h1 := of_decide_eq_true h.1
      have h2 := of_decide_eq_true h.2.2
      rw [List.length_map] at h1
      rw [map_frOf] at h2
      exact ⟨fs, rfl, h1, hf, h2⟩
    | _ => cases h
  · rintro ⟨ws, rfl, h1, h2, h3⟩
    show (decide ((ws.map encF).length = last + 1) && ((ws.map encF).all _ && decide (totalM ((ws.map encF).map frOf) = (1, 1)))) = true
    rw [map_frOf, List.length_map, decide_eq_true h1, decide_eq_true h3, List.all_map, Bool.and_true, Bool.true_and, List.all_eq_true]
    intro f hf
    show (isFr (encF f) && decide (0 ≤ f.1)) = true
    rw [isFr_iff.mpr ⟨f, rfl, (h2 f hf).1⟩, decide_eq_true (h2 f hf).2] <;> rfl
def S_are_weights (ds : List PyData) (o : Out) : Prop := ∃ (last : Nat) (v : PyData), ds = [.int (last : Int), v] ∧ last ≤ 100 ∧ o = .ret (.bool (areWt last v))
/-! ### average_of -/
def avgM (vs : List Int) (ws : List (Int × Int)) : Int × Int := totalM ((vs.zip ws).map fun z => timesM (z.1, 1) z.2)
def S_average_of (ds : List PyData) (o : Out) : Prop := ∃ (d : PyData) (vs : List Int) (ws : List (Int × Int)) (n : Nat), ds = [d, encL ws] ∧ IsSeq d (vs.map .int) ∧ (∀ v ∈ vs, v.natAbs < 2 ^ 64) ∧ (∀ f ∈ ws, Fz n f) ∧ n ≤ 900 ∧ ws.length ≤ 8 ∧ o = .ret (encF (avgM vs ws))
/-! ### averages_of -/
def powL (last : Nat) (e : Nat) : List Int := (intsL 0 (last + 1)).map (· ^ e)
def avsM (last : Nat) (ws : List (Int × Int)) (many : Nat) : List (Int × Int) := (intsL 1 many).map fun e => avgM (powL last e.toNat) ws
def avsR (last : Nat) : PyData → PyData → Out
  | .tuple vs, .int k => .ret (encL (avsM last (vs.map frOf) k.toNat))
  | _, _ => .ret .none
/-- what averages_of does -/
def avsO (CN CW : Addr) (l wv m : PyData) : Out :=
  match l with
  | .int i => if inR l 1 6 = true then (if areWt i.toNat wv = true then (if inR m 1 (min i 3) = true then avsR i.toNat wv m else .exc ⟨CN, none⟩) else .exc ⟨CW, none⟩) else .exc ⟨CN, none⟩
  | _ => .exc ⟨CN, none⟩
def S_averages_of (CN CW : Addr) (ds : List PyData) (o : Out) : Prop := ∃ l wv m : PyData, ds = [l, wv, m] ∧ o = avsO CN CW l wv m
/-! ### coefficients -/
def coefS (r : List Int) (p : Int) : List Int := ((0 :: r).zip (r ++ [0])).map fun z => z.1 - p * z.2
def coefM (ps : List Int) : List Int := ps.foldl coefS [1]
theorem coefM_snoc (ps : List Int) (p : Int) : coefM (ps ++ [p]) = coefS (coefM ps) p := by unfold coefM; rw [List.foldl_append]; rfl
theorem coefS_len (r : List Int) (p : Int) : (coefS r p).length = r.length + 1 := by unfold coefS; simp
theorem coefM_len : ∀ ps : List Int, (coefM ps).length = ps.length + 1 := by
  have key : ∀ (ps r : List Int), (ps.foldl coefS r).length = ps.length + r.length := by
    intro ps
    induction ps with
    | nil => intro r; simp
    | cons p ps ih => intro r; rw [List.foldl_cons, ih, coefS_len, List.length_cons]; omega
  intro ps
  unfold coefM
  rw [key]
  rfl
def S_coefficients (ds : List PyData) (o : Out) : Prop := ∃ (d : PyData) (ps : List Int), ds = [d] ∧ IsSeq d (ps.map .int) ∧ (∀ p ∈ ps, p.natAbs < 2 ^ 62) ∧ ps.length ≤ 1000 ∧ o = .ret (.list ((coefM ps).map .int))
/-! ### all_placements -/
def lastP (one : List Int) : Int := one.getLast?.getD 0
def extP (last : Int) (one : List Int) : List (List Int) := (intsL (lastP one) (last + 1 - lastP one).toNat).map fun p => one ++ [p]
def allP (last : Int) : Nat → List (List Int)
  | 0 => [[]]
  | n + 1 => (allP last n).flatMap (extP last)
theorem allP_few : ∀ l : Fin 7, ∀ n : Fin 5, (allP (l.val : Int) n.val).length ≤ 1000 := by decide +kernel
theorem allP_mem {last : Int} (h0 : 0 ≤ last) : ∀ {n : Nat} {one : List Int}, one ∈ allP last n → one.length = n ∧ ∀ p ∈ one, 0 ≤ p ∧ p ≤ last
  | 0, one, h => by
    have : one = [] := by simpa [allP] using h
    subst this
    exact ⟨rfl, fun p hp => by simp at hp⟩
  | n + 1, one, h => by
    obtain ⟨o', h1, h2⟩ := List.mem_flatMap.mp h
    obtain ⟨p, hp, rfl⟩ := List.mem_map.mp h2
    obtain ⟨e1, e2⟩ := allP_mem h0 h1
    refine ⟨by rw [List.length_append, e1]; rfl, fun q hq => ?_⟩
    rcases List.mem_append.mp hq with z | z
    · exact e2 q z
    · have : q = p := by simpa using z
      subst this
      have hs : 0 ≤ lastP o' := by
        unfold lastP
        cases hg : o'.getLast? with
        | none => exact Int.le_refl 0
        | some y => exact (e2 y (List.mem_of_getLast? hg)).1
      unfold intsL at hp
      obtain ⟨j, hj, rfl⟩ := List.mem_map.mp hp
      have := List.mem_range.mp hj
      omega
def S_all_placements (ds : List PyData) (o : Out) : Prop := ∃ last items : Nat, ds = [.int (last : Int), .int (items : Int)] ∧ last ≤ 6 ∧ items ≤ 4 ∧ o = .ret (.list ((allP last items).map encP))
/-! ### mean_of -/
theorem cut_from {T : Type} {f : T → PyData} {xs : List T} {k : Nat} : DD.cutD (xs.map f) (some (k : Int)) none = (xs.drop k).map f := by
  have h : HT.sIx (xs.map f).length 0 (some (k : Int)) = min k xs.length := by rw [HT.sIx_nat, List.length_map]
  have h2 : HT.sIx (xs.map f).length (xs.map f).length none = xs.length := by rw [HT.sIx_none, List.length_map]
  unfold DD.cutD
  rw [h, h2, ← List.map_drop, ← List.map_take]
  congr 1
  rcases Nat.le_total k xs.length with hk | hk
  · rw [Nat.min_eq_left hk, List.take_of_length_le (by rw [List.length_drop]; omega)]
  · rw [Nat.min_eq_right hk, List.drop_eq_nil_of_le hk, List.drop_eq_nil_of_le (Nat.le_refl _)]
    exact List.take_nil
def meanS (r : Int × Int) (z : Int × (Int × Int)) : Int × Int := plusM r (timesM (z.1, 1) z.2)
def meanM (avs : List (Int × Int)) (row : List Int) : Int × Int := ((row.drop 1).zip avs).foldl meanS (row.headD 0, 1)
theorem mean_fold : ∀ (l : List (Int × (Int × Int))) (b : Int × Int) (m : Nat), Fz m b → (∀ z ∈ l, Fz 20 (z.1, 1) ∧ Fz 17 z.2) → Fz (m + 38 * l.length) (l.foldl meanS b) := by
  intro l
  induction l with
  | nil => intro b m hb _; simpa using hb
  | cons x l ih =>
    intro b m hb h
    rw [List.foldl_cons]
    have hx := h x List.mem_cons_self
    have := ih (meanS b x) (m + 37 + 1) (plusM_size hb (timesM_size hx.1 hx.2)) (fun f hf => h f (List.mem_cons_of_mem _ hf))
    refine this.up ?_
    rw [List.length_cons]
    omega
theorem mean_part {avs : List (Int × Int)} {row : List Int} (hr : ∀ v ∈ row, v.natAbs < 2 ^ 20) (ha : ∀ f ∈ avs, Frac f) : ∀ z ∈ (row.drop 1).zip avs, Fz 20 (z.1, 1) ∧ Fz 17 z.2 := fun z hz => by
  obtain ⟨a, b⟩ := z
  have := List.of_mem_zip hz
  exact ⟨⟨by show (0 : Int) < 1; decide, hr _ (List.mem_of_mem_drop this.1), by show (1 : Int).natAbs < 2 ^ 20; decide⟩, (ha _ this.2).size⟩
theorem meanM_size {avs : List (Int × Int)} {row : List Int} (hr : ∀ v ∈ row, v.natAbs < 2 ^ 20) (ha : ∀ f ∈ avs, Frac f) (hl : avs.length ≤ 3) : Fz 140 (meanM avs row) := by
  have hb : Fz 20 (row.headD 0, 1) := ⟨by show (0 : Int) < 1; decide, by
    cases row with
    | nil => decide
    | cons a r => exact hr _ List.mem_cons_self, by show (1 : Int).natAbs < 2 ^ 20; decide⟩
  have := mean_fold _ _ _ hb (mean_part hr ha)
  refine this.up ?_
  rw [List.length_zip]
  omega
def S_mean_of (ds : List PyData) (o : Out) : Prop := ∃ (avs : List (Int × Int)) (row : List Int), ds = [encL avs, .list (row.map .int)] ∧ row ≠ [] ∧ (∀ v ∈ row, v.natAbs < 2 ^ 20) ∧ (∀ f ∈ avs, Frac f) ∧ avs.length ≤ 8 ∧ o = .ret (encF (meanM avs row))
/-! ### share_at -/
def divM (place : Int) (others : List Int) : Int := others.foldl (fun d o => d * (place - o)) 1
def shareM (avs : List (Int × Int)) (place : Int) (others : List Int) : Int × Int :=
  if 0 < divM place others then redM (meanM avs (coefM others)).1 ((meanM avs (coefM others)).2 * divM place others)
  else redM (-(meanM avs (coefM others)).1) (-(meanM avs (coefM others)).2 * divM place others)
theorem divM_snoc (place : Int) (os : List Int) (x : Int) : divM place (os ++ [x]) = divM place os * (place - x) := by unfold divM; rw [List.foldl_append]; rfl
theorem divM_ne {place : Int} : ∀ {os : List Int}, place ∉ os → divM place os ≠ 0 := by
  have key : ∀ (os : List Int) (d : Int), d ≠ 0 → place ∉ os → os.foldl (fun d o => d * (place - o)) d ≠ 0 := by
    intro os
    induction os with
    | nil => intro d h _; exact h
    | cons o os ih =>
      intro d h hn
      rw [List.foldl_cons]
      refine ih _ (Int.mul_ne_zero h ?_) (fun z => hn (List.mem_cons_of_mem _ z))
      intro z
      exact hn (by rw [show place = o by omega]; exact List.mem_cons_self)
  intro os h
  exact key os 1 (by decide) h
theorem divM_size {place : Int} (h0 : 0 ≤ place ∧ place ≤ 6) : ∀ {os : List Int}, (∀ o ∈ os, 0 ≤ o ∧ o ≤ 6) → os.length ≤ 6 → (divM place os).natAbs < 2 ^ 20 := by
  have key : ∀ (os : List Int) (d : Int) (b : Nat), d.natAbs ≤ b → (∀ o ∈ os, 0 ≤ o ∧ o ≤ 6) → (os.foldl (fun d o => d * (place - o)) d).natAbs ≤ b * 6 ^ os.length := by
    intro os
    induction os with
    | nil => intro d b h _; simpa using h
    | cons o os ih =>
      intro d b h hn
      rw [List.foldl_cons]
      have ho := hn o List.mem_cons_self
      have := ih (d * (place - o)) (b * 6) (by rw [Int.natAbs_mul]; exact Nat.mul_le_mul h (by omega)) (fun x hx => hn x (List.mem_cons_of_mem _ hx))
      rw [List.length_cons, Nat.pow_succ, Nat.mul_comm (6 ^ _) 6, ← Nat.mul_assoc]
      exact this
  intro os h hl
  have h1 := key os 1 1 (Nat.le_refl _) h
  have h2 : 6 ^ os.length ≤ 6 ^ 6 := Nat.pow_le_pow_right (by decide) hl
  have h3 : (6 : Nat) ^ 6 < 2 ^ 20 := by decide
  unfold divM
  omega
theorem coef_size : ∀ {ps : List Int}, (∀ p ∈ ps, 0 ≤ p ∧ p ≤ 6) → ps.length ≤ 6 → ∀ v ∈ coefM ps, v.natAbs < 2 ^ 20 := by
  have key : ∀ (ps r : List Int) (b : Nat), (∀ v ∈ r, v.natAbs ≤ b) → (∀ p ∈ ps, 0 ≤ p ∧ p ≤ 6) → ∀ v ∈ ps.foldl coefS r, v.natAbs ≤ b * 7 ^ ps.length := by
    intro ps
    induction ps with
    | nil => intro r b h _ v hv; simpa using h v hv
    | cons p ps ih =>
      intro r b h hp v hv
      rw [List.foldl_cons] at hv
      have h6 := hp p List.mem_cons_self
      have := ih (coefS r p) (b * 7) (fun z hz => ?_) (fun x hx => hp x (List.mem_cons_of_mem _ hx)) v hv
      · rw [List.length_cons, Nat.pow_succ, Nat.mul_comm (7 ^ _) 7, ← Nat.mul_assoc]
        exact this
      · unfold coefS at hz
        obtain ⟨⟨a, c⟩, hac, rfl⟩ := List.mem_map.mp hz
        have hm := List.of_mem_zip hac
        have ha : a.natAbs ≤ b := by
          rcases List.mem_cons.mp hm.1 with e | e
          · subst e; exact Nat.zero_le _
          · exact h a e
        have hc : c.natAbs ≤ b := by
          rcases List.mem_append.mp hm.2 with e | e
          · exact h c e
          · rw [List.mem_singleton.mp e]; exact Nat.zero_le _
        have hpc : (p * c).natAbs ≤ 6 * b := by rw [Int.natAbs_mul]; exact Nat.mul_le_mul (by omega) hc
        show (a - p * c).natAbs ≤ b * 7
        omega
  intro ps hp hl v hv
  have h1 := key ps [1] 1 (by simp) hp v hv
  have h2 : 7 ^ ps.length ≤ 7 ^ 6 := Nat.pow_le_pow_right (by decide) hl
  have h3 : (7 : Nat) ^ 6 < 2 ^ 20 := by decide
  omega
/-- what share_at may be asked -/
def ShOk (avs : List (Int × Int)) (place : Int) (others : List Int) : Prop := (∀ f ∈ avs, Frac f) ∧ avs.length ≤ 3 ∧ 0 ≤ place ∧ place ≤ 6 ∧ (∀ p ∈ others, 0 ≤ p ∧ p ≤ 6) ∧ others.length ≤ 6 ∧ place ∉ others
theorem shareM_size {avs : List (Int × Int)} {place : Int} {others : List Int} (h : ShOk avs place others) : Fz 160 (shareM avs place others) := by
  obtain ⟨h1, h2, h3, h4, h5, h6, h7⟩ := h
  have hm := meanM_size (coef_size h5 h6) h1 (by omega)
  have hd := divM_size ⟨h3, h4⟩ h5 h6
  have hne := divM_ne h7
  unfold shareM
  split
  · rename_i hp
    exact redM_size (Int.mul_pos hm.1 hp) (Nat.lt_of_lt_of_le hm.2.1 (Nat.pow_le_pow_right (by decide) (by decide))) (wide_lt hm.2.2 hd)
  · rename_i hp
    refine redM_size (Int.mul_pos_of_neg_of_neg (by have := hm.1; omega) (by omega)) (by rw [Int.natAbs_neg]; exact Nat.lt_of_lt_of_le hm.2.1 (Nat.pow_le_pow_right (by decide) (by decide))) (wide_lt (by rw [Int.natAbs_neg]; exact hm.2.2) hd)
def S_share_at (ds : List PyData) (o : Out) : Prop := ∃ (avs : List (Int × Int)) (place : Int) (others : List Int), ds = [encL avs, .int place, .list (others.map .int)] ∧ ShOk avs place others ∧ o = .ret (encF (shareM avs place others))
/-! ### choices -/
def chooseM : List Int → Nat → List (List Int)
  | _, 0 => [[]]
  | [], _ + 1 => []
  | x :: xs, n + 1 => (chooseM xs n).map (x :: ·) ++ chooseM xs (n + 1)
/-- what the places of some from k on give -/
def chTail (xs : List Int) (n : Nat) (z : Nat × Int) : List (List Int) := (chooseM (xs.drop (z.1 + 1)) n).map (z.2 :: ·)
theorem choose_tails (n : Nat) : ∀ (pre xs : List Int), ((List.range' pre.length xs.length).zip xs).flatMap (chTail (pre ++ xs) n) = chooseM xs (n + 1) := by
  intro pre xs
  induction xs generalizing pre with
  | nil => rfl
  | cons x xs ih =>
    rw [List.length_cons, List.range'_succ, List.zip_cons_cons, List.flatMap_cons]
    have e : pre ++ x :: xs = (pre ++ [x]) ++ xs := by simp
    have h := ih (pre ++ [x])
    rw [List.length_append, List.length_singleton] at h
    rw [e, h]
    show chTail ((pre ++ [x]) ++ xs) n (pre.length, x) ++ _ = (chooseM xs n).map (x :: ·) ++ chooseM xs (n + 1)
    congr 1
    unfold chTail
    rw [show (pre.length + 1 : Nat) = (pre ++ [x]).length by simp, List.drop_left]
theorem choose_enum (xs : List Int) (n : Nat) : ((List.range xs.length).zip xs).flatMap (chTail xs n) = chooseM xs (n + 1) := by
  have := choose_tails n [] xs
  rw [List.range_eq_range']
  exact this
theorem choose_mem : ∀ {xs : List Int} {n : Nat} {c : List Int}, c ∈ chooseM xs n → c.length = n ∧ c.Sublist xs
  | xs, 0, c, h => by
    have : c = [] := by unfold chooseM at h; simpa using h
    subst this
    exact ⟨rfl, List.nil_sublist _⟩
  | [], n + 1, c, h => by unfold chooseM at h; cases h
  | x :: xs, n + 1, c, h => by
    unfold chooseM at h
    rcases List.mem_append.mp h with h | h
    · obtain ⟨d, hd, rfl⟩ := List.mem_map.mp h
      obtain ⟨e1, e2⟩ := choose_mem hd
      exact ⟨by rw [List.length_cons, e1], e2.cons_cons x⟩
    · obtain ⟨e1, e2⟩ := choose_mem h
      exact ⟨e1, e2.cons x⟩
theorem mem_choose : ∀ {xs : List Int} {c : List Int}, c.Sublist xs → c ∈ chooseM xs c.length
  | _, [], _ => by unfold chooseM; exact List.mem_singleton.mpr rfl
  | [], _ :: _, h => by cases h
  | x :: xs, y :: c, h => by
    rw [List.length_cons]
    unfold chooseM
    cases h with
    | cons _ h => exact List.mem_append_right _ (mem_choose h)
    | cons_cons _ h => exact List.mem_append_left _ (List.mem_map.mpr ⟨c, mem_choose h, rfl⟩)
theorem choose_few : ∀ (n : Nat) (xs : List Int), (chooseM xs n).length ≤ 2 ^ xs.length
  | 0, xs => by unfold chooseM; exact Nat.one_le_two_pow
  | n + 1, [] => by unfold chooseM; exact Nat.zero_le _
  | n + 1, x :: xs => by
    unfold chooseM
    rw [List.length_append, List.length_map, List.length_cons, Nat.pow_succ]
    have h1 := choose_few n xs
    have h2 := choose_few (n + 1) xs
    omega
def S_choices (n : Nat) (ds : List PyData) (o : Out) : Prop := ∃ xs : List Int, ds = [.list (xs.map .int), .int (n : Int)] ∧ xs.length ≤ 10 ∧ o = .ret (.list ((chooseM xs n).map encP))
/-! ### corners_of -/
abbrev Wts := List (Int × Int)
def keyF (f : Int × Int) : NestedKey := .tup [.num f.1, .num f.2]
def keyW (ws : Wts) : NestedKey := .tup (ws.map keyF)
theorem datas_map {T : Type} (f : T → NestedKey) : ∀ xs : List T, NestedKey.datas (xs.map f) = xs.map fun x => (f x).data
  | [] => rfl
  | x :: xs => by rw [List.map_cons, List.map_cons, NestedKey.datas, datas_map f xs]
theorem data_keyW (ws : Wts) : (keyW ws).data = encL ws := by
  unfold keyW encL
  rw [NestedKey.data, datas_map]
  rfl
theorem keyF_inj {f g : Int × Int} (h : keyF f = keyF g) : f = g := by
  unfold keyF at h
  injection h with h
  injection h with h1 h2
  injection h2 with h2 h3
  injection h1 with h1
  injection h2 with h2
  exact Prod.ext h1 h2
theorem keyW_inj {v w : Wts} (h : keyW v = keyW w) : v = w := by
  unfold keyW at h
  injection h with h
  exact (List.map_inj_right (fun a b e => keyF_inj e)).mp h
theorem alike_F (f g : Int × Int) : PySem.W.alike (encF f) (encF g) = true := by
  unfold encF
  simp [PySem.W.alike, PySem.W.alikeAll]
theorem alike_Fs : ∀ (v w : Wts), PySem.W.alikeAll (v.map encF) (w.map encF) = true
  | [], w => by rw [List.map_nil, PySem.W.alikeAll]
  | f :: v, [] => by rw [List.map_cons, List.map_nil, PySem.W.alikeAll]
  | f :: v, g :: w => by rw [List.map_cons, List.map_cons, PySem.W.alikeAll, alike_F, alike_Fs v w] <;> rfl
theorem alike_L (v w : Wts) : PySem.W.alike (encL v) (encL w) = true := by
  unfold encL
  rw [PySem.W.alike]
  exact alike_Fs v w
/-- the order in which corners are listed -/
def ltW (v w : Wts) : Bool := PySem.W.dataLt (encL v) (encL w)
theorem ltW_swo : SrtO.Swo ltW := swo_data encL
theorem ltW_total {v w : Wts} (h1 : ltW v w = false) (h2 : ltW w v = false) : v = w := by
  refine keyW_inj (key_total ?_ ?_ ?_)
  · rw [data_keyW, data_keyW]; exact alike_L v w
  · rw [data_keyW, data_keyW]; exact h1
  · rw [data_keyW, data_keyW]; exact h2
def insU (w : Wts) : List Wts → List Wts
  | [] => [w]
  | x :: r => if w = x then x :: r else if ltW w x = true then w :: x :: r else x :: insU w r
/-- sorted, each once -/
def sortU (l : List Wts) : List Wts := l.foldl (fun L w => insU w L) []
theorem mem_insU {w z : Wts} : ∀ {l : List Wts}, z ∈ insU w l ↔ z = w ∨ z ∈ l
  | [] => by simp [insU]
  | x :: r => by
    unfold insU
    split
    · rename_i h; subst h; simp
    · split
      · simp
      · rw [List.mem_cons, mem_insU (l := r), List.mem_cons]
        constructor
        · rintro (h | h | h)
          · exact .inr (.inl h)
          · exact .inl h
          · exact .inr (.inr h)
        · rintro (h | h | h)
          · exact .inr (.inl h)
          · exact .inl h
          · exact .inr (.inr h)
abbrev SrtU (l : List Wts) : Prop := l.Pairwise fun x y => ltW x y = true
theorem insU_srt {w : Wts} : ∀ {l : List Wts}, SrtU l → SrtU (insU w l)
  | [], _ => List.pairwise_singleton _ _
  | x :: r, h => by
    obtain ⟨h1, h2⟩ := List.pairwise_cons.mp h
    unfold insU
    split
    · exact h
    · rename_i hne
      split
      · rename_i hlt
        refine List.pairwise_cons.mpr ⟨fun z hz => ?_, h⟩
        rcases List.mem_cons.mp hz with e | e
        · rw [e]; exact hlt
        · exact ltW_swo.ltle hlt (ltW_swo.asym _ _ (h1 z e))
      · rename_i hlt
        have hlt : ltW w x = false := by simpa using hlt
        have hxw : ltW x w = true := by
          rcases SrtO.bcase (ltW x w) with q | q
          · exact q
          · exact absurd (ltW_total hlt q) hne
        refine List.pairwise_cons.mpr ⟨fun z hz => ?_, insU_srt h2⟩
        rcases mem_insU.mp hz with e | e
        · rw [e]; exact hxw
        · exact h1 z e
theorem insU_same {w : Wts} : ∀ {l : List Wts}, SrtU l → w ∈ l → insU w l = l
  | [], _, hm => by cases hm
  | x :: r, h, hm => by
    obtain ⟨h1, h2⟩ := List.pairwise_cons.mp h
    unfold insU
    split
    · rfl
    · rename_i hne
      have hr : w ∈ r := (List.mem_cons.mp hm).resolve_left hne
      have hx := ltW_swo.asym _ _ (h1 w hr)
      rw [if_neg (by rw [hx]; decide), insU_same h2 hr]
theorem insU_perm {w : Wts} : ∀ {l : List Wts}, w ∉ l → (insU w l).Perm (w :: l)
  | [], _ => List.Perm.refl _
  | x :: r, h => by
    have h1 : w ≠ x := fun e => h (by rw [e]; exact List.mem_cons_self)
    have h2 : w ∉ r := fun e => h (List.mem_cons_of_mem _ e)
    unfold insU
    rw [if_neg h1]
    split
    · exact List.Perm.refl _
    · exact ((insU_perm h2).cons x).trans (List.Perm.swap w x r)
theorem sortU_snoc (l : List Wts) (w : Wts) : sortU (l ++ [w]) = insU w (sortU l) := by unfold sortU; rw [List.foldl_append]; rfl
theorem snoc_ind {α : Type} {p : List α → Prop} (h0 : p []) (h1 : ∀ l a, p l → p (l ++ [a])) : ∀ l, p l := by
  intro l
  have key : ∀ l : List α, p l.reverse := by
    intro l
    induction l with
    | nil => exact h0
    | cons a l ih => rw [List.reverse_cons]; exact h1 _ _ ih
  have := key l.reverse
  rwa [List.reverse_reverse] at this
theorem sortU_srt : ∀ l, SrtU (sortU l) := snoc_ind List.Pairwise.nil fun l a h => by rw [sortU_snoc]; exact insU_srt h
theorem mem_sortU' {z : Wts} : ∀ l : List Wts, z ∈ sortU l ↔ z ∈ l := by
  refine snoc_ind (by simp [sortU]) fun l a h => ?_
  rw [sortU_snoc, mem_insU, List.mem_append, List.mem_singleton, h]
  exact ⟨fun q => q.elim .inr .inl, fun q => q.elim .inr .inl⟩
theorem mem_sortU {z : Wts} {l : List Wts} : z ∈ sortU l ↔ z ∈ l := mem_sortU' l
/-- the dict of these keys -/
def dictW (l : List Wts) : List (NestedKey × PyData) := l.foldl (fun kvs w => putD kvs (keyW w) (.bool true)) []
theorem dictW_snoc (l : List Wts) (w : Wts) : dictW (l ++ [w]) = putD (dictW l) (keyW w) (.bool true) := by unfold dictW; rw [List.foldl_append]; rfl
theorem dictW_ok : ∀ l : List Wts, (∀ kv ∈ dictW l, ∃ w ∈ l, kv = (keyW w, .bool true)) ∧ ((sortU l).map keyW).Perm ((dictW l).map (·.1)) := by
  refine snoc_ind ⟨fun kv h => (by cases h), List.Perm.refl _⟩ fun l a h => ?_
  obtain ⟨h1, h2⟩ := h
  rw [dictW_snoc, sortU_snoc]
  have hmem : ((dictW l).any fun kv => decide (kv.1 = keyW a)) = true ↔ a ∈ l := by
    rw [List.any_eq_true]
    constructor
    · rintro ⟨kv, m, e⟩
      obtain ⟨w, hw, rfl⟩ := h1 kv m
      have e : keyW w = keyW a := of_decide_eq_true e
      rw [← keyW_inj e]
      exact hw
    · intro ha
      have : keyW a ∈ (dictW l).map (·.1) := h2.mem_iff.mp (List.mem_map.mpr ⟨a, mem_sortU.mpr ha, rfl⟩)
      obtain ⟨kv, m, e⟩ := List.mem_map.mp this
      exact ⟨kv, m, decide_eq_true e⟩
  unfold putD
  split
  · rename_i hq
    have ha := hmem.mp hq
    have hsame : ((dictW l).map fun kv => if kv.1 = keyW a then (kv.1, PyData.bool true) else kv) = dictW l := by
      refine (List.map_congr_left fun kv m => ?_).trans (List.map_id _)
      obtain ⟨w, hw, rfl⟩ := h1 kv m
      simp
    rw [hsame, insU_same (sortU_srt l) (mem_sortU.mpr ha)]
    exact ⟨fun kv m => let ⟨w, hw, e⟩ := h1 kv m; ⟨w, List.mem_append_left _ hw, e⟩, h2⟩
  · rename_i hq
    have ha : a ∉ l := fun z => hq (hmem.mpr z)
    refine ⟨fun kv m => ?_, ?_⟩
    · rcases List.mem_append.mp m with m | m
      · obtain ⟨w, hw, e⟩ := h1 kv m
        exact ⟨w, List.mem_append_left _ hw, e⟩
      · rw [List.mem_singleton.mp m]
        exact ⟨a, by simp, rfl⟩
    · rw [List.map_append]
      exact ((insU_perm (fun z => ha (mem_sortU.mp z))).map keyW).trans ((h2.cons (keyW a)).trans (List.perm_append_singleton (keyW a) _).symm)
theorem dictW_len (l : List Wts) : (dictW l).length ≤ l.length := by
  revert l
  refine snoc_ind (Nat.le_refl _) fun l a h => ?_
  rw [dictW_snoc, List.length_append, List.length_singleton]
  unfold putD
  split
  · rw [List.length_map]; omega
  · rw [List.length_append, List.length_singleton]; omega
/-- weights above 0 at most at the places of a support -/
def wOf (last : Nat) (avs : List (Int × Int)) (sup : List Int) (done : List Int) : Wts := done.foldl (fun w p => w.set p.toNat (shareM avs p (sup.filter fun q => decide (q ≠ p)))) (List.replicate (last + 1) (0, 1))
theorem wOf_snoc (last : Nat) (avs : List (Int × Int)) (sup done : List Int) (p : Int) : wOf last avs sup (done ++ [p]) = (wOf last avs sup done).set p.toNat (shareM avs p (sup.filter fun q => decide (q ≠ p))) := by unfold wOf; rw [List.foldl_append]; rfl
theorem wOf_len (last : Nat) (avs : List (Int × Int)) (sup : List Int) : ∀ done, (wOf last avs sup done).length = last + 1 := snoc_ind (by unfold wOf; simp) fun l a h => by rw [wOf_snoc, List.length_set, h]
def nonnegW (ws : Wts) : Bool := ws.all fun f => decide (0 ≤ f.1)
def cornerList (last : Nat) (avs : List (Int × Int)) (sups : List (List Int)) : List Wts := (sups.map fun s => wOf last avs s s).filter nonnegW
def suppsM (last n : Nat) : List (List Int) := chooseM (intsL 0 (last + 1)) (n + 1)
def cornersM (last : Nat) (avs : List (Int × Int)) : List Wts := sortU (cornerList last avs (suppsM last avs.length))
theorem supp_mem {last n : Nat} {s : List Int} (h : s ∈ suppsM last n) : s.length = n + 1 ∧ (∀ p ∈ s, 0 ≤ p ∧ p ≤ (last : Int)) ∧ s.Nodup := by
  obtain ⟨h1, h2⟩ := choose_mem h
  refine ⟨h1, fun p hp => ?_, h2.nodup ?_⟩
  · have := intsL_mem (h2.subset hp)
    omega
  · unfold intsL
    exact List.pairwise_map.mpr (List.nodup_range.imp fun h e => h (by omega))
def S_corners_of (ds : List PyData) (o : Out) : Prop := ∃ (last : Nat) (avs : List (Int × Int)), ds = [.int (last : Int), encL avs] ∧ 1 ≤ last ∧ last ≤ 6 ∧ AvOk last avs ∧ o = .ret (.list ((cornersM last avs).map encL))
/-! ### range_of -/
theorem wOf_size {last : Nat} {avs : List (Int × Int)} {sup : List Int} (hl : avs.length ≤ 3) (ha : ∀ f ∈ avs, Frac f) (h6 : last ≤ 6) (hs : ∀ p ∈ sup, 0 ≤ p ∧ p ≤ (last : Int)) (hsl : sup.length ≤ 6) : ∀ done, (∀ p ∈ done, p ∈ sup) → ∀ f ∈ wOf last avs sup done, Fz 160 f := by
  refine snoc_ind (fun _ f hf => ?_) fun l a ih h f hf => ?_
  · unfold wOf at hf
    rw [List.foldl_nil] at hf
    have := (List.mem_replicate.mp hf).2
    subst this
    exact ⟨by decide, by decide, Fz.up (n := 1) (f := (0, 1)) ⟨by decide, by decide, by decide⟩ (by decide) |>.2.2⟩
  · rw [wOf_snoc] at hf
    rcases List.mem_or_eq_of_mem_set hf with q | q
    · exact ih (fun p hp => h p (List.mem_append_left _ hp)) f q
    · subst q
      have hp := hs a (h a (by simp))
      refine shareM_size ⟨ha, hl, hp.1, by omega, fun q hq => ?_, ?_, fun z => ?_⟩
      · have := hs q (List.mem_filter.mp hq).1; omega
      · have := List.length_filter_le (fun q => decide (q ≠ a)) sup; omega
      · have := (List.mem_filter.mp z).2; simp at this
theorem corner_mem {last : Nat} {avs : List (Int × Int)} {w : Wts} (h : w ∈ cornersM last avs) : ∃ s ∈ suppsM last avs.length, w = wOf last avs s s ∧ nonnegW w = true := by
  unfold cornersM at h
  have h := mem_sortU.mp h
  unfold cornerList at h
  obtain ⟨h1, h2⟩ := List.mem_filter.mp h
  obtain ⟨s, hs, rfl⟩ := List.mem_map.mp h1
  exact ⟨s, hs, rfl, h2⟩
theorem corner_size {last : Nat} {avs : List (Int × Int)} (h6 : last ≤ 6) (ha : AvOk last avs) {w : Wts} (h : w ∈ cornersM last avs) : w.length = last + 1 ∧ ∀ f ∈ w, Fz 160 f := by
  obtain ⟨s, hs, rfl, -⟩ := corner_mem h
  obtain ⟨s1, s2, -⟩ := supp_mem hs
  have h3 := ha.2.2.1
  exact ⟨wOf_len _ _ _ _, wOf_size ha.2.2.1 ha.2.2.2 h6 s2 (by omega) s (fun _ h => h)⟩
theorem insU_len (w : Wts) : ∀ l : List Wts, (insU w l).length ≤ l.length + 1
  | [] => Nat.le_refl _
  | x :: r => by
    unfold insU
    split
    · omega
    · split
      · exact Nat.le_refl _
      · rw [List.length_cons, List.length_cons]
        have := insU_len w r
        omega
theorem sortU_len : ∀ l : List Wts, (sortU l).length ≤ l.length := snoc_ind (Nat.le_refl _) fun l a h => by
  rw [sortU_snoc, List.length_append, List.length_singleton]
  have := insU_len a (sortU l)
  omega
theorem corners_few {last : Nat} (h6 : last ≤ 6) (avs : List (Int × Int)) : (cornersM last avs).length ≤ 128 := by
  refine Nat.le_trans (sortU_len _) (Nat.le_trans (List.length_filter_le _ _) ?_)
  rw [List.length_map]
  exact Nat.le_trans (choose_few _ _) (by rw [intsL_len]; exact Nat.pow_le_pow_right (n := 2) (by decide) (show last + 1 ≤ 7 by omega))
theorem avgM_size {n : Nat} {vs : List Int} {ws : Wts} (hv : ∀ v ∈ vs, v.natAbs < 2 ^ 64) (hw : ∀ f ∈ ws, Fz n f) (hl : ws.length ≤ 8) : Fz ((64 + n + 1) * 8 + 1) (avgM vs ws) := by
  have := totalM_size (n := 64 + n) ((vs.zip ws).map fun z => timesM (z.1, 1) z.2) (fun f hf => by
    obtain ⟨⟨a, b⟩, hz, rfl⟩ := List.mem_map.mp hf
    have := List.of_mem_zip hz
    exact timesM_size (f := (a, 1)) (n := 64) ⟨by show (0 : Int) < 1; decide, hv _ this.1, by show (1 : Int).natAbs < 2 ^ 64; decide⟩ (hw _ this.2))
  refine this.up ?_
  rw [List.length_map, List.length_zip]
  have : (64 + n + 1) * min vs.length ws.length ≤ (64 + n + 1) * 8 := Nat.mul_le_mul_left _ (by omega)
  omega
def meansM (last : Nat) (avs : List (Int × Int)) (vs : List Int) : List (Int × Int) := (cornersM last avs).map (avgM vs)
/-- what the bounds of some values are -/
def rangeO (CW : Addr) (last : Nat) (avs : List (Int × Int)) (vs : List Int) : Out :=
  if cornersM last avs = [] then .exc ⟨CW, none⟩ else .ret (.tuple [encF (leastM (meansM last avs vs)), encF (greatestM (meansM last avs vs))])
def S_range_of (CW : Addr) (ds : List PyData) (o : Out) : Prop := ∃ (last : Nat) (avs : List (Int × Int)) (d : PyData) (vs : List Int), ds = [.int (last : Int), encL avs, d] ∧ 1 ≤ last ∧ last ≤ 6 ∧ AvOk last avs ∧ IsSeq d (vs.map .int) ∧ (∀ v ∈ vs, v.natAbs < 2 ^ 64) ∧ o = rangeO CW last avs vs
/-! ### after check_averages -/
/-- a function of last and averages behind the check: raises, or goes on -/
def ofV (CN CA : Addr) (g : Nat → List (Int × Int) → Out) (l v : PyData) (o : Out) : Prop := (∃ b, chkV l v = some b ∧ o = outV CN CA (some b)) ∨ ∃ (last : Nat) (avs : List (Int × Int)), l = .int (last : Int) ∧ v = encL avs ∧ 1 ≤ last ∧ last ≤ 6 ∧ AvOk last avs ∧ o = g last avs
theorem ofV_of {CN CA : Addr} {g : Nat → List (Int × Int) → Out} (l v : PyData) : ∃ o, ofV CN CA g l v o := by
  cases h : chkV l v with
  | some b => exact ⟨_, .inl ⟨b, h, rfl⟩⟩
  | none =>
    obtain ⟨last, avs, e1, e2, h1, h2, h3⟩ := chkV_ok h
    exact ⟨_, .inr ⟨last, avs, e1, e2, h1, h2, h3, rfl⟩⟩
theorem ofV_ok {CN CA : Addr} {g : Nat → List (Int × Int) → Out} {last : Nat} {avs : List (Int × Int)} (h1 : 1 ≤ last) (h2 : last ≤ 6) (h3 : AvOk last avs) : ofV CN CA g (.int (last : Int)) (encL avs) (g last avs) := .inr ⟨last, avs, rfl, rfl, h1, h2, h3, rfl⟩
/-! ### bounds_at -/
def indV (last : Nat) (place : Int) : List Int := (intsL 0 (last + 1)).map fun p => if decide (p = place) then 1 else 0
def boundAtO (CN CW : Addr) (pl : PyData) (last : Nat) (avs : List (Int × Int)) : Out :=
  match pl with
  | .int i => if inR pl 0 (last : Int) = true then rangeO CW last avs (indV last i) else .exc ⟨CN, none⟩
  | _ => .exc ⟨CN, none⟩
def S_bounds_at (CN CA CW : Addr) (ds : List PyData) (o : Out) : Prop := ∃ l v pl : PyData, ds = [l, v, pl] ∧ ofV CN CA (boundAtO CN CW pl) l v o
/-! ### bounds_of -/
/-- values that may be given -/
def okVs (last : Nat) : PyData → Bool
  | .tuple vs => decide (vs.length = last + 1) && vs.all fun x => inR x (-99) 99
  | _ => false
def intOf : PyData → Int
  | .int i => i
  | _ => 0
def boundOfO (CV CW : Addr) (vv : PyData) (last : Nat) (avs : List (Int × Int)) : Out :=
  if okVs last vv = true then (match vv with
    | .tuple vs => rangeO CW last avs (vs.map intOf)
    | _ => .ret .none) else .exc ⟨CV, none⟩
theorem okVs_iff {last : Nat} {v : PyData} : okVs last v = true ↔ ∃ vs : List Int, v = .tuple (vs.map .int) ∧ vs.length = last + 1 ∧ ∀ x ∈ vs, -99 ≤ x ∧ x ≤ 99 := by
  have key : ∀ xs : List PyData, xs.all (fun x => inR x (-99) 99) = true → ∃ vs : List Int, xs = vs.map .int ∧ ∀ x ∈ vs, -99 ≤ x ∧ x ≤ 99 := by
    intro xs
    induction xs with
    | nil => exact fun _ => ⟨[], rfl, fun x hx => by cases hx⟩
    | cons a xs ih =>
      intro h
      rw [List.all_cons, Bool.and_eq_true] at h
      obtain ⟨i, rfl, i1, i2⟩ := inR_iff.mp h.1
      obtain ⟨vs, rfl, hv⟩ := ih h.2
      refine ⟨i :: vs, rfl, fun x hx => ?_⟩
      rcases List.mem_cons.mp hx with e | e
      · subst e; exact ⟨i1, i2⟩
      · exact hv x e
  constructor
  · intro h
    cases v with
    | tuple xs =>
      have h : (decide (xs.length = last + 1) && xs.all fun x => inR x (-99) 99) = true := h
      rw [Bool.and_eq_true] at h
      obtain ⟨vs, rfl, hv⟩ := key xs h.2
      have := of_decide_eq_true h.1
      rw [List.length_map] at this
      exact ⟨vs, rfl, this, hv⟩
    | _ => cases h
  · rintro ⟨vs, rfl, h1, h2⟩
    show (decide ((vs.map PyData.int).length = last + 1) && (vs.map PyData.int).all fun x => inR x (-99) 99) = true
    rw [List.length_map, decide_eq_true h1, List.all_map, Bool.true_and, List.all_eq_true]
    intro x hx
    exact inR_iff.mpr ⟨x, rfl, h2 x hx⟩
theorem intOf_map (vs : List Int) : (vs.map PyData.int).map intOf = vs := by rw [List.map_map]; exact List.map_id vs
def S_bounds_of (CN CA CV CW : Addr) (ds : List PyData) (o : Out) : Prop := ∃ l v vv : PyData, ds = [l, v, vv] ∧ ofV CN CA (boundOfO CV CW vv) l v o
/-! ### next_range -/
def nextO (CN CW : Addr) (last : Nat) (avs : List (Int × Int)) : Out := if avs.length = min last 3 then .exc ⟨CN, none⟩ else rangeO CW last avs (powL last (avs.length + 1))
def S_next_range (CN CA CW : Addr) (ds : List PyData) (o : Out) : Prop := ∃ l v : PyData, ds = [l, v] ∧ ofV CN CA (nextO CN CW) l v o
theorem powL_small {last e : Nat} (h6 : last ≤ 6) (h4 : e ≤ 4) : ∀ v ∈ powL last e, v.natAbs < 2 ^ 64 := fun v hv => by
  obtain ⟨p, hp, rfl⟩ := List.mem_map.mp hv
  have hp := intsL_mem hp
  rw [Int.natAbs_pow]
  exact Nat.lt_of_le_of_lt (Nat.le_trans (Nat.pow_le_pow_left (show p.natAbs ≤ 6 by omega) _) (Nat.pow_le_pow_right (by decide) h4)) (by decide)
/-! ### weights_for -/
def weightsO (CW : Addr) (last : Nat) (avs : List (Int × Int)) : Out := match cornersM last avs with
  | [] => .exc ⟨CW, none⟩
  | c :: _ => .ret (encL c)
def S_weights_for (CN CA CW : Addr) (ds : List PyData) (o : Out) : Prop := ∃ l v : PyData, ds = [l, v] ∧ ofV CN CA (weightsO CW) l v o
/-! ### check_answers -/
def okA : PyData → Bool
  | .tuple [x, y] => inR x 1 3 && inR y 0 9999
  | _ => false
/-- none: valid; some true: InvalidNumber; some false: InvalidAnswers -/
def chkA (l it an : PyData) : Option Bool :=
  if inR l 1 6 = true then (if inR it 1 4 = true then (match an with | .tuple as => if as.all okA = true then none else some false | _ => some false) else some true) else some true
def outC (CN CA : Addr) : Option Bool → Out
  | none => .ret .none
  | some true => .exc ⟨CN, none⟩
  | some false => .exc ⟨CA, none⟩
def S_check_answers (CN CA : Addr) (ds : List PyData) (o : Out) : Prop := ∃ l it an : PyData, ds = [l, it, an] ∧ o = outC CN CA (chkA l it an)
/-! ### power_sum -/
def psum (e : Nat) (pl : List Int) : Int := (pl.map (· ^ e)).sum
def S_power_sum (ds : List PyData) (o : Out) : Prop := ∃ (pl : List Int) (e : Nat), ds = [encP pl, .int (e : Int)] ∧ (∀ p ∈ pl, p.natAbs < 2 ^ 64) ∧ pl.length ≤ 1000 ∧ e < 2 ^ 62 ∧ o = .ret (.int (psum e pl))
/-! ### candidates -/
def encA (z : Int × Int) : PyData := .tuple [.int z.1, .int z.2]
/-- valid answers -/
def AnsOk (as : List (Int × Int)) : Prop := ∀ z ∈ as, 1 ≤ z.1 ∧ z.1 ≤ 3 ∧ 0 ≤ z.2 ∧ z.2 ≤ 9999
def agrees (as : List (Int × Int)) (pl : List Int) : Bool := as.all fun z => decide (psum z.1.toNat pl = z.2)
def cand (last : Int) (items : Nat) (as : List (Int × Int)) : List (List Int) := (allP last items).filter (agrees as)
theorem ans_typed : ∀ {xs : List PyData}, xs.all okA = true → ∃ as : List (Int × Int), xs = as.map encA ∧ AnsOk as
  | [], _ => ⟨[], rfl, fun z hz => by simp at hz⟩
  | x :: xs, h => by
    rw [List.all_cons, Bool.and_eq_true] at h
    obtain ⟨as, rfl, ha⟩ := ans_typed h.2
    obtain ⟨h1, _⟩ := h
    unfold okA at h1
    split at h1
    · rename_i b1 b2
      rw [Bool.and_eq_true] at h1
      obtain ⟨i, rfl, i1, i2⟩ := inR_iff.mp h1.1
      obtain ⟨j, rfl, j1, j2⟩ := inR_iff.mp h1.2
      refine ⟨(i, j) :: as, rfl, fun z hz => ?_⟩
      rcases List.mem_cons.mp hz with e | e
      · subst e; exact ⟨i1, i2, j1, j2⟩
      · exact ha z e
    · cases h1
theorem ans_ok {as : List (Int × Int)} (h : AnsOk as) : (as.map encA).all okA = true := by
  rw [List.all_map, List.all_eq_true]
  intro z hz
  obtain ⟨a1, a2, a3, a4⟩ := h z hz
  show (inR (.int z.1) 1 3 && inR (.int z.2) 0 9999) = true
  simp [inR, a1, a2, a3, a4]
theorem chkA_ok {l it an : PyData} (h : chkA l it an = none) : ∃ (last items : Nat) (as : List (Int × Int)), l = .int last ∧ it = .int items ∧ an = .tuple (as.map encA) ∧ 1 ≤ last ∧ last ≤ 6 ∧ 1 ≤ items ∧ items ≤ 4 ∧ AnsOk as := by
  unfold chkA at h
  split at h
  · rename_i h1
    split at h
    · rename_i h2
      obtain ⟨i, rfl, i1, i2⟩ := inR_iff.mp h1
      obtain ⟨j, rfl, j1, j2⟩ := inR_iff.mp h2
      cases an with
      | tuple as =>
        simp only at h
        split at h
        · rename_i h3
          obtain ⟨as, rfl, ha⟩ := ans_typed h3
          exact ⟨i.toNat, j.toNat, as, by congr 1; omega, by congr 1; omega, rfl, by omega, by omega, by omega, by omega, ha⟩
        · cases h
      | _ => cases h
    · cases h
  · cases h
theorem chkA_of {last items : Nat} {as : List (Int × Int)} (h1 : 1 ≤ last) (h2 : last ≤ 6) (h3 : 1 ≤ items) (h4 : items ≤ 4) (h : AnsOk as) : chkA (.int last) (.int items) (.tuple (as.map encA)) = none := by
  unfold chkA
  rw [if_pos (inR_iff.mpr ⟨_, rfl, by omega, by omega⟩), if_pos (inR_iff.mpr ⟨_, rfl, by omega, by omega⟩)]
  show (if (as.map encA).all okA = true then none else some false) = none
  rw [if_pos (ans_ok h)]
/-- what a function of last, items, answers does: raise, or hand back g of them -/
def ofA (CN CA : Addr) (g : Int → Nat → List (Int × Int) → Out) (ds : List PyData) (o : Out) : Prop := ∃ l it an : PyData, ds = [l, it, an] ∧
  ((∃ b, chkA l it an = some b ∧ o = outC CN CA (some b)) ∨ ∃ (last items : Nat) (as : List (Int × Int)), l = .int last ∧ it = .int items ∧ an = .tuple (as.map encA) ∧ 1 ≤ last ∧ last ≤ 6 ∧ 1 ≤ items ∧ items ≤ 4 ∧ AnsOk as ∧ as.length ≤ 1000 ∧ o = g last items as)
def S_candidates (CN CA : Addr) : List PyData → Out → Prop := ofA CN CA fun last items as => .ret (.list ((cand last items as).map encP))
theorem shaped_int (i : Int) : SeqAt.shaped (.int i) = true := by simp [SeqAt.shaped, PyData.canLay0, PyData.depth]
/-! ### best_power -/
/-- the greatest of some whole numbers -/
def mx : List Int → Int
  | [] => 0
  | [x] => x
  | x :: y :: r => max x (mx (y :: r))
theorem mx_in : ∀ {xs : List Int}, xs ≠ [] → mx xs ∈ xs ∧ ∀ y ∈ xs, y ≤ mx xs
  | [], h => absurd rfl h
  | [x], _ => ⟨by simp [mx], fun y hy => by simp at hy; subst hy; exact Int.le_refl _⟩
  | x :: y :: r, _ => by
    obtain ⟨h1, h2⟩ := mx_in (xs := y :: r) (by simp)
    show max x (mx (y :: r)) ∈ _ ∧ _
    refine ⟨?_, fun z hz => ?_⟩
    · rcases Int.le_total x (mx (y :: r)) with h | h
      · rw [Int.max_eq_right h]; exact List.mem_cons_of_mem _ h1
      · rw [Int.max_eq_left h]; exact List.mem_cons_self
    · show z ≤ max x (mx (y :: r))
      rcases List.mem_cons.mp hz with e | e
      · subst e; exact Int.le_max_left _ _
      · exact Int.le_trans (h2 z e) (Int.le_max_right _ _)
def worst (found : List (List Int)) (e : Nat) : Int := mx (((found.map (psum e)).map fun t => ((found.map (psum e)).count t : Nat)).map Int.ofNat)
def betterB : Option (Int × Int) → Int → Bool
  | none, _ => true
  | some z, w => decide (w < z.1)
/-- one step of the search -/
def bestStep (found : List (List Int)) (b : Option (Int × Int)) (e : Int) : Option (Int × Int) :=
  if worst found e.toNat < found.length ∧ betterB b (worst found e.toNat) = true then some (worst found e.toNat, e) else b
def encB : Option (Int × Int) → PyData
  | none => .none
  | some z => .tuple [.int z.1, .int z.2]
def bestOf (found : List (List Int)) : PyData := match (intsL 1 3).foldl (bestStep found) none with
  | none => .none
  | some z => .int z.2
def S_best_power (CN CA : Addr) : List PyData → Out → Prop := ofA CN CA fun last items as => if cand last items as = [] then .exc ⟨CA, none⟩ else .ret (bestOf (cand last items as))
theorem cand_mem {last : Int} {items : Nat} {as : List (Int × Int)} {pl : List Int} (h0 : 0 ≤ last) (h : pl ∈ cand last items as) : pl.length = items ∧ ∀ p ∈ pl, 0 ≤ p ∧ p ≤ last := allP_mem h0 (List.mem_filter.mp h).1
/-! ### _law_cell -/
def S__law_cell (ns : List Int) (ds : List PyData) (o : Out) : Prop := ∃ k : Nat, ds = [.int (k : Int)] ∧ o = .ret (.int (ns.getD k 0))
/-! ### _law_row -/
def rowStep (ns : List Int) (at_ : Nat) (st : Int × List Int) (t : Int) : Int × List Int :=
  if ns.getD at_ 0 < 10 ^ 18 then
    ((st.1 * 48271 + 131 * t + 7 + ns.getD ((at_ + 1 + t.toNat) % 20) 0) % 2147483647, st.2 ++ [(st.1 * 48271 + 131 * t + 7 + ns.getD ((at_ + 1 + t.toNat) % 20) 0) % 2147483647 / 11 % 1000])
  else (st.1 / 1000, st.2 ++ [st.1 % 1000])
def rowAt (ns : List Int) (at_ : Nat) (ts : List Int) : Int × List Int := ts.foldl (rowStep ns at_) (ns.getD at_ 0, [])
def rowM (ns : List Int) (at_ : Nat) : List Int := (rowAt ns at_ (intsL 0 60)).2
theorem rowAt_snoc (ns : List Int) (at_ : Nat) (ts : List Int) (t : Int) : rowAt ns at_ (ts ++ [t]) = rowStep ns at_ (rowAt ns at_ ts) t := by
  unfold rowAt
  rw [List.foldl_append]
  rfl
theorem rowAt_ok (ns : List Int) (at_ : Nat) : ∀ ts : List Int, (rowAt ns at_ ts).2.length = ts.length ∧ ∀ x ∈ (rowAt ns at_ ts).2, 0 ≤ x ∧ x < 1000 := by
  intro ts
  have key : ∀ (ts : List Int) (st : Int × List Int), (∀ x ∈ st.2, 0 ≤ x ∧ x < 1000) → (ts.foldl (rowStep ns at_) st).2.length = st.2.length + ts.length ∧ ∀ x ∈ (ts.foldl (rowStep ns at_) st).2, 0 ≤ x ∧ x < 1000 := by
    intro ts
    induction ts with
    | nil => intro st h; exact ⟨rfl, h⟩
    | cons t ts ih =>
      intro st h
      have step : ∀ y : Int, 0 ≤ y % 1000 ∧ y % 1000 < 1000 := fun y => ⟨Int.emod_nonneg _ (by decide), Int.emod_lt_of_pos _ (by decide)⟩
      have h2 : (∀ x ∈ (rowStep ns at_ st t).2, 0 ≤ x ∧ x < 1000) ∧ (rowStep ns at_ st t).2.length = st.2.length + 1 := by
        unfold rowStep
        split
        · refine ⟨fun x hx => ?_, by simp⟩
          rcases List.mem_append.mp hx with z | z
          · exact h x z
          · rw [List.mem_singleton] at z; rw [z]; exact step _
        · refine ⟨fun x hx => ?_, by simp⟩
          rcases List.mem_append.mp hx with z | z
          · exact h x z
          · rw [List.mem_singleton] at z; rw [z]; exact step _
      obtain ⟨e1, e2⟩ := ih _ h2.1
      exact ⟨by rw [List.foldl_cons, e1, h2.2, List.length_cons]; omega, e2⟩
  have := key ts (ns.getD at_ 0, []) (fun x hx => by simp at hx)
  exact ⟨by rw [show rowAt ns at_ ts = ts.foldl (rowStep ns at_) (ns.getD at_ 0, []) from rfl, this.1, List.length_nil, Nat.zero_add], this.2⟩
theorem rowM_len (ns : List Int) (at_ : Nat) : (rowM ns at_).length = 60 := by unfold rowM; rw [(rowAt_ok ns at_ _).1, intsL_len]
/-- the i-th draw -/
def dr (ns : List Int) (at_ i : Nat) : Int := (rowM ns at_).getD i 0
theorem dr_bd (ns : List Int) (at_ i : Nat) : 0 ≤ dr ns at_ i ∧ dr ns at_ i < 1000 := by
  unfold dr
  by_cases h : i < (rowM ns at_).length
  · rw [getD_in h]
    exact (rowAt_ok ns at_ _).2 _ (List.getElem_mem h)
  · rw [getD_out (by omega)]; decide
theorem dr_at (ns : List Int) (at_ : Nat) {i : Nat} (h : i < 60) : atI ((rowM ns at_).map PyData.int) (i : Int) = some (.int (dr ns at_ i)) := by
  refine atI_nat ?_
  have hl : i < (rowM ns at_).length := by rw [rowM_len]; exact h
  rw [List.getElem?_map, List.getElem?_eq_getElem hl]
  unfold dr
  rw [getD_in hl]
  rfl
def S__law_row (ns : List Int) (ds : List PyData) (o : Out) : Prop := ∃ at_ : Nat, ds = [.int (at_ : Int)] ∧ at_ < 1000 ∧ o = .ret (.list ((rowM ns at_).map .int))
/-! ### _law_power -/
end DD
namespace Mo
/-! ### sums of fractions -/
def su {α : Type} : List α → (α → Rat) → Rat
  | [], _ => 0
  | a :: r, f => f a + su r f
theorem su_nil {α : Type} (f : α → Rat) : su [] f = 0 := rfl
theorem su_cons {α : Type} (a : α) (r : List α) (f : α → Rat) : su (a :: r) f = f a + su r f := rfl
section
variable {α : Type}
theorem su_congr {l : List α} {f g : α → Rat} (h : ∀ a ∈ l, f a = g a) : su l f = su l g := by
  induction l with
  | nil => rfl
  | cons a l ih => unfold su; rw [h a List.mem_cons_self, ih fun x hx => h x (List.mem_cons_of_mem _ hx)]
theorem su_add (l : List α) (f g : α → Rat) : su l (fun a => f a + g a) = su l f + su l g := by
  induction l with
  | nil => unfold su; grind
  | cons a l ih => unfold su; grind
theorem su_sub (l : List α) (f g : α → Rat) : su l (fun a => f a - g a) = su l f - su l g := by
  induction l with
  | nil => unfold su; grind
  | cons a l ih => unfold su; grind
theorem su_mul (c : Rat) (l : List α) (f : α → Rat) : su l (fun a => c * f a) = c * su l f := by
  induction l with
  | nil => unfold su; grind
  | cons a l ih => unfold su; grind
theorem su_zero {l : List α} {f : α → Rat} (h : ∀ a ∈ l, f a = 0) : su l f = 0 := by
  induction l with
  | nil => rfl
  | cons a l ih =>
    unfold su
    rw [h a List.mem_cons_self, ih fun x hx => h x (List.mem_cons_of_mem _ hx)]
    grind
theorem su_nonneg {l : List α} {f : α → Rat} (h : ∀ a ∈ l, 0 ≤ f a) : 0 ≤ su l f := by
  induction l with
  | nil => unfold su; grind
  | cons a l ih =>
    unfold su
    have h1 := h a List.mem_cons_self
    have h2 := ih fun x hx => h x (List.mem_cons_of_mem _ hx)
    grind
theorem su_le {l : List α} {f g : α → Rat} (h : ∀ a ∈ l, f a ≤ g a) : su l f ≤ su l g := by
  induction l with
  | nil => unfold su; grind
  | cons a l ih =>
    unfold su
    have h1 := h a List.mem_cons_self
    have h2 := ih fun x hx => h x (List.mem_cons_of_mem _ hx)
    grind
/-- a sum 0 of terms not below 0 -/
theorem su_pos_zero {l : List α} {f : α → Rat} (h : ∀ a ∈ l, 0 ≤ f a) (h0 : su l f = 0) : ∀ a ∈ l, f a = 0 := by
  induction l with
  | nil => intro a ha; cases ha
  | cons b l ih =>
    unfold su at h0
    have h1 := h b List.mem_cons_self
    have h2 := su_nonneg fun x hx => h x (List.mem_cons_of_mem _ hx)
    intro a ha
    rcases List.mem_cons.mp ha with e | e
    · subst e; grind
    · exact ih (fun x hx => h x (List.mem_cons_of_mem _ hx)) (by grind) a e
theorem su_append (l r : List α) (f : α → Rat) : su (l ++ r) f = su l f + su r f := by
  induction l with
  | nil => rw [List.nil_append, su_nil]; grind
  | cons a l ih => rw [List.cons_append, su_cons, su_cons, ih]; grind
theorem su_perm {l r : List α} (h : l.Perm r) (f : α → Rat) : su l f = su r f := by
  induction h with
  | nil => rfl
  | cons a h ih => unfold su; rw [ih]
  | swap a b l => rw [su_cons, su_cons, su_cons, su_cons]; grind
  | trans h1 h2 i1 i2 => rw [i1, i2]
theorem su_filter {l : List α} {f : α → Rat} {p : α → Bool} (h : ∀ a ∈ l, p a = false → f a = 0) : su (l.filter p) f = su l f := by
  induction l with
  | nil => rfl
  | cons a l ih =>
    have i := ih fun x hx => h x (List.mem_cons_of_mem _ hx)
    rw [List.filter_cons]
    split
    · unfold su; rw [i]
    · rename_i hp
      have := h a List.mem_cons_self (by simpa using hp)
      rw [i]
      show su l f = f a + su l f
      grind
theorem su_map {β : Type} (g : β → α) (l : List β) (f : α → Rat) : su (l.map g) f = su l (fun b => f (g b)) := by
  induction l with
  | nil => rfl
  | cons a l ih => rw [List.map_cons]; unfold su; rw [ih]
/-- a part of a list, the rest gives nothing -/
theorem su_part [DecidableEq α] {l s : List α} {f : α → Rat} (hl : l.Nodup) (hs : s.Nodup) (sub : ∀ a ∈ s, a ∈ l) (h : ∀ a ∈ l, a ∉ s → f a = 0) : su s f = su l f := by
  rw [← su_filter (p := fun a => decide (a ∈ s)) (fun a ha hd => h a ha (of_decide_eq_false hd))]
  refine su_perm ?_ f
  refine (List.perm_ext_iff_of_nodup hs (hl.filter _)).mpr fun a => ?_
  rw [List.mem_filter]
  exact ⟨fun h => ⟨sub a h, decide_eq_true h⟩, fun h => of_decide_eq_true h.2⟩
theorem su_one [DecidableEq α] {l : List α} {f : α → Rat} {x : α} (hl : l.Nodup) (hx : x ∈ l) (h : ∀ a ∈ l, a ≠ x → f a = 0) : su l f = f x := by
  rw [← su_part (s := [x]) hl (List.nodup_cons.mpr ⟨by simp, List.nodup_nil⟩) (fun a ha => by rw [List.mem_singleton.mp ha]; exact hx) (fun a ha hn => h a ha (fun e => hn (by rw [e]; simp)))]
  rw [su_cons, su_nil]; grind
end

/-! ### a row of averages, products of differences -/
/-- of (x - a) times .. -/
def shf (a : Int) (m : Nat → Rat) : Nat → Rat := fun k => m (k + 1) - (a : Rat) * m k
theorem shf_comm (a b : Int) (m : Nat → Rat) : shf a (shf b m) = shf b (shf a m) := by
  funext k; unfold shf; grind
def shfs (os : List Int) (m : Nat → Rat) : Nat → Rat := os.foldl (fun m a => shf a m) m
theorem shfs_cons (a : Int) (os : List Int) (m : Nat → Rat) : shfs (a :: os) m = shfs os (shf a m) := rfl
theorem shfs_out (a : Int) : ∀ (os : List Int) (m : Nat → Rat), shfs os (shf a m) = shf a (shfs os m)
  | [], m => rfl
  | b :: os, m => by rw [shfs_cons, shfs_cons, shf_comm, shfs_out a os]
theorem shfs_perm {os ps : List Int} (h : os.Perm ps) : ∀ m : Nat → Rat, shfs os m = shfs ps m := by
  induction h with
  | nil => intro m; rfl
  | cons a h ih => intro m; rw [shfs_cons, shfs_cons, ih]
  | swap a b l => intro m; rw [shfs_cons, shfs_cons, shfs_cons, shfs_cons, shf_comm]
  | trans h1 h2 i1 i2 => intro m; rw [i1, i2]
/-- the product of the differences at a place -/
def pr (p : Int) : List Int → Rat
  | [] => 1
  | o :: os => ((p - o : Int) : Rat) * pr p os
theorem pr_perm {p : Int} {os ps : List Int} (h : os.Perm ps) : pr p os = pr p ps := by
  induction h with
  | nil => rfl
  | cons a h ih => unfold pr; rw [ih]
  | swap a b l => show _ * (_ * _) = _ * (_ * _); grind
  | trans h1 h2 i1 i2 => rw [i1, i2]
theorem pr_zero {p : Int} {os : List Int} (h : p ∈ os) : pr p os = 0 := by
  induction os with
  | nil => cases h
  | cons o os ih =>
    unfold pr
    rcases List.mem_cons.mp h with e | e
    · subst e; rw [Int.sub_self]; grind
    · rw [ih e]; grind
theorem rat_ne {p o : Int} (h : p ≠ o) : ((p - o : Int) : Rat) ≠ 0 := by
  intro z
  have : (p - o : Int) = 0 := by exact_mod_cast z
  omega
theorem pr_ne {p : Int} {os : List Int} (h : p ∉ os) : pr p os ≠ 0 := by
  induction os with
  | nil => unfold pr; grind
  | cons o os ih =>
    unfold pr
    have h1 := rat_ne (p := p) (o := o) (fun e => h (by rw [e]; exact List.mem_cons_self))
    have h2 := ih fun e => h (List.mem_cons_of_mem _ e)
    intro z
    rcases Rat.mul_eq_zero.mp z with z | z
    · exact h1 z
    · exact h2 z
/-- moments of weights on a row of places -/
def mom (R : List Int) (w : Int → Rat) (k : Nat) : Rat := su R fun p => (p : Rat) ^ k * w p
theorem shf_mom (a : Int) (R : List Int) (w : Int → Rat) : shf a (mom R w) = mom R (fun p => ((p - a : Int) : Rat) * w p) := by
  funext k
  unfold shf mom
  rw [← su_mul, ← su_sub]
  refine su_congr fun p _ => ?_
  show _ = (p : Rat) ^ k * (((p - a : Int) : Rat) * w p)
  rw [Rat.intCast_sub]
  grind
theorem shfs_mom : ∀ (os : List Int) (R : List Int) (w : Int → Rat), shfs os (mom R w) = mom R (fun p => pr p os * w p)
  | [], R, w => by
    show mom R w = _
    congr 1
    funext p
    unfold pr
    grind
  | a :: os, R, w => by
    rw [shfs_cons, shf_mom, shfs_mom os]
    congr 1
    funext p
    show pr p os * (_ * w p) = _ * pr p os * w p
    grind
theorem mom_zero (R : List Int) (w : Int → Rat) : mom R w 0 = su R w := by
  unfold mom
  refine su_congr fun p _ => ?_
  grind
theorem shfs_mom0 (os R : List Int) (w : Int → Rat) : shfs os (mom R w) 0 = su R fun p => pr p os * w p := by
  rw [shfs_mom, mom_zero]
/-! ### the weight at a place if all is at few places -/
def oth (S : List Int) (p : Int) : List Int := S.filter fun q => decide (q ≠ p)
theorem mem_oth {S : List Int} {p q : Int} : q ∈ oth S p ↔ q ∈ S ∧ q ≠ p := by unfold oth; rw [List.mem_filter, decide_eq_true_iff]
theorem oth_not {S : List Int} {p : Int} : p ∉ oth S p := fun h => (mem_oth.mp h).2 rfl
theorem oth_perm {S : List Int} {p : Int} (h : S.Nodup) (hp : p ∈ S) : S.Perm (p :: oth S p) := by
  refine (List.perm_ext_iff_of_nodup h (List.nodup_cons.mpr ⟨oth_not, h.filter _⟩)).mpr fun a => ?_
  rw [List.mem_cons, mem_oth]
  constructor
  · intro ha
    by_cases e : a = p
    · exact .inl e
    · exact .inr ⟨ha, e⟩
  · rintro (e | e)
    · rw [e]; exact hp
    · exact e.1
theorem oth_len {S : List Int} {p : Int} (h : S.Nodup) (hp : p ∈ S) : (oth S p).length + 1 = S.length := by
  have := (oth_perm h hp).length_eq
  rw [List.length_cons] at this
  omega
def shr (S : List Int) (m : Nat → Rat) (p : Int) : Rat := shfs (oth S p) m 0 / pr p (oth S p)
/-- weights at few places are those that are found from their averages -/
theorem shr_uniq {S : List Int} (hS : S.Nodup) (w : Int → Rat) {p : Int} (hp : p ∈ S) : shr S (mom S w) p = w p := by
  unfold shr
  rw [shfs_mom0, su_one hS hp (fun a ha hne => by rw [pr_zero (mem_oth.mpr ⟨ha, hne⟩)]; grind)]
  have := pr_ne (oth_not (S := S) (p := p))
  rw [Rat.mul_comm, Rat.mul_div_cancel this]
theorem shr_step {S : List Int} (hS : S.Nodup) (m : Nat → Rat) {a p : Int} (ha : a ∈ S) (hp : p ∈ S) (hne : p ≠ a) : shr (oth S a) (shf a m) p = ((p - a : Int) : Rat) * shr S m p := by
  have hpm : (oth S p).Perm (a :: oth (oth S a) p) := by
    refine (List.perm_ext_iff_of_nodup (hS.filter _) (List.nodup_cons.mpr ⟨fun h => oth_not (mem_oth.mp h).1, (hS.filter _).filter _⟩)).mpr fun x => ?_
    show x ∈ oth S p ↔ _
    rw [List.mem_cons, mem_oth, mem_oth, mem_oth]
    constructor
    · intro h
      by_cases e : x = a
      · exact .inl e
      · exact .inr ⟨⟨h.1, e⟩, h.2⟩
    · rintro (e | e)
      · rw [e]; exact ⟨ha, fun z => hne z.symm⟩
      · exact ⟨e.1.1, e.2⟩
  unfold shr
  rw [shfs_perm hpm, pr_perm hpm, shfs_cons]
  show _ = _ * (_ / (((p - a : Int) : Rat) * _))
  have h1 := rat_ne hne
  have h2 := pr_ne (oth_not (S := oth S a) (p := p))
  grind
/-- they have the averages from which they are found -/
theorem shr_mom : ∀ (n : Nat) (S : List Int), S.Nodup → S.length = n + 1 → ∀ (m : Nat → Rat) (k : Nat), k ≤ n → mom S (shr S m) k = m k := by
  intro n
  induction n with
  | zero =>
    intro S hS hl m k hk
    obtain ⟨a, rfl⟩ : ∃ a, S = [a] := by
      match S, hl with
      | [a], _ => exact ⟨a, rfl⟩
    have : k = 0 := by omega
    subst this
    have e : oth [a] a = [] := by unfold oth; simp
    rw [mom_zero]
    show shr [a] m a + 0 = m 0
    unfold shr
    rw [e]
    show m 0 / 1 + 0 = m 0
    grind
  | succ n ih =>
    intro S hS hl m
    have key : ∀ a ∈ S, ∀ k, k ≤ n → mom S (shr S m) (k + 1) - (a : Rat) * mom S (shr S m) k = m (k + 1) - (a : Rat) * m k := by
      intro a ha k hk
      have h1 := ih (oth S a) (hS.filter _) (by have := oth_len hS ha; omega) (shf a m) k hk
      have h2 : mom (oth S a) (shr (oth S a) (shf a m)) k = mom S (fun p => ((p - a : Int) : Rat) * shr S m p) k := by
        unfold mom
        rw [← su_filter (l := S) (p := fun q => decide (q ≠ a)) (f := fun p => (p : Rat) ^ k * (((p - a : Int) : Rat) * shr S m p))]
        · exact su_congr fun p hp => by
            obtain ⟨hp1, hp2⟩ := mem_oth.mp hp
            rw [shr_step hS m ha hp1 hp2]
        · intro p hp hd
          have : p = a := by simpa using hd
          subst this
          rw [Int.sub_self]
          grind
      rw [h2, ← shf_mom] at h1
      exact h1
    obtain ⟨a, b, r, rfl⟩ : ∃ a b r, S = a :: b :: r := by
      match S, hl with
      | a :: b :: r, _ => exact ⟨a, b, r, rfl⟩
    have hab : a ≠ b := fun e => (List.nodup_cons.mp hS).1 (by rw [e]; exact List.mem_cons_self)
    have h0 : mom (a :: b :: r) (shr (a :: b :: r) m) 0 = m 0 := by
      have k1 := key a List.mem_cons_self 0 (Nat.zero_le _)
      have k2 := key b (List.mem_cons_of_mem _ List.mem_cons_self) 0 (Nat.zero_le _)
      have hn := rat_ne hab
      rw [Rat.intCast_sub] at hn
      generalize mom (a :: b :: r) (shr (a :: b :: r) m) = T at k1 k2
      have : ((a : Rat) - b) * (T 0 - m 0) = 0 := by grind
      rcases Rat.mul_eq_zero.mp this with z | z
      · exact absurd z hn
      · grind
    intro k
    induction k with
    | zero => intro _; exact h0
    | succ k ihk =>
      intro hk
      have k1 := key a List.mem_cons_self k (by omega)
      have := ihk (by omega)
      grind
end Mo
namespace Mo
/-! ### reduction to few places -/
theorem min_ex {α : Type} (f : α → Rat) : ∀ {l : List α}, l ≠ [] → ∃ a ∈ l, ∀ b ∈ l, f a ≤ f b
  | [], h => absurd rfl h
  | [a], _ => ⟨a, List.mem_cons_self, fun b hb => by rw [List.mem_singleton.mp hb]; exact Rat.le_refl⟩
  | a :: b :: l, _ => by
    obtain ⟨c, hc, h⟩ := min_ex f (l := b :: l) (by simp)
    by_cases q : f a ≤ f c
    · refine ⟨a, List.mem_cons_self, fun x hx => ?_⟩
      rcases List.mem_cons.mp hx with e | e
      · rw [e]; exact Rat.le_refl
      · exact Rat.le_trans q (h x e)
    · refine ⟨c, List.mem_cons_of_mem _ hc, fun x hx => ?_⟩
      rcases List.mem_cons.mp hx with e | e
      · rw [e]; grind
      · exact h x e
/-- weights not below 0 -/
def NN (R : List Int) (w : Int → Rat) : Prop := ∀ p ∈ R, 0 ≤ w p
def sup (R : List Int) (w : Int → Rat) : List Int := R.filter fun p => decide (w p ≠ 0)
theorem mem_sup {R : List Int} {w : Int → Rat} {p : Int} : p ∈ sup R w ↔ p ∈ R ∧ w p ≠ 0 := by unfold sup; rw [List.mem_filter, decide_eq_true_iff]
theorem div_nn {x y : Rat} (h : (0 < y ∧ 0 ≤ x) ∨ (y < 0 ∧ x ≤ 0)) : 0 ≤ x / y := by
  rcases h with ⟨h1, h2⟩ | ⟨h1, h2⟩
  · rw [Rat.div_def]; exact Rat.mul_nonneg h2 (Rat.le_of_lt (Rat.inv_pos.mpr h1))
  · have : x / y = (-x) / (-y) := by grind
    rw [this, Rat.div_def]; exact Rat.mul_nonneg (by grind) (Rat.le_of_lt (Rat.inv_pos.mpr (by grind)))
/-- as far as can be gone in a direction -/
theorem pivot {R : List Int} {w z : Int → Rat} (hw : NN R w) (hz : ∃ p ∈ R, z p < 0) : ∃ t : Rat, 0 ≤ t ∧ NN R (fun p => w p + t * z p) ∧ ∃ p ∈ R, z p < 0 ∧ w p + t * z p = 0 := by
  obtain ⟨p1, hp1, hz1⟩ := hz
  obtain ⟨p0, hp0, hmin⟩ := min_ex (fun p => w p / (-z p)) (l := R.filter fun p => decide (z p < 0)) (List.ne_nil_of_mem (List.mem_filter.mpr ⟨hp1, decide_eq_true hz1⟩))
  obtain ⟨h1, h2⟩ := List.mem_filter.mp hp0
  have h2 : z p0 < 0 := of_decide_eq_true h2
  have ht : 0 ≤ w p0 / (-z p0) := div_nn (.inl ⟨by grind, hw p0 h1⟩)
  have e0 : w p0 / (-z p0) * (-z p0) = w p0 := by have : -z p0 ≠ 0 := by grind
                                                  grind
  refine ⟨w p0 / (-z p0), ht, fun p hp => ?_, p0, h1, h2, by grind⟩
  show 0 ≤ w p + w p0 / (-z p0) * z p
  by_cases hq : z p < 0
  · have hle : w p0 / (-z p0) ≤ w p / (-z p) := hmin p (List.mem_filter.mpr ⟨hp, decide_eq_true hq⟩)
    have e1 : w p / (-z p) * (-z p) = w p := by have : -z p ≠ 0 := by grind
                                                grind
    have := Rat.mul_le_mul_of_nonneg_right hle (show 0 ≤ -z p by grind)
    grind
  · have := Rat.mul_nonneg ht (show 0 ≤ z p by grind)
    have := hw p hp
    grind
/-- a direction that keeps the averages: of q and few places -/
def nul (S : List Int) (q : Int) : Int → Rat := fun p => if p = q then 1 else if p ∈ S then - shr S (fun k => (q : Rat) ^ k) p else 0
theorem nul_mom {R S : List Int} {q : Int} {d : Nat} (hR : R.Nodup) (hS : S.Nodup) (sub : ∀ p ∈ S, p ∈ R) (hq : q ∈ R) (hn : q ∉ S) (hl : S.length = d + 1) {k : Nat} (hk : k ≤ d) : mom R (nul S q) k = 0 := by
  have h1 : mom R (nul S q) k = mom (q :: S) (nul S q) k := by
    unfold mom
    refine (su_part hR (List.nodup_cons.mpr ⟨hn, hS⟩) (fun a ha => ?_) (fun a ha hna => ?_)).symm
    · rcases List.mem_cons.mp ha with e | e
      · rw [e]; exact hq
      · exact sub a e
    · unfold nul
      rw [if_neg (fun e => hna (by rw [e]; exact List.mem_cons_self)), if_neg (fun e => hna (List.mem_cons_of_mem _ e))]
      grind
  rw [h1]
  unfold mom
  rw [su_cons]
  have h2 : su S (fun p => (p : Rat) ^ k * nul S q p) = su S (fun p => (-1) * ((p : Rat) ^ k * shr S (fun k => (q : Rat) ^ k) p)) := by
    refine su_congr fun p hp => ?_
    unfold nul
    rw [if_neg (fun e => hn (by rw [← e]; exact hp)), if_pos hp]
    grind
  rw [h2, su_mul]
  have h3 : su S (fun p => (p : Rat) ^ k * shr S (fun k => (q : Rat) ^ k) p) = (q : Rat) ^ k := shr_mom d S hS hl (fun k => (q : Rat) ^ k) k hk
  rw [h3]
  unfold nul
  rw [if_pos rfl]
  grind
theorem mom_add (R : List Int) (w z : Int → Rat) (t : Rat) (k : Nat) : mom R (fun p => w p + t * z p) k = mom R w k + t * mom R z k := by
  unfold mom
  rw [← su_mul, ← su_add]
  exact su_congr fun p _ => by grind
theorem su_dir (R : List Int) (v w z : Int → Rat) (t : Rat) : su R (fun p => v p * (w p + t * z p)) = su R (fun p => v p * w p) + t * su R (fun p => v p * z p) := by
  rw [← su_mul, ← su_add]
  exact su_congr fun p _ => by grind
theorem neg_ex {R : List Int} {z : Int → Rat} {q : Int} (hq : q ∈ R) (hz : z q ≠ 0) (h : mom R z 0 = 0) : ∃ p ∈ R, z p < 0 := by
  refine Classical.byContradiction fun hn => hz ?_
  rw [mom_zero] at h
  exact su_pos_zero (fun a ha => by
    have : ¬ z a < 0 := fun e => hn ⟨a, ha, e⟩
    grind) h q hq
/-- any weights: some with few places, the same averages, at no place more places, and no greater value -/
theorem reduce {R : List Int} (hR : R.Nodup) (d : Nat) (v : Int → Rat) : ∀ (n : Nat) (w : Int → Rat), (sup R w).length ≤ n → NN R w → ∃ c : Int → Rat, NN R c ∧ (∀ k, k ≤ d → mom R c k = mom R w k) ∧ (sup R c).length ≤ d + 1 ∧ (∀ p ∈ R, w p = 0 → c p = 0) ∧ su R (fun p => v p * c p) ≤ su R fun p => v p * w p := by
  intro n
  induction n with
  | zero => intro w hl hw; exact ⟨w, hw, fun _ _ => rfl, by omega, fun _ _ h => h, Rat.le_refl⟩
  | succ n ih =>
    intro w hl hw
    by_cases hfew : (sup R w).length ≤ d + 1
    · exact ⟨w, hw, fun _ _ => rfl, hfew, fun _ _ h => h, Rat.le_refl⟩
    have hsn : (sup R w).Nodup := hR.filter _
    obtain ⟨q, r, hqr⟩ : ∃ q r, sup R w = q :: r := by
      cases h : sup R w with
      | nil => rw [h] at hfew; simp at hfew
      | cons q r => exact ⟨q, r, rfl⟩
    rw [hqr] at hsn
    obtain ⟨hq1, hq2⟩ := List.nodup_cons.mp hsn
    have hrl : d + 1 ≤ r.length := by rw [hqr, List.length_cons] at hfew; omega
    have hS : (r.take (d + 1)).Nodup := hq2.sublist (List.take_sublist _ _)
    have hSl : (r.take (d + 1)).length = d + 1 := by rw [List.length_take]; omega
    have hqS : q ∉ r.take (d + 1) := fun h => hq1 (List.mem_of_mem_take h)
    have inS : ∀ p ∈ r.take (d + 1), p ∈ R ∧ w p ≠ 0 := fun p hp => mem_sup.mp (by rw [hqr]; exact List.mem_cons_of_mem _ (List.mem_of_mem_take hp))
    have hqw : q ∈ R ∧ w q ≠ 0 := mem_sup.mp (by rw [hqr]; exact List.mem_cons_self)
    have z0 : nul (r.take (d + 1)) q q ≠ 0 := by unfold nul; rw [if_pos rfl]; grind
    have zm : ∀ k, k ≤ d → mom R (nul (r.take (d + 1)) q) k = 0 := fun k hk => nul_mom hR hS (fun p hp => (inS p hp).1) hqw.1 hqS hSl hk
    have zs : ∀ p, w p = 0 → nul (r.take (d + 1)) q p = 0 := fun p hp => by
      unfold nul
      rw [if_neg (fun e => hqw.2 (by rw [← e]; exact hp)), if_neg (fun e => (inS p e).2 hp)]
    generalize nul (r.take (d + 1)) q = z at z0 zm zs
    -- a direction that lowers the value
    obtain ⟨y, y0, ym, ys, yv⟩ : ∃ y : Int → Rat, y q ≠ 0 ∧ (∀ k, k ≤ d → mom R y k = 0) ∧ (∀ p, w p = 0 → y p = 0) ∧ su R (fun p => v p * y p) ≤ 0 := by
      by_cases hv : su R (fun p => v p * z p) ≤ 0
      · exact ⟨z, z0, zm, zs, hv⟩
      · refine ⟨fun p => (-1) * z p, by grind, fun k hk => ?_, fun p hp => by show (-1) * z p = 0; rw [zs p hp]; grind, ?_⟩
        · have := zm k hk
          unfold mom at this ⊢
          rw [su_congr (g := fun (p : Int) => (-1) * ((p : Rat) ^ k * z p)) (fun p _ => by grind), su_mul, this]
          grind
        · rw [su_congr (g := fun (p : Int) => (-1) * (v p * z p)) (fun p _ => by grind), su_mul]
          grind
    obtain ⟨t, t0, tn, p0, hp0, hneg, hzero⟩ := pivot hw (neg_ex hqw.1 y0 (ym 0 (Nat.zero_le _)))
    have hsub : ∀ p, w p = 0 → w p + t * y p = 0 := fun p hp => by rw [hp, ys p hp]; grind
    have hless : (sup R fun p => w p + t * y p).length < (sup R w).length := by
      have h1 : (sup R fun p => w p + t * y p).Sublist ((sup R w).filter fun p => decide (p ≠ p0)) := by
        unfold sup
        rw [List.filter_filter]
        have : ∀ l : List Int, (l.filter fun p => decide (w p + t * y p ≠ 0)).Sublist (l.filter fun p => decide (p ≠ p0) && decide (w p ≠ 0)) := by
          intro l
          have e : (l.filter fun p => decide (w p + t * y p ≠ 0)) = (l.filter fun p => decide (p ≠ p0) && decide (w p ≠ 0)).filter fun p => decide (w p + t * y p ≠ 0) := by
            rw [List.filter_filter]
            refine List.filter_congr fun p _ => ?_
            by_cases h : w p + t * y p = 0
            · simp [h]
            · have h2 : w p ≠ 0 := fun e => h (hsub p e)
              have h3 : p ≠ p0 := fun e => h (by rw [e]; exact hzero)
              simp [h, h2, h3]
          rw [e]
          exact List.filter_sublist
        exact this R
      have h2 := h1.length_le
      have hin : p0 ∈ sup R w := mem_sup.mpr ⟨hp0, fun e => by rw [ys p0 e] at hneg; grind⟩
      have h3 := oth_len (S := sup R w) (hR.filter _) hin
      unfold oth at h3
      omega
    obtain ⟨c, c1, c2, c3, c4, c5⟩ := ih (fun p => w p + t * y p) (by omega) tn
    refine ⟨c, c1, fun k hk => ?_, c3, fun p hp hw0 => c4 p hp (hsub p hw0), Rat.le_trans c5 ?_⟩
    · rw [c2 k hk, mom_add, ym k hk]; grind
    · rw [su_dir]
      have := Rat.mul_nonneg t0 (show 0 ≤ -su R (fun p => v p * y p) by grind)
      grind
/-- few places are among as many as needed -/
theorem widen (t : Int → Bool) : ∀ (R : List Int) (n : Nat), (R.filter t).length ≤ n → n ≤ R.length → ∃ S : List Int, S.Sublist R ∧ S.length = n ∧ ∀ p ∈ R, t p = true → p ∈ S
  | [], n, _, h => ⟨[], .slnil, by simp at h; simp [h], fun p hp => by cases hp⟩
  | a :: R, n, h1, h2 => by
    rw [List.filter_cons] at h1
    rw [List.length_cons] at h2
    by_cases ha : t a = true
    · rw [if_pos ha, List.length_cons] at h1
      obtain ⟨S, s1, s2, s3⟩ := widen t R (n - 1) (by omega) (by omega)
      refine ⟨a :: S, s1.cons_cons a, by rw [List.length_cons, s2]; omega, fun p hp ht => ?_⟩
      rcases List.mem_cons.mp hp with e | e
      · rw [e]; exact List.mem_cons_self
      · exact List.mem_cons_of_mem _ (s3 p e ht)
    · rw [if_neg ha] at h1
      by_cases hn : n ≤ R.length
      · obtain ⟨S, s1, s2, s3⟩ := widen t R n h1 hn
        refine ⟨S, s1.cons a, s2, fun p hp ht => ?_⟩
        rcases List.mem_cons.mp hp with e | e
        · rw [e] at ht; exact absurd ht ha
        · exact s3 p e ht
      · exact ⟨a :: R, List.Sublist.refl _, by rw [List.length_cons]; omega, fun p hp _ => hp⟩
/-- weights at few places as found from their averages -/
theorem few_shr {R : List Int} (hR : R.Nodup) {d : Nat} (hd : d + 1 ≤ R.length) {c : Int → Rat} (h : (sup R c).length ≤ d + 1) : ∃ S : List Int, S.Sublist R ∧ S.length = d + 1 ∧ (∀ p ∈ R, p ∉ S → c p = 0) ∧ ∀ p ∈ S, c p = shr S (mom R c) p := by
  obtain ⟨S, s1, s2, s3⟩ := widen (fun p => decide (c p ≠ 0)) R (d + 1) h hd
  have hz : ∀ p ∈ R, p ∉ S → c p = 0 := fun p hp hn => Classical.byContradiction fun hc => hn (s3 p hp (decide_eq_true hc))
  refine ⟨S, s1, s2, hz, fun p hp => ?_⟩
  have hS := hR.sublist s1
  have e : mom R c = mom S c := by
    funext k
    unfold mom
    exact (su_part hR hS (fun a ha => s1.subset ha) (fun a ha hn => by rw [hz a ha hn]; grind)).symm
  rw [e, shr_uniq hS c hp]
/-- few places and the same averages: the same weights -/
theorem few_eq {R : List Int} (hR : R.Nodup) {d : Nat} {b c : Int → Rat} (S : List Int) (sub : ∀ p ∈ S, p ∈ R) (hS : S.Nodup) (hl : S.length = d + 1) (hb : ∀ p ∈ R, p ∉ S → b p = 0) (hc : ∀ p ∈ R, p ∉ S → c p = 0) (h : ∀ k, k ≤ d → mom R b k = mom R c k) : ∀ p ∈ R, b p = c p := by
  have ex : ∀ (x : Int → Rat), (∀ p ∈ R, p ∉ S → x p = 0) → mom R x = mom S x := fun x hx => by
    funext k
    unfold mom
    exact (su_part hR hS sub (fun a ha hn => by rw [hx a ha hn]; grind)).symm
  have dep : ∀ (n : Nat) (os : List Int) (m m' : Nat → Rat), os.length ≤ n → (∀ k, k ≤ n → m k = m' k) → ∀ k, k + os.length ≤ n → shfs os m k = shfs os m' k := by
    intro n os
    induction os generalizing n with
    | nil => intro m m' _ hm k hk; exact hm k (by simpa using hk)
    | cons a os ih =>
      intro m m' hl hm k hk
      rw [List.length_cons] at hl hk
      rw [shfs_cons, shfs_cons]
      refine ih (n - 1) _ _ (by omega) (fun j hj => ?_) k (by omega)
      unfold shf
      rw [hm (j + 1) (by omega), hm j (by omega)]
  intro p hp
  by_cases hin : p ∈ S
  · rw [← shr_uniq hS b hin, ← shr_uniq hS c hin, ← ex b hb, ← ex c hc]
    unfold shr
    have := oth_len hS hin
    rw [dep d (oth S p) (mom R b) (mom R c) (by omega) h 0 (by omega)]
  · rw [hb p hp hin, hc p hp hin]
end Mo
namespace Mo
/-- the places up to the last one -/
def Rw (n : Nat) : List Int := (List.range (n + 1)).map fun (i : Nat) => (0 : Int) + (i : Int)
theorem mem_Rw {n : Nat} {p : Int} : p ∈ Rw n ↔ 0 ≤ p ∧ p ≤ n := by
  unfold Rw
  rw [List.mem_map]
  constructor
  · rintro ⟨i, hi, rfl⟩; have := List.mem_range.mp hi; omega
  · intro h; exact ⟨p.toNat, List.mem_range.mpr (by omega), by omega⟩
theorem Rw_asc (n : Nat) : (Rw n).Pairwise (· < ·) := by
  unfold Rw
  exact List.pairwise_map.mpr (List.pairwise_lt_range.imp fun h => by omega)
theorem asc_nodup {l : List Int} (h : l.Pairwise (· < ·)) : l.Nodup := h.imp fun h => by omega
theorem Rw_nodup (n : Nat) : (Rw n).Nodup := asc_nodup (Rw_asc n)
theorem Rw_len (n : Nat) : (Rw n).length = n + 1 := by unfold Rw; simp
theorem asc_eq : ∀ {a b : List Int}, a.Pairwise (· < ·) → b.Pairwise (· < ·) → (∀ x, x ∈ a ↔ x ∈ b) → a = b
  | [], [], _, _, _ => rfl
  | [], y :: b, _, _, h => by have := (h y).mpr List.mem_cons_self; cases this
  | x :: a, [], _, _, h => by have := (h x).mp List.mem_cons_self; cases this
  | x :: a, y :: b, ha, hb, h => by
    obtain ⟨a1, a2⟩ := List.pairwise_cons.mp ha
    obtain ⟨b1, b2⟩ := List.pairwise_cons.mp hb
    have e : x = y := by
      rcases List.mem_cons.mp ((h x).mp List.mem_cons_self) with e | e
      · exact e
      · rcases List.mem_cons.mp ((h y).mpr List.mem_cons_self) with f | f
        · exact f.symm
        · have := b1 x e; have := a1 y f; omega
    subst e
    rw [asc_eq a2 b2 fun z => ⟨fun hz => ?_, fun hz => ?_⟩]
    · rcases List.mem_cons.mp ((h z).mp (List.mem_cons_of_mem _ hz)) with e | e
      · have := a1 z hz; omega
      · exact e
    · rcases List.mem_cons.mp ((h z).mpr (List.mem_cons_of_mem _ hz)) with e | e
      · have := b1 z hz; omega
      · exact e
theorem asc_sub {n : Nat} {S : List Int} (h : S.Pairwise (· < ·)) (hm : ∀ p ∈ S, 0 ≤ p ∧ p ≤ n) : S.Sublist (Rw n) := by
  have : (Rw n).filter (fun p => decide (p ∈ S)) = S := asc_eq ((Rw_asc n).filter _) h fun x => by
    rw [List.mem_filter, decide_eq_true_iff]
    exact ⟨fun h => h.2, fun h => ⟨mem_Rw.mpr (hm x h), h⟩⟩
  rw [← this]
  exact List.filter_sublist
theorem sub_asc {n : Nat} {S : List Int} (h : S.Sublist (Rw n)) : S.Pairwise (· < ·) ∧ ∀ p ∈ S, 0 ≤ p ∧ p ≤ n := ⟨(Rw_asc n).sublist h, fun p hp => mem_Rw.mp (h.subset hp)⟩
/-- the product in whole numbers -/
def prI (p : Int) : List Int → Int
  | [] => 1
  | o :: os => (p - o) * prI p os
theorem pr_I (p : Int) : ∀ os : List Int, pr p os = ((prI p os : Int) : Rat)
  | [] => by unfold pr prI; rfl
  | o :: os => by unfold pr prI; rw [pr_I p os, Rat.intCast_mul]
theorem all2 {a b : Int} {P : Int → Prop} (h1 : P a) (h2 : P b) : ∀ z ∈ [a, b], P z := fun z hz => by
  simp only [List.mem_cons, List.not_mem_nil, or_false] at hz
  rcases hz with e | e <;> (subst e; assumption)
theorem all1 {a : Int} {P : Int → Prop} (h1 : P a) : ∀ z ∈ [a], P z := fun z hz => by rw [List.mem_singleton.mp hz]; exact h1
theorem all3 {a b c : Int} {P : Int → Prop} (h1 : P a) (h2 : P b) (h3 : P c) : ∀ z ∈ [a, b, c], P z := fun z hz => by
  simp only [List.mem_cons, List.not_mem_nil, or_false] at hz
  rcases hz with e | e | e <;> (subst e; assumption)
theorem all4 {a b c d : Int} {P : Int → Prop} (h1 : P a) (h2 : P b) (h3 : P c) (h4 : P d) : ∀ z ∈ [a, b, c, d], P z := fun z hz => by
  simp only [List.mem_cons, List.not_mem_nil, or_false] at hz
  rcases hz with e | e | e | e <;> (subst e; assumption)
theorem pw1 {a : Int} : [a].Pairwise (· < ·) := List.pairwise_singleton _ _
theorem pw2 {a b : Int} (h : a < b) : [a, b].Pairwise (· < ·) := List.pairwise_cons.mpr ⟨all1 h, pw1⟩
theorem pw3 {a b c : Int} (h : a < b) (h2 : b < c) : [a, b, c].Pairwise (· < ·) := List.pairwise_cons.mpr ⟨all2 h (by omega), pw2 h2⟩
theorem pw4 {a b c d : Int} (h : a < b) (h2 : b < c) (h3 : c < d) : [a, b, c, d].Pairwise (· < ·) := List.pairwise_cons.mpr ⟨all3 h (by omega) (by omega), pw3 h2 h3⟩
theorem oth_yes {a p : Int} {S : List Int} (h : a ≠ p) : oth (a :: S) p = a :: oth S p := by unfold oth; rw [List.filter_cons, if_pos (decide_eq_true h)]
theorem oth_no {p : Int} {S : List Int} : oth (p :: S) p = oth S p := by unfold oth; rw [List.filter_cons, if_neg (by simp)]
theorem oth_nil {p : Int} : oth [] p = [] := rfl
theorem rat_nn {i : Int} : 0 ≤ (i : Rat) ↔ 0 ≤ i := Rat.intCast_nonneg
theorem sg_nn {s p : Int} {os : List Int} (h : 0 ≤ s * prI p os) : 0 ≤ (s : Rat) * pr p os := by
  rw [pr_I, ← Rat.intCast_mul]
  exact rat_nn.mpr h
theorem shfs1 (a : Int) (m : Nat → Rat) : shfs [a] m 0 = m 1 - a * m 0 := rfl
theorem shfs2 (a b : Int) (m : Nat → Rat) : shfs [a, b] m 0 = m 2 - (a + b) * m 1 + a * b * m 0 := by
  show (m 2 - (a : Rat) * m 1) - (b : Rat) * (m 1 - (a : Rat) * m 0) = _
  grind
theorem shfs3 (a b c : Int) (m : Nat → Rat) : shfs [a, b, c] m 0 = m 3 - (a + b + c) * m 2 + (a * b + a * c + b * c) * m 1 - a * b * c * m 0 := by
  show ((m 3 - (a : Rat) * m 2) - (b : Rat) * (m 2 - (a : Rat) * m 1)) - (c : Rat) * ((m 2 - (a : Rat) * m 1) - (b : Rat) * (m 1 - (a : Rat) * m 0)) = _
  grind
theorem step_ex (x y : Rat) (b : Int) : ∀ (n : Nat) (a : Int), b - a = (n : Int) + 1 → (a : Rat) * y ≤ x → x ≤ (b : Rat) * y → ∃ i : Int, a ≤ i ∧ i + 1 ≤ b ∧ (i : Rat) * y ≤ x ∧ x ≤ ((i : Rat) + 1) * y := by
  intro n
  induction n with
  | zero =>
    intro a h h1 h2
    refine ⟨a, by omega, by omega, h1, ?_⟩
    have : b = a + 1 := by omega
    subst this
    rw [Rat.intCast_add] at h2
    exact h2
  | succ n ih =>
    intro a h h1 h2
    by_cases q : x ≤ ((a : Rat) + 1) * y
    · exact ⟨a, by omega, by omega, h1, q⟩
    · obtain ⟨i, i1, i2, i3⟩ := ih (a + 1) (by omega) (by rw [Rat.intCast_add]; have : ((1 : Int) : Rat) = 1 := rfl; grind) h2
      exact ⟨i, by omega, i2, i3⟩
theorem shr_nn {S : List Int} {m : Nat → Rat} {p : Int} {s : Int} (hs : s = 1 ∨ s = -1) (h1 : 0 ≤ (s : Rat) * shfs (oth S p) m 0) (h2 : 0 < s * prI p (oth S p)) : 0 ≤ shr S m p := by
  unfold shr
  rw [pr_I]
  refine div_nn ?_
  rcases hs with e | e
  · subst e
    refine .inl ⟨Rat.intCast_pos.mpr (by omega), ?_⟩
    have : ((1 : Int) : Rat) = 1 := rfl
    grind
  · subst e
    refine .inr ⟨Rat.intCast_neg_iff.mpr (by omega), ?_⟩
    have : ((-1 : Int) : Rat) = -1 := rfl
    grind
/-- no paper: weights at few places -/
theorem farkas {n d : Nat} (hd : 1 ≤ d) (hd3 : d ≤ 3) (hdn : d ≤ n) (m : Nat → Rat) (m0 : m 0 = 1)
    (hp : ∀ (s : Int) (zs : List Int), (s = 1 ∨ s = -1) → zs.Sublist (Rw n) → zs.length = d → (∀ p ∈ Rw n, 0 ≤ (s : Rat) * pr p zs) → 0 ≤ (s : Rat) * shfs zs m 0) :
    ∃ S : List Int, S.Sublist (Rw n) ∧ S.length = d + 1 ∧ ∀ p ∈ S, 0 ≤ shr S m p := by
  have one : ((1 : Int) : Rat) = 1 := rfl
  have mone : ((-1 : Int) : Rat) = -1 := rfl
  have zero : ((0 : Int) : Rat) = 0 := rfl
  -- what a paper says
  have ask : ∀ (s : Int) (zs : List Int), (s = 1 ∨ s = -1) → zs.Pairwise (· < ·) → (∀ z ∈ zs, 0 ≤ z ∧ z ≤ n) → zs.length = d → (∀ p : Int, 0 ≤ p → p ≤ n → 0 ≤ s * prI p zs) → 0 ≤ (s : Rat) * shfs zs m 0 := fun s zs h1 h2 h3 h4 h5 =>
    hp s zs h1 (asc_sub h2 h3) h4 fun p hpR => sg_nn (h5 p (mem_Rw.mp hpR).1 (mem_Rw.mp hpR).2)
  have twoI : ∀ (i p : Int), 0 ≤ (p - i) * (p - (i + 1)) := fun i p => by
    by_cases h : p ≤ i
    · exact Int.mul_nonneg_of_nonpos_of_nonpos (by omega) (by omega)
    · exact Int.mul_nonneg (by omega) (by omega)
  have pI1 : ∀ p a, prI p [a] = p - a := fun p a => by unfold prI prI; omega
  have pI2 : ∀ p a b, prI p [a, b] = (p - a) * (p - b) := fun p a b => by rw [prI, pI1]
  have pI3 : ∀ p a b c, prI p [a, b, c] = (p - a) * ((p - b) * (p - c)) := fun p a b c => by rw [prI, pI2]
  rcases (show d = 1 ∨ d = 2 ∨ d = 3 by omega) with e | e | e
  · subst e
    have h1 := ask 1 [0] (.inl rfl) pw1 (all1 (by omega)) rfl (fun p p0 pn => by rw [pI1]; omega)
    have h2 := ask (-1) [(n : Int)] (.inr rfl) pw1 (all1 (by omega)) rfl (fun p p0 pn => by rw [pI1]; omega)
    rw [shfs1, m0] at h1 h2
    obtain ⟨i, i1, i2, i3, i4⟩ := step_ex (m 1) 1 n (n - 1) 0 (by omega) (by grind) (by grind)
    refine ⟨[i, i + 1], asc_sub (pw2 (by omega)) (all2 (by omega) (by omega)), rfl, fun p hpS => ?_⟩
    have o1 : oth [i, i + 1] i = [i + 1] := by rw [oth_no]; rw [oth_yes (by omega)]; rfl
    have o2 : oth [i, i + 1] (i + 1) = [i] := by rw [oth_yes (by omega)]; rw [oth_no]; rfl
    rcases List.mem_cons.mp hpS with e | e
    · subst e
      refine shr_nn (s := -1) (.inr rfl) ?_ ?_
      · rw [o1, shfs1, m0, Rat.intCast_add]; grind
      · rw [o1, pI1]; omega
    · rw [List.mem_singleton.mp e]
      refine shr_nn (s := 1) (.inl rfl) ?_ ?_
      · rw [o2, shfs1, m0]; grind
      · rw [o2, pI1]; omega
  · subst e
    have hA : ∀ i : Int, 0 ≤ i → i + 1 ≤ n → 0 ≤ m 2 - (i + (i + 1)) * m 1 + i * (i + 1) := fun i h0 h1 => by
      have := ask 1 [i, i + 1] (.inl rfl) (pw2 (by omega)) (all2 (by omega) (by omega)) rfl (fun p p0 pn => by rw [pI2]; have := twoI i p; omega)
      rw [shfs2, m0, Rat.intCast_add] at this
      grind
    have hB := ask (-1) [0, (n : Int)] (.inr rfl) (pw2 (by omega)) (all2 (by omega) (by omega)) rfl (fun p p0 pn => by
      rw [pI2]
      have : 0 ≤ (p - 0) * (n - p) := Int.mul_nonneg (by omega) (by omega)
      have e : (p - 0) * (p - n) = - ((p - 0) * (n - p)) := by grind
      omega)
    rw [shfs2, m0] at hB
    have h0 := hA 0 (by omega) (by omega)
    obtain ⟨i, i1, i2, i3, i4⟩ := step_ex (m 2) (m 1) n (n - 2) 1 (by omega) (by grind) (by grind)
    have hi := hA i (by omega) i2
    refine ⟨[0, i, i + 1], asc_sub (pw3 (by omega) (by omega)) (all3 (by omega) (by omega) (by omega)), rfl, fun p hpS => ?_⟩
    have o1 : oth [0, i, i + 1] 0 = [i, i + 1] := by rw [oth_no]; rw [oth_yes (by omega)]; rw [oth_yes (by omega)]; rfl
    have o2 : oth [0, i, i + 1] i = [0, i + 1] := by rw [oth_yes (by omega)]; rw [oth_no]; rw [oth_yes (by omega)]; rfl
    have o3 : oth [0, i, i + 1] (i + 1) = [0, i] := by rw [oth_yes (by omega)]; rw [oth_yes (by omega)]; rw [oth_no]; rfl
    simp only [List.mem_cons, List.not_mem_nil, or_false] at hpS
    rcases hpS with e | e | e
    · subst e
      refine shr_nn (s := 1) (.inl rfl) ?_ ?_
      · rw [o1, shfs2, m0, Rat.intCast_add]; grind
      · rw [o1, pI2]
        have : 0 < i * (i + 1) := Int.mul_pos (by omega) (by omega)
        have e : (0 - i) * (0 - (i + 1)) = i * (i + 1) := by grind
        omega
    · subst e
      refine shr_nn (s := -1) (.inr rfl) ?_ ?_
      · rw [o2, shfs2, m0, Rat.intCast_add]; grind
      · rw [o2, pI2]
        have e : (p - 0) * (p - (p + 1)) = - p := by grind
        omega
    · subst e
      refine shr_nn (s := 1) (.inl rfl) ?_ ?_
      · rw [o3, shfs2, m0]; grind
      · rw [o3, pI2]
        have e : (i + 1 - 0) * (i + 1 - i) = i + 1 := by grind
        omega
  · subst e
    have hA : ∀ i : Int, 1 ≤ i → i + 1 ≤ n → 0 ≤ m 3 - (i + (i + 1)) * m 2 + i * (i + 1) * m 1 := fun i h0 h1 => by
      have := ask 1 [0, i, i + 1] (.inl rfl) (pw3 (by omega) (by omega)) (all3 (by omega) (by omega) (by omega)) rfl (fun p p0 pn => by rw [pI3]; have := Int.mul_nonneg (show 0 ≤ p - 0 by omega) (twoI i p); omega)
      rw [shfs3, m0, Rat.intCast_add] at this
      grind
    have hB : ∀ i : Int, 0 ≤ i → i + 1 < n → 0 ≤ - (m 3 - (i + (i + 1) + (n : Int)) * m 2 + (i * (i + 1) + i * (n : Int) + (i + 1) * (n : Int)) * m 1 - i * (i + 1) * (n : Int)) := fun i h0 h1 => by
      have := ask (-1) [i, i + 1, (n : Int)] (.inr rfl) (pw3 (by omega) (by omega)) (all3 (by omega) (by omega) (by omega)) rfl (fun p p0 pn => by
        rw [pI3]
        have h := Int.mul_nonneg (show 0 ≤ n - p by omega) (twoI i p)
        have e : (p - i) * ((p - (i + 1)) * (p - n)) = - ((n - p) * ((p - i) * (p - (i + 1)))) := by grind
        omega)
      rw [shfs3, m0, Rat.intCast_add] at this
      grind
    have hC := ask (-1) [0, 1, (n : Int)] (.inr rfl) (pw3 (by omega) (by omega)) (all3 (by omega) (by omega) (by omega)) rfl (fun p p0 pn => by
        rw [pI3]
        have h := Int.mul_nonneg (show 0 ≤ n - p by omega) (twoI 0 p)
        have e : (p - 0) * ((p - 1) * (p - n)) = - ((n - p) * ((p - 0) * (p - (0 + 1)))) := by grind
        omega)
    have hD := ask 1 [0, (n : Int) - 1, (n : Int)] (.inl rfl) (pw3 (by omega) (by omega)) (all3 (by omega) (by omega) (by omega)) rfl (fun p p0 pn => by
        rw [pI3]
        have h := Int.mul_nonneg (show 0 ≤ p - 0 by omega) (twoI (n - 1) p)
        have e : (p - 0) * ((p - (n - 1)) * (p - n)) = (p - 0) * ((p - (n - 1)) * (p - ((n - 1) + 1))) := by grind
        omega)
    rw [shfs3, m0] at hC hD
    rw [Rat.intCast_sub] at hD
    obtain ⟨i, i1, i2, i3, i4⟩ := step_ex ((n : Int) * m 2 - m 3) ((n : Int) * m 1 - m 2) (n - 1) (n - 3) 1 (by omega) (by grind) (by rw [Rat.intCast_sub]; grind)
    have hi := hA i i1 (by omega)
    have hj := hB i (by omega) (by omega)
    refine ⟨[0, i, i + 1, (n : Int)], asc_sub (pw4 (by omega) (by omega) (by omega)) (all4 (by omega) (by omega) (by omega) (by omega)), rfl, fun p hpS => ?_⟩
    have o1 : oth [0, i, i + 1, (n : Int)] 0 = [i, i + 1, (n : Int)] := by rw [oth_no]; rw [oth_yes (by omega)]; rw [oth_yes (by omega)]; rw [oth_yes (by omega)]; rfl
    have o2 : oth [0, i, i + 1, (n : Int)] i = [0, i + 1, (n : Int)] := by rw [oth_yes (by omega)]; rw [oth_no]; rw [oth_yes (by omega)]; rw [oth_yes (by omega)]; rfl
    have o3 : oth [0, i, i + 1, (n : Int)] (i + 1) = [0, i, (n : Int)] := by rw [oth_yes (by omega)]; rw [oth_yes (by omega)]; rw [oth_no]; rw [oth_yes (by omega)]; rfl
    have o4 : oth [0, i, i + 1, (n : Int)] (n : Int) = [0, i, i + 1] := by rw [oth_yes (by omega)]; rw [oth_yes (by omega)]; rw [oth_yes (by omega)]; rw [oth_no]; rfl
    simp only [List.mem_cons, List.not_mem_nil, or_false] at hpS
    rcases hpS with e | e | e | e
    · subst e
      refine shr_nn (s := -1) (.inr rfl) ?_ ?_
      · rw [o1, shfs3, m0, Rat.intCast_add]; grind
      · rw [o1, pI3]
        have : 0 < (i * (i + 1)) * n := Int.mul_pos (Int.mul_pos (by omega) (by omega)) (by omega)
        have e : (0 - i) * ((0 - (i + 1)) * (0 - n)) = - (i * (i + 1) * n) := by grind
        omega
    · subst e
      refine shr_nn (s := 1) (.inl rfl) ?_ ?_
      · rw [o2, shfs3, m0, Rat.intCast_add]; grind
      · rw [o2, pI3]
        have : 0 < p * (n - p) := Int.mul_pos (by omega) (by omega)
        have e : (p - 0) * ((p - (p + 1)) * (p - n)) = p * (n - p) := by grind
        omega
    · subst e
      refine shr_nn (s := -1) (.inr rfl) ?_ ?_
      · rw [o3, shfs3, m0]; grind
      · rw [o3, pI3]
        have : 0 < (i + 1) * (n - (i + 1)) := Int.mul_pos (by omega) (by omega)
        have e : (i + 1 - 0) * ((i + 1 - i) * (i + 1 - n)) = - ((i + 1) * (n - (i + 1))) := by grind
        omega
    · subst e
      refine shr_nn (s := 1) (.inl rfl) ?_ ?_
      · rw [o4, shfs3, m0, Rat.intCast_add]; grind
      · rw [o4, pI3]
        have : 0 < (n : Int) * ((n - i) * (n - (i + 1))) := Int.mul_pos (by omega) (Int.mul_pos (by omega) (by omega))
        have e : ((n : Int) - 0) * (((n : Int) - i) * ((n : Int) - (i + 1))) = (n : Int) * ((n - i) * (n - (i + 1))) := by grind
        omega
end Mo
namespace Mo
/-- the average of a product is that of its first power and some of the lower ones -/
theorem shfs_lead : ∀ (zs : List Int) (m m' : Nat → Rat) (k : Nat), (∀ j, j < k + zs.length → m j = m' j) → shfs zs m k - shfs zs m' k = m (k + zs.length) - m' (k + zs.length)
  | [], m, m', k, _ => rfl
  | a :: zs, m, m', k, h => by
    rw [shfs_cons, shfs_cons, shfs_lead zs (shf a m) (shf a m') k (fun j hj => ?_)]
    · unfold shf
      rw [List.length_cons, h (k + zs.length) (by rw [List.length_cons]; omega)]
      have : k + (zs.length + 1) = k + zs.length + 1 := by omega
      rw [this]
      grind
    · unfold shf
      rw [h (j + 1) (by rw [List.length_cons]; omega), h j (by rw [List.length_cons]; omega)]
/-- weights with some averages and a paper: a product that is nowhere below 0 has an average not below 0 -/
theorem paper_nn {n : Nat} {w : Int → Rat} (hw : NN (Rw n) w) (s : Int) (zs : List Int) (h : ∀ p ∈ Rw n, 0 ≤ (s : Rat) * pr p zs) : 0 ≤ (s : Rat) * shfs zs (mom (Rw n) w) 0 := by
  rw [shfs_mom0, ← su_mul]
  refine su_nonneg fun p hp => ?_
  have := Rat.mul_nonneg (h p hp) (hw p hp)
  grind
/-- from weights at few places, found from averages: weights -/
theorem shr_weights {n d : Nat} {S : List Int} (hS : S.Sublist (Rw n)) (hl : S.length = d + 1) (m : Nat → Rat) (h : ∀ p ∈ S, 0 ≤ shr S m p) : ∃ w : Int → Rat, NN (Rw n) w ∧ (∀ k, k ≤ d → mom (Rw n) w k = m k) ∧ (∀ p, p ∉ S → w p = 0) ∧ ∀ p ∈ S, w p = shr S m p := by
  have nd := (Rw_nodup n).sublist hS
  refine ⟨fun p => if p ∈ S then shr S m p else 0, fun p hp => ?_, fun k hk => ?_, fun p hp => if_neg hp, fun p hp => if_pos hp⟩
  · show 0 ≤ if p ∈ S then shr S m p else 0
    split
    · rename_i q; exact h p q
    · exact Rat.le_refl
  · rw [← shr_mom d S nd hl m k hk]
    unfold mom
    rw [← su_part (Rw_nodup n) nd (fun a ha => hS.subset ha) (fun a ha hn => by
      show _ * (if a ∈ S then _ else _) = (0 : Rat)
      rw [if_neg hn]; grind)]
    refine su_congr fun p hp => ?_
    show _ * (if p ∈ S then _ else _) = _
    rw [if_pos hp]
theorem mom_ext {R : List Int} {v w : Int → Rat} (h : ∀ p ∈ R, v p = w p) (k : Nat) : mom R v k = mom R w k := su_congr fun p hp => by rw [h p hp]
/-- weights whose last average is an end are the only ones with these averages: with a sign e, of all weights with the averages below the last, e times the last one is least here -/
theorem end_uniq {n d : Nat} (hd : 1 ≤ d) (hd3 : d ≤ 3) (hdn : d ≤ n) (m : Nat → Rat) (m0 : m 0 = 1) (e : Rat) (he : e = 1 ∨ e = -1)
    (least : ∀ w : Int → Rat, NN (Rw n) w → (∀ k, k < d → mom (Rw n) w k = m k) → e * m d ≤ e * mom (Rw n) w d)
    {b c : Int → Rat} (hb : NN (Rw n) b) (hc : NN (Rw n) c) (mb : ∀ k, k ≤ d → mom (Rw n) b k = m k) (mc : ∀ k, k ≤ d → mom (Rw n) c k = m k) : ∀ p ∈ Rw n, b p = c p := by
  -- the value of a paper at the averages
  have val : ∀ (s : Int) (zs : List Int), zs.length = d → ∀ x : Int → Rat, (∀ k, k ≤ d → mom (Rw n) x k = m k) → shfs zs (mom (Rw n) x) 0 = shfs zs m 0 := fun s zs hl x hx => by
    have := shfs_lead zs (mom (Rw n) x) m 0 (fun j hj => hx j (by omega))
    rw [hx (0 + zs.length) (by omega)] at this
    grind
  -- some paper has the average 0
  have key : ∃ (s : Int) (zs : List Int), (s = 1 ∨ s = -1) ∧ zs.Sublist (Rw n) ∧ zs.length = d ∧ (∀ p ∈ Rw n, 0 ≤ (s : Rat) * pr p zs) ∧ (s : Rat) * shfs zs m 0 ≤ 0 := by
    refine Classical.byContradiction fun hno => ?_
    have pos : ∀ (s : Int) (zs : List Int), (s = 1 ∨ s = -1) → zs.Sublist (Rw n) → zs.length = d → (∀ p ∈ Rw n, 0 ≤ (s : Rat) * pr p zs) → 0 < (s : Rat) * shfs zs m 0 := fun s zs h1 h2 h3 h4 => by
      have : ¬ (s : Rat) * shfs zs m 0 ≤ 0 := fun q => hno ⟨s, zs, h1, h2, h3, h4, q⟩
      grind
    -- one distance for all of them
    have dist : ∀ l : List (Int × List Int), ∃ ε : Rat, 0 < ε ∧ ∀ x ∈ l, (0 < (x.1 : Rat) * shfs x.2 m 0) → ε ≤ (x.1 : Rat) * shfs x.2 m 0 := by
      intro l
      induction l with
      | nil => exact ⟨1, by grind, fun x hx => by cases hx⟩
      | cons a l ih =>
        obtain ⟨ε, e0, h⟩ := ih
        by_cases q : 0 < (a.1 : Rat) * shfs a.2 m 0 ∧ (a.1 : Rat) * shfs a.2 m 0 ≤ ε
        · refine ⟨(a.1 : Rat) * shfs a.2 m 0, q.1, fun x hx hp => ?_⟩
          rcases List.mem_cons.mp hx with z | z
          · rw [z]; exact Rat.le_refl
          · exact Rat.le_trans q.2 (h x z hp)
        · refine ⟨ε, e0, fun x hx hp => ?_⟩
          rcases List.mem_cons.mp hx with z | z
          · subst z
            have : ¬ (x.1 : Rat) * shfs x.2 m 0 ≤ ε := fun y => q ⟨hp, y⟩
            grind
          · exact h x z hp
    have fin : ∀ (l : List Int), ∃ L : List (List Int), ∀ c : List Int, c.Sublist l → c ∈ L := by
      intro l
      induction l with
      | nil => exact ⟨[[]], fun c h => by cases h; exact List.mem_singleton.mpr rfl⟩
      | cons a l ih =>
        obtain ⟨L, h⟩ := ih
        refine ⟨L ++ L.map (a :: ·), fun c hc => ?_⟩
        cases hc with
        | cons _ hc => exact List.mem_append_left _ (h _ hc)
        | cons_cons _ hc => exact List.mem_append_right _ (List.mem_map.mpr ⟨_, h _ hc, rfl⟩)
    obtain ⟨L, hL⟩ := fin (Rw n)
    obtain ⟨ε, e0, hε⟩ := dist (L.map (fun z => ((1 : Int), z)) ++ L.map (fun z => ((-1 : Int), z)))
    have small : ∀ (s : Int) (zs : List Int), (s = 1 ∨ s = -1) → zs.Sublist (Rw n) → zs.length = d → (∀ p ∈ Rw n, 0 ≤ (s : Rat) * pr p zs) → ε ≤ (s : Rat) * shfs zs m 0 := fun s zs h1 h2 h3 h4 => by
      refine hε (s, zs) ?_ (pos s zs h1 h2 h3 h4)
      rcases h1 with q | q
      · subst q; exact List.mem_append_left _ (List.mem_map.mpr ⟨zs, hL zs h2, rfl⟩)
      · subst q; exact List.mem_append_right _ (List.mem_map.mpr ⟨zs, hL zs h2, rfl⟩)
    -- weights with a lesser last average
    have far : ∃ S : List Int, S.Sublist (Rw n) ∧ S.length = d + 1 ∧ ∀ p ∈ S, 0 ≤ shr S (fun k => if k = d then m d - e * ε else m k) p := by
      refine farkas hd hd3 hdn _ (by rw [if_neg (by omega)]; exact m0) fun s zs h1 h2 h3 h4 => ?_
      have h5 := shfs_lead zs (fun k => if k = d then m d - e * ε else m k) m 0 (fun j hj => if_neg (by omega))
      rw [if_pos (by omega), show 0 + zs.length = d by omega] at h5
      have h6 := small s zs h1 h2 h3 h4
      have hone : ((1 : Int) : Rat) = 1 := rfl
      have hmone : ((-1 : Int) : Rat) = -1 := rfl
      rcases h1 with q | q <;> rcases he with q2 | q2 <;> (subst q q2; grind)
    obtain ⟨S, s1, s2, s3⟩ := far
    obtain ⟨w, w1, w2, -, -⟩ := shr_weights (d := d) s1 s2 _ s3
    have h1 := least w w1 (fun k hk => by rw [w2 k (by omega), if_neg (by omega)])
    rw [w2 d (Nat.le_refl _), if_pos rfl] at h1
    rcases he with q2 | q2 <;> (subst q2; grind)
  obtain ⟨s, zs, h1, h2, h3, h4, h5⟩ := key
  -- weights lie on its zeros
  have hs : (s : Rat) ≠ 0 := by
    have hone : ((1 : Int) : Rat) = 1 := rfl
    have hmone : ((-1 : Int) : Rat) = -1 := rfl
    rcases h1 with q | q <;> (subst q; grind)
  have on : ∀ x : Int → Rat, NN (Rw n) x → (∀ k, k ≤ d → mom (Rw n) x k = m k) → ∀ p ∈ Rw n, p ∉ zs → x p = 0 := fun x hx mx p hp hn => by
    have h6 := val s zs h3 x mx
    rw [shfs_mom0] at h6
    have h7 : su (Rw n) (fun p => (s : Rat) * pr p zs * x p) = 0 := by
      have h8 : 0 ≤ su (Rw n) (fun p => (s : Rat) * pr p zs * x p) := su_nonneg fun p hp => Rat.mul_nonneg (h4 p hp) (hx p hp)
      have h9 : su (Rw n) (fun p => (s : Rat) * pr p zs * x p) = (s : Rat) * su (Rw n) (fun p => pr p zs * x p) := by rw [← su_mul]; exact su_congr fun p _ => by grind
      rw [h6] at h9
      grind
    have h10 := su_pos_zero (fun p hp => Rat.mul_nonneg (h4 p hp) (hx p hp)) h7 p hp
    rcases Rat.mul_eq_zero.mp h10 with q | q
    · rcases Rat.mul_eq_zero.mp q with q | q
      · exact absurd q hs
      · exact absurd q (pr_ne hn)
    · exact q
  -- as many places as averages
  obtain ⟨d', rfl⟩ : ∃ d', d = d' + 1 := ⟨d - 1, by omega⟩
  exact few_eq (Rw_nodup n) (d := d') zs (fun p hp => h2.subset hp) ((Rw_nodup n).sublist h2) h3 (on b hb mb) (on c hc mc) fun k hk => by rw [mb k (by omega), mc k (by omega)]
/-- some weights and a bound of values: few places reach at least as low -/
theorem lp {n d : Nat} (hdn : d ≤ n) (v w : Int → Rat) (hw : NN (Rw n) w) : ∃ S : List Int, S.Sublist (Rw n) ∧ S.length = d + 1 ∧ ∃ c : Int → Rat, NN (Rw n) c ∧ (∀ p ∈ Rw n, p ∉ S → c p = 0) ∧ (∀ p ∈ S, c p = shr S (mom (Rw n) w) p) ∧ (∀ k, k ≤ d → mom (Rw n) c k = mom (Rw n) w k) ∧ (∀ p ∈ Rw n, w p = 0 → c p = 0) ∧ su (Rw n) (fun p => v p * c p) ≤ su (Rw n) fun p => v p * w p := by
  obtain ⟨c, c1, c2, c3, c4, c5⟩ := reduce (Rw_nodup n) d v _ w (Nat.le_refl _) hw
  obtain ⟨S, s1, s2, s3, s4⟩ := few_shr (Rw_nodup n) (d := d) (by rw [Rw_len]; omega) c3
  refine ⟨S, s1, s2, c, c1, s3, fun p hp => ?_, c2, c4, c5⟩
  rw [s4 p hp]
  unfold shr
  have hl := oth_len ((Rw_nodup n).sublist s1) hp
  have := shfs_lead (oth S p) (mom (Rw n) c) (mom (Rw n) w) 0 (fun j hj => c2 j (by omega))
  rw [c2 (0 + (oth S p).length) (by omega)] at this
  rw [show shfs (oth S p) (mom (Rw n) c) 0 = shfs (oth S p) (mom (Rw n) w) 0 by grind]
end Mo
namespace DD
open PySem PySem.Spec PyProof.Rows L2
open Mo (su mom Rw NN shr shfs pr oth)

/-! ### fractions as numbers -/
def qf (f : Int × Int) : Rat := (f.1 : Rat) / (f.2 : Rat)
/-- in lowest terms -/
def Lo (f : Int × Int) : Prop := 0 < f.2 ∧ Nat.gcd f.1.natAbs f.2.natAbs = 1
theorem rc_ne {b : Int} (h : b ≠ 0) : (b : Rat) ≠ 0 := fun z => h (by exact_mod_cast z)
theorem rc_pos {b : Int} : 0 < (b : Rat) ↔ 0 < b := Rat.intCast_pos
theorem rc_le {a b : Int} : (a : Rat) ≤ (b : Rat) ↔ a ≤ b := Rat.intCast_le_intCast
theorem rc_lt {a b : Int} : (a : Rat) < (b : Rat) ↔ a < b := Rat.intCast_lt_intCast
theorem rc_inj {a b : Int} : (a : Rat) = (b : Rat) ↔ a = b := Rat.intCast_inj
theorem rc_mul (a b : Int) : ((a * b : Int) : Rat) = (a : Rat) * b := Rat.intCast_mul a b
theorem rc_add (a b : Int) : ((a + b : Int) : Rat) = (a : Rat) + b := Rat.intCast_add a b
theorem rc_sub (a b : Int) : ((a - b : Int) : Rat) = (a : Rat) - b := Rat.intCast_sub a b
theorem rc_neg (a : Int) : ((-a : Int) : Rat) = -(a : Rat) := Rat.intCast_neg a
theorem gcd_parts (a b : Int) (hb : b ≠ 0) : ∃ g : Nat, 0 < g ∧ a = (redM a b).1 * g ∧ b = (redM a b).2 * g ∧ Nat.gcd (redM a b).1.natAbs (redM a b).2.natAbs = 1 := by
  have hg : 0 < Nat.gcd a.natAbs b.natAbs := Nat.gcd_pos_of_pos_right _ (by omega)
  have da : ((Nat.gcd a.natAbs b.natAbs : Nat) : Int) ∣ a := Int.ofNat_dvd_left.mpr (Nat.gcd_dvd_left _ _)
  have db : ((Nat.gcd a.natAbs b.natAbs : Nat) : Int) ∣ b := Int.ofNat_dvd_left.mpr (Nat.gcd_dvd_right _ _)
  refine ⟨Nat.gcd a.natAbs b.natAbs, hg, (Int.ediv_mul_cancel da).symm, (Int.ediv_mul_cancel db).symm, ?_⟩
  show Nat.gcd (a / _).natAbs (b / _).natAbs = 1
  rw [Int.natAbs_ediv_of_dvd da, Int.natAbs_ediv_of_dvd db, Int.natAbs_natCast]
  rw [Nat.gcd_div (Nat.gcd_dvd_left _ _) (Nat.gcd_dvd_right _ _)]
  exact Nat.div_self hg
theorem redM_lo {a b : Int} (h : 0 < b) : Lo (redM a b) := by
  obtain ⟨g, -, -, -, h4⟩ := gcd_parts a b (by omega)
  exact ⟨redM_den h, h4⟩
theorem qf_red {a b : Int} (h : b ≠ 0) : qf (redM a b) = (a : Rat) / b := by
  obtain ⟨g, g0, h1, h2, -⟩ := gcd_parts a b h
  unfold qf
  have hg : ((g : Int) : Rat) ≠ 0 := rc_ne (by omega)
  have hd : ((redM a b).2 : Rat) ≠ 0 := rc_ne (fun z => by rw [z] at h2; omega)
  have e1 : (a : Rat) = (redM a b).1 * ((g : Int) : Rat) := by rw [← rc_mul, ← h1]
  have e2 : (b : Rat) = (redM a b).2 * ((g : Int) : Rat) := by rw [← rc_mul, ← h2]
  rw [e1, e2]
  grind
theorem qf_eq_iff {f g : Int × Int} (hf : 0 < f.2) (hg : 0 < g.2) : qf f = qf g ↔ f.1 * g.2 = g.1 * f.2 := by
  have h1 : (f.2 : Rat) ≠ 0 := rc_ne (by omega)
  have h2 : (g.2 : Rat) ≠ 0 := rc_ne (by omega)
  unfold qf
  rw [← rc_inj, rc_mul, rc_mul]
  constructor <;> intro h <;> grind
theorem qf_lt_iff {f g : Int × Int} (hf : 0 < f.2) (hg : 0 < g.2) : qf f < qf g ↔ f.1 * g.2 < g.1 * f.2 := by
  have h1 : (0 : Rat) < (f.2 : Rat) := rc_pos.mpr hf
  have h2 : (0 : Rat) < (g.2 : Rat) := rc_pos.mpr hg
  unfold qf
  rw [← rc_lt, rc_mul, rc_mul, Rat.div_lt_iff h1, ]
  have e : (g.1 : Rat) / g.2 * f.2 = (g.1 * f.2) / g.2 := by grind
  rw [e, Rat.lt_div_iff h2]
theorem lessM_iff {f g : Int × Int} (hf : 0 < f.2) (hg : 0 < g.2) : lessM f g = true ↔ qf f < qf g := by
  unfold lessM
  rw [decide_eq_true_iff, qf_lt_iff hf hg]
theorem lo_inj {f g : Int × Int} (hf : Lo f) (hg : Lo g) (h : qf f = qf g) : f = g := by
  rw [qf_eq_iff hf.1 hg.1] at h
  obtain ⟨a, b⟩ := f
  obtain ⟨c, d⟩ := g
  obtain ⟨b0, h1⟩ := hf
  obtain ⟨d0, h2⟩ := hg
  simp only at b0 h1 d0 h2 h
  have hn : a.natAbs * d.natAbs = c.natAbs * b.natAbs := by rw [← Int.natAbs_mul, ← Int.natAbs_mul, h]
  have x1 : d.natAbs ∣ b.natAbs := by
    have : d.natAbs ∣ c.natAbs * b.natAbs := ⟨a.natAbs, by rw [← hn, Nat.mul_comm]⟩
    exact (Nat.Coprime.symm h2).dvd_of_dvd_mul_left this
  have x2 : b.natAbs ∣ d.natAbs := by
    have : b.natAbs ∣ a.natAbs * d.natAbs := ⟨c.natAbs, by rw [hn, Nat.mul_comm]⟩
    exact (Nat.Coprime.symm h1).dvd_of_dvd_mul_left this
  have hbd : b = d := by have := Nat.dvd_antisymm x1 x2; omega
  subst hbd
  have : a = c := Int.eq_of_mul_eq_mul_right (by omega) h
  rw [this]
theorem qf_zero : qf (0, 1) = 0 := by unfold qf; show (0 : Rat) / 1 = 0; grind
theorem qf_one : qf (1, 1) = 1 := by unfold qf; show (1 : Rat) / 1 = 1; grind
theorem lo_zero : Lo (0, 1) := ⟨by decide, by decide⟩
theorem lo_one : Lo (1, 1) := ⟨by decide, by decide⟩
theorem qf_int (i : Int) : qf (i, 1) = (i : Rat) := by unfold qf; show (i : Rat) / ((1 : Int) : Rat) = i; have : ((1 : Int) : Rat) = 1 := rfl; rw [this]; grind
theorem Frac.lo {f : Int × Int} (h : Frac f) : Lo f := ⟨by have := h.2.2.1; omega, h.2.2.2.2⟩
theorem plus_lo {f g : Int × Int} (hf : 0 < f.2) (hg : 0 < g.2) : Lo (plusM f g) := redM_lo (Int.mul_pos hf hg)
theorem qf_plus {f g : Int × Int} (hf : 0 < f.2) (hg : 0 < g.2) : qf (plusM f g) = qf f + qf g := by
  unfold plusM
  rw [qf_red (Int.ne_of_gt (Int.mul_pos hf hg))]
  unfold qf
  have h1 : (f.2 : Rat) ≠ 0 := rc_ne (by omega)
  have h2 : (g.2 : Rat) ≠ 0 := rc_ne (by omega)
  rw [rc_add, rc_mul, rc_mul, rc_mul]
  grind
theorem times_lo {f g : Int × Int} (hf : 0 < f.2) (hg : 0 < g.2) : Lo (timesM f g) := redM_lo (Int.mul_pos hf hg)
theorem qf_times {f g : Int × Int} (hf : 0 < f.2) (hg : 0 < g.2) : qf (timesM f g) = qf f * qf g := by
  unfold timesM
  rw [qf_red (Int.ne_of_gt (Int.mul_pos hf hg))]
  unfold qf
  have h1 : (f.2 : Rat) ≠ 0 := rc_ne (by omega)
  have h2 : (g.2 : Rat) ≠ 0 := rc_ne (by omega)
  rw [rc_mul, rc_mul]
  grind
theorem total_lo {fs : List (Int × Int)} (h : ∀ f ∈ fs, 0 < f.2) : Lo (totalM fs) ∧ qf (totalM fs) = su fs qf := by
  have key : ∀ (fs : List (Int × Int)) (b : Int × Int), Lo b → (∀ f ∈ fs, 0 < f.2) → Lo (fs.foldl plusM b) ∧ qf (fs.foldl plusM b) = qf b + su fs qf := by
    intro fs
    induction fs with
    | nil => intro b hb _; exact ⟨hb, by show qf b = qf b + 0; grind⟩
    | cons f fs ih =>
      intro b hb h
      have hf := h f List.mem_cons_self
      obtain ⟨h1, h2⟩ := ih (plusM b f) (plus_lo hb.1 hf) (fun x hx => h x (List.mem_cons_of_mem _ hx))
      rw [List.foldl_cons]
      refine ⟨h1, ?_⟩
      rw [h2, qf_plus hb.1 hf, Mo.su_cons]
      grind
  obtain ⟨h1, h2⟩ := key fs (0, 1) lo_zero h
  exact ⟨h1, by unfold totalM; rw [h2, qf_zero]; grind⟩
/-- the greatest common measure bounds the parts -/
theorem low_bd {f : Int × Int} (hf : Lo f) {N K : Int} (hN : 0 < N) (h : qf f * N = K) : f.2 ∣ N ∧ f.2 ≤ N ∧ f.1.natAbs ≤ K.natAbs := by
  obtain ⟨a, b⟩ := f
  obtain ⟨b0, hg⟩ := hf
  simp only at b0 hg ⊢
  have hbr : (b : Rat) ≠ 0 := rc_ne (by omega)
  have e : a * N = K * b := by
    rw [← rc_inj, rc_mul, rc_mul, ← h]
    unfold qf
    grind
  have hn : a.natAbs * N.natAbs = K.natAbs * b.natAbs := by rw [← Int.natAbs_mul, ← Int.natAbs_mul, e]
  have x : b.natAbs ∣ N.natAbs := (Nat.Coprime.symm hg).dvd_of_dvd_mul_left ⟨K.natAbs, by rw [hn, Nat.mul_comm]⟩
  have xb : b ∣ N := Int.natAbs_dvd_natAbs.mp x
  refine ⟨xb, Int.le_of_dvd hN xb, ?_⟩
  obtain ⟨k, hk⟩ := x
  have k0 : 0 < k := by
    rcases Nat.eq_zero_or_pos k with z | z
    · subst z; omega
    · exact z
  rw [hk] at hn
  have : K.natAbs = a.natAbs * k := by
    have h3 : b.natAbs * K.natAbs = b.natAbs * (a.natAbs * k) := by
      calc b.natAbs * K.natAbs = K.natAbs * b.natAbs := Nat.mul_comm _ _
        _ = a.natAbs * (b.natAbs * k) := hn.symm
        _ = b.natAbs * (a.natAbs * k) := by rw [← Nat.mul_assoc, Nat.mul_comm a.natAbs, Nat.mul_assoc]
    exact Nat.eq_of_mul_eq_mul_left (by omega) h3
  rw [this]
  exact Nat.le_mul_of_pos_right _ k0
theorem qf_nn {f : Int × Int} (h : 0 < f.2) : 0 ≤ qf f ↔ 0 ≤ f.1 := by
  have := qf_lt_iff (f := f) (g := (0, 1)) h (by decide)
  rw [qf_zero] at this
  simp only [Int.mul_one, Int.zero_mul] at this
  constructor
  · intro q
    have : ¬ f.1 < 0 := fun z => by have := this.mpr z; grind
    omega
  · intro q
    have : ¬ qf f < 0 := fun z => by have := this.mp z; omega
    grind
theorem qf_pos {f : Int × Int} (h : 0 < f.2) : 0 < qf f ↔ 0 < f.1 := by
  have := qf_lt_iff (f := (0, 1)) (g := f) (by decide) h
  rw [qf_zero] at this
  simp only [Int.mul_one, Int.zero_mul] at this
  exact this
theorem qf_zero_iff {f : Int × Int} (h : 0 < f.2) : qf f = 0 ↔ f.1 = 0 := by
  have := qf_eq_iff (f := f) (g := (0, 1)) h (by decide)
  rw [qf_zero] at this
  simp only [Int.mul_one, Int.zero_mul] at this
  exact this

/-! ### least and greatest -/
theorem least_le {fs : List (Int × Int)} (h : ∀ f ∈ fs, 0 < f.2) (hne : fs ≠ []) : leastM fs ∈ fs ∧ ∀ f ∈ fs, qf (leastM fs) ≤ qf f := by
  have key : ∀ (fs : List (Int × Int)) (b : Int × Int), 0 < b.2 → (∀ f ∈ fs, 0 < f.2) → (0 < (fs.foldl leastS b).2) ∧ qf (fs.foldl leastS b) ≤ qf b ∧ ∀ f ∈ fs, qf (fs.foldl leastS b) ≤ qf f := by
    intro fs
    induction fs with
    | nil => intro b hb _; exact ⟨hb, Rat.le_refl, fun f hf => by cases hf⟩
    | cons x fs ih =>
      intro b hb h
      have hx := h x List.mem_cons_self
      rw [List.foldl_cons]
      have hs : 0 < (leastS b x).2 ∧ qf (leastS b x) ≤ qf b ∧ qf (leastS b x) ≤ qf x := by
        unfold leastS
        by_cases hl : lessM x b = true
        · rw [if_pos hl]
          have := (lessM_iff hx hb).mp hl
          exact ⟨hx, by grind, Rat.le_refl⟩
        · rw [if_neg hl]
          have : ¬ qf x < qf b := fun z => hl ((lessM_iff hx hb).mpr z)
          exact ⟨hb, Rat.le_refl, by grind⟩
      obtain ⟨h1, h2, h3⟩ := ih (leastS b x) hs.1 (fun z hz => h z (List.mem_cons_of_mem _ hz))
      refine ⟨h1, Rat.le_trans h2 hs.2.1, fun f hf => ?_⟩
      rcases List.mem_cons.mp hf with e | e
      · rw [e]; exact Rat.le_trans h2 hs.2.2
      · exact h3 f e
  obtain ⟨f0, r, rfl⟩ : ∃ f0 r, fs = f0 :: r := by
    cases fs with
    | nil => exact absurd rfl hne
    | cons a r => exact ⟨a, r, rfl⟩
  refine ⟨?_, (key (f0 :: r) f0 (h f0 List.mem_cons_self) h).2.2⟩
  rcases least_in f0 (f0 :: r) with e | e
  · show (f0 :: r).foldl leastS f0 ∈ _
    rw [e]; exact List.mem_cons_self
  · exact e
theorem greatest_le {fs : List (Int × Int)} (h : ∀ f ∈ fs, 0 < f.2) (hne : fs ≠ []) : greatestM fs ∈ fs ∧ ∀ f ∈ fs, qf f ≤ qf (greatestM fs) := by
  have key : ∀ (fs : List (Int × Int)) (b : Int × Int), 0 < b.2 → (∀ f ∈ fs, 0 < f.2) → (0 < (fs.foldl greatestS b).2) ∧ qf b ≤ qf (fs.foldl greatestS b) ∧ ∀ f ∈ fs, qf f ≤ qf (fs.foldl greatestS b) := by
    intro fs
    induction fs with
    | nil => intro b hb _; exact ⟨hb, Rat.le_refl, fun f hf => by cases hf⟩
    | cons x fs ih =>
      intro b hb h
      have hx := h x List.mem_cons_self
      rw [List.foldl_cons]
      have hs : 0 < (greatestS b x).2 ∧ qf b ≤ qf (greatestS b x) ∧ qf x ≤ qf (greatestS b x) := by
        unfold greatestS
        by_cases hl : lessM b x = true
        · rw [if_pos hl]
          have := (lessM_iff hb hx).mp hl
          exact ⟨hx, by grind, Rat.le_refl⟩
        · rw [if_neg hl]
          have : ¬ qf b < qf x := fun z => hl ((lessM_iff hb hx).mpr z)
          exact ⟨hb, Rat.le_refl, by grind⟩
      obtain ⟨h1, h2, h3⟩ := ih (greatestS b x) hs.1 (fun z hz => h z (List.mem_cons_of_mem _ hz))
      refine ⟨h1, Rat.le_trans hs.2.1 h2, fun f hf => ?_⟩
      rcases List.mem_cons.mp hf with e | e
      · rw [e]; exact Rat.le_trans hs.2.2 h2
      · exact h3 f e
  obtain ⟨f0, r, rfl⟩ : ∃ f0 r, fs = f0 :: r := by
    cases fs with
    | nil => exact absurd rfl hne
    | cons a r => exact ⟨a, r, rfl⟩
  refine ⟨?_, (key (f0 :: r) f0 (h f0 List.mem_cons_self) h).2.2⟩
  rcases greatest_in f0 (f0 :: r) with e | e
  · show (f0 :: r).foldl greatestS f0 ∈ _
    rw [e]; exact List.mem_cons_self
  · exact e

/-! ### the average of a product -/
/-- the row of the told averages -/
def mo (avs : List (Int × Int)) (k : Nat) : Rat := if k = 0 then 1 else qf (avs.getD (k - 1) (0, 1))
/-- a row of whole numbers taken as a product's coefficients -/
def dot : List Int → (Nat → Rat) → Rat
  | [], _ => 0
  | c :: r, m => (c : Rat) * m 0 + dot r fun k => m (k + 1)
theorem dot_coefS : ∀ (r : List Int) (p : Int) (m : Nat → Rat), dot (coefS r p) m = dot r (Mo.shf p m) := by
  have key : ∀ (r : List Int) (a p : Int) (m : Nat → Rat), dot (((a :: r).zip (r ++ [0])).map fun z => z.1 - p * z.2) m = (a : Rat) * m 0 + dot r (Mo.shf p m) := by
    intro r
    induction r with
    | nil =>
      intro a p m
      show ((a - p * 0 : Int) : Rat) * m 0 + 0 = (a : Rat) * m 0 + 0
      rw [Int.mul_zero, Int.sub_zero]
    | cons c r ih =>
      intro a p m
      rw [List.cons_append, List.zip_cons_cons, List.map_cons]
      show ((a - p * c : Int) : Rat) * m 0 + dot _ _ = _
      rw [ih c p]
      show _ = (a : Rat) * m 0 + ((c : Rat) * Mo.shf p m 0 + dot r fun k => Mo.shf p m (k + 1))
      have e : (Mo.shf p fun k => m (k + 1)) = fun k => Mo.shf p m (k + 1) := rfl
      rw [e, rc_sub, rc_mul]
      unfold Mo.shf
      show _ = (a : Rat) * m 0 + ((c : Rat) * (m 1 - (p : Rat) * m 0) + _)
      grind
  intro r p m
  unfold coefS
  rw [key r 0 p m]
  have : ((0 : Int) : Rat) = 0 := rfl
  grind
theorem dot_coef : ∀ (os : List Int) (m : Nat → Rat), dot (coefM os) m = shfs os m 0 := by
  have key : ∀ (os r : List Int) (m : Nat → Rat), dot (os.foldl coefS r) m = dot r (shfs os m) := by
    intro os
    induction os with
    | nil => intro r m; rfl
    | cons o os ih =>
      intro r m
      rw [List.foldl_cons, ih, dot_coefS, ← Mo.shfs_out, ← Mo.shfs_cons]
  intro os m
  unfold coefM
  rw [key os [1] m]
  show ((1 : Int) : Rat) * shfs os m 0 + 0 = _
  have : ((1 : Int) : Rat) = 1 := rfl
  grind
theorem mean_lo {avs : List (Int × Int)} (ha : ∀ f ∈ avs, 0 < f.2) : ∀ row : List Int, row.length = avs.length + 1 → 0 < (meanM avs row).2 ∧ qf (meanM avs row) = dot row (mo avs) := by
  have key : ∀ (r : List Int) (avs : List (Int × Int)) (b : Int × Int), 0 < b.2 → (∀ f ∈ avs, 0 < f.2) → r.length = avs.length →
      0 < ((r.zip avs).foldl meanS b).2 ∧ qf ((r.zip avs).foldl meanS b) = qf b + dot r fun k => qf (avs.getD k (0, 1)) := by
    intro r
    induction r with
    | nil => intro avs b hb _ _; exact ⟨hb, by show qf b = qf b + 0; grind⟩
    | cons c r ih =>
      intro avs b hb ha hl
      obtain ⟨f, avs, rfl⟩ : ∃ f t, avs = f :: t := by
        cases avs with
        | nil => cases hl
        | cons f t => exact ⟨f, t, rfl⟩
      have hf := ha f List.mem_cons_self
      rw [List.zip_cons_cons, List.foldl_cons]
      have ht : 0 < (timesM (c, 1) f).2 := (times_lo (f := (c, 1)) (show (0 : Int) < 1 by decide) hf).1
      obtain ⟨h1, h2⟩ := ih avs (meanS b (c, f)) (plus_lo hb ht).1 (fun x hx => ha x (List.mem_cons_of_mem _ hx)) (by simpa using hl)
      refine ⟨h1, ?_⟩
      rw [h2]
      show qf (plusM b (timesM (c, 1) f)) + _ = qf b + ((c : Rat) * qf f + dot r fun k => qf (avs.getD k (0, 1)))
      rw [qf_plus hb ht, qf_times (show (0 : Int) < 1 by decide) hf, qf_int]
      grind
  intro row hl
  obtain ⟨c, r, rfl⟩ : ∃ c r, row = c :: r := by
    cases row with
    | nil => cases hl
    | cons c r => exact ⟨c, r, rfl⟩
  obtain ⟨h1, h2⟩ := key r avs (c, 1) (show (0 : Int) < 1 by decide) ha (by simpa using hl)
  refine ⟨h1, ?_⟩
  show qf ((r.zip avs).foldl meanS (c, 1)) = (c : Rat) * mo avs 0 + dot r fun k => mo avs (k + 1)
  rw [h2, qf_int]
  show _ = (c : Rat) * 1 + _
  have : (fun k => mo avs (k + 1)) = fun k => qf (avs.getD k (0, 1)) := by
    funext k
    unfold mo
    rw [if_neg (by omega)]
    rfl
  rw [this]
  grind
theorem div_pr (p : Int) : ∀ os : List Int, ((divM p os : Int) : Rat) = pr p os := by
  have key : ∀ (os : List Int) (d : Int), ((os.foldl (fun d o => d * (p - o)) d : Int) : Rat) = (d : Rat) * pr p os := by
    intro os
    induction os with
    | nil => intro d; show (d : Rat) = (d : Rat) * 1; grind
    | cons o os ih =>
      intro d
      rw [List.foldl_cons, ih, rc_mul]
      show _ = (d : Rat) * (((p - o : Int) : Rat) * pr p os)
      grind
  intro os
  unfold divM
  rw [key]
  have : ((1 : Int) : Rat) = 1 := rfl
  grind
theorem share_lo {avs : List (Int × Int)} (ha : ∀ f ∈ avs, 0 < f.2) {p : Int} {os : List Int} (hl : os.length = avs.length) (hp : p ∉ os) : Lo (shareM avs p os) ∧ qf (shareM avs p os) = shfs os (mo avs) 0 / pr p os := by
  obtain ⟨h1, h2⟩ := mean_lo ha (coefM os) (by rw [coefM_len, hl])
  rw [dot_coef] at h2
  have hd := divM_ne hp
  rw [← h2, ← div_pr]
  have hdr := rc_ne hd
  have hmr : ((meanM avs (coefM os)).2 : Rat) ≠ 0 := rc_ne (by omega)
  unfold shareM
  split
  · rename_i q
    have hpos := Int.mul_pos h1 q
    refine ⟨redM_lo hpos, ?_⟩
    rw [qf_red (by omega), rc_mul]
    unfold qf
    grind
  · rename_i q
    have hpos : 0 < -(meanM avs (coefM os)).2 * divM p os := Int.mul_pos_of_neg_of_neg (by omega) (by omega)
    refine ⟨redM_lo hpos, ?_⟩
    rw [qf_red (by omega), rc_mul, rc_neg, rc_neg]
    unfold qf
    grind

/-! ### weights as a function of the place -/
def wf (ws : Wts) (p : Int) : Rat := qf (ws.getD p.toNat (0, 1))
theorem mem_intsL {n : Nat} {p : Int} : p ∈ intsL 0 n ↔ 0 ≤ p ∧ p < n := by
  unfold intsL
  rw [List.mem_map]
  constructor
  · rintro ⟨i, hi, rfl⟩; have := List.mem_range.mp hi; omega
  · intro h; exact ⟨p.toNat, List.mem_range.mpr (by omega), by omega⟩
theorem Rw_ints (n : Nat) : Rw n = intsL 0 (n + 1) := rfl
theorem wts_ext {last : Nat} {v w : Wts} (hv : v.length = last + 1) (hw : w.length = last + 1) (lv : ∀ f ∈ v, Lo f) (lw : ∀ f ∈ w, Lo f) (h : ∀ p ∈ Rw last, wf v p = wf w p) : v = w := by
  apply List.ext_getElem (by omega)
  intro i h1 h2
  have := h (i : Int) (Mo.mem_Rw.mpr (by omega))
  unfold wf at this
  rw [Int.toNat_natCast, getD_in h1, getD_in h2] at this
  exact lo_inj (lv _ (List.getElem_mem h1)) (lw _ (List.getElem_mem h2)) this
theorem wf_at {ws : Wts} {i : Nat} (h : i < ws.length) : wf ws (i : Int) = qf ws[i] := by unfold wf; rw [Int.toNat_natCast, getD_in h]
theorem wOf_at (last : Nat) (avs : List (Int × Int)) (S : List Int) : ∀ (done : List Int), (∀ p ∈ done, 0 ≤ p ∧ p ≤ (last : Int)) → ∀ p : Int, 0 ≤ p → p ≤ (last : Int) → (wOf last avs S done).getD p.toNat (0, 1) = if p ∈ done then shareM avs p (oth S p) else (0, 1) := by
  refine snoc_ind ?_ ?_
  · intro _ p h1 h2
    rw [if_neg (by simp)]
    unfold wOf
    rw [List.foldl_nil, getD_in (by simp; omega), List.getElem_replicate]
  · intro l a ih h p h1 h2
    have ha := h a (by simp)
    have il := ih (fun z hz => h z (List.mem_append_left _ hz)) p h1 h2
    rw [wOf_snoc]
    have hlen := wOf_len last avs S l
    by_cases e : p = a
    · subst e
      rw [if_pos (by simp), getD_in (by rw [List.length_set]; omega), List.getElem_set_self]
      rfl
    · have : ((wOf last avs S l).set a.toNat (shareM avs a (S.filter fun q => decide (q ≠ a)))).getD p.toNat (0, 1) = (wOf last avs S l).getD p.toNat (0, 1) := by
        rw [List.getD_eq_getElem?_getD, List.getD_eq_getElem?_getD, List.getElem?_set_ne (by omega)]
      rw [this, il]
      by_cases m : p ∈ l
      · rw [if_pos m, if_pos (List.mem_append_left _ m)]
      · rw [if_neg m, if_neg (by rw [List.mem_append, List.mem_singleton]; exact fun z => z.elim m e)]
theorem len_sub {α : Type} [DecidableEq α] : ∀ {l s : List α}, l.Nodup → (∀ x ∈ l, x ∈ s) → l.length ≤ s.length
  | [], _, _, _ => Nat.zero_le _
  | a :: l, s, h, sub => by
    obtain ⟨h1, h2⟩ := List.nodup_cons.mp h
    have ha := sub a List.mem_cons_self
    have := len_sub (s := s.erase a) h2 fun x hx => (List.mem_erase_of_ne (fun e => h1 (by rw [← e]; exact hx))).mpr (sub x (List.mem_cons_of_mem _ hx))
    rw [List.length_erase_of_mem ha] at this
    have := List.length_pos_of_mem ha
    rw [List.length_cons]
    omega
/-- what a corner is -/
structure Corner (last : Nat) (avs : List (Int × Int)) (ws : Wts) : Prop where
  len : ws.length = last + 1
  lo : ∀ f ∈ ws, Lo f
  nn : NN (Rw last) (wf ws)
  mom : ∀ k, k ≤ avs.length → mom (Rw last) (wf ws) k = mo avs k
  few : (Mo.sup (Rw last) (wf ws)).length ≤ avs.length + 1
theorem nonneg_nn {last : Nat} {ws : Wts} (hl : ws.length = last + 1) (lo : ∀ f ∈ ws, 0 < f.2) : nonnegW ws = true ↔ NN (Rw last) (wf ws) := by
  unfold nonnegW
  rw [List.all_eq_true]
  constructor
  · intro h p hp
    have hp := Mo.mem_Rw.mp hp
    unfold wf
    have hi : p.toNat < ws.length := by omega
    rw [getD_in hi]
    exact (qf_nn (lo _ (List.getElem_mem hi))).mpr (of_decide_eq_true (h _ (List.getElem_mem hi)))
  · intro h f hf
    obtain ⟨i, hi, rfl⟩ := List.getElem_of_mem hf
    have := h (i : Int) (Mo.mem_Rw.mpr (by omega))
    rw [wf_at hi] at this
    exact decide_eq_true ((qf_nn (lo _ (List.getElem_mem hi))).mp this)
theorem mem_supps {last d : Nat} {S : List Int} : S ∈ suppsM last d ↔ S.Sublist (Rw last) ∧ S.length = d + 1 := by
  unfold suppsM
  constructor
  · intro h; exact ⟨(choose_mem h).2, (choose_mem h).1⟩
  · rintro ⟨h1, h2⟩
    rw [← h2]
    exact mem_choose h1
theorem wOf_lo {last : Nat} {avs : List (Int × Int)} (ha : ∀ f ∈ avs, 0 < f.2) {S : List Int} (hS : S.Sublist (Rw last)) (hl : S.length = avs.length + 1) : (∀ f ∈ wOf last avs S S, Lo f) ∧ ∀ p ∈ Rw last, wf (wOf last avs S S) p = if p ∈ S then shr S (mo avs) p else 0 := by
  have nd := (Mo.Rw_nodup last).sublist hS
  have hb := (Mo.sub_asc hS).2
  have hlen := wOf_len last avs S S
  have sh : ∀ p ∈ S, Lo (shareM avs p (oth S p)) ∧ qf (shareM avs p (oth S p)) = shr S (mo avs) p := fun p hp => share_lo ha (by have := Mo.oth_len nd hp; omega) Mo.oth_not
  constructor
  · intro f hf
    obtain ⟨i, hi, rfl⟩ := List.getElem_of_mem hf
    have h := wOf_at last avs S S hb (i : Int) (by omega) (by omega)
    rw [Int.toNat_natCast, getD_in hi] at h
    rw [h]
    split
    · rename_i q; exact (sh _ q).1
    · exact lo_zero
  · intro p hp
    have hp := Mo.mem_Rw.mp hp
    unfold wf
    rw [wOf_at last avs S S hb p hp.1 hp.2]
    split
    · rename_i q; exact (sh _ q).2
    · exact qf_zero
theorem corner_iff {last : Nat} {avs : List (Int × Int)} (hl : avs.length ≤ last) (ha : ∀ f ∈ avs, 0 < f.2) {ws : Wts} : ws ∈ cornersM last avs ↔ Corner last avs ws := by
  constructor
  · intro h
    obtain ⟨S, hS, rfl, hn⟩ := corner_mem h
    obtain ⟨s1, s2⟩ := mem_supps.mp hS
    obtain ⟨l1, l2⟩ := wOf_lo ha s1 s2
    have hlen := wOf_len last avs S S
    have nn := (nonneg_nn hlen fun f hf => (l1 f hf).1).mp hn
    have hpos : ∀ p ∈ S, 0 ≤ shr S (mo avs) p := fun p hp => by
      have := nn p (s1.subset hp)
      rw [l2 p (s1.subset hp), if_pos hp] at this
      exact this
    obtain ⟨w, w1, w2, w3, w4⟩ := Mo.shr_weights s1 s2 (mo avs) hpos
    have e : ∀ p ∈ Rw last, wf (wOf last avs S S) p = w p := fun p hp => by
      rw [l2 p hp]
      split
      · rename_i q; exact (w4 p q).symm
      · rename_i q; exact (w3 p q).symm
    refine ⟨hlen, l1, nn, fun k hk => by rw [Mo.mom_ext e k]; exact w2 k hk, ?_⟩
    have h1 : (Mo.sup (Rw last) (wf (wOf last avs S S))).Nodup := (Mo.Rw_nodup last).filter _
    have h2 : ∀ p ∈ Mo.sup (Rw last) (wf (wOf last avs S S)), p ∈ S := fun p hp => by
      obtain ⟨q1, q2⟩ := Mo.mem_sup.mp hp
      refine Classical.byContradiction fun hn => q2 ?_
      rw [l2 p q1, if_neg hn]
    have := len_sub h1 h2
    omega
  · intro ⟨hlen, lo, nn, hm, few⟩
    obtain ⟨S, s1, s2, s3, s4⟩ := Mo.few_shr (Mo.Rw_nodup last) (d := avs.length) (by rw [Mo.Rw_len]; omega) few
    obtain ⟨l1, l2⟩ := wOf_lo ha s1 s2
    have nd := (Mo.Rw_nodup last).sublist s1
    have e : ws = wOf last avs S S := wts_ext hlen (wOf_len last avs S S) lo l1 fun p hp => by
      rw [l2 p hp]
      split
      · rename_i q
        rw [s4 p q]
        unfold shr
        have hol := Mo.oth_len nd q
        have := Mo.shfs_lead (oth S p) (Mo.mom (Rw last) (wf ws)) (mo avs) 0 (fun j hj => hm j (by omega))
        rw [hm (0 + (oth S p).length) (by omega)] at this
        rw [show shfs (oth S p) (Mo.mom (Rw last) (wf ws)) 0 = shfs (oth S p) (mo avs) 0 by grind]
      · rename_i q; exact s3 p hp q
    unfold cornersM
    rw [mem_sortU]
    unfold cornerList
    rw [List.mem_filter, List.mem_map]
    exact ⟨⟨S, mem_supps.mpr ⟨s1, s2⟩, e.symm⟩, (nonneg_nn hlen fun f hf => (lo f hf).1).mpr nn⟩
end DD
namespace DD
open PySem PySem.Spec PyProof.Rows L2
open Mo (su mom Rw NN shr shfs pr oth)

/-! ### the laws' own helpers -/
def lowM (a b : Int) : Int × Int := if 0 < b then redM a b else redM (-a) (-b)
theorem lowM_pos {a b : Int} (h : 0 < b) : lowM a b = redM a b := by unfold lowM; rw [if_pos h]
theorem low_lo {a b : Int} (h : b ≠ 0) : Lo (lowM a b) ∧ qf (lowM a b) = (a : Rat) / b := by
  unfold lowM
  split
  · rename_i q; exact ⟨redM_lo q, qf_red h⟩
  · rename_i q
    refine ⟨redM_lo (by omega), ?_⟩
    rw [qf_red (by omega), rc_neg, rc_neg]
    have := rc_ne h
    grind
def S__law_low (ds : List PyData) (o : Out) : Prop := ∃ a b : Int, ds = [.int a, .int b] ∧ b ≠ 0 ∧ b.natAbs < 2 ^ 9000 ∧ o = .ret (encF (lowM a b))
def S__law_times (ds : List PyData) (o : Out) : Prop := ∃ (i : Int) (f : Int × Int) (n m : Nat), ds = [.int i, encF f] ∧ i.natAbs < 2 ^ n ∧ Fz m f ∧ n + m ≤ 8800 ∧ o = .ret (encF (timesM (i, 1) f))
/-- items at places -/
def manyM (ns : List Int) (at_ : Nat) : Nat := (1 + dr ns at_ 0 % 9).toNat
def spotM (ns : List Int) (at_ last : Nat) (t : Int) : Nat := (dr ns at_ (1 + t.toNat) % ((last : Int) + 1)).toNat
def cntStep (ns : List Int) (at_ last : Nat) (cs : List Int) (t : Int) : List Int := cs.set (spotM ns at_ last t) (cs.getD (spotM ns at_ last t) 0 + 1)
def cntAt (ns : List Int) (at_ last : Nat) (ts : List Int) : List Int := ts.foldl (cntStep ns at_ last) (List.replicate (last + 1) 0)
def cntM (ns : List Int) (at_ last : Nat) : List Int := cntAt ns at_ last (intsL 0 (manyM ns at_))
def wtsM (ns : List Int) (at_ last : Nat) : Wts := (cntM ns at_ last).map fun c => redM c (manyM ns at_)
theorem manyM_bd (ns : List Int) (at_ : Nat) : 1 ≤ manyM ns at_ ∧ manyM ns at_ ≤ 9 ∧ ((manyM ns at_ : Nat) : Int) = 1 + dr ns at_ 0 % 9 := by
  unfold manyM
  have := dr_bd ns at_ 0
  omega
theorem spotM_bd (ns : List Int) (at_ last : Nat) (t : Int) : spotM ns at_ last t ≤ last ∧ ((spotM ns at_ last t : Nat) : Int) = dr ns at_ (1 + t.toNat) % ((last : Int) + 1) := by
  unfold spotM
  have h1 := Int.emod_nonneg (dr ns at_ (1 + t.toNat)) (show (last : Int) + 1 ≠ 0 by omega)
  have h2 := Int.emod_lt_of_pos (dr ns at_ (1 + t.toNat)) (show (0 : Int) < (last : Int) + 1 by omega)
  omega
theorem cntAt_snoc (ns : List Int) (at_ last : Nat) (ts : List Int) (t : Int) : cntAt ns at_ last (ts ++ [t]) = cntStep ns at_ last (cntAt ns at_ last ts) t := by unfold cntAt; rw [List.foldl_append]; rfl
theorem sum_set : ∀ (cs : List Int) (i : Nat), i < cs.length → (cs.set i (cs.getD i 0 + 1)).sum = cs.sum + 1
  | [], _, h => by cases h
  | c :: cs, 0, _ => by show (c + 1) + cs.sum = c + cs.sum + 1; omega
  | c :: cs, i + 1, h => by
    show c + (cs.set i (cs.getD i 0 + 1)).sum = c + cs.sum + 1
    rw [sum_set cs i (by simpa using h)]
    omega
theorem cntAt_ok (ns : List Int) (at_ last : Nat) : ∀ ts : List Int, (cntAt ns at_ last ts).length = last + 1 ∧ (cntAt ns at_ last ts).sum = ts.length ∧ ∀ c ∈ cntAt ns at_ last ts, 0 ≤ c ∧ c ≤ ts.length := by
  refine snoc_ind ?_ fun l a h => ?_
  · have e : cntAt ns at_ last [] = List.replicate (last + 1) 0 := rfl
    rw [e]
    refine ⟨by simp, ?_, fun c hc => by rw [List.eq_of_mem_replicate hc]; simp⟩
    have : ∀ n : Nat, (List.replicate n (0 : Int)).sum = 0 := fun n => by
      induction n with
      | zero => rfl
      | succ n ih => rw [List.replicate_succ, List.sum_cons, ih]; rfl
    rw [this]; rfl
  · obtain ⟨h1, h2, h3⟩ := h
    rw [cntAt_snoc]
    have hs := spotM_bd ns at_ last a
    refine ⟨by unfold cntStep; rw [List.length_set, h1], ?_, fun c hc => ?_⟩
    · unfold cntStep
      rw [sum_set _ _ (by omega), h2, List.length_append, List.length_singleton]
      omega
    · rw [List.length_append, List.length_singleton]
      unfold cntStep at hc
      rcases List.mem_or_eq_of_mem_set hc with e | e
      · have := h3 c e; omega
      · have hi : spotM ns at_ last a < (cntAt ns at_ last l).length := by omega
        rw [getD_in hi] at e
        have := h3 _ (List.getElem_mem hi)
        omega
theorem cntM_ok (ns : List Int) (at_ last : Nat) : (cntM ns at_ last).length = last + 1 ∧ (cntM ns at_ last).sum = (manyM ns at_ : Nat) ∧ ∀ c ∈ cntM ns at_ last, 0 ≤ c ∧ c ≤ (manyM ns at_ : Nat) := by
  have := cntAt_ok ns at_ last (intsL 0 (manyM ns at_))
  rw [intsL_len] at this
  exact this
def S__law_weights (ns : List Int) (ds : List PyData) (o : Out) : Prop := ∃ at_ last : Nat, ds = [.int (at_ : Int), .int (last : Int)] ∧ at_ < 1000 ∧ last ≤ 6 ∧ o = .ret (encL (wtsM ns at_ last))
theorem su_int : ∀ l : List Int, su l (fun c => (c : Rat)) = ((l.sum : Int) : Rat)
  | [] => rfl
  | c :: l => by rw [Mo.su_cons, su_int l, List.sum_cons, rc_add]
/-- a fraction of so many -/
theorem red_bd {c : Int} {m : Nat} (hm : 0 < m) : Lo (redM c m) ∧ qf (redM c m) * ((m : Int) : Rat) = c := by
  refine ⟨redM_lo (by omega), ?_⟩
  rw [qf_red (by omega)]
  have : ((m : Int) : Rat) ≠ 0 := rc_ne (by omega)
  grind
theorem wts_part (ns : List Int) (at_ last : Nat) : ∀ f ∈ wtsM ns at_ last, Lo f ∧ 0 ≤ f.1 ∧ f.1.natAbs ≤ 9 ∧ f.2 ≤ 9 := fun f hf => by
  obtain ⟨c, hc, rfl⟩ := List.mem_map.mp hf
  have hb := (cntM_ok ns at_ last).2.2 c hc
  have hm := manyM_bd ns at_
  obtain ⟨h1, h2⟩ := red_bd (c := c) hm.1
  obtain ⟨h3, h4, h5⟩ := low_bd h1 (by omega) h2
  refine ⟨h1, ?_, by omega, by omega⟩
  have : 0 ≤ qf (redM c (manyM ns at_ : Nat)) := by
    rw [qf_red (by omega)]
    exact Mo.div_nn (.inl ⟨rc_pos.mpr (by omega), Mo.rat_nn.mpr hb.1⟩)
  exact (qf_nn h1.1).mp this
theorem wtsM_len (ns : List Int) (at_ last : Nat) : (wtsM ns at_ last).length = last + 1 := by unfold wtsM; rw [List.length_map, (cntM_ok ns at_ last).1]
theorem frac_small {f : Int × Int} (h : Lo f) (h1 : f.1.natAbs ≤ 99999) (h2 : f.2 ≤ 99999) : Frac f := ⟨by omega, by omega, h.1, h2, h.2⟩
theorem wtsM_ok (ns : List Int) (at_ last : Nat) : WtOk last (wtsM ns at_ last) := by
  refine ⟨wtsM_len ns at_ last, fun f hf => ?_, ?_⟩
  · obtain ⟨h1, h2, h3, h4⟩ := wts_part ns at_ last f hf
    exact ⟨frac_small h1 (by omega) (by omega), h2⟩
  · obtain ⟨h1, h2⟩ := total_lo (fs := wtsM ns at_ last) fun f hf => (wts_part ns at_ last f hf).1.1
    refine lo_inj h1 lo_one ?_
    rw [h2, qf_one]
    unfold wtsM
    rw [Mo.su_map]
    have hm := manyM_bd ns at_
    have hmr : (((manyM ns at_ : Nat) : Int) : Rat) ≠ 0 := rc_ne (by omega)
    rw [Mo.su_congr (g := fun (c : Int) => (((manyM ns at_ : Nat) : Int) : Rat)⁻¹ * (c : Rat)) (fun c _ => by rw [qf_red (by omega)]; grind), Mo.su_mul, su_int, (cntM_ok ns at_ last).2.1]
    grind
/-! averages of powers -/
def S__law_means (ds : List PyData) (o : Out) : Prop := ∃ (last : Nat) (ws : Wts) (many n : Nat), ds = [encL ws, .int (many : Int)] ∧ ws.length = last + 1 ∧ last ≤ 6 ∧ many ≤ 3 ∧ (∀ f ∈ ws, Fz n f) ∧ n ≤ 1000 ∧ o = .ret (encL (avsM last ws many))
theorem avg_lo {vs : List Int} {ws : Wts} (hw : ∀ f ∈ ws, 0 < f.2) : Lo (avgM vs ws) ∧ qf (avgM vs ws) = su (vs.zip ws) fun z => (z.1 : Rat) * qf z.2 := by
  have hz : ∀ z ∈ vs.zip ws, 0 < z.2.2 := fun z hz => hw _ (List.of_mem_zip hz).2
  obtain ⟨h1, h2⟩ := total_lo (fs := (vs.zip ws).map fun z => timesM (z.1, 1) z.2) fun f hf => by
    obtain ⟨z, hz', rfl⟩ := List.mem_map.mp hf
    exact (times_lo (show (0 : Int) < 1 by decide) (hz z hz')).1
  refine ⟨h1, ?_⟩
  unfold avgM
  rw [h2, Mo.su_map]
  refine Mo.su_congr fun z hz' => ?_
  rw [qf_times (show (0 : Int) < 1 by decide) (hz z hz'), qf_int]
/-- sums over the places -/
theorem su_zip_rw (last : Nat) (vs : List Int) (ws : Wts) (hv : vs.length = last + 1) (hw : ws.length = last + 1) (g : Int → (Int × Int) → Rat) : su (vs.zip ws) (fun z => g z.1 z.2) = su (Rw last) fun p => g (vs.getD p.toNat 0) (ws.getD p.toNat (0, 1)) := by
  have key : ∀ (n : Nat) (vs : List Int) (ws : Wts), vs.length = n → ws.length = n → su (vs.zip ws) (fun z => g z.1 z.2) = su (List.range n) fun i => g (vs.getD i 0) (ws.getD i (0, 1)) := by
    intro n
    induction n with
    | zero =>
      intro vs ws h1 h2
      rw [List.length_eq_zero_iff.mp h1]
      rfl
    | succ n ih =>
      intro vs ws h1 h2
      obtain ⟨vs', v, rfl⟩ : ∃ l a, vs = l ++ [a] := ⟨vs.dropLast, vs.getLast (by intro e; rw [e] at h1; cases h1), (List.dropLast_concat_getLast _).symm⟩
      obtain ⟨ws', w, rfl⟩ : ∃ l a, ws = l ++ [a] := ⟨ws.dropLast, ws.getLast (by intro e; rw [e] at h2; cases h2), (List.dropLast_concat_getLast _).symm⟩
      rw [List.length_append, List.length_singleton] at h1 h2
      rw [List.zip_append (by omega), Mo.su_append, ih vs' ws' (by omega) (by omega), List.range_succ, Mo.su_append]
      show _ + (g v w + 0) = _ + (g _ _ + 0)
      have e1 : (vs' ++ [v]).getD n 0 = v := by rw [List.getD_eq_getElem?_getD, List.getElem?_append_right (by omega), show n - vs'.length = 0 by omega]; rfl
      have e2 : (ws' ++ [w]).getD n (0, 1) = w := by rw [List.getD_eq_getElem?_getD, List.getElem?_append_right (by omega), show n - ws'.length = 0 by omega]; rfl
      rw [e1, e2]
      congr 1
      refine Mo.su_congr fun i hi => ?_
      have hi := List.mem_range.mp hi
      rw [List.getD_eq_getElem?_getD, List.getD_eq_getElem?_getD, List.getD_eq_getElem?_getD, List.getD_eq_getElem?_getD, List.getElem?_append_left (by omega), List.getElem?_append_left (by omega)]
  rw [key (last + 1) vs ws hv hw]
  unfold Rw
  rw [Mo.su_map]
  refine Mo.su_congr fun i _ => ?_
  rw [show ((0 : Int) + (i : Int)).toNat = i by omega]
theorem avg_rw {last : Nat} {vs : List Int} {ws : Wts} (hv : vs.length = last + 1) (hl : ws.length = last + 1) (hw : ∀ f ∈ ws, 0 < f.2) : Lo (avgM vs ws) ∧ qf (avgM vs ws) = su (Rw last) fun p => ((vs.getD p.toNat 0 : Int) : Rat) * wf ws p := by
  obtain ⟨h1, h2⟩ := avg_lo (vs := vs) hw
  refine ⟨h1, ?_⟩
  rw [h2, su_zip_rw last vs ws hv hl (fun v f => (v : Rat) * qf f)]
  rfl
theorem powL_len (last e : Nat) : (powL last e).length = last + 1 := by unfold powL; rw [List.length_map, intsL_len]
theorem powL_at {last e : Nat} {p : Int} (h : p ∈ Rw last) : (powL last e).getD p.toNat 0 = p ^ e := by
  have hp := Mo.mem_Rw.mp h
  have : (powL last e)[p.toNat]? = some (p ^ e) := by
    unfold powL intsL
    rw [List.getElem?_map, List.getElem?_map, List.getElem?_range (by omega)]
    show some ((0 + (p.toNat : Int)) ^ e) = _
    rw [show (0 : Int) + (p.toNat : Int) = p by omega]
  rw [List.getD_eq_getElem?_getD, this]
  rfl
theorem rc_pow (p : Int) (e : Nat) : ((p ^ e : Int) : Rat) = (p : Rat) ^ e := Rat.intCast_pow p e
theorem avg_pow {last : Nat} {ws : Wts} (hl : ws.length = last + 1) (hw : ∀ f ∈ ws, 0 < f.2) (e : Nat) : Lo (avgM (powL last e) ws) ∧ qf (avgM (powL last e) ws) = mom (Rw last) (wf ws) e := by
  obtain ⟨h1, h2⟩ := avg_rw (powL_len last e) hl hw
  refine ⟨h1, ?_⟩
  rw [h2]
  exact Mo.su_congr fun p hp => by rw [powL_at hp, rc_pow]
theorem avsM_len (last : Nat) (ws : Wts) (many : Nat) : (avsM last ws many).length = many := by unfold avsM; rw [List.length_map, intsL_len]
theorem avsM_at {last : Nat} {ws : Wts} {many k : Nat} (h : k < many) : (avsM last ws many)[k]? = some (avgM (powL last (k + 1)) ws) := by
  have : (intsL 1 many)[k]? = some (1 + (k : Int)) := by
    unfold intsL
    rw [List.getElem?_map, List.getElem?_range h]
    rfl
  unfold avsM
  rw [List.getElem?_map, this]
  show some (avgM (powL last ((1 + (k : Int)).toNat)) ws) = _
  rw [show ((1 : Int) + (k : Int)).toNat = k + 1 by omega]
theorem avsM_getD {last : Nat} {ws : Wts} {many k : Nat} (h : k < many) : (avsM last ws many).getD k (0, 1) = avgM (powL last (k + 1)) ws := by rw [List.getD_eq_getElem?_getD, avsM_at h]; rfl
theorem avsM_lo {last : Nat} {ws : Wts} {many : Nat} (hl : ws.length = last + 1) (hw : ∀ f ∈ ws, 0 < f.2) : ∀ f ∈ avsM last ws many, Lo f := fun f hf => by
  obtain ⟨e, -, rfl⟩ := List.mem_map.mp hf
  exact (avg_pow hl hw _).1
/-- the sum of weights -/
theorem sum_mom {last : Nat} {ws : Wts} (hl : ws.length = last + 1) (hw : ∀ f ∈ ws, 0 < f.2) : qf (totalM ws) = mom (Rw last) (wf ws) 0 := by
  rw [(total_lo hw).2, Mo.mom_zero]
  have := su_zip_rw last (List.replicate (last + 1) 0) ws (by simp) hl (fun _ f => qf f)
  rw [show su (Rw last) (wf ws) = su (Rw last) fun p => qf (ws.getD p.toNat (0, 1)) from rfl, ← this]
  have e : ∀ (ws : Wts) (n : Nat), n = ws.length → su ((List.replicate n (0 : Int)).zip ws) (fun z => qf z.2) = su ws qf := by
    intro ws
    induction ws with
    | nil => intro n h; subst h; rfl
    | cons f ws ih => intro n h; subst h; rw [List.length_cons, List.replicate_succ, List.zip_cons_cons, Mo.su_cons, Mo.su_cons, ih _ rfl]
  rw [e ws (last + 1) hl.symm]
/-- the row of averages of weights -/
theorem mo_avs {last : Nat} {ws : Wts} {many : Nat} (hl : ws.length = last + 1) (hw : ∀ f ∈ ws, 0 < f.2) (h1 : totalM ws = (1, 1)) : ∀ k, k ≤ many → mo (avsM last ws many) k = mom (Rw last) (wf ws) k := fun k hk => by
  unfold mo
  split
  · rename_i e; subst e; rw [← sum_mom hl hw, h1, qf_one]
  · rw [avsM_getD (by omega), (avg_pow hl hw _).2, show k - 1 + 1 = k by omega]
end DD
namespace DD
open PySem PySem.Spec PyProof.Rows L2
open Mo (su mom Rw NN shr shfs pr oth)
def dotI : List Int → List Int → Int
  | [], _ => 0
  | _, [] => 0
  | v :: vs, c :: cs => v * c + dotI vs cs
theorem su_dotI {m : Nat} (hm : 0 < m) : ∀ (vs cs : List Int), su (vs.zip (cs.map fun c => redM c (m : Nat))) (fun z => (z.1 : Rat) * qf z.2) * ((m : Int) : Rat) = ((dotI vs cs : Int) : Rat)
  | [], _ => by show (0 : Rat) * _ = ((0 : Int) : Rat); have : ((0 : Int) : Rat) = 0 := rfl; grind
  | v :: vs, [] => by show (0 : Rat) * _ = ((0 : Int) : Rat); have : ((0 : Int) : Rat) = 0 := rfl; grind
  | v :: vs, c :: cs => by
    have ih := su_dotI hm vs cs
    have h := (red_bd (c := c) hm).2
    rw [List.map_cons, List.zip_cons_cons, Mo.su_cons]
    show _ = ((v * c + dotI vs cs : Int) : Rat)
    rw [rc_add, rc_mul]
    grind
/-- averages of powers of drawn weights -/
theorem mom_pow_bd {last : Nat} {w : Int → Rat} (nn : NN (Rw last) w) (h0 : mom (Rw last) w 0 = 1) {e : Nat} (h6 : last ≤ 6) (he : e ≤ 3) : 0 ≤ mom (Rw last) w e ∧ mom (Rw last) w e ≤ 216 := by
  have hp : ∀ p ∈ Rw last, 0 ≤ ((p : Rat) ^ e) ∧ ((p : Rat) ^ e) ≤ 216 := fun p hp => by
    have hp := Mo.mem_Rw.mp hp
    rw [← rc_pow]
    have h1 : (0 : Int) ≤ p ^ e := Int.pow_nonneg hp.1
    have h2 : p ^ e ≤ 216 := by
      have h3 : (p ^ e).natAbs ≤ 216 := by
        rw [Int.natAbs_pow]
        exact Nat.le_trans (Nat.pow_le_pow_left (show p.natAbs ≤ 6 by omega) e) (Nat.le_trans (Nat.pow_le_pow_right (by decide) he) (by decide))
      omega
    exact ⟨Mo.rat_nn.mpr h1, by have := rc_le.mpr h2; exact this⟩
  constructor
  · exact Mo.su_nonneg fun p q => Rat.mul_nonneg (hp p q).1 (nn p q)
  · have : mom (Rw last) w e ≤ su (Rw last) fun p => 216 * w p := Mo.su_le fun p q => by
      have := Rat.mul_le_mul_of_nonneg_right (hp p q).2 (nn p q)
      exact this
    rw [Mo.su_mul, ← Mo.mom_zero, h0] at this
    grind
theorem wts_nn {last : Nat} {ws : Wts} (hl : ws.length = last + 1) (h : ∀ f ∈ ws, 0 < f.2 ∧ 0 ≤ f.1) : NN (Rw last) (wf ws) := fun p hp => by
  have hp := Mo.mem_Rw.mp hp
  have hi : p.toNat < ws.length := by omega
  unfold wf
  rw [getD_in hi]
  exact (qf_nn (h _ (List.getElem_mem hi)).1).mpr (h _ (List.getElem_mem hi)).2
theorem wtOk_nn {last : Nat} {ws : Wts} (h : WtOk last ws) : NN (Rw last) (wf ws) ∧ mom (Rw last) (wf ws) 0 = 1 := by
  have hd : ∀ f ∈ ws, 0 < f.2 := fun f hf => (h.2.1 f hf).1.lo.1
  exact ⟨wts_nn h.1 fun f hf => ⟨hd f hf, (h.2.1 f hf).2⟩, by rw [← sum_mom h.1 hd, h.2.2, qf_one]⟩
theorem avg_bd (ns : List Int) (at_ : Nat) {last e : Nat} (h6 : last ≤ 6) (he : e ≤ 3) : Lo (avgM (powL last e) (wtsM ns at_ last)) ∧ 0 ≤ qf (avgM (powL last e) (wtsM ns at_ last)) ∧ qf (avgM (powL last e) (wtsM ns at_ last)) ≤ 216 ∧ ∃ K : Int, qf (avgM (powL last e) (wtsM ns at_ last)) * (((manyM ns at_ : Nat) : Int) : Rat) = K := by
  have hw := wtsM_ok ns at_ last
  have hd : ∀ f ∈ wtsM ns at_ last, 0 < f.2 := fun f hf => (hw.2.1 f hf).1.lo.1
  obtain ⟨n1, n2⟩ := wtOk_nn hw
  obtain ⟨h1, h2⟩ := avg_pow hw.1 hd e
  have b := mom_pow_bd n1 n2 h6 he
  refine ⟨h1, by rw [h2]; exact b.1, by rw [h2]; exact b.2, dotI (powL last e) (cntM ns at_ last), ?_⟩
  rw [(avg_lo (vs := powL last e) hd).2]
  exact su_dotI (manyM_bd ns at_).1 _ _
/-- from bounds of a number to those of its parts -/
theorem bd_parts {f : Int × Int} (h : Lo f) {N : Nat} {B : Nat} (hN : 0 < N) (h1 : -(((B : Nat) : Int) : Rat) ≤ qf f) (h2 : qf f ≤ (((B : Nat) : Int) : Rat)) (hK : ∃ K : Int, qf f * ((N : Int) : Rat) = K) : f.1.natAbs ≤ B * N ∧ f.2 ≤ N := by
  obtain ⟨K, hK⟩ := hK
  obtain ⟨-, h4, h5⟩ := low_bd h (by omega) hK
  refine ⟨Nat.le_trans h5 ?_, h4⟩
  have hn : (0 : Rat) ≤ ((N : Int) : Rat) := Mo.rat_nn.mpr (by omega)
  have k1 := Rat.mul_le_mul_of_nonneg_right h1 hn
  have k2 := Rat.mul_le_mul_of_nonneg_right h2 hn
  rw [hK] at k1 k2
  have e1 : (K : Int) ≤ ((B : Nat) : Int) * (N : Int) := rc_le.mp (by rw [rc_mul]; exact k2)
  have e2 : -(((B : Nat) : Int) * (N : Int)) ≤ K := rc_le.mp (by rw [rc_neg, rc_mul]; grind)
  have e3 : ((B * N : Nat) : Int) = ((B : Nat) : Int) * (N : Int) := by simp
  omega
theorem avg_frac (ns : List Int) (at_ : Nat) {last e : Nat} (h6 : last ≤ 6) (he : e ≤ 3) : Frac (avgM (powL last e) (wtsM ns at_ last)) := by
  obtain ⟨h1, h2, h3, h4⟩ := avg_bd ns at_ h6 he
  have hm := manyM_bd ns at_
  obtain ⟨k1, k2⟩ := bd_parts h1 (B := 216) (by omega) (by have : (((216 : Nat) : Int) : Rat) = 216 := rfl; grind) h3 h4
  have : 216 * manyM ns at_ ≤ 216 * 9 := Nat.mul_le_mul_left _ hm.2.1
  exact frac_small h1 (by omega) (by omega)
theorem avsM_ok (ns : List Int) (at_ : Nat) {last many : Nat} (h6 : last ≤ 6) (h1 : 1 ≤ many) (hl : many ≤ last) (h3 : many ≤ 3) : AvOk last (avsM last (wtsM ns at_ last) many) := by
  refine ⟨by rw [avsM_len]; exact h1, by rw [avsM_len]; exact hl, by rw [avsM_len]; exact h3, fun f hf => ?_⟩
  unfold avsM at hf
  obtain ⟨e, he, rfl⟩ := List.mem_map.mp hf
  have := intsL_mem he
  exact avg_frac ns at_ h6 (by omega)

/-! ### drawn averages, in half of the scripts changed -/
def lastT (ns : List Int) (at_ : Nat) : Nat := (1 + dr ns at_ 40 % 6).toNat
def manyT (ns : List Int) (at_ : Nat) : Nat := (1 + dr ns at_ 41 % (min (lastT ns at_ : Int) 3)).toNat
def numT (ns : List Int) (at_ : Nat) : Nat := (dr ns at_ 43 % (manyT ns at_ : Int)).toNat
def chgT (ns : List Int) (at_ : Nat) : Int × Int := lowM (dr ns at_ 44 % 13 - 6) (1 + dr ns at_ 45 % 6)
def baseT (ns : List Int) (at_ : Nat) : Wts := avsM (lastT ns at_) (wtsM ns at_ (lastT ns at_)) (manyT ns at_)
def toldF (ns : List Int) (at_ : Nat) : Wts := if dr ns at_ 42 % 2 = 0 then
    (baseT ns at_).take (numT ns at_) ++ [totalM [(baseT ns at_).getD (numT ns at_) (0, 1), chgT ns at_]] ++ (baseT ns at_).drop (numT ns at_ + 1)
  else baseT ns at_
theorem lastT_bd (ns : List Int) (at_ : Nat) : 1 ≤ lastT ns at_ ∧ lastT ns at_ ≤ 6 ∧ ((lastT ns at_ : Nat) : Int) = 1 + dr ns at_ 40 % 6 := by
  unfold lastT
  have := dr_bd ns at_ 40
  omega
theorem emod_bd (a : Int) {m : Int} (h : 0 < m) : 0 ≤ a % m ∧ a % m < m := ⟨Int.emod_nonneg _ (by omega), Int.emod_lt_of_pos _ h⟩
theorem manyT_bd (ns : List Int) (at_ : Nat) : 1 ≤ manyT ns at_ ∧ manyT ns at_ ≤ lastT ns at_ ∧ manyT ns at_ ≤ 3 ∧ ((manyT ns at_ : Nat) : Int) = 1 + dr ns at_ 41 % (min (lastT ns at_ : Int) 3) := by
  have h := lastT_bd ns at_
  have := emod_bd (dr ns at_ 41) (show (0 : Int) < min (lastT ns at_ : Int) 3 by omega)
  unfold manyT
  omega
theorem numT_bd (ns : List Int) (at_ : Nat) : numT ns at_ < manyT ns at_ ∧ ((numT ns at_ : Nat) : Int) = dr ns at_ 43 % (manyT ns at_ : Int) := by
  have h := manyT_bd ns at_
  have := emod_bd (dr ns at_ 43) (show (0 : Int) < (manyT ns at_ : Int) by omega)
  unfold numT
  omega
theorem baseT_ok (ns : List Int) (at_ : Nat) : AvOk (lastT ns at_) (baseT ns at_) ∧ (baseT ns at_).length = manyT ns at_ := by
  have h1 := lastT_bd ns at_
  have h2 := manyT_bd ns at_
  exact ⟨avsM_ok ns at_ h1.2.1 h2.1 h2.2.1 h2.2.2.1, avsM_len _ _ _⟩
theorem chgT_ok (ns : List Int) (at_ : Nat) : Lo (chgT ns at_) ∧ Frac (chgT ns at_) ∧ ∃ (N : Nat) (K : Int), 1 ≤ N ∧ N ≤ 6 ∧ -6 ≤ K ∧ K ≤ 6 ∧ qf (chgT ns at_) * ((N : Int) : Rat) = K := by
  have e1 := emod_bd (dr ns at_ 44) (show (0 : Int) < 13 by decide)
  have e2 := emod_bd (dr ns at_ 45) (show (0 : Int) < 6 by decide)
  obtain ⟨h1', h2⟩ := low_lo (a := dr ns at_ 44 % 13 - 6) (b := 1 + dr ns at_ 45 % 6) (by omega)
  have h1 : Lo (chgT ns at_) := h1'
  have hk : qf (chgT ns at_) * (((1 + dr ns at_ 45 % 6).toNat : Int) : Rat) = ((dr ns at_ 44 % 13 - 6 : Int) : Rat) := by
    unfold chgT
    rw [h2, show (((1 + dr ns at_ 45 % 6).toNat : Nat) : Int) = 1 + dr ns at_ 45 % 6 by omega]
    have := rc_ne (show (1 + dr ns at_ 45 % 6) ≠ 0 by omega)
    grind
  obtain ⟨-, h4, h5⟩ := low_bd h1 (show (0 : Int) < ((1 + dr ns at_ 45 % 6).toNat : Nat) by omega) hk
  exact ⟨h1, frac_small h1 (by omega) (by omega), (1 + dr ns at_ 45 % 6).toNat, dr ns at_ 44 % 13 - 6, by omega, by omega, by omega, by omega, hk⟩
theorem tot2 {f g : Int × Int} (hf : 0 < f.2) (hg : 0 < g.2) : Lo (totalM [f, g]) ∧ qf (totalM [f, g]) = qf f + qf g := by
  obtain ⟨h1, h2⟩ := total_lo (fs := [f, g]) (fun x hx => by
    simp only [List.mem_cons, List.not_mem_nil, or_false] at hx
    rcases hx with e | e <;> (subst e; assumption))
  refine ⟨h1, ?_⟩
  rw [h2, Mo.su_cons, Mo.su_cons, Mo.su_nil]
  grind
theorem toldF_ok (ns : List Int) (at_ : Nat) : AvOk (lastT ns at_) (toldF ns at_) ∧ (toldF ns at_).length = manyT ns at_ := by
  obtain ⟨b1, b2⟩ := baseT_ok ns at_
  unfold toldF
  split
  · have hn := (numT_bd ns at_).1
    have hlen : ((baseT ns at_).take (numT ns at_) ++ [totalM [(baseT ns at_).getD (numT ns at_) (0, 1), chgT ns at_]] ++ (baseT ns at_).drop (numT ns at_ + 1)).length = manyT ns at_ := by
      rw [List.length_append, List.length_append, List.length_take, List.length_drop, List.length_singleton]
      omega
    refine ⟨⟨by rw [hlen]; have := (manyT_bd ns at_).1; omega, by rw [hlen]; exact (manyT_bd ns at_).2.1, by rw [hlen]; exact (manyT_bd ns at_).2.2.1, fun f hf => ?_⟩, hlen⟩
    rcases List.mem_append.mp hf with hf | hf
    · rcases List.mem_append.mp hf with hf | hf
      · exact b1.2.2.2 f (List.mem_of_mem_take hf)
      · rw [List.mem_singleton.mp hf]
        have eb : (baseT ns at_).getD (numT ns at_) (0, 1) = avgM (powL (lastT ns at_) (numT ns at_ + 1)) (wtsM ns at_ (lastT ns at_)) := avsM_getD hn
        rw [eb]
        obtain ⟨a1, a2, a3, K1, a4⟩ := avg_bd ns at_ (last := lastT ns at_) (e := numT ns at_ + 1) (lastT_bd ns at_).2.1 (by have := (manyT_bd ns at_).2.2.1; omega)
        obtain ⟨c1, -, N, K2, n1, n2, k1, k2, c3⟩ := chgT_ok ns at_
        obtain ⟨t1, t2⟩ := tot2 a1.1 c1.1
        have hm := manyM_bd ns at_
        generalize avgM (powL (lastT ns at_) (numT ns at_ + 1)) (wtsM ns at_ (lastT ns at_)) = f at *
        have hN : (1 : Rat) ≤ ((N : Int) : Rat) := rc_le.mpr (show (1 : Int) ≤ N by omega)
        have hk1 : (-6 : Rat) ≤ (K2 : Rat) := rc_le.mpr (show (-6 : Int) ≤ K2 by omega)
        have hk2 : (K2 : Rat) ≤ (6 : Rat) := rc_le.mpr (show K2 ≤ (6 : Int) by omega)
        have cb : -6 ≤ qf (chgT ns at_) ∧ qf (chgT ns at_) ≤ 6 := by
          generalize qf (chgT ns at_) = x at c3
          generalize ((N : Int) : Rat) = y at c3 hN
          have hy : (0 : Rat) ≤ y - 1 := by grind
          constructor
          · rcases Rat.le_total (a := 0) (b := x) with h | h
            · grind
            · have := Rat.mul_nonneg (show (0 : Rat) ≤ -x by grind) hy
              grind
          · rcases Rat.le_total (a := 0) (b := x) with h | h
            · have := Rat.mul_nonneg h hy
              grind
            · grind
        obtain ⟨p1, p2⟩ := bd_parts t1 (N := manyM ns at_ * N) (B := 222) (Nat.mul_pos (by omega) (by omega)) (by rw [t2]; have : (((222 : Nat) : Int) : Rat) = 222 := rfl; grind) (by rw [t2]; have : (((222 : Nat) : Int) : Rat) = 222 := rfl; grind)
          ⟨K1 * N + K2 * manyM ns at_, by
            rw [t2, rc_add, rc_mul, rc_mul, ← a4, ← c3]
            have : (((manyM ns at_ * N : Nat) : Int) : Rat) = (((manyM ns at_ : Nat) : Int) : Rat) * ((N : Int) : Rat) := by rw [← rc_mul]; rfl
            rw [this]
            grind⟩
        have hb : manyM ns at_ * N ≤ 9 * 6 := Nat.mul_le_mul hm.2.1 n2
        exact frac_small t1 (by omega) (by omega)
    · exact b1.2.2.2 f (List.mem_of_mem_drop hf)
  · exact ⟨b1, b2⟩
def S__law_told (ns : List Int) (ds : List PyData) (o : Out) : Prop := ∃ at_ : Nat, ds = [.int (at_ : Int)] ∧ at_ < 1000 ∧ o = .ret (.tuple [.int ((lastT ns at_ : Nat) : Int), encL (toldF ns at_)])
end DD
namespace DD
open PySem PySem.Spec PyProof.Rows L2
open Mo (su mom Rw NN shr shfs pr oth)
theorem cut_to {T : Type} {f : T → PyData} {xs : List T} {k : Nat} : DD.cutD (xs.map f) none (some (k : Int)) = (xs.take k).map f := by
  have h : HT.sIx (xs.map f).length (xs.map f).length (some (k : Int)) = min k xs.length := by rw [HT.sIx_nat, List.length_map]
  have h2 : HT.sIx (xs.map f).length 0 none = 0 := HT.sIx_none _ _
  unfold DD.cutD
  rw [h, h2, List.drop_zero, Nat.sub_zero, ← List.map_take]
  congr 1
  rw [Nat.min_comm]
  rcases Nat.le_total k xs.length with hk | hk
  · rw [Nat.min_eq_right hk]
  · rw [Nat.min_eq_left hk, List.take_length, List.take_of_length_le hk]
theorem cut_init {T : Type} {f : T → PyData} {xs : List T} : DD.cutD (xs.map f) none (some (-1)) = (xs.dropLast).map f := by
  have h : HT.sIx (xs.map f).length (xs.map f).length (some (-1)) = xs.length - 1 := by
    show (if (-1 : Int) < 0 then ((-1 : Int) + ((xs.map f).length : Int)).toNat else min (-1 : Int).toNat (xs.map f).length) = _
    rw [if_pos (by decide), List.length_map]
    omega
  have h2 : HT.sIx (xs.map f).length 0 none = 0 := HT.sIx_none _ _
  unfold DD.cutD
  rw [h, h2, List.drop_zero, Nat.sub_zero, ← List.map_take, List.dropLast_eq_take]
/-! ### products, papers -/
def prodM (s : Int) (zs : List Int) (p : Int) : Int := zs.foldl (fun d z => d * (p - z)) s
theorem prodM_snoc (s : Int) (zs : List Int) (p z : Int) : prodM s (zs ++ [z]) p = prodM s zs p * (p - z) := by unfold prodM; rw [List.foldl_append]; rfl
def nnM (last : Nat) (s : Int) (zs : List Int) : Bool := (intsL 0 (last + 1)).all fun p => decide (0 ≤ prodM s zs p)
def prow (s : Int) (zs : List Int) : List Int := zs.foldl coefS [s]
theorem prow_snoc (s : Int) (zs : List Int) (z : Int) : prow s (zs ++ [z]) = coefS (prow s zs) z := by unfold prow; rw [List.foldl_append]; rfl
theorem prow_len (s : Int) : ∀ zs : List Int, (prow s zs).length = zs.length + 1 := snoc_ind rfl fun l a h => by rw [prow_snoc, coefS_len, h, List.length_append, List.length_singleton]
theorem coefS_mul (s : Int) (r : List Int) (z : Int) : coefS (r.map (s * ·)) z = (coefS r z).map (s * ·) := by
  unfold coefS
  have e1 : (0 : Int) :: r.map (s * ·) = (0 :: r).map (s * ·) := by simp
  have e2 : r.map (s * ·) ++ [0] = (r ++ [0]).map (s * ·) := by simp
  rw [e1, e2, List.zip_map, List.map_map, List.map_map]
  apply List.map_congr_left
  intro a _
  show s * a.1 - z * (s * a.2) = s * (a.1 - z * a.2)
  rw [Int.mul_sub, ← Int.mul_assoc, ← Int.mul_assoc, Int.mul_comm z s]
theorem prow_mul (s : Int) : ∀ zs : List Int, (coefM zs).map (s * ·) = prow s zs := snoc_ind (by unfold coefM prow; simp) fun l a h => by rw [coefM_snoc, prow_snoc, ← h, coefS_mul]
theorem prow_one (zs : List Int) : prow 1 zs = coefM zs := rfl
theorem prow_size {s : Int} (hs : s.natAbs ≤ 1) {zs : List Int} (h : ∀ p ∈ zs, 0 ≤ p ∧ p ≤ 6) (hl : zs.length ≤ 6) : ∀ v ∈ prow s zs, v.natAbs < 2 ^ 20 := fun v hv => by
  rw [← prow_mul] at hv
  obtain ⟨u, hu, rfl⟩ := List.mem_map.mp hv
  have := coef_size h hl u hu
  rw [Int.natAbs_mul]
  exact Nat.lt_of_le_of_lt (Nat.le_trans (Nat.mul_le_mul_right _ hs) (by omega)) this
def ascB (zs : List Int) : Bool := (zs.zip (zs.drop 1)).all fun z => decide (z.1 < z.2)
def papB (last : Nat) (avs : List (Int × Int)) (s : Int) (zs : List Int) : Bool := nnM last s zs && decide ((meanM avs (prow s zs)).1 < 0)
/-- what a paper is, of any object -/
def isPap (last : Nat) (avs : List (Int × Int)) : PyData → Bool
  | .tuple [.int s, .tuple zs] => (decide (-1 ≤ s) && decide (s ≤ 1) && !decide (s = 0)) && (decide (zs.length = avs.length) && (zs.all (fun z => inR z 0 last) && (ascB (zs.map intOf) && papB last avs s (zs.map intOf))))
  | _ => false
theorem ints_typed {lo hi : Int} : ∀ {xs : List PyData}, xs.all (fun z => inR z lo hi) = true → ∃ ns : List Int, xs = ns.map .int ∧ ∀ n ∈ ns, lo ≤ n ∧ n ≤ hi
  | [], _ => ⟨[], rfl, fun n hn => by cases hn⟩
  | x :: xs, h => by
    rw [List.all_cons, Bool.and_eq_true] at h
    obtain ⟨ns, rfl, hb⟩ := ints_typed h.2
    obtain ⟨i, rfl, h1, h2⟩ := inR_iff.mp h.1
    exact ⟨i :: ns, rfl, fun n hn => by
      rcases List.mem_cons.mp hn with e | e
      · subst e; exact ⟨h1, h2⟩
      · exact hb n e⟩
theorem all_inR {lo hi : Int} {ns : List Int} (h : ∀ n ∈ ns, lo ≤ n ∧ n ≤ hi) : (ns.map PyData.int).all (fun z => inR z lo hi) = true := by
  rw [List.all_map, List.all_eq_true]
  exact fun n hn => inR_iff.mpr ⟨n, rfl, (h n hn).1, (h n hn).2⟩
def S_value_at (ds : List PyData) (o : Out) : Prop := ∃ (s p : Int) (zs : List Int) (d : PyData), ds = [.int s, d, .int p] ∧ IsSeq d (zs.map .int) ∧ (∀ z ∈ zs, z.natAbs < 2 ^ 60) ∧ p.natAbs < 2 ^ 60 ∧ o = .ret (.int (prodM s zs p))
def S__law_product (ds : List PyData) (o : Out) : Prop := ∃ (s p : Int) (zs : List Int) (d : PyData), ds = [.int s, d, .int p] ∧ IsSeq d (zs.map .int) ∧ (∀ z ∈ zs, z.natAbs < 2 ^ 60) ∧ p.natAbs < 2 ^ 60 ∧ o = .ret (.int (prodM s zs p))
def S_is_nonnegative (ds : List PyData) (o : Out) : Prop := ∃ (last : Nat) (s : Int) (zs : List Int) (d : PyData), ds = [.int (last : Int), .int s, d] ∧ IsSeq d (zs.map .int) ∧ (∀ z ∈ zs, z.natAbs < 2 ^ 60) ∧ last ≤ 6 ∧ o = .ret (.bool (nnM last s zs))
def S_is_paper (CN CA : Addr) (ds : List PyData) (o : Out) : Prop := ∃ l v pv : PyData, ds = [l, v, pv] ∧ ofV CN CA (fun last avs => .ret (.bool (isPap last avs pv))) l v o
def S__law_is_paper (ds : List PyData) (o : Out) : Prop := ∃ (last : Nat) (avs : List (Int × Int)) (pv : PyData), ds = [.int (last : Int), encL avs, pv] ∧ 1 ≤ last ∧ last ≤ 6 ∧ AvOk last avs ∧ o = .ret (.bool (isPap last avs pv))
def S_corners (CN CA : Addr) (ds : List PyData) (o : Out) : Prop := ∃ l v : PyData, ds = [l, v] ∧ ofV CN CA (fun last avs => .ret (.list ((cornersM last avs).map encL))) l v o
def S_have_weights (CN CA : Addr) (ds : List PyData) (o : Out) : Prop := ∃ l v : PyData, ds = [l, v] ∧ ofV CN CA (fun last avs => .ret (.bool (!(cornersM last avs).isEmpty))) l v o
def NotIn (last : Nat) (avs : List (Int × Int)) (v : PyData) : Prop := SeqAt.shaped v = true ∧ ∀ c ∈ cornersM last avs, PyData.eqv (encL c) v = false
def S_check_corner (CN CA CW : Addr) (ds : List PyData) (o : Out) : Prop := ∃ l v wv : PyData, ds = [l, v, wv] ∧ ofV CN CA (fun _ _ => .exc ⟨CW, none⟩) l v o ∧ ∀ (last : Nat) (avs : List (Int × Int)), l = .int (last : Int) → v = encL avs → 1 ≤ last → last ≤ 6 → AvOk last avs → NotIn last avs wv
def S_neighbors1 (CN CA CW : Addr) (ds : List PyData) (o : Out) : Prop := S_check_corner CN CA CW ds o
/-- k01: what a call tells -/
def errS (mode : Nat) (c : Option Bool) : Str := match c with
  | some true => "number"
  | some false => "averages"
  | none => if mode ≤ 2 then "none" else if mode = 3 then "number" else if mode = 4 then "values" else "weights"
def S__law_error1 (ds : List PyData) (o : Out) : Prop := ∃ (mode : Nat) (l v : PyData), ds = [.int (mode : Int), l, v] ∧ mode < 6 ∧ o = .ret (.str (errS mode (chkV l v)))
theorem notIn_none {last : Nat} {avs : List (Int × Int)} : NotIn last avs .none := ⟨by decide +kernel, fun c _ => by simp [encL, PyData.eqv]⟩
end DD
namespace DD
open PySem PySem.Spec PyProof.Rows L2
open Mo (su mom Rw NN shr shfs pr oth)
/-! ### corners and all weights -/
theorem mem_corners {last : Nat} {avs : List (Int × Int)} {S : List Int} (hS : S ∈ suppsM last avs.length) (h : nonnegW (wOf last avs S S) = true) : wOf last avs S S ∈ cornersM last avs := by
  unfold cornersM
  rw [mem_sortU]
  unfold cornerList
  rw [List.mem_filter, List.mem_map]
  exact ⟨⟨S, hS, rfl⟩, h⟩
theorem shr_same {last d : Nat} {S : List Int} (hS : S.Sublist (Rw last)) (hl : S.length = d + 1) {m m' : Nat → Rat} (h : ∀ k, k ≤ d → m k = m' k) {p : Int} (hp : p ∈ S) : shr S m p = shr S m' p := by
  unfold shr
  have hol := Mo.oth_len ((Mo.Rw_nodup last).sublist hS) hp
  have := Mo.shfs_lead (oth S p) m m' 0 (fun j hj => h j (by omega))
  rw [h (0 + (oth S p).length) (by omega)] at this
  rw [show shfs (oth S p) m 0 = shfs (oth S p) m' 0 by grind]
theorem lp_corner {last : Nat} {avs : List (Int × Int)} (hl : avs.length ≤ last) (ha : ∀ f ∈ avs, 0 < f.2) (v w : Int → Rat) (hw : NN (Rw last) w) (hm : ∀ k, k ≤ avs.length → mom (Rw last) w k = mo avs k) :
    ∃ c ∈ cornersM last avs, (su (Rw last) fun p => v p * wf c p) ≤ (su (Rw last) fun p => v p * w p) ∧ ∀ p ∈ Rw last, w p = 0 → wf c p = 0 := by
  obtain ⟨S, s1, s2, c, c1, c2, c3, c4, c5, c6⟩ := Mo.lp hl v w hw
  obtain ⟨l1, l2⟩ := wOf_lo ha s1 s2
  have e : ∀ p ∈ Rw last, wf (wOf last avs S S) p = c p := fun p hp => by
    rw [l2 p hp]
    split
    · rename_i q; rw [c3 p q, shr_same s1 s2 hm q]
    · rename_i q; exact (c2 p hp q).symm
  have hlen := wOf_len last avs S S
  refine ⟨_, mem_corners (mem_supps.mpr ⟨s1, s2⟩) ((nonneg_nn hlen fun f hf => (l1 f hf).1).mpr fun p hp => by rw [e p hp]; exact c1 p hp), ?_, fun p hp hz => by rw [e p hp]; exact c5 p hp hz⟩
  rw [Mo.su_congr (g := fun p => v p * c p) (fun p hp => by rw [e p hp])]
  exact c6
theorem corners_ne {last : Nat} {avs : List (Int × Int)} (hl : avs.length ≤ last) (ha : ∀ f ∈ avs, 0 < f.2) {w : Int → Rat} (hw : NN (Rw last) w) (hm : ∀ k, k ≤ avs.length → mom (Rw last) w k = mo avs k) : cornersM last avs ≠ [] := by
  obtain ⟨c, hc, -⟩ := lp_corner hl ha (fun _ => 0) w hw hm
  exact List.ne_nil_of_mem hc
theorem AvOk.pos {last : Nat} {avs : List (Int × Int)} (h : AvOk last avs) : ∀ f ∈ avs, 0 < f.2 := fun f hf => (h.2.2.2 f hf).lo.1
/-- the averages of weights -/
theorem wts_corners {last : Nat} {ws : Wts} {many : Nat} (hw : WtOk last ws) (hl : many ≤ last) : cornersM last (avsM last ws many) ≠ [] := by
  have hd : ∀ f ∈ ws, 0 < f.2 := fun f hf => (hw.2.1 f hf).1.lo.1
  refine corners_ne (by rw [avsM_len]; exact hl) (fun f hf => (avsM_lo hw.1 hd f hf).1) (wtOk_nn hw).1 fun k hk => ?_
  rw [avsM_len] at hk
  exact (mo_avs hw.1 hd hw.2.2 k hk).symm
/-! averages_of, by its answers -/
theorem avsO_ok {CN CW : Addr} {last many : Nat} {ws : Wts} (h1 : 1 ≤ last) (h6 : last ≤ 6) (hw : WtOk last ws) (m1 : 1 ≤ many) (m2 : many ≤ last) (m3 : many ≤ 3) : avsO CN CW (.int (last : Int)) (encL ws) (.int (many : Int)) = .ret (encL (avsM last ws many)) := by
  show (if inR (.int last) 1 6 = true then (if areWt (Int.toNat (last : Int)) (encL ws) = true then (if inR (.int (many : Int)) 1 (min (last : Int) 3) = true then avsR (Int.toNat (last : Int)) (encL ws) (.int (many : Int)) else .exc ⟨CN, none⟩) else .exc ⟨CW, none⟩) else .exc ⟨CN, none⟩) = _
  rw [if_pos (inR_iff.mpr ⟨_, rfl, by omega, by omega⟩), Int.toNat_natCast, if_pos (areWt_iff.mpr ⟨ws, rfl, hw⟩), if_pos (inR_iff.mpr ⟨_, rfl, by omega, by omega⟩)]
  show Out.ret (encL (avsM last ((ws.map encF).map frOf) (Int.toNat many))) = _
  rw [map_frOf, Int.toNat_natCast]
theorem avsO_badW {CN CW : Addr} {last : Nat} {wv m : PyData} (h1 : 1 ≤ last) (h6 : last ≤ 6) (hw : areWt last wv = false) : avsO CN CW (.int (last : Int)) wv m = .exc ⟨CW, none⟩ := by
  show (if inR (.int last) 1 6 = true then (if areWt (Int.toNat (last : Int)) wv = true then (if inR m 1 (min (last : Int) 3) = true then avsR (Int.toNat (last : Int)) wv m else .exc ⟨CN, none⟩) else .exc ⟨CW, none⟩) else .exc ⟨CN, none⟩) = _
  rw [if_pos (inR_iff.mpr ⟨_, rfl, by omega, by omega⟩), Int.toNat_natCast, if_neg (by rw [hw]; decide)]
theorem avsO_badN {CN CW : Addr} {last : Nat} {ws : Wts} {m : PyData} (h1 : 1 ≤ last) (h6 : last ≤ 6) (hw : WtOk last ws) (hm : inR m 1 (min (last : Int) 3) = false) : avsO CN CW (.int (last : Int)) (encL ws) m = .exc ⟨CN, none⟩ := by
  show (if inR (.int last) 1 6 = true then (if areWt (Int.toNat (last : Int)) (encL ws) = true then (if inR m 1 (min (last : Int) 3) = true then avsR (Int.toNat (last : Int)) (encL ws) m else .exc ⟨CN, none⟩) else .exc ⟨CW, none⟩) else .exc ⟨CN, none⟩) = _
  rw [if_pos (inR_iff.mpr ⟨_, rfl, by omega, by omega⟩), Int.toNat_natCast, if_pos (areWt_iff.mpr ⟨ws, rfl, hw⟩), if_neg (by rw [hm]; decide)]
/-- what is told of a call's outcome -/
def OutW (CW CN : Addr) (o' o : Out) : Prop := (∃ d, o' = .ret d ∧ o = .ret d) ∨ (o' = .exc ⟨CW, none⟩ ∧ o = .ret (.str "weights")) ∨ (o' = .exc ⟨CN, none⟩ ∧ o = .ret (.str "number"))
def S__law_averaged (CW CN : Addr) (ds : List PyData) (o : Out) : Prop := ∃ l wv m : PyData, ds = [l, wv, m] ∧ OutW CW CN (avsO CN CW l wv m) o
def S__law_whole (ds : List PyData) (o : Out) : Prop := ∃ d : PyData, ds = [d] ∧ o = .ret (.bool (isI d && !isBl d))
theorem sh_inv {n : Nat} : ∀ {ds : List PyData}, PyData.canLayAll0 ds = true → PyData.depthAll ds ≤ n → ∀ d ∈ ds, Sh n d
  | [], _, _, d, hd => by cases hd
  | x :: ds, h1, h2, d, hd => by
    have h1 : (x.canLay0 && PyData.canLayAll0 ds) = true := h1
    have h2 : max x.depth (PyData.depthAll ds) ≤ n := h2
    rw [Bool.and_eq_true] at h1
    rcases List.mem_cons.mp hd with e | e
    · subst e; exact ⟨h1.1, Nat.le_trans (Nat.le_max_left _ _) h2⟩
    · exact sh_inv h1.2 (Nat.le_trans (Nat.le_max_right _ _) h2) d e
theorem Sh.tup {n : Nat} {ds : List PyData} (h : Sh (n + 1) (.tuple ds)) : ∀ d ∈ ds, Sh n d := sh_inv h.1 (Nat.le_of_succ_le_succ h.2)
def S__law_are_weights (ds : List PyData) (o : Out) : Prop := ∃ (last : Nat) (v : PyData), ds = [.int (last : Int), v] ∧ last ≤ 100 ∧ Sh 8 v ∧ o = .ret (.bool (areWt last v))
theorem eq_encL : EqEnc encL := eq_tup eq_encF
theorem ne_selfL (x : Wts) : (!PyData.eqv (encL x) (encL x)) = false := by rw [eqv_self eq_encL] <;> rfl
theorem eqv_nil (ds : List PyData) : PyData.eqv (.list ds) (.list []) = ds.isEmpty := by cases ds <;> rfl
end DD
namespace DD
open PySem PySem.Spec PyProof.Rows L2
open Mo (su mom Rw NN shr shfs pr oth)
/-! ### bounds -/
def val (last : Nat) (vs : List Int) (w : Int → Rat) : Rat := su (Rw last) fun p => ((vs.getD p.toNat 0 : Int) : Rat) * w p
def loA (last : Nat) (avs : List (Int × Int)) (vs : List Int) : Int × Int := leastM (meansM last avs vs)
def hiA (last : Nat) (avs : List (Int × Int)) (vs : List Int) : Int × Int := greatestM (meansM last avs vs)
section
variable {last : Nat} {avs : List (Int × Int)} {vs : List Int}
theorem corner_pos (hl : avs.length ≤ last) (ha : ∀ f ∈ avs, 0 < f.2) {c : Wts} (hc : c ∈ cornersM last avs) : ∀ f ∈ c, 0 < f.2 := fun f hf => (((corner_iff hl ha).mp hc).lo f hf).1
theorem mean_val (hl : avs.length ≤ last) (ha : ∀ f ∈ avs, 0 < f.2) (hv : vs.length = last + 1) {c : Wts} (hc : c ∈ cornersM last avs) : Lo (avgM vs c) ∧ qf (avgM vs c) = val last vs (wf c) := avg_rw hv ((corner_iff hl ha).mp hc).len (corner_pos hl ha hc)
theorem means_pos (hl : avs.length ≤ last) (ha : ∀ f ∈ avs, 0 < f.2) (hv : vs.length = last + 1) : ∀ f ∈ meansM last avs vs, 0 < f.2 := fun f hf => by
  obtain ⟨c, hc, rfl⟩ := List.mem_map.mp hf
  exact (mean_val hl ha hv hc).1.1
theorem means_ne (hne : cornersM last avs ≠ []) : meansM last avs vs ≠ [] := fun h => hne (List.map_eq_nil_iff.mp h)
theorem lo_spec (hl : avs.length ≤ last) (ha : ∀ f ∈ avs, 0 < f.2) (hv : vs.length = last + 1) (hne : cornersM last avs ≠ []) : Lo (loA last avs vs) ∧ (∃ c ∈ cornersM last avs, loA last avs vs = avgM vs c ∧ qf (loA last avs vs) = val last vs (wf c)) ∧ ∀ c ∈ cornersM last avs, qf (loA last avs vs) ≤ val last vs (wf c) := by
  obtain ⟨h1, h2⟩ := least_le (means_pos hl ha hv) (means_ne (vs := vs) hne)
  obtain ⟨c, hc, e⟩ := List.mem_map.mp h1
  have e : loA last avs vs = avgM vs c := e.symm
  obtain ⟨m1, m2⟩ := mean_val hl ha hv hc
  exact ⟨by rw [e]; exact m1, ⟨c, hc, e, by rw [e, m2]⟩, fun z hz => by rw [← (mean_val hl ha hv hz).2]; exact h2 _ (List.mem_map.mpr ⟨z, hz, rfl⟩)⟩
theorem hi_spec (hl : avs.length ≤ last) (ha : ∀ f ∈ avs, 0 < f.2) (hv : vs.length = last + 1) (hne : cornersM last avs ≠ []) : Lo (hiA last avs vs) ∧ (∃ c ∈ cornersM last avs, hiA last avs vs = avgM vs c ∧ qf (hiA last avs vs) = val last vs (wf c)) ∧ ∀ c ∈ cornersM last avs, val last vs (wf c) ≤ qf (hiA last avs vs) := by
  obtain ⟨h1, h2⟩ := greatest_le (means_pos hl ha hv) (means_ne (vs := vs) hne)
  obtain ⟨c, hc, e⟩ := List.mem_map.mp h1
  have e : hiA last avs vs = avgM vs c := e.symm
  obtain ⟨m1, m2⟩ := mean_val hl ha hv hc
  exact ⟨by rw [e]; exact m1, ⟨c, hc, e, by rw [e, m2]⟩, fun z hz => by rw [← (mean_val hl ha hv hz).2]; exact h2 _ (List.mem_map.mpr ⟨z, hz, rfl⟩)⟩
theorem lo_eq (hl : avs.length ≤ last) (ha : ∀ f ∈ avs, 0 < f.2) (hv : vs.length = last + 1) (hne : cornersM last avs ≠ []) {f : Int × Int} (hf : Lo f) (h1 : ∃ c ∈ cornersM last avs, val last vs (wf c) ≤ qf f) (h2 : ∀ c ∈ cornersM last avs, qf f ≤ val last vs (wf c)) : loA last avs vs = f := by
  obtain ⟨a1, ⟨c, hc, -, e⟩, a3⟩ := lo_spec hl ha hv hne
  obtain ⟨c2, hc2, b⟩ := h1
  refine lo_inj a1 hf ?_
  have x1 := a3 c2 hc2
  have x2 := h2 c hc
  grind
theorem hi_eq (hl : avs.length ≤ last) (ha : ∀ f ∈ avs, 0 < f.2) (hv : vs.length = last + 1) (hne : cornersM last avs ≠ []) {f : Int × Int} (hf : Lo f) (h1 : ∃ c ∈ cornersM last avs, qf f ≤ val last vs (wf c)) (h2 : ∀ c ∈ cornersM last avs, val last vs (wf c) ≤ qf f) : hiA last avs vs = f := by
  obtain ⟨a1, ⟨c, hc, -, e⟩, a3⟩ := hi_spec hl ha hv hne
  obtain ⟨c2, hc2, b⟩ := h1
  refine lo_inj a1 hf ?_
  have x1 := a3 c2 hc2
  have x2 := h2 c hc
  grind
/-- of all weights with the averages -/
theorem lo_w (hl : avs.length ≤ last) (ha : ∀ f ∈ avs, 0 < f.2) (hv : vs.length = last + 1) {w : Int → Rat} (hw : NN (Rw last) w) (hm : ∀ k, k ≤ avs.length → mom (Rw last) w k = mo avs k) : qf (loA last avs vs) ≤ val last vs w := by
  obtain ⟨c, hc, h, -⟩ := lp_corner hl ha (fun p => ((vs.getD p.toNat 0 : Int) : Rat)) w hw hm
  exact Rat.le_trans ((lo_spec hl ha hv (List.ne_nil_of_mem hc)).2.2 c hc) h
theorem val_neg (vs : List Int) (w : Int → Rat) : val last (vs.map fun x => -x) w = - val last vs w := by
  unfold val
  have : (- su (Rw last) fun p => ((vs.getD p.toNat 0 : Int) : Rat) * w p) = (-1) * su (Rw last) fun p => ((vs.getD p.toNat 0 : Int) : Rat) * w p := by grind
  rw [this, ← Mo.su_mul]
  refine Mo.su_congr fun p _ => ?_
  have e : (vs.map fun x => -x).getD p.toNat 0 = - vs.getD p.toNat 0 := by
    rw [List.getD_eq_getElem?_getD, List.getD_eq_getElem?_getD, List.getElem?_map]
    cases vs[p.toNat]? <;> rfl
  rw [e, rc_neg]
  grind
theorem hi_w (hl : avs.length ≤ last) (ha : ∀ f ∈ avs, 0 < f.2) (hv : vs.length = last + 1) {w : Int → Rat} (hw : NN (Rw last) w) (hm : ∀ k, k ≤ avs.length → mom (Rw last) w k = mo avs k) : val last vs w ≤ qf (hiA last avs vs) := by
  obtain ⟨c, hc, h, -⟩ := lp_corner hl ha (fun p => - ((vs.getD p.toNat 0 : Int) : Rat)) w hw hm
  have e : ∀ x : Int → Rat, (su (Rw last) fun p => - ((vs.getD p.toNat 0 : Int) : Rat) * x p) = - val last vs x := fun x => by
    unfold val
    have : (- su (Rw last) fun p => ((vs.getD p.toNat 0 : Int) : Rat) * x p) = (-1) * su (Rw last) fun p => ((vs.getD p.toNat 0 : Int) : Rat) * x p := by grind
    rw [this, ← Mo.su_mul]
    exact Mo.su_congr fun p _ => by grind
  rw [e, e] at h
  have := (hi_spec hl ha hv (List.ne_nil_of_mem hc)).2.2 c hc
  grind
theorem corner_w (hl : avs.length ≤ last) (ha : ∀ f ∈ avs, 0 < f.2) {c : Wts} (hc : c ∈ cornersM last avs) : NN (Rw last) (wf c) ∧ ∀ k, k ≤ avs.length → mom (Rw last) (wf c) k = mo avs k := ⟨((corner_iff hl ha).mp hc).nn, ((corner_iff hl ha).mp hc).mom⟩
theorem mo_zero (avs : List (Int × Int)) : mo avs 0 = 1 := by unfold mo; rw [if_pos rfl]
theorem bnd_size (h6 : last ≤ 6) (ha : AvOk last avs) (hv : vs.length = last + 1) (hs : ∀ v ∈ vs, v.natAbs < 2 ^ 64) (hne : cornersM last avs ≠ []) : Fz 1801 (loA last avs vs) ∧ Fz 1801 (hiA last avs vs) := by
  have key : ∀ c ∈ cornersM last avs, Fz 1801 (avgM vs c) := fun c hc => by
    obtain ⟨c1, c2⟩ := corner_size h6 ha hc
    exact (avgM_size hs c2 (by omega)).up (by decide)
  obtain ⟨-, ⟨c, hc, e, -⟩, -⟩ := lo_spec ha.2.1 ha.pos hv hne
  obtain ⟨-, ⟨d, hd, e2, -⟩, -⟩ := hi_spec ha.2.1 ha.pos hv hne
  exact ⟨by rw [e]; exact key c hc, by rw [e2]; exact key d hd⟩
/-! the calls' answers -/
theorem range_ok {CW : Addr} (hne : cornersM last avs ≠ []) : rangeO CW last avs vs = .ret (encL [loA last avs vs, hiA last avs vs]) := by unfold rangeO; rw [if_neg hne]; rfl
theorem range_no {CW : Addr} (hne : cornersM last avs = []) : rangeO CW last avs vs = .exc ⟨CW, none⟩ := by unfold rangeO; rw [if_pos hne]
theorem boundOf_eq {CV CW : Addr} (hv : vs.length = last + 1) (hb : ∀ x ∈ vs, -99 ≤ x ∧ x ≤ 99) : boundOfO CV CW (.tuple (vs.map .int)) last avs = rangeO CW last avs vs := by
  unfold boundOfO
  rw [if_pos (okVs_iff.mpr ⟨vs, rfl, hv, hb⟩)]
  show rangeO CW last avs ((vs.map .int).map intOf) = _
  rw [intOf_map]
theorem boundAt_eq {CN CW : Addr} {i : Nat} (h : i ≤ last) : boundAtO CN CW (.int (i : Int)) last avs = rangeO CW last avs (indV last (i : Int)) := by
  show (if inR (.int (i : Int)) 0 (last : Int) = true then _ else _) = _
  rw [if_pos (inR_iff.mpr ⟨_, rfl, by omega, by omega⟩)]
theorem indV_len (last : Nat) (i : Int) : (indV last i).length = last + 1 := by unfold indV; rw [List.length_map, intsL_len]
theorem intsL_getD {n : Nat} {g : Int → Int} {p : Int} (h : p ∈ intsL 0 n) : ((intsL 0 n).map g).getD p.toNat 0 = g p := by
  have hp := intsL_mem h
  have : ((intsL 0 n).map g)[p.toNat]? = some (g p) := by
    unfold intsL
    rw [List.getElem?_map, List.getElem?_map, List.getElem?_range (by omega)]
    show some (g (0 + (p.toNat : Int))) = _
    rw [show (0 : Int) + (p.toNat : Int) = p by omega]
  rw [List.getD_eq_getElem?_getD, this]
  rfl
theorem val_map (g : Int → Int) (w : Int → Rat) : val last ((intsL 0 (last + 1)).map g) w = su (Rw last) fun p => ((g p : Int) : Rat) * w p := by
  unfold val
  exact Mo.su_congr fun p hp => by rw [intsL_getD hp]
theorem val_ind {i : Nat} (h : i ≤ last) (w : Int → Rat) : val last (indV last (i : Int)) w = w i := by
  unfold indV
  rw [val_map, Mo.su_one (Mo.Rw_nodup last) (x := (i : Int)) (Mo.mem_Rw.mpr (by omega)) (fun p _ hne => by
    rw [if_neg (by simpa using hne)]
    have : ((0 : Int) : Rat) = 0 := rfl
    grind)]
  rw [if_pos (by simp)]
  have : ((1 : Int) : Rat) = 1 := rfl
  grind
theorem val_pow (e : Nat) (w : Int → Rat) : val last (powL last e) w = mom (Rw last) w e := by
  unfold powL
  rw [val_map]
  exact Mo.su_congr fun p _ => by rw [rc_pow]
theorem indV_small (last : Nat) (i : Int) : ∀ v ∈ indV last i, v.natAbs < 2 ^ 64 := fun v hv => by
  obtain ⟨p, -, rfl⟩ := List.mem_map.mp hv
  split <;> decide
theorem val_shift (hv : vs.length = last + 1) (s : Int) {w : Int → Rat} (h0 : mom (Rw last) w 0 = 1) : val last (vs.map (· + s)) w = val last vs w + s := by
  have e : ∀ p ∈ Rw last, (vs.map (· + s)).getD p.toNat 0 = vs.getD p.toNat 0 + s := fun p hp => by
    have hp := Mo.mem_Rw.mp hp
    have hi : p.toNat < vs.length := by omega
    rw [List.getD_eq_getElem?_getD, List.getD_eq_getElem?_getD, List.getElem?_map, List.getElem?_eq_getElem hi]
    rfl
  unfold val
  rw [Mo.mom_zero] at h0
  have : ((s : Int) : Rat) = s * su (Rw last) w := by rw [h0]; grind
  rw [this, ← Mo.su_mul, ← Mo.su_add]
  refine Mo.su_congr fun p hp => ?_
  rw [e p hp, rc_add]
  grind
theorem neg_lo {f : Int × Int} (h : Lo f) : Lo (-f.1, f.2) ∧ qf (-f.1, f.2) = - qf f := by
  refine ⟨⟨h.1, by show Nat.gcd (-f.1).natAbs f.2.natAbs = 1; rw [Int.natAbs_neg]; exact h.2⟩, ?_⟩
  unfold qf
  show ((-f.1 : Int) : Rat) / _ = _
  rw [rc_neg]
  grind
theorem lo_shift (hl : avs.length ≤ last) (ha : ∀ f ∈ avs, 0 < f.2) (hv : vs.length = last + 1) (hne : cornersM last avs ≠ []) (s : Int) : loA last avs (vs.map (· + s)) = totalM [loA last avs vs, (s, 1)] := by
  obtain ⟨a1, ⟨c, hc, -, e⟩, a3⟩ := lo_spec hl ha hv hne
  obtain ⟨t1, t2⟩ := tot2 a1.1 (show (0 : Int) < (s, (1 : Int)).2 by show (0 : Int) < 1; decide)
  rw [qf_int] at t2
  have m0 : ∀ c ∈ cornersM last avs, mom (Rw last) (wf c) 0 = 1 := fun c hc => by rw [(corner_w hl ha hc).2 0 (Nat.zero_le _), mo_zero]
  refine lo_eq hl ha (by rw [List.length_map]; exact hv) hne t1 ⟨c, hc, ?_⟩ fun z hz => ?_
  · rw [t2, val_shift hv s (m0 c hc), e]; exact Rat.le_refl
  · rw [t2, val_shift hv s (m0 z hz)]
    have := a3 z hz
    grind
theorem hi_shift (hl : avs.length ≤ last) (ha : ∀ f ∈ avs, 0 < f.2) (hv : vs.length = last + 1) (hne : cornersM last avs ≠ []) (s : Int) : hiA last avs (vs.map (· + s)) = totalM [hiA last avs vs, (s, 1)] := by
  obtain ⟨a1, ⟨c, hc, -, e⟩, a3⟩ := hi_spec hl ha hv hne
  obtain ⟨t1, t2⟩ := tot2 a1.1 (show (0 : Int) < (s, (1 : Int)).2 by show (0 : Int) < 1; decide)
  rw [qf_int] at t2
  have m0 : ∀ c ∈ cornersM last avs, mom (Rw last) (wf c) 0 = 1 := fun c hc => by rw [(corner_w hl ha hc).2 0 (Nat.zero_le _), mo_zero]
  refine hi_eq hl ha (by rw [List.length_map]; exact hv) hne t1 ⟨c, hc, ?_⟩ fun z hz => ?_
  · rw [t2, val_shift hv s (m0 c hc), e]; exact Rat.le_refl
  · rw [t2, val_shift hv s (m0 z hz)]
    have := a3 z hz
    grind
theorem lo_neg (hl : avs.length ≤ last) (ha : ∀ f ∈ avs, 0 < f.2) (hv : vs.length = last + 1) (hne : cornersM last avs ≠ []) : loA last avs (vs.map fun x => -x) = (-(hiA last avs vs).1, (hiA last avs vs).2) ∧ hiA last avs (vs.map fun x => -x) = (-(loA last avs vs).1, (loA last avs vs).2) := by
  obtain ⟨a1, ⟨c, hc, -, e⟩, a3⟩ := hi_spec hl ha hv hne
  obtain ⟨b1, ⟨d, hd, -, g⟩, b3⟩ := lo_spec hl ha hv hne
  obtain ⟨t1, t2⟩ := neg_lo a1
  obtain ⟨u1, u2⟩ := neg_lo b1
  have hv' : (vs.map fun x => -x).length = last + 1 := by rw [List.length_map]; exact hv
  constructor
  · refine lo_eq hl ha hv' hne t1 ⟨c, hc, ?_⟩ fun z hz => ?_
    · rw [t2, val_neg, e]; exact Rat.le_refl
    · rw [t2, val_neg]; have := a3 z hz; grind
  · refine hi_eq hl ha hv' hne u1 ⟨d, hd, ?_⟩ fun z hz => ?_
    · rw [u2, val_neg, g]; exact Rat.le_refl
    · rw [u2, val_neg]; have := b3 z hz; grind
/-- the values' sums -/
def bothV (last : Nat) (vs ms : List Int) : List Int := (intsL 0 (last + 1)).map fun p => vs.getD p.toNat 0 + ms.getD p.toNat 0
theorem val_both (vs ms : List Int) (w : Int → Rat) : val last (bothV last vs ms) w = val last vs w + val last ms w := by
  unfold bothV
  rw [val_map]
  unfold val
  rw [← Mo.su_add]
  exact Mo.su_congr fun p _ => by rw [rc_add]; grind
theorem lo_both (hl : avs.length ≤ last) (ha : ∀ f ∈ avs, 0 < f.2) (hv : vs.length = last + 1) {ms : List Int} (hm : ms.length = last + 1) (hne : cornersM last avs ≠ []) : qf (totalM [loA last avs vs, loA last avs ms]) ≤ qf (loA last avs (bothV last vs ms)) ∧ qf (hiA last avs (bothV last vs ms)) ≤ qf (totalM [hiA last avs vs, hiA last avs ms]) := by
  have hb : (bothV last vs ms).length = last + 1 := by unfold bothV; rw [List.length_map, intsL_len]
  obtain ⟨a1, -, a3⟩ := lo_spec hl ha hv hne
  obtain ⟨b1, -, b3⟩ := lo_spec hl ha hm hne
  obtain ⟨c1, -, c3⟩ := hi_spec hl ha hv hne
  obtain ⟨d1, -, d3⟩ := hi_spec hl ha hm hne
  obtain ⟨-, ⟨c, hc, -, e⟩, -⟩ := lo_spec hl ha hb hne
  obtain ⟨-, ⟨d, hd, -, g⟩, -⟩ := hi_spec hl ha hb hne
  rw [(tot2 a1.1 b1.1).2, (tot2 c1.1 d1.1).2, e, g, val_both, val_both]
  have := a3 c hc
  have := b3 c hc
  have := c3 d hd
  have := d3 d hd
  constructor <;> grind
theorem lo_pow (hl : avs.length ≤ last) (ha : ∀ f ∈ avs, Lo f) (hne : cornersM last avs ≠ []) {e : Nat} (h1 : 1 ≤ e) (h2 : e ≤ avs.length) : loA last avs (powL last e) = avs.getD (e - 1) (0, 1) ∧ hiA last avs (powL last e) = avs.getD (e - 1) (0, 1) := by
  have hp : ∀ f ∈ avs, 0 < f.2 := fun f hf => (ha f hf).1
  have hi : e - 1 < avs.length := by omega
  have hlo : Lo (avs.getD (e - 1) (0, 1)) := by rw [getD_in hi]; exact ha _ (List.getElem_mem hi)
  have hval : ∀ c ∈ cornersM last avs, val last (powL last e) (wf c) = qf (avs.getD (e - 1) (0, 1)) := fun c hc => by
    rw [val_pow, (corner_w hl hp hc).2 e h2]
    unfold mo
    rw [if_neg (by omega)]
  obtain ⟨c, hc⟩ := List.exists_mem_of_ne_nil _ hne
  exact ⟨lo_eq hl hp (powL_len last e) hne hlo ⟨c, hc, by rw [hval c hc]; exact Rat.le_refl⟩ fun z hz => by rw [hval z hz]; exact Rat.le_refl,
    hi_eq hl hp (powL_len last e) hne hlo ⟨c, hc, by rw [hval c hc]; exact Rat.le_refl⟩ fun z hz => by rw [hval z hz]; exact Rat.le_refl⟩
/-- the average as the laws sum it up -/
def meanL (last : Nat) (vs : List Int) (ws : Wts) : Int × Int := totalM ((intsL 0 (last + 1)).map fun p => timesM (vs.getD p.toNat 0, 1) (ws.getD p.toNat (0, 1)))
theorem meanL_eq (hv : vs.length = last + 1) {ws : Wts} (hl : ws.length = last + 1) : meanL last vs ws = avgM vs ws := by
  unfold meanL avgM
  congr 1
  apply List.ext_getElem
  · rw [List.length_map, List.length_map, List.length_zip, intsL_len]; omega
  · intro i h1 h2
    rw [List.length_map, intsL_len] at h1
    have hi : i < ws.length := by omega
    have hj : i < vs.length := by omega
    have e1 : (intsL 0 (last + 1))[i]'(by rw [intsL_len]; exact h1) = (i : Int) := by unfold intsL; rw [List.getElem_map, List.getElem_range]; omega
    rw [List.getElem_map, List.getElem_map, List.getElem_zip, e1, Int.toNat_natCast, getD_in hi, getD_in hj]
end
theorem at_map {T : Type} {enc : T → PyData} {l : List T} {d : T} {n : Nat} (hn : n ≤ l.length) {p : Int} (hp : p ∈ intsL 0 n) : atI (l.map enc) p = some (enc (l.getD p.toNat d)) := by
  have hp := intsL_mem hp
  have hi : p.toNat < l.length := by omega
  have h : atI (l.map enc) ((p.toNat : Nat) : Int) = some (enc (l.getD p.toNat d)) := by
    refine atI_nat ?_
    rw [List.getElem?_map, List.getElem?_eq_getElem hi, getD_in hi]
    rfl
  rwa [show ((p.toNat : Nat) : Int) = p by omega] at h
theorem less_no {f g : Int × Int} (hf : 0 < f.2) (hg : 0 < g.2) (h : qf g ≤ qf f) : lessM f g = false := by
  cases q : lessM f g with
  | false => rfl
  | true => have := (lessM_iff hf hg).mp q; grind
/-- drawn values -/
def vdr (ns : List Int) (a : Nat) (md off : Int) (last : Nat) : List Int := (intsL 0 (last + 1)).map fun p => dr ns 4 (a + p.toNat) % md - off
theorem vdr_len (ns : List Int) (a : Nat) (md off : Int) (last : Nat) : (vdr ns a md off last).length = last + 1 := by unfold vdr; rw [List.length_map, intsL_len]
theorem vdr_bd (ns : List Int) (a : Nat) {md off : Int} (h : 0 < md) (last : Nat) : ∀ x ∈ vdr ns a md off last, -off ≤ x ∧ x < md - off := fun x hx => by
  obtain ⟨p, -, rfl⟩ := List.mem_map.mp hx
  have := emod_bd (dr ns 4 (a + p.toNat)) h
  omega
end DD
namespace DD
open PySem PySem.Spec PyProof.Rows L2
open Mo (su mom Rw NN shr shfs pr oth)
/-! ### mixtures -/
def mixM (s : Int × Int) (a b : Wts) : Wts := (a.zip b).map fun z => plusM (timesM (minusM (1, 1) s) z.1) (timesM s z.2)
def shOk (sh : PyData) : Bool := isFr sh && (decide (0 ≤ (frOf sh).1) && decide ((frOf sh).1 ≤ (frOf sh).2))
def mixO (CN CW : Addr) (last : Nat) (a b sh : PyData) : Out :=
  if areWt last a = true then (if areWt last b = true then (if shOk sh = true then (match a, b with
    | .tuple x, .tuple y => .ret (encL (mixM (frOf sh) (x.map frOf) (y.map frOf)))
    | _, _ => .ret .none) else .exc ⟨CN, none⟩) else .exc ⟨CW, none⟩) else .exc ⟨CW, none⟩
def S_mixed (CN CW : Addr) (ds : List PyData) (o : Out) : Prop := ∃ (last : Nat) (a b sh : PyData), ds = [.int (last : Int), a, b, sh] ∧ 1 ≤ last ∧ last ≤ 6 ∧ o = mixO CN CW last a b sh
def S__law_mixed (CW CN : Addr) (ds : List PyData) (o : Out) : Prop := ∃ (last : Nat) (a b sh : PyData), ds = [.int (last : Int), a, b, sh] ∧ 1 ≤ last ∧ last ≤ 6 ∧ OutW CW CN (mixO CN CW last a b sh) o
def ShOk2 (s : Int × Int) : Prop := Frac s ∧ 0 ≤ s.1 ∧ s.1 ≤ s.2
theorem shOk_iff {sh : PyData} : shOk sh = true ↔ ∃ s, sh = encF s ∧ ShOk2 s := by
  unfold shOk
  rw [Bool.and_eq_true, Bool.and_eq_true]
  constructor
  · rintro ⟨h1, h2, h3⟩
    obtain ⟨f, rfl, hf⟩ := isFr_iff.mp h1
    exact ⟨f, rfl, hf, of_decide_eq_true h2, of_decide_eq_true h3⟩
  · rintro ⟨s, rfl, h1, h2, h3⟩
    exact ⟨isFr_iff.mpr ⟨s, rfl, h1⟩, decide_eq_true h2, decide_eq_true h3⟩
theorem mixO_ok {CN CW : Addr} {last : Nat} {a b : Wts} {s : Int × Int} (ha : WtOk last a) (hb : WtOk last b) (hs : ShOk2 s) : mixO CN CW last (encL a) (encL b) (encF s) = .ret (encL (mixM s a b)) := by
  unfold mixO
  rw [if_pos (areWt_iff.mpr ⟨a, rfl, ha⟩), if_pos (areWt_iff.mpr ⟨b, rfl, hb⟩), if_pos (shOk_iff.mpr ⟨s, rfl, hs⟩)]
  show Out.ret (encL (mixM s ((a.map encF).map frOf) ((b.map encF).map frOf))) = _
  rw [map_frOf, map_frOf]
theorem mixO_a {CN CW : Addr} {last : Nat} {a b sh : PyData} (h : areWt last a = false) : mixO CN CW last a b sh = .exc ⟨CW, none⟩ := by unfold mixO; rw [if_neg (by rw [h]; decide)]
theorem mixO_b {CN CW : Addr} {last : Nat} {a b sh : PyData} (h : areWt last a = true) (h2 : areWt last b = false) : mixO CN CW last a b sh = .exc ⟨CW, none⟩ := by unfold mixO; rw [if_pos h, if_neg (by rw [h2]; decide)]
theorem mixO_s {CN CW : Addr} {last : Nat} {a b sh : PyData} (h : areWt last a = true) (h2 : areWt last b = true) (h3 : shOk sh = false) : mixO CN CW last a b sh = .exc ⟨CN, none⟩ := by unfold mixO; rw [if_pos h, if_pos h2, if_neg (by rw [h3]; decide)]
section
variable {last : Nat} {a b : Wts} {s : Int × Int}
theorem minus_one (hs : 0 < s.2) : Lo (minusM (1, 1) s) ∧ qf (minusM (1, 1) s) = 1 - qf s := by
  unfold minusM
  have h : (0 : Int) < ((-s.1, s.2) : Int × Int).2 := hs
  have h1 : (0 : Int) < ((1, 1) : Int × Int).2 := by decide
  refine ⟨plus_lo h1 h, ?_⟩
  rw [qf_plus h1 h, qf_one]
  have : qf (-s.1, s.2) = - qf s := by
    unfold qf
    show ((-s.1 : Int) : Rat) / _ = _
    rw [rc_neg]
    grind
  rw [this]
  grind
theorem mix_part (hs : 0 < s.2) {f g : Int × Int} (hf : 0 < f.2) (hg : 0 < g.2) : Lo (plusM (timesM (minusM (1, 1) s) f) (timesM s g)) ∧ qf (plusM (timesM (minusM (1, 1) s) f) (timesM s g)) = (1 - qf s) * qf f + qf s * qf g := by
  obtain ⟨m1, m2⟩ := minus_one hs
  have t1 := (times_lo m1.1 hf).1
  have t2 := (times_lo hs hg).1
  exact ⟨plus_lo t1 t2, by rw [qf_plus t1 t2, qf_times m1.1 hf, qf_times hs hg, m2]⟩
theorem mixM_len (ha : a.length = last + 1) (hb : b.length = last + 1) : (mixM s a b).length = last + 1 := by unfold mixM; rw [List.length_map, List.length_zip]; omega
theorem mixM_lo (hs : 0 < s.2) (ha : ∀ f ∈ a, 0 < f.2) (hb : ∀ f ∈ b, 0 < f.2) : ∀ f ∈ mixM s a b, Lo f := fun f hf => by
  obtain ⟨z, hz, rfl⟩ := List.mem_map.mp hf
  have := List.of_mem_zip hz
  exact (mix_part hs (ha _ this.1) (hb _ this.2)).1
theorem mixM_wf (hs : 0 < s.2) (la : a.length = last + 1) (lb : b.length = last + 1) (ha : ∀ f ∈ a, 0 < f.2) (hb : ∀ f ∈ b, 0 < f.2) : ∀ p ∈ Rw last, wf (mixM s a b) p = (1 - qf s) * wf a p + qf s * wf b p := fun p hp => by
  have hp := Mo.mem_Rw.mp hp
  have i1 : p.toNat < a.length := by omega
  have i2 : p.toNat < b.length := by omega
  have i3 : p.toNat < (mixM s a b).length := by rw [mixM_len la lb]; omega
  have e : (mixM s a b)[p.toNat]'i3 = plusM (timesM (minusM (1, 1) s) (a[p.toNat]'i1)) (timesM s (b[p.toNat]'i2)) := by simp only [mixM, List.getElem_map, List.getElem_zip]
  unfold wf
  rw [getD_in i1, getD_in i2, getD_in i3, e]
  exact (mix_part hs (ha _ (List.getElem_mem i1)) (hb _ (List.getElem_mem i2))).2
theorem mixM_mom (hs : 0 < s.2) (la : a.length = last + 1) (lb : b.length = last + 1) (ha : ∀ f ∈ a, 0 < f.2) (hb : ∀ f ∈ b, 0 < f.2) (k : Nat) : mom (Rw last) (wf (mixM s a b)) k = (1 - qf s) * mom (Rw last) (wf a) k + qf s * mom (Rw last) (wf b) k := by
  unfold Mo.mom
  rw [← Mo.su_mul, ← Mo.su_mul, ← Mo.su_add]
  refine Mo.su_congr fun p hp => ?_
  rw [mixM_wf hs la lb ha hb p hp]
  grind
theorem mixM_size {n m : Nat} (hs : ShOk2 s) (ha : ∀ f ∈ a, Fz n f) (hb : ∀ f ∈ b, Fz m f) : ∀ f ∈ mixM s a b, Fz (n + m + 100) f := fun f hf => by
  obtain ⟨z, hz, rfl⟩ := List.mem_map.mp hf
  have h := List.of_mem_zip hz
  have h1 : Fz 1 ((1, 1) : Int × Int) := ⟨by decide, by decide, by decide⟩
  have h2 := timesM_size (plusM_size h1 hs.1.size.neg) (ha _ h.1)
  have h3 := timesM_size hs.1.size (hb _ h.2)
  exact (plusM_size h2 h3).up (by omega)
theorem wt_sum_one {c : Wts} (hl : c.length = last + 1) (hd : ∀ f ∈ c, 0 < f.2) (h : mom (Rw last) (wf c) 0 = 1) : totalM c = (1, 1) := lo_inj (total_lo hd).1 lo_one (by rw [sum_mom hl hd, h, qf_one])
/-- averages by moments -/
theorem avsM_eq {b c : Wts} {many : Nat} (lb : b.length = last + 1) (lc : c.length = last + 1) (hb : ∀ f ∈ b, 0 < f.2) (hc : ∀ f ∈ c, 0 < f.2) (h : ∀ k, 1 ≤ k → k ≤ many → mom (Rw last) (wf b) k = mom (Rw last) (wf c) k) : avsM last b many = avsM last c many := by
  apply List.ext_getElem?
  intro i
  by_cases hi : i < many
  · rw [avsM_at hi, avsM_at hi]
    congr 1
    exact lo_inj (avg_pow lb hb _).1 (avg_pow lc hc _).1 (by rw [(avg_pow lb hb _).2, (avg_pow lc hc _).2, h _ (by omega) (by omega)])
  · rw [List.getElem?_eq_none (by rw [avsM_len]; omega), List.getElem?_eq_none (by rw [avsM_len]; omega)]
/-- averages told are those of weights that have them -/
theorem avsM_told {avs : Wts} {c : Wts} (lc : c.length = last + 1) (hc : ∀ f ∈ c, 0 < f.2) (ha : ∀ f ∈ avs, Lo f) (h : ∀ k, k ≤ avs.length → mom (Rw last) (wf c) k = mo avs k) : avsM last c avs.length = avs := by
  apply List.ext_getElem?
  intro i
  by_cases hi : i < avs.length
  · rw [avsM_at hi, List.getElem?_eq_getElem hi]
    congr 1
    refine lo_inj (avg_pow lc hc _).1 (ha _ (List.getElem_mem hi)) ?_
    rw [(avg_pow lc hc _).2, h _ (by omega)]
    unfold mo
    rw [if_neg (by omega), show i + 1 - 1 = i by omega, getD_in hi]
  · rw [List.getElem?_eq_none (by rw [avsM_len]; omega), List.getElem?_eq_none (by omega)]
end
theorem encL_inj {a b : List (Int × Int)} (h : encL a = encL b) : a = b := by
  have h := PyData.tuple.inj h
  have := congrArg (List.map frOf) h
  rwa [map_frOf, map_frOf] at this
theorem share_ok {k b : Int} (h0 : 0 ≤ k) (h1 : k ≤ b) (b1 : 1 ≤ b) (b7 : b ≤ 7) : ShOk2 (redM k b) ∧ 0 < (redM k b).2 := by
  have hlo := redM_lo (a := k) (b := b) (by omega)
  have hb : (b : Rat) ≠ 0 := rc_ne (by omega)
  have hq := qf_red (a := k) (b := b) (by omega)
  obtain ⟨-, h4, h5⟩ := low_bd hlo (show (0 : Int) < b by omega) (show qf (redM k b) * (b : Rat) = (k : Rat) by rw [hq]; grind)
  have hnn : 0 ≤ qf (redM k b) := by rw [hq]; exact Mo.div_nn (.inl ⟨rc_pos.mpr (by omega), Mo.rat_nn.mpr h0⟩)
  have hle : ¬ qf (1, 1) < qf (redM k b) := by
    rw [qf_one, hq]
    intro z
    have h1r : (k : Rat) ≤ (b : Rat) := rc_le.mpr h1
    have hbp : (0 : Rat) < (b : Rat) := rc_pos.mpr (by omega)
    have := (Rat.lt_div_iff hbp).mp z
    grind
  have h6 := (qf_nn hlo.1).mp hnn
  have h7 : ¬ (1 * (redM k b).2 < (redM k b).1 * 1) := fun z => hle ((qf_lt_iff (f := (1, 1)) (by decide) hlo.1).mpr z)
  exact ⟨⟨frac_small hlo (by omega) (by omega), h6, by omega⟩, hlo.1⟩
/-- a mixture at a place as the laws calculate it -/
def elM (s f g : Int × Int) : Int × Int := totalM [lowM ((s.2 - s.1) * f.1) (s.2 * f.2), lowM (s.1 * g.1) (s.2 * g.2)]
theorem el_eq {s f g : Int × Int} (hs : 0 < s.2) (hf : 0 < f.2) (hg : 0 < g.2) : elM s f g = plusM (timesM (minusM (1, 1) s) f) (timesM s g) := by
  have p1 := Int.mul_pos hs hf
  have p2 := Int.mul_pos hs hg
  obtain ⟨a1, a2⟩ := low_lo (a := (s.2 - s.1) * f.1) (b := s.2 * f.2) (by omega)
  obtain ⟨b1, b2⟩ := low_lo (a := s.1 * g.1) (b := s.2 * g.2) (by omega)
  obtain ⟨t1, t2⟩ := tot2 a1.1 b1.1
  obtain ⟨m1, m2⟩ := mix_part hs hf hg
  refine lo_inj t1 m1 ?_
  unfold elM
  rw [t2, m2, a2, b2, rc_mul, rc_mul, rc_mul, rc_mul, rc_sub]
  unfold qf
  have h1 : (s.2 : Rat) ≠ 0 := rc_ne (by omega)
  have h2 : (f.2 : Rat) ≠ 0 := rc_ne (by omega)
  have h3 : (g.2 : Rat) ≠ 0 := rc_ne (by omega)
  grind
theorem zip_idx {α β γ : Type} (g : α → β → γ) {a : List α} {b : List β} {n : Nat} (d : α) (e : β) (ha : a.length = n) (hb : b.length = n) : ((intsL 0 n).map fun p => g (a.getD p.toNat d) (b.getD p.toNat e)) = (a.zip b).map fun z => g z.1 z.2 := by
  apply List.ext_getElem
  · rw [List.length_map, List.length_map, List.length_zip, intsL_len]; omega
  · intro i h1 h2
    rw [List.length_map, intsL_len] at h1
    have e1 : (intsL 0 n)[i]'(by rw [intsL_len]; exact h1) = (i : Int) := by unfold intsL; rw [List.getElem_map, List.getElem_range]; omega
    rw [List.getElem_map, List.getElem_map, List.getElem_zip, e1, Int.toNat_natCast, getD_in (by omega), getD_in (by omega)]
theorem mix_list {last : Nat} {a b : Wts} {s : Int × Int} (hs : 0 < s.2) (la : a.length = last + 1) (lb : b.length = last + 1) (ha : ∀ f ∈ a, 0 < f.2) (hb : ∀ f ∈ b, 0 < f.2) : ((intsL 0 (last + 1)).map fun p => elM s (a.getD p.toNat (0, 1)) (b.getD p.toNat (0, 1))) = mixM s a b := by
  rw [zip_idx (elM s) (0, 1) (0, 1) la lb]
  unfold mixM
  refine List.map_congr_left fun z hz => ?_
  have := List.of_mem_zip (a := z.1) (b := z.2) hz
  exact el_eq hs (ha _ this.1) (hb _ this.2)
theorem ones_bad {last : Nat} (h1 : 1 ≤ last) (h6 : last ≤ 6) : areWt last (.tuple (List.replicate ((last : Int) + 1).toNat [PyData.tuple [.int 1, .int 1]]).flatten) = false := by
  rcases (show last = 1 ∨ last = 2 ∨ last = 3 ∨ last = 4 ∨ last = 5 ∨ last = 6 by omega) with e | e | e | e | e | e <;> subst e <;> decide +kernel
theorem wtOk_neg {last : Nat} {ws : Wts} (h : WtOk last ws) : ∀ d ∈ [PyData.none, .list (ws.map encF), .tuple ((ws.drop 1).map encF), .tuple (List.replicate ((last : Int) + 1).toNat [PyData.tuple [.int 1, .int 1]]).flatten], 1 ≤ last → last ≤ 6 → areWt last d = false := by
  intro d hd h1 h6
  simp only [List.mem_cons, List.not_mem_nil, or_false] at hd
  rcases hd with e | e | e | e <;> subst e
  · rfl
  · rfl
  · show (decide (((ws.drop 1).map encF).length = last + 1) && _) = false
    rw [List.length_map, List.length_drop, h.1, decide_eq_false (by omega), Bool.false_and]
  · exact ones_bad h1 h6
end DD
namespace DD
open PySem PySem.Spec PyProof.Rows L2
open Mo (su mom Rw NN shr shfs pr oth)
/-! ### places with weights above 0 -/
def possM (last : Nat) (C : List Wts) : List Int := (intsL 0 (last + 1)).filter fun p => C.any fun c => decide (0 < (c.getD p.toNat (0, 1)).1)
def needM (last : Nat) (C : List Wts) : List Int := (intsL 0 (last + 1)).filter fun p => C.all fun c => !decide ((c.getD p.toNat (0, 1)).1 = 0)
def cntP (c : Wts) : Nat := (c.filter fun f => decide (0 < f.1)).length
def mnL (l : List Int) : Int := l.foldl min (l.headD 0)
theorem mnL_in {l : List Int} (h : l ≠ []) : mnL l ∈ l ∧ ∀ y ∈ l, mnL l ≤ y := by
  have key : ∀ (l : List Int) (b : Int), (l.foldl min b = b ∨ l.foldl min b ∈ l) ∧ l.foldl min b ≤ b ∧ ∀ y ∈ l, l.foldl min b ≤ y := by
    intro l
    induction l with
    | nil => intro b; exact ⟨.inl rfl, Int.le_refl _, fun y hy => by cases hy⟩
    | cons a l ih =>
      intro b
      rw [List.foldl_cons]
      obtain ⟨h1, h2, h3⟩ := ih (min b a)
      refine ⟨?_, by omega, fun y hy => ?_⟩
      · rcases h1 with h1 | h1
        · rw [h1]
          by_cases q : b ≤ a
          · exact .inl (by omega)
          · refine .inr ?_
            rw [show min b a = a by omega]
            exact List.mem_cons_self
        · exact .inr (List.mem_cons_of_mem _ h1)
      · rcases List.mem_cons.mp hy with e | e
        · subst e; omega
        · exact h3 y e
  cases l with
  | nil => exact absurd rfl h
  | cons a l =>
    obtain ⟨h1, h2, h3⟩ := key (a :: l) a
    refine ⟨?_, h3⟩
    rcases h1 with h1 | h1
    · show (a :: l).foldl min a ∈ _
      rw [h1]; exact List.mem_cons_self
    · exact h1
def fewM (C : List Wts) : Int := mnL (C.map fun c => (cntP c : Int))
def needO (CW : Addr) (g : List Wts → PyData) (last : Nat) (avs : List (Int × Int)) : Out := if cornersM last avs = [] then .exc ⟨CW, none⟩ else .ret (g (cornersM last avs))
def S_need_corners (CN CA CW : Addr) (ds : List PyData) (o : Out) : Prop := ∃ l v : PyData, ds = [l, v] ∧ ofV CN CA (needO CW fun C => .list (C.map encL)) l v o
def S_possible_places (CN CA CW : Addr) (ds : List PyData) (o : Out) : Prop := ∃ l v : PyData, ds = [l, v] ∧ ofV CN CA (fun last avs => needO CW (fun C => .list ((possM last C).map .int)) last avs) l v o
def S_needed_places (CN CA CW : Addr) (ds : List PyData) (o : Out) : Prop := ∃ l v : PyData, ds = [l, v] ∧ ofV CN CA (fun last avs => needO CW (fun C => .list ((needM last C).map .int)) last avs) l v o
def S_fewest_places (CN CA CW : Addr) (ds : List PyData) (o : Out) : Prop := ∃ l v : PyData, ds = [l, v] ∧ ofV CN CA (needO CW fun C => .int (fewM C)) l v o
theorem needO_ok {CW : Addr} {g : List Wts → PyData} {last : Nat} {avs : List (Int × Int)} (h : cornersM last avs ≠ []) : needO CW g last avs = .ret (g (cornersM last avs)) := by unfold needO; rw [if_neg h]
section
variable {last : Nat} {avs : List (Int × Int)}
theorem wf_pos {c : Wts} (hl : c.length = last + 1) (hd : ∀ f ∈ c, 0 < f.2) {p : Int} (hp : p ∈ Rw last) : 0 < wf c p ↔ 0 < (c.getD p.toNat (0, 1)).1 := by
  have hp := Mo.mem_Rw.mp hp
  have hi : p.toNat < c.length := by omega
  unfold wf
  rw [getD_in hi]
  exact qf_pos (hd _ (List.getElem_mem hi))
theorem wf_zero {c : Wts} (hl : c.length = last + 1) (hd : ∀ f ∈ c, 0 < f.2) {p : Int} (hp : p ∈ Rw last) : wf c p = 0 ↔ (c.getD p.toNat (0, 1)).1 = 0 := by
  have hp := Mo.mem_Rw.mp hp
  have hi : p.toNat < c.length := by omega
  unfold wf
  rw [getD_in hi]
  exact qf_zero_iff (hd _ (List.getElem_mem hi))
theorem mem_poss (hl : avs.length ≤ last) (ha : ∀ f ∈ avs, 0 < f.2) {p : Int} : p ∈ possM last (cornersM last avs) ↔ p ∈ Rw last ∧ ∃ c ∈ cornersM last avs, 0 < wf c p := by
  unfold possM
  rw [List.mem_filter, List.any_eq_true]
  constructor
  · rintro ⟨h1, c, hc, h2⟩
    have hC := (corner_iff hl ha).mp hc
    exact ⟨h1, c, hc, (wf_pos hC.len (fun f hf => (hC.lo f hf).1) h1).mpr (of_decide_eq_true h2)⟩
  · rintro ⟨h1, c, hc, h2⟩
    have hC := (corner_iff hl ha).mp hc
    exact ⟨h1, c, hc, decide_eq_true ((wf_pos hC.len (fun f hf => (hC.lo f hf).1) h1).mp h2)⟩
theorem mem_need (hl : avs.length ≤ last) (ha : ∀ f ∈ avs, 0 < f.2) {p : Int} : p ∈ needM last (cornersM last avs) ↔ p ∈ Rw last ∧ ∀ c ∈ cornersM last avs, 0 < wf c p := by
  unfold needM
  rw [List.mem_filter, List.all_eq_true]
  constructor
  · rintro ⟨h1, h2⟩
    refine ⟨h1, fun c hc => ?_⟩
    have hC := (corner_iff hl ha).mp hc
    have h3 := hC.nn p h1
    have h4 : ¬ wf c p = 0 := fun z => by
      have := (wf_zero hC.len (fun f hf => (hC.lo f hf).1) h1).mp z
      have := h2 c hc
      simp_all
    grind
  · rintro ⟨h1, h2⟩
    refine ⟨h1, fun c hc => ?_⟩
    have hC := (corner_iff hl ha).mp hc
    have h3 := h2 c hc
    have h4 : ¬ (c.getD p.toNat (0, 1)).1 = 0 := fun z => by
      have := (wf_zero hC.len (fun f hf => (hC.lo f hf).1) h1).mpr z
      grind
    rw [decide_eq_false h4] <;> rfl
theorem cntP_sup {c : Wts} (hl : c.length = last + 1) (hd : ∀ f ∈ c, 0 < f.2) (nn : NN (Rw last) (wf c)) : cntP c = (Mo.sup (Rw last) (wf c)).length := by
  have e1 : c = (List.range (last + 1)).map fun i => c.getD i (0, 1) := by
    apply List.ext_getElem
    · rw [List.length_map, List.length_range, hl]
    · intro i h1 h2
      rw [List.getElem_map, List.getElem_range, getD_in h1]
  unfold cntP Mo.sup Rw
  conv => lhs; rw [e1]
  rw [List.filter_map, List.filter_map, List.length_map, List.length_map]
  congr 1
  refine List.filter_congr fun i hi => ?_
  have hi := List.mem_range.mp hi
  have hp : ((0 : Int) + (i : Int)) ∈ Rw last := Mo.mem_Rw.mpr (by omega)
  have h0 := nn _ hp
  have h1 := wf_pos hl hd hp
  have h2 := wf_zero hl hd hp
  have e : ((0 : Int) + (i : Int)).toNat = i := by omega
  rw [e] at h1 h2
  show decide (0 < (c.getD i (0, 1)).1) = decide (wf c ((0 : Int) + (i : Int)) ≠ 0)
  refine decide_eq_decide.mpr ⟨fun h => ?_, fun h => ?_⟩
  · have := h1.mpr h; grind
  · exact h1.mp (by grind)
end
/-! ### one average more, or fewer -/
section
variable {last : Nat} {A L : List (Int × Int)}
/-- the told averages go on -/
structure More (last : Nat) (L A : List (Int × Int)) : Prop where
  ll : L.length ≤ last
  la : A.length ≤ last
  lp : ∀ f ∈ L, 0 < f.2
  ap : ∀ f ∈ A, 0 < f.2
  len : A.length = L.length + 1
  sm : ∀ k, k ≤ L.length → mo A k = mo L k
theorem More.w (h : More last L A) {c : Wts} (hc : c ∈ cornersM last A) : NN (Rw last) (wf c) ∧ ∀ k, k ≤ L.length → mom (Rw last) (wf c) k = mo L k := by
  obtain ⟨h1, h2⟩ := corner_w h.la h.ap hc
  exact ⟨h1, fun k hk => by rw [h2 k (by have := h.len; omega), h.sm k hk]⟩
theorem More.bounds (h : More last L A) {vs : List Int} (hv : vs.length = last + 1) (hne : cornersM last A ≠ []) : qf (loA last L vs) ≤ qf (loA last A vs) ∧ qf (hiA last A vs) ≤ qf (hiA last L vs) := by
  obtain ⟨-, ⟨c, hc, -, e⟩, -⟩ := lo_spec h.la h.ap hv hne
  obtain ⟨-, ⟨d, hd, -, g⟩, -⟩ := hi_spec h.la h.ap hv hne
  rw [e, g]
  exact ⟨lo_w h.ll h.lp hv (h.w hc).1 (h.w hc).2, hi_w h.ll h.lp hv (h.w hd).1 (h.w hd).2⟩
theorem More.poss (h : More last L A) : ∀ p ∈ possM last (cornersM last A), p ∈ possM last (cornersM last L) := fun p hp => by
  obtain ⟨h1, c, hc, h2⟩ := (mem_poss h.la h.ap).mp hp
  have hp' := Mo.mem_Rw.mp h1
  have hi := hi_w h.ll h.lp (indV_len last ((p.toNat : Nat) : Int)) (h.w hc).1 (h.w hc).2
  obtain ⟨c0, hc0, -⟩ := lp_corner h.ll h.lp (fun _ => 0) _ (h.w hc).1 (h.w hc).2
  obtain ⟨-, ⟨d, hd, -, g⟩, -⟩ := hi_spec h.ll h.lp (indV_len last ((p.toNat : Nat) : Int)) (List.ne_nil_of_mem hc0)
  rw [g, val_ind (by omega), val_ind (by omega), show ((p.toNat : Nat) : Int) = p by omega] at hi
  exact (mem_poss h.ll h.lp).mpr ⟨h1, d, hd, by grind⟩
theorem More.need (h : More last L A) : ∀ p ∈ needM last (cornersM last L), p ∈ needM last (cornersM last A) := fun p hp => by
  obtain ⟨h1, h2⟩ := (mem_need h.ll h.lp).mp hp
  have hp' := Mo.mem_Rw.mp h1
  refine (mem_need h.la h.ap).mpr ⟨h1, fun c hc => ?_⟩
  have lo := lo_w h.ll h.lp (indV_len last ((p.toNat : Nat) : Int)) (h.w hc).1 (h.w hc).2
  obtain ⟨c0, hc0, -⟩ := lp_corner h.ll h.lp (fun _ => 0) _ (h.w hc).1 (h.w hc).2
  obtain ⟨-, ⟨d, hd, -, g⟩, -⟩ := lo_spec h.ll h.lp (indV_len last ((p.toNat : Nat) : Int)) (List.ne_nil_of_mem hc0)
  rw [g, val_ind (by omega), val_ind (by omega), show ((p.toNat : Nat) : Int) = p by omega] at lo
  have := h2 d hd
  grind
theorem More.few (h : More last L A) (hne : cornersM last A ≠ []) : fewM (cornersM last L) ≤ fewM (cornersM last A) := by
  obtain ⟨h1, -⟩ := mnL_in (l := (cornersM last A).map fun c => (cntP c : Int)) (by intro z; exact hne (List.map_eq_nil_iff.mp z))
  obtain ⟨c, hc, e⟩ := List.mem_map.mp h1
  obtain ⟨d, hd, -, h3⟩ := lp_corner h.ll h.lp (fun _ => 0) _ (h.w hc).1 (h.w hc).2
  obtain ⟨-, h4⟩ := mnL_in (l := (cornersM last L).map fun c => (cntP c : Int)) (by intro z; rw [List.map_eq_nil_iff] at z; rw [z] at hd; cases hd)
  have h5 := h4 _ (List.mem_map.mpr ⟨d, hd, rfl⟩)
  have hC := (corner_iff h.la h.ap).mp hc
  have hD := (corner_iff h.ll h.lp).mp hd
  have h6 : cntP d ≤ cntP c := by
    rw [cntP_sup hD.len (fun f hf => (hD.lo f hf).1) hD.nn, cntP_sup hC.len (fun f hf => (hC.lo f hf).1) hC.nn]
    refine len_sub ((Mo.Rw_nodup last).filter _) fun x hx => ?_
    obtain ⟨x1, x2⟩ := Mo.mem_sup.mp hx
    exact Mo.mem_sup.mpr ⟨x1, fun z => x2 (h3 x x1 z)⟩
  unfold fewM
  rw [← e]
  omega
end
/-! ### the ends of the next range -/
theorem shfs_int {N : Rat} : ∀ (zs : List Int) (m : Nat → Rat) (k : Nat), (∀ j, j ≤ k + zs.length → ∃ K : Int, m j * N = K) → ∃ K : Int, shfs zs m k * N = K
  | [], m, k, h => h k (by simp)
  | a :: zs, m, k, h => by
    rw [Mo.shfs_cons]
    refine shfs_int zs _ k fun j hj => ?_
    obtain ⟨K1, h1⟩ := h (j + 1) (by rw [List.length_cons]; omega)
    obtain ⟨K2, h2⟩ := h j (by rw [List.length_cons]; omega)
    refine ⟨K1 - a * K2, ?_⟩
    unfold Mo.shf
    rw [rc_sub, rc_mul, ← h1, ← h2]
    grind
/-- the next average of a corner has no greater divisor than the told ones together -/
theorem next_int {last : Nat} {L : List (Int × Int)} (hl : L.length ≤ last) (hp : ∀ f ∈ L, 0 < f.2) {N : Rat} (hN : ∀ k, k ≤ L.length → ∃ K : Int, mo L k * N = K) {c : Wts} (hc : c ∈ cornersM last L) : ∃ K : Int, mom (Rw last) (wf c) (L.length + 1) * N = K := by
  have hC := (corner_iff hl hp).mp hc
  obtain ⟨S, s1, s2, s3, -⟩ := Mo.few_shr (Mo.Rw_nodup last) (d := L.length) (by rw [Mo.Rw_len]; omega) hC.few
  have h0 : shfs S (mom (Rw last) (wf c)) 0 = 0 := by
    rw [Mo.shfs_mom0]
    refine Mo.su_zero fun p hp => ?_
    by_cases q : p ∈ S
    · rw [Mo.pr_zero q]; grind
    · rw [s3 p hp q]; grind
  have h1 := Mo.shfs_lead S (mom (Rw last) (wf c)) (fun j => if j ≤ L.length then mom (Rw last) (wf c) j else 0) 0 (fun j hj => by rw [if_pos (by omega)])
  rw [h0, show 0 + S.length = L.length + 1 by omega, if_neg (by omega)] at h1
  obtain ⟨K, hK⟩ := shfs_int (N := N) S (fun j => if j ≤ L.length then mom (Rw last) (wf c) j else 0) 0 (fun j hj => by
    by_cases q : j ≤ L.length
    · obtain ⟨K, hK⟩ := hN j q
      exact ⟨K, by rw [if_pos q, hC.mom j q]; exact hK⟩
    · exact ⟨0, by rw [if_neg q]; have : ((0 : Int) : Rat) = 0 := rfl; grind⟩)
  exact ⟨-K, by rw [rc_neg, ← hK]; grind⟩
theorem mo_snoc (L : List (Int × Int)) (e : Int × Int) : (∀ k, k ≤ L.length → mo (L ++ [e]) k = mo L k) ∧ mo (L ++ [e]) (L.length + 1) = qf e := by
  constructor
  · intro k hk
    unfold mo
    by_cases q : k = 0
    · rw [if_pos q, if_pos q]
    · rw [if_neg q, if_neg q, List.getD_eq_getElem?_getD, List.getD_eq_getElem?_getD, List.getElem?_append_left (by omega)]
  · unfold mo
    rw [if_neg (by omega), List.getD_eq_getElem?_getD, List.getElem?_append_right (by omega)]
    rw [show L.length + 1 - 1 - L.length = 0 by omega]
    rfl
theorem srt_one {l : List Wts} (hs : SrtU l) (hne : l ≠ []) (h : ∀ a ∈ l, ∀ b ∈ l, a = b) : l.length = 1 := by
  match l, hs, hne, h with
  | [a], _, _, _ => rfl
  | a :: b :: r, hs, _, h =>
    have h1 := (List.pairwise_cons.mp hs).1 b List.mem_cons_self
    have := h a List.mem_cons_self b (List.mem_cons_of_mem _ List.mem_cons_self)
    rw [this] at h1
    have := ltW_swo.asym _ _ h1
    rw [h1] at this
    cases this
theorem corners_srt (last : Nat) (avs : List (Int × Int)) : SrtU (cornersM last avs) := sortU_srt _
/-- at an end of the next range one way of weights is left -/
theorem end_one {last : Nat} {L : List (Int × Int)} (h1 : 1 ≤ last) (hd : 1 ≤ L.length) (hd2 : L.length + 1 ≤ 3) (hl : L.length + 1 ≤ last) (hp : ∀ f ∈ L, 0 < f.2) (hne : cornersM last L ≠ []) (e : Int × Int) (he : e = loA last L (powL last (L.length + 1)) ∨ e = hiA last L (powL last (L.length + 1))) : Lo e ∧ (cornersM last (L ++ [e])).length = 1 ∧ ∃ c ∈ cornersM last L, qf e = mom (Rw last) (wf c) (L.length + 1) := by
  have hlen := powL_len last (L.length + 1)
  obtain ⟨a1, ⟨ca, hca, -, ea⟩, a3⟩ := lo_spec (by omega) hp hlen hne
  obtain ⟨b1, ⟨cb, hcb, -, eb⟩, b3⟩ := hi_spec (by omega) hp hlen hne
  rw [val_pow] at ea eb
  have hlo : Lo e := by rcases he with h | h <;> (subst h; assumption)
  have hat : ∃ c ∈ cornersM last L, qf e = mom (Rw last) (wf c) (L.length + 1) := by
    rcases he with h | h
    · exact ⟨ca, hca, by rw [h, ea]⟩
    · exact ⟨cb, hcb, by rw [h, eb]⟩
  have hpe : ∀ f ∈ L ++ [e], 0 < f.2 := fun f hf => by
    rcases List.mem_append.mp hf with q | q
    · exact hp f q
    · rw [List.mem_singleton.mp q]; exact hlo.1
  have hle : (L ++ [e]).length = L.length + 1 := by simp
  obtain ⟨m1, m2⟩ := mo_snoc L e
  obtain ⟨c, hc, hcm⟩ := hat
  obtain ⟨w1, w2⟩ := corner_w (by omega) hp hc
  have hne2 : cornersM last (L ++ [e]) ≠ [] := corners_ne (by omega) hpe w1 fun k hk => by
    rw [hle] at hk
    by_cases q : k = L.length + 1
    · rw [q, m2, hcm]
    · rw [m1 k (by omega), w2 k (by omega)]
  refine ⟨hlo, srt_one (corners_srt _ _) hne2 fun a ha b hb => ?_, c, hc, hcm⟩
  have hA := (corner_iff (by omega) hpe).mp ha
  have hB := (corner_iff (by omega) hpe).mp hb
  refine wts_ext hA.len hB.len hA.lo hB.lo ?_
  have sgn : ∃ ε : Rat, (ε = 1 ∨ ε = -1) ∧ ∀ w : Int → Rat, NN (Rw last) w → (∀ k, k < L.length + 1 → mom (Rw last) w k = mo (L ++ [e]) k) → ε * mo (L ++ [e]) (L.length + 1) ≤ ε * mom (Rw last) w (L.length + 1) := by
    rcases he with h | h
    · refine ⟨1, .inl rfl, fun w hw hm => ?_⟩
      have := lo_w (vs := powL last (L.length + 1)) (by omega) hp hlen hw fun k hk => by rw [hm k (by omega), m1 k hk]
      rw [m2, h]
      rw [val_pow] at this
      grind
    · refine ⟨-1, .inr rfl, fun w hw hm => ?_⟩
      have := hi_w (vs := powL last (L.length + 1)) (by omega) hp hlen hw fun k hk => by rw [hm k (by omega), m1 k hk]
      rw [m2, h]
      rw [val_pow] at this
      grind
  obtain ⟨ε, he2, hleast⟩ := sgn
  exact Mo.end_uniq (n := last) (d := L.length + 1) (by omega) hd2 hl (mo (L ++ [e])) (by rw [m1 0 (Nat.zero_le _), mo_zero]) ε he2 hleast hA.nn hB.nn (fun k hk => hA.mom k (by omega)) (fun k hk => hB.mom k (by omega))
theorem avsM_snoc (last : Nat) (ws : Wts) (d : Nat) : avsM last ws (d + 1) = avsM last ws d ++ [avgM (powL last (d + 1)) ws] := by
  unfold avsM intsL
  rw [List.range_succ, List.map_append, List.map_append]
  show _ ++ [avgM (powL last ((1 + (d : Int)).toNat)) ws] = _
  rw [show ((1 : Int) + (d : Int)).toNat = d + 1 by omega]
theorem any_int (l : List Int) (p : Int) : ((l.map PyData.int).any fun z => PyData.eqv z (.int p)) = decide (p ∈ l) := by
  rw [List.any_map, Bool.eq_iff_iff, List.any_eq_true, decide_eq_true_iff]
  constructor
  · rintro ⟨x, hx, h⟩
    have h : (x == p) = true := h
    rw [← eq_of_beq h]; exact hx
  · intro h
    exact ⟨p, h, (by show (p == p) = true; simp)⟩
end DD
namespace DD
open PySem PySem.Spec PyProof.Rows L2
open Mo (su mom Rw NN shr shfs pr oth)
/-! ### the middle -/
def midP (C : List Wts) (p : Int) : Int × Int := timesM (totalM (C.map fun c => c.getD p.toNat (0, 1))) (redM 1 (C.length : Int))
def midM (last : Nat) (C : List Wts) : Wts := (intsL 0 (last + 1)).map (midP C)
def S_middle (CN CA CW : Addr) (ds : List PyData) (o : Out) : Prop := ∃ l v : PyData, ds = [l, v] ∧ ofV CN CA (fun last avs => needO CW (fun C => encL (midM last C)) last avs) l v o
theorem choose_35 : ∀ l : Fin 7, ∀ n : Fin 5, (chooseM (intsL 0 (l.val + 1)) n.val).length ≤ 35 := by decide +kernel
theorem corners_35 {last : Nat} (h6 : last ≤ 6) {avs : List (Int × Int)} (hl : avs.length ≤ 3) : (cornersM last avs).length ≤ 35 := by
  unfold cornersM
  refine Nat.le_trans (sortU_len _) ?_
  unfold cornerList
  refine Nat.le_trans (List.length_filter_le _ _) ?_
  rw [List.length_map]
  exact choose_35 ⟨last, by omega⟩ ⟨avs.length + 1, by omega⟩
theorem tot_size {C : List Wts} {p : Int} (hC : ∀ c ∈ C, Fz 160 (c.getD p.toNat (0, 1))) : Fz (161 * C.length + 1) (totalM (C.map fun c => c.getD p.toNat (0, 1))) := by
  have := totalM_size (n := 160) (C.map fun c => c.getD p.toNat (0, 1)) (fun f hf => by obtain ⟨c, hc, rfl⟩ := List.mem_map.mp hf; exact hC c hc)
  rwa [List.length_map] at this
theorem getD_size {n : Nat} {c : Wts} (h : ∀ f ∈ c, Fz n f) (hn : 1 ≤ n) (i : Nat) : Fz n (c.getD i (0, 1)) := by
  by_cases hi : i < c.length
  · rw [getD_in hi]; exact h _ (List.getElem_mem hi)
  · rw [getD_out (by omega)]
    exact (show Fz 1 ((0, 1) : Int × Int) from ⟨by decide, by decide, by decide⟩).up hn
section
variable {last : Nat} {avs : List (Int × Int)}
theorem mid_lo (hl : avs.length ≤ last) (ha : ∀ f ∈ avs, 0 < f.2) (hne : cornersM last avs ≠ []) {p : Int} (hp : p ∈ Rw last) : Lo (midP (cornersM last avs) p) ∧ qf (midP (cornersM last avs) p) * ((((cornersM last avs).length : Nat) : Int) : Rat) = su (cornersM last avs) fun c => wf c p := by
  have hp' := Mo.mem_Rw.mp hp
  have hd : ∀ f ∈ (cornersM last avs).map (fun c => c.getD p.toNat (0, 1)), 0 < f.2 := fun f hf => by
    obtain ⟨c, hc, rfl⟩ := List.mem_map.mp hf
    have hC := (corner_iff hl ha).mp hc
    rw [getD_in (by rw [hC.len]; omega)]
    exact (hC.lo _ (List.getElem_mem _)).1
  obtain ⟨t1, t2⟩ := total_lo hd
  have hn := List.length_pos_iff.mpr hne
  have hr := redM_lo (a := 1) (b := ((cornersM last avs).length : Int)) (by omega)
  refine ⟨times_lo t1.1 hr.1, ?_⟩
  unfold midP
  rw [qf_times t1.1 hr.1, t2, qf_red (by omega), Mo.su_map]
  have hnr : ((((cornersM last avs).length : Nat) : Int) : Rat) ≠ 0 := rc_ne (by omega)
  have : ((1 : Int) : Rat) = 1 := rfl
  rw [this]
  show _ = su (cornersM last avs) fun c => qf (c.getD p.toNat (0, 1))
  grind
theorem midM_len (C : List Wts) : (midM last C).length = last + 1 := by unfold midM; rw [List.length_map, intsL_len]
theorem midM_wf {C : List Wts} {p : Int} (hp : p ∈ Rw last) : (midM last C).getD p.toNat (0, 1) = midP C p := by
  have hp' := Mo.mem_Rw.mp hp
  have : (midM last C)[p.toNat]? = some (midP C p) := by
    unfold midM intsL
    rw [List.getElem?_map, List.getElem?_map, List.getElem?_range (by omega)]
    show some (midP C (0 + (p.toNat : Int))) = _
    rw [show (0 : Int) + (p.toNat : Int) = p by omega]
  rw [List.getD_eq_getElem?_getD, this]
  rfl
theorem midM_lo (hl : avs.length ≤ last) (ha : ∀ f ∈ avs, 0 < f.2) (hne : cornersM last avs ≠ []) : ∀ f ∈ midM last (cornersM last avs), Lo f := fun f hf => by
  obtain ⟨p, hp, rfl⟩ := List.mem_map.mp hf
  exact (mid_lo hl ha hne hp).1
theorem su_swap {α β : Type} (l : List α) (r : List β) (f : α → β → Rat) : su l (fun a => su r fun b => f a b) = su r fun b => su l fun a => f a b := by
  induction l with
  | nil => exact (Mo.su_zero fun b _ => rfl).symm
  | cons a l ih => rw [Mo.su_cons, ih, ← Mo.su_add]; rfl
theorem su_const {α : Type} (l : List α) (x : Rat) : su l (fun _ => x) = x * (((l.length : Nat) : Int) : Rat) := by
  induction l with
  | nil => show (0 : Rat) = x * ((0 : Int) : Rat); have : ((0 : Int) : Rat) = 0 := rfl; rw [this]; grind
  | cons a l ih =>
    rw [Mo.su_cons, ih, List.length_cons, show (((l.length + 1 : Nat) : Int)) = (l.length : Int) + 1 by omega, rc_add]
    have : ((1 : Int) : Rat) = 1 := rfl
    rw [this]; grind
/-- the middle has the averages -/
theorem mid_mom (hl : avs.length ≤ last) (ha : ∀ f ∈ avs, 0 < f.2) (hne : cornersM last avs ≠ []) {k : Nat} (hk : k ≤ avs.length) : mom (Rw last) (wf (midM last (cornersM last avs))) k = mo avs k := by
  have hn := List.length_pos_iff.mpr hne
  have hnr : ((((cornersM last avs).length : Nat) : Int) : Rat) ≠ 0 := rc_ne (by omega)
  have key : mom (Rw last) (wf (midM last (cornersM last avs))) k * ((((cornersM last avs).length : Nat) : Int) : Rat) = mo avs k * ((((cornersM last avs).length : Nat) : Int) : Rat) := by
    have e3 : (su (cornersM last avs) fun c => mom (Rw last) (wf c) k) = mo avs k * ((((cornersM last avs).length : Nat) : Int) : Rat) := by
      rw [← su_const]
      exact Mo.su_congr fun c hc => (corner_w hl ha hc).2 k hk
    rw [← e3]
    unfold Mo.mom
    rw [su_swap, Rat.mul_comm, ← Mo.su_mul]
    refine Mo.su_congr fun p hp => ?_
    rw [Mo.su_mul, ← (mid_lo hl ha hne hp).2]
    unfold wf
    rw [midM_wf hp]
    grind
  grind
/-- weights above 0 exactly at the possible places -/
theorem mid_pos (hl : avs.length ≤ last) (ha : ∀ f ∈ avs, 0 < f.2) (hne : cornersM last avs ≠ []) {p : Int} (hp : p ∈ Rw last) : (0 ≤ wf (midM last (cornersM last avs)) p) ∧ (0 < wf (midM last (cornersM last avs)) p ↔ ∃ c ∈ cornersM last avs, 0 < wf c p) := by
  have hn := List.length_pos_iff.mpr hne
  have hnp : (0 : Rat) < ((((cornersM last avs).length : Nat) : Int) : Rat) := rc_pos.mpr (by omega)
  have e : wf (midM last (cornersM last avs)) p * ((((cornersM last avs).length : Nat) : Int) : Rat) = su (cornersM last avs) fun c => wf c p := by
    rw [← (mid_lo hl ha hne hp).2]
    unfold wf
    rw [midM_wf hp]
  have nn : ∀ c ∈ cornersM last avs, 0 ≤ wf c p := fun c hc => (corner_w hl ha hc).1 p hp
  have s0 := Mo.su_nonneg nn
  have pos : 0 ≤ wf (midM last (cornersM last avs)) p := by
    refine Classical.byContradiction fun z => ?_
    have z : wf (midM last (cornersM last avs)) p < 0 := by grind
    have := Rat.mul_pos (show (0 : Rat) < - wf (midM last (cornersM last avs)) p by grind) hnp
    grind
  refine ⟨pos, fun h => Classical.byContradiction fun hno => ?_, fun ⟨c, hc, h⟩ => ?_⟩
  · have : (su (cornersM last avs) fun c => wf c p) = 0 := Mo.su_zero fun c hc => by
      have := nn c hc
      have : ¬ 0 < wf c p := fun z => hno ⟨c, hc, z⟩
      grind
    have := Rat.mul_pos h hnp
    grind
  · refine Classical.byContradiction fun z => ?_
    have z0 : wf (midM last (cornersM last avs)) p = 0 := by grind
    rw [z0] at e
    have := Mo.su_pos_zero nn (by rw [← e]; grind) c hc
    grind
end
end DD
namespace DD
open PySem PySem.Spec PyProof.Rows L2
/-! ### sorted of a list of nested tuples -/
mutual
theorem Rp.fun_ {G : Hp} : ∀ {v : V} {d e : PyData}, Rp G v d → Rp G v e → d = e
  | _, _, _, .non, h => by cases h; rfl
  | _, _, _, .bl b, h => by cases h; rfl
  | _, _, _, .int i, h => by cases h; rfl
  | _, _, _, .str x, h => by cases h; rfl
  | _, _, _, .lst h1 r1, h => by
    cases h with
    | lst h2 r2 => rw [h1] at h2; cases h2; rw [RpA.fun_ r1 r2]
    | tup h2 r2 => rw [h1] at h2; cases h2
  | _, _, _, .tup h1 r1, h => by
    cases h with
    | lst h2 r2 => rw [h1] at h2; cases h2
    | tup h2 r2 => rw [h1] at h2; cases h2; rw [RpA.fun_ r1 r2]
theorem RpA.fun_ {G : Hp} : ∀ {vs : List V} {ds es : List PyData}, RpA G vs ds → RpA G vs es → ds = es
  | _, _, _, .nil, h => by cases h; rfl
  | _, _, _, .cons h1 r1, h => by
    cases h with
    | cons h2 r2 => rw [Rp.fun_ h1 h2, RpA.fun_ r1 r2]
end
/-- the data at a value's address -/
noncomputable def dAt (G : Hp) : Value → PyData
  | .ref a => @Classical.epsilon PyData ⟨.none⟩ fun d => Rp G (.ref a) d
  | _ => .none
theorem dAt_eq {G : Hp} {a : Addr} {d : PyData} (h : Rp G (.ref a) d) : dAt G (.ref a) = d := Rp.fun_ (@Classical.epsilon_spec PyData (fun d => Rp G (.ref a) d) ⟨d, h⟩) h
/-- data that is a nested key, a tuple first -/
def TD (d : PyData) : Prop := ∃ k : NestedKey, TT k ∧ k.data = d
theorem TD.tup {d : PyData} (h : TD d) : ∃ f r, d = .tuple (.tuple f :: r) := by
  obtain ⟨k, ⟨f, r, rfl⟩, rfl⟩ := h
  exact ⟨NestedKey.datas f, NestedKey.datas r, rfl⟩
theorem td_total {x y : PyData} (hx : TD x) (hy : TD y) (ha : PySem.W.alike x y = true) (h1 : PySem.W.dataLt x y = false) (h2 : PySem.W.dataLt y x = false) : x = y := by
  obtain ⟨k, -, rfl⟩ := hx
  obtain ⟨l, -, rfl⟩ := hy
  rw [key_total ha h1 h2]
theorem vals_refs {G : Hp} : ∀ {vs : List V} {us : List Value} {ds : List PyData}, Vals vs us → RpA G vs ds → (∀ d ∈ ds, TD d) → (∀ u ∈ us, ∃ a, u = .ref a ∧ Rp G (.ref a) (dAt G u)) ∧ us.map (dAt G) = ds
  | [], _, _, .nil, .nil, _ => ⟨fun u hu => (by cases hu), rfl⟩
  | v :: vs, u :: us, d :: ds, .cons r1 r2, .cons p1 p2, h => by
    obtain ⟨i1, i2⟩ := vals_refs r2 p2 fun x hx => h x (List.mem_cons_of_mem _ hx)
    obtain ⟨f, r, e⟩ := (h d List.mem_cons_self).tup
    subst e
    cases p1 with
    | @tup a ws _ h1 h2 =>
      cases r1
      have hd : Rp G (.ref a) (.tuple (.tuple f :: r)) := .tup h1 h2
      have e := dAt_eq hd
      refine ⟨fun x hx => ?_, by rw [List.map_cons, i2, e]⟩
      rcases List.mem_cons.mp hx with z | z
      · subst z; exact ⟨a, rfl, by rw [e]; exact hd⟩
      · exact i1 x z
section
variable {X : Cx} {ρ : En} {a : Expr} {ds : List PyData} {pos : Pos}
/-- the values in their order, once they are in a new list -/
theorem sort_tail {pins : List (Addr × Obj)} {σ : L2.St} {G H : Hp} {s : Shared} {E : Value → Shared → Prop} {vs : List V} {us : List Value} {zs : List PyData} {Q : VK} (I : Inv X pins σ H s) (sub : Sub G H) (rv : Vals vs us) (rp : RpA G vs ds) (hT : ∀ d ∈ ds, TD d)
    (hal : ∀ a ∈ ds, ∀ b ∈ ds, PySem.W.alike a b = true) (hz : zs.Perm ds) (hs : zs.Pairwise fun x y => PySem.W.dataLt y x = false) (hd : ∀ d ∈ ds, d.depth ≤ 20) (hu : X.A.units + 64 < cLine) (hl : us.length ≤ sizeLine)
    (q : ∀ a ws, H a = none → RpA G ws zs → Q (.ref a) (upd H a (.lst ws))) :
    wpAny (model X.prog X.w) X.A.in1 (call (.builtin "list.sort") [.ref s.heap.objs.size]) (fun _ s' => EP X pins σ Q (.ref s.heap.objs.size) s') E { s with heap := s.heap.push (seqObj "list" us.toArray 0) } := by
  obtain ⟨hu1, hu2⟩ := vals_refs rv rp hT
  have hoL : (s.heap.push (seqObj "list" us.toArray 0)).get? s.heap.objs.size = some (seqObj "list" us.toArray 0) := Heap.get?_push_size _ rfl
  have hin : ∀ u ∈ us, dAt G u ∈ ds := fun u h => by rw [← hu2]; exact List.mem_map.mpr ⟨u, h, rfl⟩
  refine wpAny_call_entry PyProof.Rows.slot_list_sort ⟨_, hoL, rfl⟩ PyProof.Rows.entry_list_sort
    (SrtO.list_sort_ord (ltv := fun v u => PySem.W.dataLt (dAt G v) (dAt G u)) (s := { s with heap := s.heap.push (seqObj "list" us.toArray 0) }) (swo_data _) hoL hl (fun h2 => ?_) fun out g1 g2 => ⟨_, rfl, ?_⟩) (PyProof.Rows.args_list_sort _)
  · refine keys_sortable (by omega) (fun v hv => ?_) (fun h2 k2 v hv => ?_) (fun v hv u hu' => hal _ (hin v hv) _ (hin u hu')) (fun v hv => ?_)
    · obtain ⟨b, e, -⟩ := hu1 v hv
      obtain ⟨f, r, e2⟩ := (hT _ (hin v hv)).tup
      exact ⟨b, f, r, e, e2⟩
    · obtain ⟨b, e, rr⟩ := hu1 v hv
      subst e
      refine rp_reads I sub (fun c o ec => ?_) rr rfl
      have hb : c < s.heap.objs.size := Heap.lt_size ec
      exact k2 c o (Nat.ne_of_lt hb) (Heap.get?_push_of_some _ ec)
    · have := hd _ (hin v hv)
      show X.A.units + 1 + 1 + _ < cLine
      omega
  · have hperm : out.Perm us := g2.perm
    have hzs : out.map (dAt G) = zs := by
      refine sorted_uniq (lt := fun x y => PySem.W.dataLt x y) (fun x hx y hy a1 a2 => ?_) ?_ hs ((hperm.map _).trans (by rw [hu2]; exact hz.symm))
      · obtain ⟨u, hu', rfl⟩ := List.mem_map.mp hx
        obtain ⟨v, hv', rfl⟩ := List.mem_map.mp hy
        have mu := hin u (hperm.mem_iff.mp hu')
        have mv := hin v (hperm.mem_iff.mp hv')
        exact td_total (hT _ mu) (hT _ mv) (hal _ mu _ mv) a1 a2
      · rw [List.pairwise_map]; exact g1
    have hol : out.length ≤ sizeLine := by rw [hperm.length_eq]; exact hl
    obtain ⟨e', he'⟩ := PyProof.Rows.sortedHeap_at (vs := us) (out := out.toArray) hoL
    obtain ⟨ws, w1, w2⟩ : ∃ ws : List V, Vals ws out ∧ RpA G ws (out.map (dAt G)) := by
      have hr : ∀ u ∈ out, ∃ a, u = .ref a ∧ Rp G (.ref a) (dAt G u) := fun u h => hu1 u (hperm.mem_iff.mp h)
      clear he' hol hzs hperm g1 g2
      induction out with
      | nil => exact ⟨[], .nil, .nil⟩
      | cons u out ih =>
        obtain ⟨ws, w1, w2⟩ := ih fun x hx => hr x (List.mem_cons_of_mem _ hx)
        obtain ⟨b, e, rr⟩ := hr u List.mem_cons_self
        subst e
        exact ⟨.ref b :: ws, .cons rfl w1, .cons rr w2⟩
    rw [hzs] at w2
    refine ⟨.ref s.heap.objs.size, upd H s.heap.objs.size (.lst ws), I.laid (t' := s.toks) (fun b u e => ?_) (Nat.le_refl _) (show ObjOk X.prog X.w _ _ _ (.lst ws) from ⟨by rw [w1.length]; exact hol, out, e', w1, he'⟩), rfl, q _ _ (I.hok.fresh (Nat.le_refl _)) w2⟩
    have hb : b < s.heap.objs.size := Heap.lt_size e
    rw [PyProof.Rows.sortedHeap_old (Nat.ne_of_lt hb) (by rw [size_push']; exact Nat.lt_succ_of_lt hb)]
    exact Heap.get?_push_of_some _ e
theorem sort_list {pins : List (Addr × Obj)} {σ : L2.St} {G H : Hp} {s : Shared} {E : Value → Shared → Prop} {l : Addr} {vs : List V} {zs : List PyData} {Q : VK} (I : Inv X pins σ H s) (sub : Sub G H) (hx : SqL X.K H l vs) (rp : RpA G vs ds) (hT : ∀ d ∈ ds, TD d)
    (hal : ∀ a ∈ ds, ∀ b ∈ ds, PySem.W.alike a b = true) (hz : zs.Perm ds) (hs : zs.Pairwise fun x y => PySem.W.dataLt y x = false) (hd : ∀ d ∈ ds, d.depth ≤ 20) (hu : X.A.units + 64 < cLine) (hl : ds.length ≤ 1000)
    (q : ∀ a ws, H a = none → RpA G ws zs → Q (.ref a) (upd H a (.lst ws))) :
    wpAny (model X.prog X.w) X.A (call (.builtin "sorted") [.ref l]) (EP X pins σ Q) E s := by
  obtain ⟨its, rv, pl, hsz⟩ := I.list hx
  have hlen : its.length ≤ 1000 := by rw [← rv.length, rp.length]; exact hl
  refine Calls.call_function_entry PyProof.Rows.kind_sorted PyProof.Rows.plain_sorted PyProof.Rows.entry_sorted (PyProof.Rows.args_sorted1 _) ?_
  unfold Builtin.«sorted»
  refine wpAny_bind (m := checkCount "sorted" 1 1 _) (wpAny_pure ?_)
  refine wpAny_bind (collect_list pl.isList ?_ (by rw [sizeLine_eq]; omega))
  refine wpAny_bind (wpAny_newList ?_ (by rw [sizeLine_eq]; omega))
  have keep : ∀ b o, s.heap.get? b = some o → ((s.heap.push (seqObj "list" #[] 0)).update s.heap.objs.size (Obj.mapSeq (· ++ its.toArray))).get? b = some o := fun b o e => by
    have hlt : b < s.heap.objs.size := Heap.lt_size e
    rw [Heap.get?_update_ne _ _ _ _ (Nat.ne_of_lt hlt), Heap.get?_push_ne _ _ _ (Nat.ne_of_lt hlt)]
    exact e
  have I1 : Inv X pins σ H { s with heap := (s.heap.push (seqObj "list" #[] 0)).update s.heap.objs.size (Obj.mapSeq (· ++ its.toArray)), toks := s.toks } := I.kept keep
  show wpAny _ _ _ _ _ { s with heap := ((s.heap.push (seqObj "list" #[] 0)).update s.heap.objs.size (Obj.mapSeq (· ++ its.toArray))).push (seqObj "list" its.toArray 0) }
  refine wpAny_bind (wpAny_holding (wpAny_mono (sort_tail I1 sub rv rp hT hal hz hs hd hu (by rw [sizeLine_eq]; omega) q) (fun v s' h => ?_) fun e s' h => h))
  exact wpAny_pure ⟨_, rfl, h⟩
def rSortL (X : Cx) : List V → Hp → VK → Prop := fun vs H Q => ∃ (l : Addr) (xs : List V) (ds zs : List PyData) (G : Hp), vs = [.ref l] ∧ SqL X.K H l xs ∧ Sub G H ∧ RpA G xs ds ∧ (∀ d ∈ ds, TD d) ∧ (∀ a ∈ ds, ∀ b ∈ ds, PySem.W.alike a b = true) ∧ zs.Perm ds ∧ (zs.Pairwise fun x y => PySem.W.dataLt y x = false) ∧ (∀ d ∈ ds, d.depth ≤ 20) ∧ ds.length ≤ 1000 ∧
  ∀ a ws, H a = none → RpA G ws zs → Q (.ref a) (upd H a (.lst ws))
theorem cr_sortL (hu : X.A.units + 64 < cLine) : CallR X (.builtin "sorted") (rSortL X) := by
  intro pins s σ H vs us Q I r h
  obtain ⟨l, xs, ds, zs, G, rfl, h1, h2, h3, h4, h5, h6, h7, h8, h9, q⟩ := h
  cases r with
  | cons r rr =>
    cases rr
    cases r
    exact sort_list I h2 h1 h3 h4 h5 h6 h7 h8 hu h9 q
/-- sorted(a list of nested tuples) -/
theorem dl_sortL {p : Pos} {zs : List PyData} (hm : X.mg "sorted" = none) (ha : DE X ρ a (.list ds)) (hT : ∀ d ∈ ds, TD d) (hal : ∀ a ∈ ds, ∀ b ∈ ds, PySem.W.alike a b = true) (hz : zs.Perm ds) (hs : zs.Pairwise fun x y => PySem.W.dataLt y x = false) (hd : ∀ d ∈ ds, d.depth ≤ 20) (hl : ds.length ≤ 1000) (hu : X.A.units + 64 < cLine) (hg : Gl X "sorted" := by rfl)
    (he : starEach [a] X.env = (false, eval a X.env) :: starEach [] X.env := by rfl) (hpl : (backTo pos (starEach ([] : List Expr) X.env)).any (·.1) = false := by rfl) : DL X ρ (.Call (.Name "sorted" p) [a] [] pos) zs := .mk fun H₀ G H σ Q S q pins s I =>
  (pe_callB (pos := pos) (cr_sortL hu) hg hm (by decide +kernel) (pa_cons pe_D pa_nil he) (by decide) (by decide) he hpl).run pins s σ H Q I (ha H₀ G H σ _ S fun v G1 H1 e1 r1 => by
    cases r1 with
    | @lst q1 ws _ h1 h2 =>
      refine ⟨q1, ws, ds, zs, G1, rfl, .of (e1.gh _ _ h1), e1.gh, h2, hT, hal, hz, hs, hd, hl, fun b us hb rb => ?_⟩
      have gb : G1 b = none := free_back e1.gh hb
      exact q b us G1 _ ⟨e1.gg, fun c u e => by rw [upd_ne (ne_of_none (e1.hh _ _ e) hb)]; exact e1.hh _ _ e, fun c u e => by rw [upd_ne (ne_of_none e gb)]; exact e1.gh _ _ e, e1.nw⟩ (free_back e1.hh hb) gb upd_same rb)
/-- sorted(a list of whole numbers) -/
theorem dl_sortI {p : Pos} {ns zs : List Int} (hm : X.mg "sorted" = none) (ha : DE X ρ a (.list (ns.map .int))) (hz : zs.Perm ns) (hs : zs.Pairwise (· ≤ ·)) (hl : ns.length < 64) (hg : Gl X "sorted" := by rfl)
    (he : starEach [a] X.env = (false, eval a X.env) :: starEach [] X.env := by rfl) (hpl : (backTo pos (starEach ([] : List Expr) X.env)).any (·.1) = false := by rfl) : DL X ρ (.Call (.Name "sorted" p) [a] [] pos) (zs.map .int) := .mk fun H₀ G H σ Q S q pins s I =>
  (pe_callB (pos := pos) cr_sorted hg hm (by decide +kernel) (pa_cons pe_D pa_nil he) (by decide) (by decide) he hpl).run pins s σ H Q I (ha H₀ G H σ _ S fun v G1 H1 e1 r1 => by
    cases r1 with
    | @lst q1 ws _ h1 h2 =>
      have ew := rpA_ints h2
      subst ew
      refine ⟨_, ns, rfl, .of (e1.gh _ _ h1), hl, fun ns' b hp hw hb => ?_⟩
      have le : ∀ {l : List Int}, l.Pairwise (· ≤ ·) → l.Pairwise fun x y => decide (y < x) = false := fun h => h.imp fun h => decide_eq_false (by omega)
      have e : ns' = zs := sorted_uniq (lt := fun x y => decide (x < y)) (fun x _ y _ a1 a2 => by have a1 := of_decide_eq_false a1; have a2 := of_decide_eq_false a2; omega) (le hw) (le hs) (hp.trans hz.symm)
      subst e
      have gb : G1 b = none := free_back e1.gh hb
      exact q b _ G1 _ ⟨e1.gg, fun c u e => by rw [upd_ne (ne_of_none (e1.hh _ _ e) hb)]; exact e1.hh _ _ e, fun c u e => by rw [upd_ne (ne_of_none e gb)]; exact e1.gh _ _ e, e1.nw⟩ (free_back e1.hh hb) gb upd_same (rpA_mapInt _))
end
end DD
namespace DD
open PySem PySem.Spec PyProof.Rows L2
/-! ### tuple[::-1] -/
section
variable {prog : Program} {w : World} {A : Around} {E : Value → Shared → Prop} {s : Shared}
theorem adjust_rev (n : Nat) : Builtin.Slice.sliceAdjust none none (-1) (n : Int) = ((n : Int) - 1, -1) := rfl
theorem places_rev (n : Nat) : Builtin.Slice.slicePlaces ((n : Int) - 1) (-1) (-1) = n := by
  unfold Builtin.Slice.slicePlaces
  rw [if_neg (by omega)]
  split
  · rw [show (- -1 : Int) = 1 by decide, Int.ediv_one]; omega
  · omega
theorem fm_congr {α β : Type} {f g : α → Option β} : ∀ {l : List α}, (∀ x ∈ l, f x = g x) → l.filterMap f = l.filterMap g
  | [], _ => rfl
  | x :: l, h => by rw [List.filterMap_cons, List.filterMap_cons, h x List.mem_cons_self, fm_congr fun y hy => h y (List.mem_cons_of_mem _ hy)]
theorem pick_rev (xs : Array Value) : ((List.range xs.size).filterMap fun (m : Nat) => xs[(((xs.size : Int) - 1) + (m : Int) * -1).toNat]?).toArray = xs.toList.reverse.toArray := by
  have h := PySem.W.krv_all xs
  have e : (List.range xs.size).filterMap (fun (m : Nat) => xs[(((xs.size : Int) - 1) + (m : Int) * -1).toNat]?) = ((List.range xs.size).map fun k => xs.size - 1 - k).filterMap (xs[·]?) := by
    rw [List.filterMap_map]
    refine fm_congr fun m hm => ?_
    have := List.mem_range.mp hm
    show xs[(((xs.size : Int) - 1) + (m : Int) * -1).toNat]? = xs[xs.size - 1 - m]?
    rw [show (((xs.size : Int) - 1) + (m : Int) * -1).toNat = xs.size - 1 - m by omega]
  rw [e, PySem.W.krv_range, List.filterMap_reverse, h]
theorem sliceApplied_rev {sl : Addr} {vs : Value} {n : Nat} {Q : Int × Int × Nat → Shared → Prop} (hs : s.heap.IsSliceOf sl .none .none vs) (ps : IsPart vs (some (-1)))
    (h : Q ((n : Int) - 1, -1, n) s) : wpAny (model prog w) A (Builtin.Slice.sliceApplied (.ref sl) (pure (n : Int))) Q E s := by
  obtain ⟨os, hos, hcs, hds⟩ := id hs
  unfold Builtin.Slice.sliceApplied Builtin.Slice.sliceFields
  refine wpAny_bind (wpAny_bind (wpAny_field hos hds (x := .none) rfl (wpAny_bind (wpAny_field hos hds (x := .none) rfl (wpAny_bind (wpAny_field hos hds (x := vs) rfl (wpAny_pure ?_)))))))
  refine wpAny_bind (HT.slicePart_ ps ?_)
  show wpAny _ _ (if ((-1 : Int) == 0) = true then _ else _) _ _ s
  rw [if_neg (by decide)]
  refine wpAny_bind (slicePart_none (wpAny_bind (slicePart_none (wpAny_bind (wpAny_pure ?_)))))
  show wpAny _ _ (match Builtin.Slice.sliceAdjust none none (-1) (n : Int) with | (lo, hi) => pure (lo, (-1 : Int), Builtin.Slice.slicePlaces lo hi (-1))) _ _ s
  rw [adjust_rev n]
  show wpAny _ _ (pure ((n : Int) - 1, (-1 : Int), Builtin.Slice.slicePlaces ((n : Int) - 1) (-1) (-1))) _ _ s
  rw [places_rev]
  exact wpAny_pure h
theorem getItem_tuple_rev {t sl : Addr} {items : Array Value} {vs : Value} {Q : Value → Shared → Prop} (ht : IsTup s.heap t items) (hs : s.heap.IsSliceOf sl .none .none vs) (ps : IsPart vs (some (-1)))
    (h : Q (.ref s.heap.objs.size) { s with heap := s.heap.push { cls := .type "tuple", data := .seq items.toList.reverse.toArray } })
    (hsz : items.size ≤ sizeLine) : wpAny (model prog w) A (getItem (.ref t) (.ref sl)) Q E s := by
  have htake : sizeOk (.seq items.toList.reverse.toArray) := by
    show items.toList.reverse.toArray.size ≤ sizeLine
    rw [List.size_toArray, List.length_reverse, Array.length_toList]
    exact hsz
  obtain ⟨os, hos, hcs, hds⟩ := id hs
  have hTs : s.TypeIs (.ref sl) "slice" := ⟨os, hos, hcs⟩
  unfold getItem
  try with_reducible refine wpAny_holding ?_
  first | refine wpAny_bind (wpAny_pure ?_) | skip
  refine wpAny_bind (wpAny_sequenceKey ht.typeIs (by decide) ?_)
  refine wpAny_bind (wpAny_callSpecial?_slot (name := Str.ofString "__getitem__") ht.typeIs PyProof.Rows.slot_tuple_getitem
    (wpAny_call_entry PyProof.Rows.slot_tuple_getitem ht.typeIs entry_tuple_getitem ?_ (args_tuple_getitem _ _)))
  show wpAny _ _ (Builtin.Tuple.tupleItemsOf (.ref t) >>= _) _ _ s
  refine wpAny_bind (tupleItemsOf_ ht ?_)
  refine wpAny_bind (wpAny_typeOf hTs ?_)
  rw [if_pos (by decide)]
  refine wpAny_bind (sliceApplied_rev hs ps ?_)
  show wpAny _ _ (if ((((items.size : Int) - 1) == 0) && ((-1 : Int) == 1) && (items.size == items.size)) = true then _ else _) _ _ s
  rw [if_neg (by rw [show ((-1 : Int) == 1) = false from rfl, Bool.and_false, Bool.false_and]; exact Bool.false_ne_true), pick_rev]
  first
    | exact wpAny_bind (m := Builtin.Tuple.tupleExact _) (wpAny_newObj_type (wpAny_pure ⟨_, rfl, wpAny_pure h⟩) htake)
    | exact wpAny_bind (m := Builtin.Tuple.tupleExact _) (wpAny_newObj_type (wpAny_bind (wpAny_pure (wpAny_pure ⟨_, rfl, wpAny_pure h⟩))) htake)
    | exact wpAny_bind (wpAny_bind (m := Builtin.Tuple.tupleExact _) (wpAny_newObj_type (wpAny_pure (wpAny_pure ⟨_, rfl, wpAny_pure h⟩)) htake))
    | exact wpAny_bind (wpAny_bind (m := Builtin.Tuple.tupleExact _) (wpAny_newObj_type (wpAny_pure ⟨_, rfl, wpAny_pure h⟩) htake))
end
def tRevT (K : PySem.W.Frag) (te : TE) : TE := fun σ H Q => te σ H fun x H1 => ∃ a xs, x = .ref a ∧ SqT K H1 a xs ∧ ∀ p, H1 p = none → Q (.ref p) (upd H1 p (.tup xs.reverse))
section
variable {X : Cx}
theorem pe_revT {e : Expr} {te : TE} {k : Nat} {p1 p2 p3 pos : Pos} (he : PE X e te) : PE X (.Subscript e (.Slice none none (some (.UnaryOp .USub (.Constant (.int 1) k p1) p2)) p3) pos) (tRevT X.K te) := by
  refine ⟨fun pins s σ H Q I h => ?_⟩
  refine Subscript_ (thn (he.run pins s σ H _ I h) fun v s1 ⟨x, H1, I1, r1, q1⟩ => ?_)
  obtain ⟨a, xs, ex, hx, q⟩ := q1
  subst ex
  cases r1
  have hst : PO X (some (.UnaryOp .USub (.Constant (.int 1) k p1) p2)) (tPart (tUn (rU fun i => .int (-i)) (tC (.int 1)))) := po_some (pe_un un_neg pe_int)
  refine wpAny_Slice (thn (po_none.run pins s1 σ H1 (fun o H2 => o = none ∧ H2 = H1) I1 ⟨rfl, rfl⟩) fun vl s2 ⟨l, H2, I2, pl, el, e2⟩ => ?_)
  subst el e2
  refine thn (po_none.run pins s2 σ H2 (fun o H3 => o = none ∧ H3 = H2) I2 ⟨rfl, rfl⟩) fun vu s3 ⟨u, H3, I3, pu, eu, e3⟩ => ?_
  subst eu e3
  refine thn (hst.run pins s3 σ H3 (fun o H4 => o = some (-1) ∧ H4 = H3) I3 ⟨1, rfl, -1, rfl, rfl, rfl⟩) fun vs s4 ⟨o, H4, I4, ps, eo, e4⟩ => ?_
  subst eo e4
  cases pl
  cases pu
  have I5 : Inv X pins σ H4 { s4 with heap := s4.heap.push { cls := .type "slice", data := .fields #[.none, .none, vs] } } := I4.kept (t' := s4.toks) fun b ob q => Heap.get?_push_of_some _ q
  obtain ⟨its, r, ht, hz⟩ := I5.tuple hx
  have hlen := r.length
  show wpAny (model X.prog X.w) X.A (subscriptTail e (.Slice none none (some (.UnaryOp .USub (.Constant (.int 1) k p1) p2)) p3) (.ref a) (.ref s4.heap.objs.size)) (EP X pins σ Q) X.xe { s4 with heap := s4.heap.push { cls := .type "slice", data := .fields #[.none, .none, vs] } }
  refine tail_any (ops := [.ref a, .ref s4.heap.objs.size]) ht.typeIs (PyProof.Rows.slot_tuple_getitem.lookup) ?_ (by with_unfolding_all rfl)
  refine getItem_tuple_rev ht (Heap.IsSliceOf.new _ .none .none vs) ps ?_ (by rw [List.size_toArray]; omega)
  refine ⟨.ref _, _, I5.laid (t' := s4.toks) (o := .tup xs.reverse) (fun b ob q => Heap.get?_push_of_some _ q) (Nat.le_refl _) ?_, rfl, q _ (I5.hok.fresh (Nat.le_refl _))⟩
  exact ⟨by rw [List.length_reverse]; exact hz, _, r.reverse, IsTup.new _ _⟩
variable {ρ : En} {a b : Expr} {ds : List PyData} {pos : Pos}
theorem rpA_app {G : Hp} : ∀ {vs us : List V} {ds es : List PyData}, RpA G vs ds → RpA G us es → RpA G (vs ++ us) (ds ++ es)
  | _, _, _, _, .nil, h => h
  | _, _, _, _, .cons h1 h2, h => .cons h1 (rpA_app h2 h)
theorem rpA_rev {G : Hp} : ∀ {vs : List V} {ds : List PyData}, RpA G vs ds → RpA G vs.reverse ds.reverse
  | _, _, .nil => .nil
  | _, _, .cons h1 h2 => by
    rw [List.reverse_cons, List.reverse_cons]
    exact rpA_app (rpA_rev h2) (.cons h1 .nil)
theorem de_revT {k : Nat} {p1 p2 p3 : Pos} (ha : DE X ρ a (.tuple ds)) : DE X ρ (.Subscript a (.Slice none none (some (.UnaryOp .USub (.Constant (.int 1) k p1) p2)) p3) pos) (.tuple ds.reverse) :=
  de_of (pe_revT pe_D) fun H₀ G H σ Q S q => by
    refine ha H₀ G H σ _ S fun v G1 H1 e1 r1 => ?_
    cases r1 with
    | @tup q1 ws _ h1 h2 =>
      refine ⟨_, _, rfl, .of (e1.gh _ _ h1), fun l hl => ?_⟩
      have e4 := Ext.new (o := .tup ws.reverse) e1.gh hl
      exact q _ _ _ (e1.trans e4) (.tup upd_same (rpA_rev (h2.up e4.gg)))
end
end DD
namespace DD
open PySem PySem.Spec PyProof.Rows L2
open Mo (su mom Rw NN shr shfs pr oth)
/-! ### turned around -/
def wayT : List (List Int) := [[1], [1, 1], [1, 2, 1], [1, 3, 3, 1]]
def sgnT (a : Int) : Int := if a % 2 = 0 then 1 else -1
def wayM (e a : Nat) : Int := (wayT.getD e []).getD a 0
def partT (last : Nat) (rows : Wts) (e a : Int) : Int × Int := timesM (sgnT a * wayM e.toNat a.toNat * (last : Int) ^ (e - a).toNat, 1) (rows.getD a.toNat (0, 1))
def turnE (last : Nat) (avs : Wts) (e : Int) : Int × Int := totalM ((intsL 0 (e.toNat + 1)).map (partT last ((1, 1) :: avs) e))
def turnM (last : Nat) (avs : Wts) : Wts := (intsL 1 avs.length).map (turnE last avs)
def S__law_turned (ds : List PyData) (o : Out) : Prop := ∃ (last : Nat) (avs : Wts) (n : Nat), ds = [.int (last : Int), encL avs] ∧ last ≤ 6 ∧ avs.length ≤ 3 ∧ (∀ f ∈ avs, Fz n f) ∧ 1 ≤ n ∧ n ≤ 1000 ∧ o = .ret (encL (turnM last avs))
theorem way_bd : ∀ e a : Fin 4, (wayM e.val a.val).natAbs ≤ 3 := by decide
theorem fac_bd {last e a : Nat} (h6 : last ≤ 6) (he : e ≤ 3) (ha : a ≤ e) : (sgnT (a : Int) * wayM e a * (last : Int) ^ ((e : Int) - (a : Int)).toNat).natAbs < 2 ^ 64 := by
  rw [Int.natAbs_mul, Int.natAbs_mul, Int.natAbs_pow, Int.natAbs_natCast]
  have h1 : (sgnT (a : Int)).natAbs = 1 := by unfold sgnT; split <;> rfl
  have h2 := way_bd ⟨e, by omega⟩ ⟨a, by omega⟩
  have h3 : last ^ ((e : Int) - (a : Int)).toNat ≤ 6 ^ 3 := Nat.le_trans (Nat.pow_le_pow_left h6 _) (Nat.pow_le_pow_right (by decide) (by omega))
  have h2 : (wayM e a).natAbs ≤ 3 := h2
  rw [h1, Nat.one_mul]
  have := Nat.mul_le_mul h2 h3
  omega
theorem row_fz {n : Nat} {avs : Wts} (h : ∀ f ∈ avs, Fz n f) (hn : 1 ≤ n) (i : Nat) : Fz n (((1, 1) :: avs).getD i (0, 1)) := getD_size (fun f hf => by
  rcases List.mem_cons.mp hf with e | e
  · subst e; exact (show Fz 1 ((1, 1) : Int × Int) from ⟨by decide, by decide, by decide⟩).up hn
  · exact h f e) hn i
theorem turn_len (last : Nat) (avs : Wts) : (turnM last avs).length = avs.length := by unfold turnM; rw [List.length_map, intsL_len]
theorem part_size {n last e : Nat} {avs : Wts} (h6 : last ≤ 6) (he : e ≤ 3) (h : ∀ f ∈ avs, Fz n f) (hn : 1 ≤ n) {a : Int} (ha : a ∈ intsL 0 (e + 1)) : Fz (64 + n) (partT last ((1, 1) :: avs) (e : Int) a) := by
  have ha := intsL_mem ha
  unfold partT
  refine timesM_size ⟨by show (0 : Int) < 1; decide, ?_, by show (1 : Int).natAbs < 2 ^ 64; decide⟩ (row_fz h hn _)
  have := fac_bd h6 he (show a.toNat ≤ e by omega)
  rw [Int.toNat_natCast]
  rw [show ((a.toNat : Nat) : Int) = a by omega] at this
  exact this
theorem turnE_size {n last e : Nat} {avs : Wts} (h6 : last ≤ 6) (he : e ≤ 3) (h : ∀ f ∈ avs, Fz n f) (hn : 1 ≤ n) : Fz ((64 + n + 1) * 4 + 1) (turnE last avs (e : Int)) := by
  unfold turnE
  have := totalM_size (n := 64 + n) ((intsL 0 ((e : Int).toNat + 1)).map (partT last ((1, 1) :: avs) (e : Int))) (fun f hf => by
    obtain ⟨a, ha, rfl⟩ := List.mem_map.mp hf
    rw [Int.toNat_natCast] at ha
    exact part_size h6 he h hn ha)
  rw [List.length_map, intsL_len, Int.toNat_natCast] at this
  refine this.up ?_
  have : (64 + n + 1) * (e + 1) ≤ (64 + n + 1) * 4 := Nat.mul_le_mul_left _ (by omega)
  omega
theorem turnM_size {n last : Nat} {avs : Wts} (h6 : last ≤ 6) (h3 : avs.length ≤ 3) (h : ∀ f ∈ avs, Fz n f) (hn : 1 ≤ n) : ∀ f ∈ turnM last avs, Fz ((64 + n + 1) * 4 + 1) f := fun f hf => by
  unfold turnM at hf
  obtain ⟨e, he, rfl⟩ := List.mem_map.mp hf
  have he := intsL_mem he
  have := turnE_size (e := e.toNat) h6 (by omega) h hn
  rwa [show ((e.toNat : Nat) : Int) = e by omega] at this
/-! the numbers -/
def tq (L : Rat) (m : Nat → Rat) : Nat → Rat
  | 1 => L * m 0 - m 1
  | 2 => L * L * m 0 - 2 * L * m 1 + m 2
  | 3 => L * L * L * m 0 - 3 * (L * L) * m 1 + 3 * L * m 2 - m 3
  | _ => m 0
theorem mo_row {avs : Wts} (k : Nat) : qf (((1, 1) :: avs).getD k (0, 1)) = mo avs k := by
  cases k with
  | zero => exact qf_one
  | succ k => rfl
theorem row_pos {avs : Wts} (ha : ∀ f ∈ avs, 0 < f.2) (k : Nat) : 0 < (((1, 1) :: avs).getD k (0, 1)).2 := by
  by_cases hk : k < ((1, 1) :: avs).length
  · rw [getD_in hk]
    rcases List.mem_cons.mp (List.getElem_mem hk) with e | e
    · rw [e]; decide
    · exact ha _ e
  · rw [getD_out (by omega)]; decide
theorem part_lo {last : Nat} {avs : Wts} (ha : ∀ f ∈ avs, 0 < f.2) (e a : Int) : Lo (partT last ((1, 1) :: avs) e a) ∧ qf (partT last ((1, 1) :: avs) e a) = ((sgnT a * wayM e.toNat a.toNat * (last : Int) ^ (e - a).toNat : Int) : Rat) * mo avs a.toNat := by
  have h1 : (0 : Int) < ((sgnT a * wayM e.toNat a.toNat * (last : Int) ^ (e - a).toNat, 1) : Int × Int).2 := by show (0 : Int) < 1; decide
  have h2 := row_pos ha a.toNat
  refine ⟨times_lo h1 h2, ?_⟩
  unfold partT
  rw [qf_times h1 h2, qf_int, mo_row]
theorem turnE_lo {last : Nat} {avs : Wts} (ha : ∀ f ∈ avs, 0 < f.2) (e : Int) : Lo (turnE last avs e) ∧ qf (turnE last avs e) = su (intsL 0 (e.toNat + 1)) fun a => ((sgnT a * wayM e.toNat a.toNat * (last : Int) ^ (e - a).toNat : Int) : Rat) * mo avs a.toNat := by
  obtain ⟨h1, h2⟩ := total_lo (fs := (intsL 0 (e.toNat + 1)).map (partT last ((1, 1) :: avs) e)) fun f hf => by
    obtain ⟨a, -, rfl⟩ := List.mem_map.mp hf
    exact (part_lo ha e a).1.1
  refine ⟨h1, ?_⟩
  unfold turnE
  rw [h2, Mo.su_map]
  exact Mo.su_congr fun a _ => (part_lo ha e a).2
theorem turnM_lo {last : Nat} {avs : Wts} (ha : ∀ f ∈ avs, 0 < f.2) : ∀ f ∈ turnM last avs, Lo f := fun f hf => by
  unfold turnM at hf
  obtain ⟨e, -, rfl⟩ := List.mem_map.mp hf
  exact (turnE_lo ha e).1
theorem turnM_at {last : Nat} {avs : Wts} {k : Nat} (h : k < avs.length) : (turnM last avs).getD k (0, 1) = turnE last avs ((k + 1 : Nat) : Int) := by
  have : (turnM last avs)[k]? = some (turnE last avs ((k + 1 : Nat) : Int)) := by
    unfold turnM intsL
    rw [List.getElem?_map, List.getElem?_map, List.getElem?_range h]
    show some (turnE last avs (1 + (k : Int))) = _
    rw [show (1 : Int) + (k : Int) = ((k + 1 : Nat) : Int) by omega]
  rw [List.getD_eq_getElem?_getD, this]
  rfl
theorem mo_turn {last : Nat} {avs : Wts} (ha : ∀ f ∈ avs, 0 < f.2) {k : Nat} (hk : k ≤ avs.length) (h3 : k ≤ 3) : mo (turnM last avs) k = tq ((last : Int) : Rat) (mo avs) k := by
  have h0 : mo avs 0 = 1 := by unfold mo; rw [if_pos rfl]
  rcases (show k = 0 ∨ k = 1 ∨ k = 2 ∨ k = 3 by omega) with e | e | e | e
  · subst e
    show mo _ 0 = mo avs 0
    rw [h0]; unfold mo; rw [if_pos rfl]
  · subst e
    have e1 : mo (turnM last avs) 1 = qf ((turnM last avs).getD 0 (0, 1)) := rfl
    have e2 : (su (intsL 0 (((0 + 1 : Nat) : Int).toNat + 1)) fun a => ((sgnT a * wayM ((0 + 1 : Nat) : Int).toNat a.toNat * (last : Int) ^ (((0 + 1 : Nat) : Int) - a).toNat : Int) : Rat) * mo avs a.toNat) = ((1 * 1 * (last : Int) ^ 1 : Int) : Rat) * mo avs 0 + (((-1 * 1 * (last : Int) ^ 0 : Int) : Rat) * mo avs 1 + 0) := rfl
    rw [e1, turnM_at (by omega), (turnE_lo ha _).2, e2]
    simp only [Rat.intCast_mul, Rat.intCast_pow, Rat.intCast_neg, tq]
    have : ((1 : Int) : Rat) = 1 := rfl
    grind
  · subst e
    have e1 : mo (turnM last avs) 2 = qf ((turnM last avs).getD 1 (0, 1)) := rfl
    have e2 : (su (intsL 0 (((1 + 1 : Nat) : Int).toNat + 1)) fun a => ((sgnT a * wayM ((1 + 1 : Nat) : Int).toNat a.toNat * (last : Int) ^ (((1 + 1 : Nat) : Int) - a).toNat : Int) : Rat) * mo avs a.toNat) = ((1 * 1 * (last : Int) ^ 2 : Int) : Rat) * mo avs 0 + (((-1 * 2 * (last : Int) ^ 1 : Int) : Rat) * mo avs 1 + (((1 * 1 * (last : Int) ^ 0 : Int) : Rat) * mo avs 2 + 0)) := rfl
    rw [e1, turnM_at (by omega), (turnE_lo ha _).2, e2]
    simp only [Rat.intCast_mul, Rat.intCast_pow, Rat.intCast_neg, tq]
    have : ((1 : Int) : Rat) = 1 := rfl
    have : ((2 : Int) : Rat) = 2 := rfl
    grind
  · subst e
    have e1 : mo (turnM last avs) 3 = qf ((turnM last avs).getD 2 (0, 1)) := rfl
    have e2 : (su (intsL 0 (((2 + 1 : Nat) : Int).toNat + 1)) fun a => ((sgnT a * wayM ((2 + 1 : Nat) : Int).toNat a.toNat * (last : Int) ^ (((2 + 1 : Nat) : Int) - a).toNat : Int) : Rat) * mo avs a.toNat) = ((1 * 1 * (last : Int) ^ 3 : Int) : Rat) * mo avs 0 + (((-1 * 3 * (last : Int) ^ 2 : Int) : Rat) * mo avs 1 + (((1 * 3 * (last : Int) ^ 1 : Int) : Rat) * mo avs 2 + (((-1 * 1 * (last : Int) ^ 0 : Int) : Rat) * mo avs 3 + 0))) := rfl
    rw [e1, turnM_at (by omega), (turnE_lo ha _).2, e2]
    simp only [Rat.intCast_mul, Rat.intCast_pow, Rat.intCast_neg, tq]
    have : ((1 : Int) : Rat) = 1 := rfl
    have : ((3 : Int) : Rat) = 3 := rfl
    grind

theorem tq_tq (L : Rat) (m m' : Nat → Rat) {d k : Nat} (hk : k ≤ d) (h3 : k ≤ 3) (h : ∀ j, j ≤ d → m' j = tq L m j) : tq L m' k = m k := by
  have h0 : m' 0 = m 0 := h 0 (by omega)
  rcases (show k = 0 ∨ k = 1 ∨ k = 2 ∨ k = 3 by omega) with e | e | e | e
  · subst e; exact h0
  · subst e
    have h1 : m' 1 = L * m 0 - m 1 := h 1 (by omega)
    show L * m' 0 - m' 1 = m 1
    grind
  · subst e
    have h1 : m' 1 = L * m 0 - m 1 := h 1 (by omega)
    have h2 : m' 2 = L * L * m 0 - 2 * L * m 1 + m 2 := h 2 (by omega)
    show L * L * m' 0 - 2 * L * m' 1 + m' 2 = m 2
    grind
  · subst e
    have h1 : m' 1 = L * m 0 - m 1 := h 1 (by omega)
    have h2 : m' 2 = L * L * m 0 - 2 * L * m 1 + m 2 := h 2 (by omega)
    have h3 : m' 3 = L * L * L * m 0 - 3 * (L * L) * m 1 + 3 * L * m 2 - m 3 := h 3 (by omega)
    show L * L * L * m' 0 - 3 * (L * L) * m' 1 + 3 * L * m' 2 - m' 3 = m 3
    grind
theorem mo_inj {a b : Wts} (hl : a.length = b.length) (ha : ∀ f ∈ a, Lo f) (hb : ∀ f ∈ b, Lo f) (h : ∀ k, k ≤ a.length → mo a k = mo b k) : a = b := by
  apply List.ext_getElem hl
  intro i h1 h2
  have := h (i + 1) (by omega)
  have e : ∀ c : Wts, mo c (i + 1) = qf (c.getD i (0, 1)) := fun c => rfl
  rw [e, e, getD_in h1, getD_in h2] at this
  exact lo_inj (ha _ (List.getElem_mem h1)) (hb _ (List.getElem_mem h2)) this
theorem turn_turn {last : Nat} {avs : Wts} (h3 : avs.length ≤ 3) (ha : ∀ f ∈ avs, Lo f) : turnM last (turnM last avs) = avs := by
  have hp : ∀ f ∈ avs, 0 < f.2 := fun f hf => (ha f hf).1
  have hp2 : ∀ f ∈ turnM last avs, 0 < f.2 := fun f hf => (turnM_lo hp f hf).1
  refine mo_inj (by rw [turn_len, turn_len]) (turnM_lo hp2) ha fun k hk => ?_
  rw [turn_len, turn_len] at hk
  rw [mo_turn hp2 (by rw [turn_len]; exact hk) (by omega)]
  exact tq_tq _ (mo avs) _ (d := avs.length) hk (by omega) fun j hj => mo_turn hp hj (by omega)
/-! mirrored weights -/
theorem Rw_turn (last : Nat) : (Rw last).Perm ((Rw last).map fun p => (last : Int) - p) := by
  refine (List.perm_ext_iff_of_nodup (Mo.Rw_nodup last) (List.pairwise_map.mpr ((Mo.Rw_nodup last).imp fun h e => h (by omega)))).mpr fun p => ?_
  rw [List.mem_map]
  constructor
  · intro h
    have h := Mo.mem_Rw.mp h
    exact ⟨(last : Int) - p, Mo.mem_Rw.mpr (by omega), by omega⟩
  · rintro ⟨q, hq, rfl⟩
    have hq := Mo.mem_Rw.mp hq
    exact Mo.mem_Rw.mpr (by omega)
theorem su_turn (last : Nat) (f : Int → Rat) : su (Rw last) f = su (Rw last) fun p => f ((last : Int) - p) := by
  rw [Mo.su_perm (Rw_turn last) f, Mo.su_map]
theorem mom_turn {last : Nat} (w : Int → Rat) {k : Nat} (h3 : k ≤ 3) : mom (Rw last) (fun p => w ((last : Int) - p)) k = tq ((last : Int) : Rat) (mom (Rw last) w) k := by
  unfold Mo.mom
  rw [su_turn]
  have e : ∀ p : Int, w ((last : Int) - ((last : Int) - p)) = w p := fun p => by rw [show (last : Int) - ((last : Int) - p) = p by omega]
  simp only [e, rc_sub]
  generalize ((last : Int) : Rat) = L
  rcases (show k = 0 ∨ k = 1 ∨ k = 2 ∨ k = 3 by omega) with e | e | e | e
  · subst e
    exact Mo.su_congr fun p _ => by rw [Rat.pow_zero, Rat.pow_zero]
  · subst e
    show _ = L * su (Rw last) (fun p => (p : Rat) ^ 0 * w p) - su (Rw last) fun p => (p : Rat) ^ 1 * w p
    rw [← Mo.su_mul, ← Mo.su_sub]
    exact Mo.su_congr fun p _ => by grind
  · subst e
    show _ = L * L * su (Rw last) (fun p => (p : Rat) ^ 0 * w p) - 2 * L * su (Rw last) (fun p => (p : Rat) ^ 1 * w p) + su (Rw last) fun p => (p : Rat) ^ 2 * w p
    rw [← Mo.su_mul, ← Mo.su_mul, ← Mo.su_sub, ← Mo.su_add]
    exact Mo.su_congr fun p _ => by grind
  · subst e
    show _ = L * L * L * su (Rw last) (fun p => (p : Rat) ^ 0 * w p) - 3 * (L * L) * su (Rw last) (fun p => (p : Rat) ^ 1 * w p) + 3 * L * su (Rw last) (fun p => (p : Rat) ^ 2 * w p) - su (Rw last) fun p => (p : Rat) ^ 3 * w p
    rw [← Mo.su_mul, ← Mo.su_mul, ← Mo.su_mul, ← Mo.su_sub, ← Mo.su_add, ← Mo.su_sub]
    exact Mo.su_congr fun p _ => by grind
theorem wf_rev {last : Nat} {c : Wts} (hl : c.length = last + 1) {p : Int} (hp : p ∈ Rw last) : wf c.reverse p = wf c ((last : Int) - p) := by
  have hp := Mo.mem_Rw.mp hp
  unfold wf
  rw [getD_in (by rw [List.length_reverse]; omega), getD_in (show ((last : Int) - p).toNat < c.length by omega), List.getElem_reverse]
  congr 2
  omega
theorem mem_turn {last : Nat} {p : Int} (hp : p ∈ Rw last) : (last : Int) - p ∈ Rw last := by
  have hp := Mo.mem_Rw.mp hp
  exact Mo.mem_Rw.mpr (by omega)
section
variable {last : Nat} {avs : Wts}
theorem corner_turn (h3 : avs.length ≤ 3) (ha : ∀ f ∈ avs, 0 < f.2) {c : Wts} (h : Corner last avs c) : Corner last (turnM last avs) c.reverse := by
  have e : ∀ p ∈ Rw last, wf c.reverse p = wf c ((last : Int) - p) := fun p hp => wf_rev h.len hp
  refine ⟨by rw [List.length_reverse]; exact h.len, fun f hf => h.lo f (List.mem_reverse.mp hf), fun p hp => ?_, fun k hk => ?_, ?_⟩
  · rw [e p hp]; exact h.nn _ (mem_turn hp)
  · rw [turn_len] at hk
    rw [mo_turn ha hk (by omega), Mo.mom_ext e, mom_turn (wf c) (by omega)]
    have hm : ∀ j, j ≤ avs.length → mom (Rw last) (wf c) j = mo avs j := h.mom
    rcases (show k = 0 ∨ k = 1 ∨ k = 2 ∨ k = 3 by omega) with q | q | q | q
    · subst q; exact hm 0 (by omega)
    · subst q; show _ - _ = _ - _; rw [hm 0 (by omega), hm 1 (by omega)]
    · subst q; show _ - _ + _ = _ - _ + _; rw [hm 0 (by omega), hm 1 (by omega), hm 2 (by omega)]
    · subst q; show _ - _ + _ - _ = _ - _ + _ - _; rw [hm 0 (by omega), hm 1 (by omega), hm 2 (by omega), hm 3 (by omega)]
  · rw [turn_len]
    refine Nat.le_trans ?_ h.few
    have h1 : ((Mo.sup (Rw last) (wf c.reverse)).map fun p => (last : Int) - p).Nodup := List.pairwise_map.mpr (((Mo.Rw_nodup last).filter _).imp fun h e => h (by omega))
    have := len_sub h1 (s := Mo.sup (Rw last) (wf c)) fun p hp => by
      obtain ⟨q, hq, rfl⟩ := List.mem_map.mp hp
      obtain ⟨q1, q2⟩ := Mo.mem_sup.mp hq
      exact Mo.mem_sup.mpr ⟨mem_turn q1, by rw [← e q q1]; exact q2⟩
    rwa [List.length_map] at this
/-- the turned corners are the corners -/
theorem corners_turn (hl : avs.length ≤ last) (h3 : avs.length ≤ 3) (ha : ∀ f ∈ avs, Lo f) : (cornersM last (turnM last avs)).Perm ((cornersM last avs).map List.reverse) := by
  have hp : ∀ f ∈ avs, 0 < f.2 := fun f hf => (ha f hf).1
  have hp2 : ∀ f ∈ turnM last avs, 0 < f.2 := fun f hf => (turnM_lo hp f hf).1
  have nd : ∀ A : Wts, (cornersM last A).Nodup := fun A => (corners_srt last A).imp fun {a b} h e => by
    subst e
    have := ltW_swo.asym _ _ h
    rw [this] at h
    cases h
  have hl2 : (turnM last avs).length ≤ last := by rw [turn_len]; exact hl
  have h32 : (turnM last avs).length ≤ 3 := by rw [turn_len]; exact h3
  refine (List.perm_ext_iff_of_nodup (nd _) (List.pairwise_map.mpr ((nd avs).imp fun h e => h (List.reverse_inj.mp e)))).mpr fun c => ?_
  rw [List.mem_map]
  constructor
  · intro h
    have := corner_turn h32 hp2 ((corner_iff hl2 hp2).mp h)
    rw [turn_turn h3 ha] at this
    exact ⟨c.reverse, (corner_iff hl hp).mpr this, List.reverse_reverse c⟩
  · rintro ⟨d, hd, rfl⟩
    exact (corner_iff hl2 hp2).mpr (corner_turn h3 hp ((corner_iff hl hp).mp hd))

theorem turn_empty (hl : avs.length ≤ last) (h3 : avs.length ≤ 3) (ha : ∀ f ∈ avs, Lo f) : cornersM last (turnM last avs) = [] ↔ cornersM last avs = [] := by
  have p := corners_turn hl h3 ha
  constructor
  · intro h
    rw [h] at p
    exact List.map_eq_nil_iff.mp p.symm.eq_nil
  · intro h
    rw [h] at p
    exact p.eq_nil
/-- a place's bounds are those of the mirrored place -/
theorem bounds_turn (hl : avs.length ≤ last) (h3 : avs.length ≤ 3) (ha : ∀ f ∈ avs, Lo f) (hne : cornersM last avs ≠ []) {i : Nat} (hi : i ≤ last) :
    loA last (turnM last avs) (indV last ((last - i : Nat) : Int)) = loA last avs (indV last (i : Int)) ∧ hiA last (turnM last avs) (indV last ((last - i : Nat) : Int)) = hiA last avs (indV last (i : Int)) := by
  have hp : ∀ f ∈ avs, 0 < f.2 := fun f hf => (ha f hf).1
  have hp2 : ∀ f ∈ turnM last avs, 0 < f.2 := fun f hf => (turnM_lo hp f hf).1
  have hl2 : (turnM last avs).length ≤ last := by rw [turn_len]; exact hl
  have hne2 : cornersM last (turnM last avs) ≠ [] := fun z => hne ((turn_empty hl h3 ha).mp z)
  have p := corners_turn hl h3 ha
  have v : ∀ c ∈ cornersM last avs, val last (indV last ((last - i : Nat) : Int)) (wf c.reverse) = val last (indV last (i : Int)) (wf c) := fun c hc => by
    rw [val_ind (show last - i ≤ last by omega), val_ind hi, wf_rev ((corner_iff hl hp).mp hc).len (Mo.mem_Rw.mpr (by omega))]
    congr 1
    omega
  constructor
  · obtain ⟨a1, ⟨c, hc, -, e⟩, a3⟩ := lo_spec hl hp (indV_len last (i : Int)) hne
    refine lo_eq hl2 hp2 (indV_len _ _) hne2 a1 ⟨c.reverse, p.mem_iff.mpr (List.mem_map.mpr ⟨c, hc, rfl⟩), by rw [v c hc, e]; exact Rat.le_refl⟩ fun d hd => ?_
    obtain ⟨c2, hc2, rfl⟩ := List.mem_map.mp (p.mem_iff.mp hd)
    rw [v c2 hc2]
    exact a3 c2 hc2
  · obtain ⟨a1, ⟨c, hc, -, e⟩, a3⟩ := hi_spec hl hp (indV_len last (i : Int)) hne
    refine hi_eq hl2 hp2 (indV_len _ _) hne2 a1 ⟨c.reverse, p.mem_iff.mpr (List.mem_map.mpr ⟨c, hc, rfl⟩), by rw [v c hc, e]; exact Rat.le_refl⟩ fun d hd => ?_
    obtain ⟨c2, hc2, rfl⟩ := List.mem_map.mp (p.mem_iff.mp hd)
    rw [v c2 hc2]
    exact a3 c2 hc2
theorem ints_nodup (n : Nat) : (intsL 0 n).Nodup := by
  unfold intsL
  exact List.pairwise_map.mpr (List.nodup_range.imp fun h e => h (by omega))
theorem ints_asc (n : Nat) : (intsL 0 n).Pairwise (· ≤ ·) := by
  unfold intsL
  exact List.pairwise_map.mpr (List.pairwise_lt_range.imp fun h => by omega)
theorem poss_turn (hl : avs.length ≤ last) (h3 : avs.length ≤ 3) (ha : ∀ f ∈ avs, Lo f) : (possM last (cornersM last (turnM last avs))).Perm ((possM last (cornersM last avs)).map fun p => (last : Int) - p) := by
  have hp : ∀ f ∈ avs, 0 < f.2 := fun f hf => (ha f hf).1
  have hp2 : ∀ f ∈ turnM last avs, 0 < f.2 := fun f hf => (turnM_lo hp f hf).1
  have hl2 : (turnM last avs).length ≤ last := by rw [turn_len]; exact hl
  have P := corners_turn hl h3 ha
  have nd : ∀ C, (possM last C).Nodup := fun C => (ints_nodup _).filter _
  refine (List.perm_ext_iff_of_nodup (nd _) (List.pairwise_map.mpr ((nd _).imp fun h e => h (by omega)))).mpr fun p => ?_
  rw [mem_poss hl2 hp2, List.mem_map]
  constructor
  · rintro ⟨h1, c, hc, h2⟩
    obtain ⟨d, hd, rfl⟩ := List.mem_map.mp (P.mem_iff.mp hc)
    rw [wf_rev ((corner_iff hl hp).mp hd).len h1] at h2
    exact ⟨(last : Int) - p, (mem_poss hl hp).mpr ⟨mem_turn h1, d, hd, h2⟩, by omega⟩
  · rintro ⟨q, hq, rfl⟩
    obtain ⟨h1, c, hc, h2⟩ := (mem_poss hl hp).mp hq
    refine ⟨mem_turn h1, c.reverse, P.mem_iff.mpr (List.mem_map.mpr ⟨c, hc, rfl⟩), ?_⟩
    rw [wf_rev ((corner_iff hl hp).mp hc).len (mem_turn h1), show (last : Int) - ((last : Int) - q) = q by omega]
    exact h2
theorem need_turn (hl : avs.length ≤ last) (h3 : avs.length ≤ 3) (ha : ∀ f ∈ avs, Lo f) : (needM last (cornersM last (turnM last avs))).Perm ((needM last (cornersM last avs)).map fun p => (last : Int) - p) := by
  have hp : ∀ f ∈ avs, 0 < f.2 := fun f hf => (ha f hf).1
  have hp2 : ∀ f ∈ turnM last avs, 0 < f.2 := fun f hf => (turnM_lo hp f hf).1
  have hl2 : (turnM last avs).length ≤ last := by rw [turn_len]; exact hl
  have P := corners_turn hl h3 ha
  have nd : ∀ C, (needM last C).Nodup := fun C => (ints_nodup _).filter _
  refine (List.perm_ext_iff_of_nodup (nd _) (List.pairwise_map.mpr ((nd _).imp fun h e => h (by omega)))).mpr fun p => ?_
  rw [mem_need hl2 hp2, List.mem_map]
  constructor
  · rintro ⟨h1, h2⟩
    refine ⟨(last : Int) - p, (mem_need hl hp).mpr ⟨mem_turn h1, fun c hc => ?_⟩, by omega⟩
    have := h2 c.reverse (P.mem_iff.mpr (List.mem_map.mpr ⟨c, hc, rfl⟩))
    rwa [wf_rev ((corner_iff hl hp).mp hc).len h1] at this
  · rintro ⟨q, hq, rfl⟩
    obtain ⟨h1, h2⟩ := (mem_need hl hp).mp hq
    refine ⟨mem_turn h1, fun c hc => ?_⟩
    obtain ⟨d, hd, rfl⟩ := List.mem_map.mp (P.mem_iff.mp hc)
    rw [wf_rev ((corner_iff hl hp).mp hd).len (mem_turn h1), show (last : Int) - ((last : Int) - q) = q by omega]
    exact h2 d hd
theorem mid_turn (hl : avs.length ≤ last) (h3 : avs.length ≤ 3) (ha : ∀ f ∈ avs, Lo f) (hne : cornersM last avs ≠ []) : midM last (cornersM last (turnM last avs)) = (midM last (cornersM last avs)).reverse := by
  have hp : ∀ f ∈ avs, 0 < f.2 := fun f hf => (ha f hf).1
  have hp2 : ∀ f ∈ turnM last avs, 0 < f.2 := fun f hf => (turnM_lo hp f hf).1
  have hl2 : (turnM last avs).length ≤ last := by rw [turn_len]; exact hl
  have hne2 : cornersM last (turnM last avs) ≠ [] := fun z => hne ((turn_empty hl h3 ha).mp z)
  have P := corners_turn hl h3 ha
  refine wts_ext (midM_len _) (by rw [List.length_reverse, midM_len]) (midM_lo hl2 hp2 hne2) (fun f hf => midM_lo hl hp hne f (List.mem_reverse.mp hf)) fun p hq => ?_
  rw [wf_rev (midM_len _) hq]
  unfold wf
  rw [midM_wf hq, midM_wf (mem_turn hq)]
  have e1 := (mid_lo hl2 hp2 hne2 hq).2
  have e2 := (mid_lo hl hp hne (mem_turn hq)).2
  have e3 : (su (cornersM last (turnM last avs)) fun c => wf c p) = su (cornersM last avs) fun c => wf c ((last : Int) - p) := by
    rw [Mo.su_perm P, Mo.su_map]
    exact Mo.su_congr fun c hc => wf_rev ((corner_iff hl hp).mp hc).len hq
  have e4 : (cornersM last (turnM last avs)).length = (cornersM last avs).length := by rw [P.length_eq, List.length_map]
  rw [e3, ← e2, e4] at e1
  have hn := List.length_pos_iff.mpr hne
  have hnr : ((((cornersM last avs).length : Nat) : Int) : Rat) ≠ 0 := rc_ne (by omega)
  generalize ((((cornersM last avs).length : Nat) : Int) : Rat) = n at *
  grind
theorem mnL_perm {l m : List Int} (h : l.Perm m) (hne : l ≠ []) : mnL l = mnL m := by
  have hne2 : m ≠ [] := fun z => by subst z; exact hne h.eq_nil
  obtain ⟨a1, a2⟩ := mnL_in hne
  obtain ⟨b1, b2⟩ := mnL_in hne2
  have := a2 _ (h.mem_iff.mpr b1)
  have := b2 _ (h.mem_iff.mp a1)
  omega
theorem few_turn (hl : avs.length ≤ last) (h3 : avs.length ≤ 3) (ha : ∀ f ∈ avs, Lo f) (hne : cornersM last avs ≠ []) : fewM (cornersM last (turnM last avs)) = fewM (cornersM last avs) := by
  have hne2 : cornersM last (turnM last avs) ≠ [] := fun z => hne ((turn_empty hl h3 ha).mp z)
  have P := corners_turn hl h3 ha
  unfold fewM
  rw [mnL_perm (P.map fun c => (cntP c : Int)) (by intro z; exact hne2 (List.map_eq_nil_iff.mp z)), List.map_map]
  congr 1
  refine List.map_congr_left fun c _ => ?_
  show ((cntP c.reverse : Nat) : Int) = _
  unfold cntP
  rw [List.filter_reverse, List.length_reverse]
end
/-! the told averages have a small common divisor -/
theorem told_den (ns : List Int) (at_ : Nat) : ∃ N : Nat, 1 ≤ N ∧ N ≤ 54 ∧ ∀ k, k ≤ (toldF ns at_).length → ∃ K : Int, mo (toldF ns at_) k * ((N : Int) : Rat) = K := by
  obtain ⟨b1, b2⟩ := baseT_ok ns at_
  have hm := manyM_bd ns at_
  have base : ∀ j, j < manyT ns at_ → ∃ K : Int, qf ((baseT ns at_).getD j (0, 1)) * (((manyM ns at_ : Nat) : Int) : Rat) = K := fun j hj => by
    have eb : (baseT ns at_).getD j (0, 1) = avgM (powL (lastT ns at_) (j + 1)) (wtsM ns at_ (lastT ns at_)) := avsM_getD hj
    rw [eb]
    exact (avg_bd ns at_ (last := lastT ns at_) (e := j + 1) (lastT_bd ns at_).2.1 (by have := (manyT_bd ns at_).2.2.1; omega)).2.2.2
  obtain ⟨c1, -, N, K2, n1, n2, k1, k2, c3⟩ := chgT_ok ns at_
  refine ⟨manyM ns at_ * N, Nat.mul_pos (by omega) (by omega), Nat.le_trans (Nat.mul_le_mul hm.2.1 n2) (by decide), fun k hk => ?_⟩
  have eN : (((manyM ns at_ * N : Nat) : Int) : Rat) = (((manyM ns at_ : Nat) : Int) : Rat) * ((N : Int) : Rat) := by rw [← rc_mul]; rfl
  rw [eN]
  have lift : ∀ x : Rat, (∃ K : Int, x * (((manyM ns at_ : Nat) : Int) : Rat) = K) → ∃ K : Int, x * ((((manyM ns at_ : Nat) : Int) : Rat) * ((N : Int) : Rat)) = K := fun x ⟨K, h⟩ => ⟨K * N, by rw [rc_mul, ← h]; grind⟩
  rcases Nat.eq_zero_or_pos k with z | z
  · subst z
    exact lift _ ⟨(manyM ns at_ : Nat), by unfold mo; rw [if_pos rfl]; grind⟩
  · obtain ⟨j, rfl⟩ : ∃ j, k = j + 1 := ⟨k - 1, by omega⟩
    have hj : j < manyT ns at_ := by rw [← (toldF_ok ns at_).2]; omega
    show ∃ K : Int, qf ((toldF ns at_).getD j (0, 1)) * _ = _
    unfold toldF
    split
    · have hn := (numT_bd ns at_).1
      by_cases hjn : j = numT ns at_
      · have e : ((baseT ns at_).take (numT ns at_) ++ [totalM [(baseT ns at_).getD (numT ns at_) (0, 1), chgT ns at_]] ++ (baseT ns at_).drop (numT ns at_ + 1)).getD j (0, 1) = totalM [(baseT ns at_).getD (numT ns at_) (0, 1), chgT ns at_] := by
          rw [List.getD_eq_getElem?_getD, List.append_assoc, List.getElem?_append_right (by rw [List.length_take]; omega), List.length_take, show j - min (numT ns at_) (baseT ns at_).length = 0 by omega]
          rfl
        rw [e]
        have hd : 0 < ((baseT ns at_).getD (numT ns at_) (0, 1)).2 := by
          rw [getD_in (by omega)]
          exact (b1.2.2.2 _ (List.getElem_mem _)).lo.1
        rw [(tot2 hd c1.1).2]
        obtain ⟨K1, a4⟩ := base _ hn
        exact ⟨K1 * N + K2 * manyM ns at_, by rw [rc_add, rc_mul, rc_mul, ← a4, ← c3]; grind⟩
      · have e : ((baseT ns at_).take (numT ns at_) ++ [totalM [(baseT ns at_).getD (numT ns at_) (0, 1), chgT ns at_]] ++ (baseT ns at_).drop (numT ns at_ + 1)).getD j (0, 1) = (baseT ns at_).getD j (0, 1) := by
          rw [List.getD_eq_getElem?_getD, List.append_assoc]
          by_cases q : j < numT ns at_
          · rw [List.getElem?_append_left (by rw [List.length_take]; omega), List.getElem?_take_of_lt q]
            exact (List.getD_eq_getElem?_getD ..).symm
          · rw [List.getElem?_append_right (by rw [List.length_take]; omega), List.length_take, show j - min (numT ns at_) (baseT ns at_).length = (j - numT ns at_ - 1) + 1 by omega]
            show ((baseT ns at_).drop (numT ns at_ + 1))[j - numT ns at_ - 1]?.getD (0, 1) = _
            rw [List.getElem?_drop, show numT ns at_ + 1 + (j - numT ns at_ - 1) = j by omega]
            exact (List.getD_eq_getElem?_getD ..).symm
        rw [e]
        exact lift _ (base j hj)
    · exact lift _ (base j hj)
theorem turned_ok {last : Nat} {avs : Wts} (h1 : 1 ≤ avs.length) (hl : avs.length ≤ last) (h3 : avs.length ≤ 3) (ha : ∀ f ∈ avs, 0 < f.2) {N : Nat} (n1 : 1 ≤ N) (n2 : N ≤ 54) (hN : ∀ k, k ≤ avs.length → ∃ K : Int, mo avs k * ((N : Int) : Rat) = K) (hb : ∀ f ∈ turnM last avs, -99999 ≤ f.1 ∧ f.1 ≤ 99999) : AvOk last (turnM last avs) := by
  refine ⟨by rw [turn_len]; exact h1, by rw [turn_len]; exact hl, by rw [turn_len]; exact h3, fun f hf => ?_⟩
  have hlo := turnM_lo ha f hf
  obtain ⟨i, hi, rfl⟩ := List.getElem_of_mem hf
  have hi' : i < avs.length := by rw [turn_len] at hi; exact hi
  have e : qf (turnM last avs)[i] = tq ((last : Int) : Rat) (mo avs) (i + 1) := by
    rw [← mo_turn ha (k := i + 1) (by omega) (by omega)]
    show _ = qf ((turnM last avs).getD i (0, 1))
    rw [getD_in hi]
  have hK : ∃ K : Int, qf (turnM last avs)[i] * ((N : Int) : Rat) = K := by
    rw [e]
    obtain ⟨K0, k0⟩ := hN 0 (by omega)
    obtain ⟨K1, k1⟩ := hN 1 (by omega)
    rcases (show i = 0 ∨ i = 1 ∨ i = 2 by omega) with q | q | q
    · subst q
      exact ⟨(last : Int) * K0 - K1, by rw [rc_sub, rc_mul, ← k0, ← k1]; show (_ - _) * _ = _; grind⟩
    · subst q
      obtain ⟨K2, k2⟩ := hN 2 (by omega)
      exact ⟨(last : Int) * (last : Int) * K0 - 2 * (last : Int) * K1 + K2, by
        simp only [rc_add, rc_sub, rc_mul, ← k0, ← k1, ← k2]
        have : ((2 : Int) : Rat) = 2 := rfl
        show (_ - _ + _) * _ = _
        grind⟩
    · subst q
      obtain ⟨K2, k2⟩ := hN 2 (by omega)
      obtain ⟨K3, k3⟩ := hN 3 (by omega)
      exact ⟨(last : Int) * (last : Int) * (last : Int) * K0 - 3 * ((last : Int) * (last : Int)) * K1 + 3 * (last : Int) * K2 - K3, by
        simp only [rc_add, rc_sub, rc_mul, ← k0, ← k1, ← k2, ← k3]
        have : ((3 : Int) : Rat) = 3 := rfl
        show (_ - _ + _ - _) * _ = _
        grind⟩
  obtain ⟨K, hK⟩ := hK
  obtain ⟨-, h4, -⟩ := low_bd hlo (show (0 : Int) < (N : Int) by omega) hK
  have := hb _ hf
  exact frac_small hlo (by omega) (by omega)
end DD
namespace DD
open PySem PySem.Spec PyProof.Rows L2
/-! ### sets of nested tuples -/
section
variable {P : Program} {w : World}
/-- a walk of a tuple's items that never breaks off -/
theorem all_items {A : Around} {E : Value → Shared → Prop} {s : Shared} {vs : List Value} {β : Type} {r0 : Option β × PUnit}
    {body : Value → Option β × PUnit → Sem (ForInStep (Option β × PUnit))} {Q : Option β × PUnit → Shared → Prop} (h0 : r0.1 = none)
    (hb : ∀ v ∈ vs, ∀ r, r.1 = none → ∀ Q', Q' (ForInStep.yield r0) s → wpAny (model P w) A (body v r) Q' E s) (h : Q r0 s) : wpAny (model P w) A (forIn vs r0 body) Q E s := by
  induction vs with
  | nil => rw [List.forIn_nil]; exact wpAny_pure h
  | cons v vs ih =>
    rw [List.forIn_cons]
    refine wpAny_bind (hb v List.mem_cons_self r0 h0 _ ?_)
    exact ih fun u hu => hb u (List.mem_cons_of_mem _ hu)
mutual
/-- a nested key is of no class statement -/
theorem key_class : ∀ (k : NestedKey) (v : Value) (n : Nat) (s : Shared), NestedIs s.heap k v → k.depth ≤ n → ∀ (A : Around) (E : Value → Shared → Prop) (Q : Bool → Shared → Prop), Q false s → wpAny (model P w) A (ofAClassStatement n v) Q E s
  | .none, _, n, s, x, _, A, E, Q, h => by cases x; cases n <;> exact wpAny_pure h
  | .num i, _, n, s, x, _, A, E, Q, h => by cases x <;> cases n <;> exact wpAny_pure h
  | .text y, _, n, s, x, _, A, E, Q, h => by cases x; cases n <;> exact wpAny_pure h
  | .tup ks, _, 0, s, x, hn, A, E, Q, h => by simp only [NestedKey.depth] at hn; omega
  | .tup ks, _, n + 1, s, x, hn, A, E, Q, h => by
    cases x with
    | @tup a o vs m _ ho hc hd hk =>
      simp only [NestedKey.depth] at hn
      unfold ofAClassStatement
      refine wpAny_bind (wpAny_typeOf (T := "tuple") ⟨o, ho, hc⟩ ?_)
      dsimp only
      rw [if_pos (show ("tuple" == "tuple") = true by decide)]
      try refine wpAny_bind (wpAny_pure ?_)
      simp only [Bool.not_true, Bool.false_eq_true, if_false]
      refine wpAny_bind (wpAny_seqItems ho hd ?_)
      dsimp only
      refine wpAny_bind ?_
      show wpAny _ _ (forIn vs _ _) _ _ s
      rw [← Array.forIn_toList]
      refine all_items rfl (fun v hv r hr Q' hq => ?_) (wpAny_pure h)
      refine wpAny_bind (keys_class ks _ n s hk (by omega) v hv A E _ ?_)
      simp only [Bool.false_eq_true, if_false]
      exact wpAny_pure hq
theorem keys_class : ∀ (ks : List NestedKey) (vs : List Value) (n : Nat) (s : Shared), NestedAll s.heap ks vs → NestedKey.depthAll ks ≤ n → ∀ v ∈ vs, ∀ (A : Around) (E : Value → Shared → Prop) (Q : Bool → Shared → Prop), Q false s → wpAny (model P w) A (ofAClassStatement n v) Q E s
  | [], _, n, s, x, _, v, hv, _, _, _, _ => by cases x; cases hv
  | k :: ks, _, n, s, x, hn, v, hv, A, E, Q, h => by
    cases x with
    | cons x1 x2 =>
      simp only [NestedKey.depthAll] at hn
      rcases List.mem_cons.mp hv with e | hv
      · rw [e]; exact key_class k _ n s x1 (by omega) A E Q h
      · exact keys_class ks _ n s x2 (by omega) v hv A E Q h
end
mutual
/-- no texts: hashed by value -/
def noTx : NestedKey → Bool
  | .text _ => false
  | .tup ks => noTxs ks
  | .none => true
  | .num _ => true
def noTxs : List NestedKey → Bool
  | [] => true
  | k :: ks => noTx k && noTxs ks
end
mutual
theorem key_byval : ∀ (k : NestedKey) (v : Value) (n : Nat) (s : Shared), NestedIs s.heap k v → k.depth ≤ n → noTx k = true → ∀ (A : Around) (E : Value → Shared → Prop) (Q : Bool → Shared → Prop), Q true s → wpAny (model P w) A (hashByValue n v) Q E s
  | .none, _, n, s, x, _, _, A, E, Q, h => by cases x; cases n <;> exact wpAny_pure h
  | .num i, _, n, s, x, _, _, A, E, Q, h => by cases x <;> cases n <;> exact wpAny_pure h
  | .text y, _, n, s, x, _, ht, A, E, Q, h => by cases ht
  | .tup ks, _, 0, s, x, hn, _, A, E, Q, h => by simp only [NestedKey.depth] at hn; omega
  | .tup ks, _, n + 1, s, x, hn, ht, A, E, Q, h => by
    cases x with
    | @tup a o vs m _ ho hc hd hk =>
      simp only [NestedKey.depth] at hn
      unfold hashByValue
      refine wpAny_bind (wpAny_specialOf (T := "tuple") ⟨o, ho, hc⟩ F.slot_tuple_hash.lookup ?_)
      show wpAny _ _ (seqItems? (.ref a) >>= _) _ _ s
      refine wpAny_bind (wpAny_seqItems ho hd ?_)
      refine wpAny_bind ?_
      show wpAny _ _ (forIn vs _ _) _ _ s
      rw [← Array.forIn_toList]
      refine all_items rfl (fun v hv r hr Q' hq => ?_) (wpAny_pure h)
      refine wpAny_bind (keys_byval ks _ n s hk (by omega) ht v hv A E _ ?_)
      simp only [Bool.not_true, Bool.false_eq_true, if_false]
      exact wpAny_pure hq
theorem keys_byval : ∀ (ks : List NestedKey) (vs : List Value) (n : Nat) (s : Shared), NestedAll s.heap ks vs → NestedKey.depthAll ks ≤ n → noTxs ks = true → ∀ v ∈ vs, ∀ (A : Around) (E : Value → Shared → Prop) (Q : Bool → Shared → Prop), Q true s → wpAny (model P w) A (hashByValue n v) Q E s
  | [], _, n, s, x, _, _, v, hv, _, _, _, _ => by cases x; cases hv
  | k :: ks, _, n, s, x, hn, ht, v, hv, A, E, Q, h => by
    cases x with
    | cons x1 x2 =>
      simp only [NestedKey.depthAll] at hn
      rw [noTxs, Bool.and_eq_true] at ht
      rcases List.mem_cons.mp hv with e | hv
      · rw [e]; exact key_byval k _ n s x1 (by omega) ht.1 A E Q h
      · exact keys_byval ks _ n s x2 (by omega) ht.2 v hv A E Q h
end
/-- what stands at an address: a nested key, hashed by value -/
structure NK (h : Heap) (k : NestedKey) (b : Addr) : Prop where
  is : NestedIs h k (.ref b)
  deep : k.depth ≤ 8
  plain : noTx k = true
theorem NK.stay {h h' : Heap} {k : NestedKey} {b : Addr} (x : NK h k b) (hk : ∀ c o, h.get? c = some o → h'.get? c = some o) : NK h' k b := ⟨NestedIs.at (fun c o _ _ e _ => hk c o e) k _ x.is, x.deep, x.plain⟩
theorem NK.one {h : Heap} {k l : NestedKey} {b : Addr} (x : NK h k b) (y : NK h l b) : k = l := NestedIs.inj _ _ _ x.is y.is
/-- the heap but for a set -/
theorem NK.but {h h' : Heap} {k : NestedKey} {a b : Addr} {o : Obj} {es : Array (Int × Value)} {ep : Nat} {t : SetTable} (x : NK h k b) (ho : h.get? a = some o) (hd : o.data = .set es ep t) (hs : Heap.SameBut a h h') : NK h' k b :=
  ⟨NestedIs.at (fun c u vs n e f => by
    refine (hs.2 c fun z => ?_).trans e
    subst z
    rw [ho] at e
    cases e
    rw [hd] at f
    cases f) k _ x.is, x.deep, x.plain⟩
/-- a search among such keys shows nothing -/
theorem nk_unseen {A : Around} {E : Value → Shared → Prop} {s : Shared} {k : NestedKey} {b : Addr} (hk : NK s.heap k b) {Q : Bool → Shared → Prop} (hq : Q false s) : ∀ ys : List Value, (∀ y ∈ ys, ∃ l c, y = Value.ref c ∧ NK s.heap l c) → wpAny (model P w) A (searchCouldBeSeen (.ref b) ys) Q E s := fun ys hy => by
  unfold searchCouldBeSeen
  refine wpAny_bind (all_items rfl (fun v hv r hr Q' h => ?_) (wpAny_pure hq))
  obtain ⟨l, c, rfl, hc⟩ := hy v hv
  dsimp only
  cases hz : (b == c || (carriedByValue (.ref b) && carriedByValue (.ref c))) with
  | true => exact wp_if_pos rfl (wpAny_pure h)
  | false =>
    refine wp_if_neg (by decide) ?_
    refine wpAny_bind ((nestedKind P w).quiet ⟨hk.is, hk.deep⟩ ?_)
    simp only [Bool.not_true, Bool.false_eq_true, if_false]
    refine wpAny_bind ((nestedKind P w).quiet ⟨hc.is, hc.deep⟩ ?_)
    simp only [Bool.not_true, Bool.false_eq_true, if_false]
    refine wpAny_bind (key_class k _ 8 s hk.is hk.deep A E _ ?_)
    simp only [Bool.false_eq_true, if_false]
    refine wpAny_bind (key_class l _ 8 s hc.is hc.deep A E _ ?_)
    simp only [Bool.false_eq_true, if_false]
    exact wpAny_pure h

/-! the set -/
def rowK (w : World) (L : List (NestedKey × Addr)) : List (Int × Value) := L.map fun p => (p.1.hash w, Value.ref p.2)
theorem rowK_len (L : List (NestedKey × Addr)) : (rowK w L).length = L.length := by unfold rowK; rw [List.length_map]
theorem rowK_at {L : List (NestedKey × Addr)} {i : Nat} {p : NestedKey × Addr} (h : L[i]? = some p) : (rowK w L)[i]? = some (p.1.hash w, Value.ref p.2) := by
  unfold rowK
  rw [List.getElem?_map, h]
  rfl
structure NSet (w : World) (h : Heap) (a : Addr) (L : List (NestedKey × Addr)) (es : Array (Int × Value)) (t : SetTable) : Prop where
  ob : ∃ o ep, h.get? a = some o ∧ o.ExactSet ∧ o.data = .set es ep t
  rows : es.toList = rowK w L
  tab : TabOk t (L.map fun p => p.1.hash w)
  keys : ∀ p ∈ L, NK h p.1 p.2
  uniq : (L.map (·.1)).Nodup
  plain : t.plain = true
  led : w.params.followText "set-order" = true ∨ t.led = true
  room : L.length * 5 < t.mask * 3
  few : L.length < 64
section
variable {A : Around} {E : Value → Shared → Prop} {s : Shared} {a : Addr} {L : List (NestedKey × Addr)} {es : Array (Int × Value)} {t : SetTable}
theorem NSet.sz {h : Heap} (R : NSet w h a L es t) : es.size = L.length := by rw [← Array.length_toList, R.rows, rowK_len]
theorem NSet.row {h : Heap} (R : NSet w h a L es t) {i : Nat} {p : NestedKey × Addr} (e : L[i]? = some p) : es[i]? = some (p.1.hash w, Value.ref p.2) := by rw [← Array.getElem?_toList, R.rows, rowK_at e]
theorem NSet.placed {h : Heap} (R : NSet w h a L es t) : t.place.toList.length = L.length := by rw [Array.length_toList, R.tab.sz, List.length_map]
theorem fits_of {n : Nat} (h1 : t.place.size = n) (h2 : t.dummies = #[]) (h3 : n ≤ t.mask) : t.fits n = true := by
  unfold SetTable.fits SetTable.fill
  rw [h2, Bool.and_eq_true, beq_iff_eq, decide_eq_true_eq]
  show t.place.size = n ∧ t.place.size + 0 ≤ t.mask
  omega
theorem NSet.fits {h : Heap} (R : NSet w h a L es t) : t.fits es.size = true := fits_of (by rw [← Array.length_toList, R.placed, R.sz]) R.tab.dm (by rw [R.sz]; have := R.room; omega)
theorem no_dummy (m : Nat) : ∀ (n : Nat) (p : SetTable.Probe), p.dummy = none → (nth m p n).dummy = none
  | 0, _, h => h
  | n + 1, p, h => by
    refine no_dummy m n (adv m p) ?_
    unfold adv
    split <;> exact h
/-- where the search for a hash begins -/
abbrev begP (t : SetTable) (h : Int) : SetTable.Probe := runAt t.mask (SetTable.bits h % (t.mask + 1)) (SetTable.bits h)
theorem way_nth (t : SetTable) (h : Int) (c q : Nat) : (nth t.mask (nth t.mask (begP t h) c) q).j = way t.mask h (c + q) := congrArg SetTable.Probe.j (nth_add t.mask c _ q).symm
theorem nset_go (R : NSet w s.heap a L es t) {x : Addr} {k : NestedKey} (hx : NK s.heap k x) (hu : A.units + 8 < cLine) {K : Nat} (hf : K < 10 * SetTable.turns t.mask)
    (hK : way t.mask (k.hash w) K ∉ t.place.toList) (hb : ∀ c, c < K → way t.mask (k.hash w) c ∈ t.place.toList) {Q : SetFound → Shared → Prop}
    (hin : k ∈ L.map (·.1) → Q (.there none) s) (hout : k ∉ L.map (·.1) → Q (.free (way t.mask (k.hash w) K) false) s) :
    ∀ (f c : Nat) (st : Option SetTable.Probe), st.getD (t.probeStart (k.hash w)) = nth t.mask (begP t (k.hash w)) c → c ≤ K → K < c + f →
      (∀ (c' i : Nat) (p : NestedKey × Addr), c' < c → L[i]? = some p → t.place.toList[i]? = some (way t.mask (k.hash w) c') → p.1 ≠ k) →
      wpAny (model P w) A (setSearchFrom a (.ref x) (k.hash w) true f st) Q E s := by
  intro f
  induction f with
  | zero => intro c st _ h1 h2; omega
  | succ f ih =>
    intro c st hst h1 h2 past
    obtain ⟨o, ep, ho, hex, hd⟩ := R.ob
    have gw : ¬ t.gaveWay = true := by unfold SetTable.gaveWay; rw [mask_odd R.tab.mok]; decide
    rw [setSearchFrom_succ]
    refine wpAny_bind (wpAny_setState_of ho hd R.fits ?_)
    dsimp only
    refine wp_if_neg gw ?_
    try refine wpAny_bind (wpAny_pure ?_)
    obtain ⟨hA, ehA⟩ : ∃ hA : Nat → Int, (fun i => (es[i]?.map (·.1)).getD 0) = hA := ⟨_, rfl⟩
    rw [ehA]
    have hAt : ∀ i p, L[i]? = some p → hA i = p.1.hash w := fun i p hp => by
      rw [← ehA]
      show (es[i]?.map (·.1)).getD 0 = _
      rw [R.row hp]
      rfl
    have spec := go_spec t R.tab.ris R.tab.dm hA (k.hash w) (10 * SetTable.turns t.mask) (K - c) (nth t.mask (begP t (k.hash w)) c) (no_dummy _ _ _ rfl) (by omega)
      (fun q hq => by rw [way_nth]; exact hb _ (by omega)) (by rw [way_nth, show c + (K - c) = K by omega]; exact hK)
    simp only [way_nth] at spec
    rw [show c + (K - c) = K by omega] at spec
    have pr : t.probe hA (k.hash w) (st.getD (t.probeStart (k.hash w))) = SetTable.probe.go t hA (k.hash w) (10 * SetTable.turns t.mask) (nth t.mask (begP t (k.hash w)) c) := by rw [hst]; rfl
    rw [pr]
    rcases spec with ⟨q, i, hq, hi, hh, hno, e⟩ | ⟨hno, e⟩
    · rw [e]
      dsimp only
      have hil : i < L.length := by rw [← R.placed]; exact (List.getElem?_eq_some_iff.mp hi).1
      obtain ⟨p, hp⟩ : ∃ p, L[i]? = some p := ⟨_, List.getElem?_eq_getElem hil⟩
      have hpm : p ∈ L := List.mem_of_getElem? hp
      have rest : wpAny (model P w) A (searchRest a (.ref x) (k.hash w) true f es t (way t.mask (k.hash w) (c + q)) i (nth t.mask (nth t.mask (begP t (k.hash w)) c) (q + 1))) Q E s := by
        unfold searchRest
        rw [R.row hp]
        dsimp only
        refine wpAny_bind (wpAny_holding ((nestedKind P w).eqBool (x := p.1) (y := k) hu ⟨(R.keys p hpm).is, (R.keys p hpm).deep⟩ ⟨hx.is, hx.deep⟩ ?_))
        refine wpAny_bind (wpAny_setState_of ho hd R.fits ?_)
        dsimp only
        by_cases same : p.1 = k
        · refine wp_if_pos (by simp [same]) (wpAny_pure (hin (List.mem_map.mpr ⟨p, hpm, same⟩)))
        · refine wp_if_neg (by simp [same]) ?_
          try refine wpAny_bind (wpAny_pure ?_)
          rw [sameMem]
          dsimp only
          simp only [if_true, slot_live R.tab.ris hi, R.row hp]
          refine wpAny_bind (wpAny_isSame_ref_self (wpAny_bind (wpAny_pure ?_)))
          simp only [if_true]
          refine wp_if_neg (by simp [same]) ?_
          refine ih (c + (q + 1)) _ (nth_add t.mask c _ (q + 1)).symm (by omega) (by omega) fun c' i' p' hc' hp' hi' => ?_
          rcases Nat.lt_or_ge c' c with z | z
          · exact past c' i' p' z hp' hi'
          · rcases Nat.lt_or_ge c' (c + q) with y | y
            · intro ek
              refine hno (c' - c) i' (by omega) (by rw [show c + (c' - c) = c' by omega]; exact hi') ?_
              rw [hAt i' p' hp', ek]
            · have ec : c' = c + q := by omega
              rw [ec] at hi'
              have s1 := slot_live R.tab.ris hi
              rw [slot_live R.tab.ris hi'] at s1
              injection s1 with s1
              rw [s1, hp] at hp'
              cases hp'
              exact same
      by_cases hl : t.led = true
      · refine wp_if_neg (by simp [hl]) ?_
        try refine wpAny_bind (wpAny_pure ?_)
        exact rest
      · refine wp_if_pos (by simp [hl]) ?_
        refine wpAny_bind (nk_unseen hx ?_ _ fun y hy => ?_)
        · refine wp_if_neg (by decide) ?_
          try refine wpAny_bind (wpAny_pure ?_)
          exact rest
        · obtain ⟨e1, m1, rfl⟩ := List.mem_map.mp hy
          have m2 : e1 ∈ es.toList := by
            have : e1 ∈ es ∧ e1.1 = k.hash w := by simpa using m1
            simpa using this.1
          rw [R.rows] at m2
          obtain ⟨p2, m3, rfl⟩ := List.mem_map.mp m2
          exact ⟨p2.1, p2.2, rfl, R.keys p2 m3⟩
    · rw [e]
      dsimp only
      refine wpAny_pure (hout fun hm => ?_)
      obtain ⟨p, hp, ek⟩ := List.mem_map.mp hm
      obtain ⟨i, hi, ep'⟩ := List.getElem_of_mem hp
      have hpi : L[i]? = some p := by rw [List.getElem?_eq_getElem hi, ep']
      have hj := List.getElem?_eq_getElem (show i < t.place.toList.length by rw [R.placed]; exact hi)
      obtain ⟨c', hc', ew⟩ := R.tab.before hK (by rw [List.getElem?_map, hpi, ← ek]; rfl) hj
      rw [← ew] at hj
      rcases Nat.lt_or_ge c' c with z | z
      · exact past c' i p z hpi hj ek
      · refine hno (c' - c) i (by omega) (by rw [show c + (c' - c) = c' by omega]; exact hj) ?_
        rw [hAt i p hpi, ek]
/-- the search for a key that is to be added -/
theorem nset_search (R : NSet w s.heap a L es t) {x : Addr} {k : NestedKey} (hx : NK s.heap k x) (hu : A.units + 8 < cLine) {Q : SetFound → Shared → Prop} (hin : k ∈ L.map (·.1) → Q (.there none) s)
    (hout : ∀ K, k ∉ L.map (·.1) → way t.mask (k.hash w) K ∉ t.place.toList → (∀ c, c < K → way t.mask (k.hash w) c ∈ t.place.toList) → Q (.free (way t.mask (k.hash w) K) false) s) :
    wpAny (model P w) A (setSearch a (.ref x) (k.hash w) true) Q E s := by
  have hroom := R.room
  obtain ⟨K, k1, k2, k3⟩ := R.tab.first (by rw [List.length_map]; omega) (k.hash w)
  have big : 10 * SetTable.turns t.mask ≤ 100000 := by
    unfold SetTable.turns
    rcases R.tab.mok with e | e | e <;> omega
  unfold setSearch
  exact nset_go R hx hu k1 k2 k3 hin (fun hn => hout K hn k2 k3) 100000 0 none rfl (Nat.zero_le _) (by omega) fun c' i p hc => absurd hc (Nat.not_lt_zero _)

theorem fm_map {α β : Type} {f : α → Option β} {g : α → β} : ∀ {l : List α}, (∀ x ∈ l, f x = some (g x)) → l.filterMap f = l.map g
  | [], _ => rfl
  | x :: l, h => by rw [List.filterMap_cons, h x List.mem_cons_self, List.map_cons, fm_map fun y hy => h y (List.mem_cons_of_mem _ hy)]
theorem range_self {α : Type} (L : List α) (d : α) : (List.range L.length).map (fun i => L.getD i d) = L := by
  apply List.ext_getElem
  · rw [List.length_map, List.length_range]
  · intro i h1 h2
    rw [List.getElem_map, List.getElem_range, List.getD_eq_getElem?_getD, List.getElem?_eq_getElem h2]
    rfl
/-- the rows in another order -/
theorem rows_moved {order : Array Nat} (hr : es.toList = rowK w L) (hp : order.toList.Perm (List.range L.length)) :
    ∃ L2, (order.filterMap (es[·]?)).toList = rowK w L2 ∧ L2.Perm L ∧ (L2.map fun p => p.1.hash w) = order.toList.map fun i => (es.map (·.1)).getD i 0 := by
  have hin : ∀ i ∈ order.toList, i < L.length := fun i hi => List.mem_range.mp (hp.mem_iff.mp hi)
  have hes : ∀ i, i < L.length → es[i]? = some ((L.getD i (.none, 0)).1.hash w, Value.ref (L.getD i (.none, 0)).2) := fun i hi => by
    have e : L[i]? = some (L.getD i (.none, 0)) := by rw [List.getD_eq_getElem?_getD, List.getElem?_eq_getElem hi]; rfl
    rw [← Array.getElem?_toList, hr, rowK_at e]
  refine ⟨order.toList.map fun i => L.getD i (.none, 0), ?_, ?_, ?_⟩
  · rw [Array.toList_filterMap, fm_map (g := fun i => ((L.getD i (.none, 0)).1.hash w, Value.ref (L.getD i (.none, 0)).2)) fun i hi => hes i (hin i hi)]
    unfold rowK
    rw [List.map_map]
    rfl
  · have := hp.map fun i => L.getD i ((.none, 0) : NestedKey × Addr)
    rwa [range_self] at this
  · rw [List.map_map]
    refine List.map_congr_left fun i hi => ?_
    have e : (es.map (·.1))[i]? = some ((L.getD i (.none, 0)).1.hash w) := by rw [Array.getElem?_map, hes i (hin i hi)]; rfl
    show (L.getD i (.none, 0)).1.hash w = _
    rw [Array.getD_eq_getD_getElem?, e]
    rfl
/-- the table is laid anew, larger -/
theorem nset_relay {o : Obj} {ep : Nat} (ho : s.heap.get? a = some o) (hex : o.ExactSet) (hd : o.data = .set es ep t) (hr : es.toList = rowK w L) (hsz : t.place.size = L.length) (hdm : t.dummies = #[]) (hle : L.length ≤ t.mask)
    (hk : ∀ p ∈ L, NK s.heap p.1 p.2) (hu : (L.map (·.1)).Nodup) (hpl : t.plain = true) (hled : w.params.followText "set-order" = true ∨ t.led = true) (hfew : L.length < 64) {wanted M : Nat}
    (hw : SetTable.sizeAbove wanted = M + 1) (hM : MaskOk M) (hroom : L.length * 5 < M * 3) {Q : Unit → Shared → Prop}
    (hQ : ∀ h' L' es' t', Heap.SameBut a s.heap h' → NSet w h' a L' es' t' → L'.Perm L → Q () { s with heap := h' }) : wpAny (model P w) A (setRelay a wanted) Q E s := by
  have hes : es.size = L.length := by rw [← Array.length_toList, hr, rowK_len]
  have hM2 : M ≤ 127 := by rcases hM with e | e | e <;> omega
  obtain ⟨t', order, e, hp, T, em, el, ep', -⟩ := relaid_ok t (hs := es.map (·.1)) (wanted := wanted) (M := M) (by rw [hw]; rfl) hM (by rw [Array.size_map, hes]; omega)
  rw [Array.size_map, hes] at hp
  obtain ⟨L2, r1, r2, r3⟩ := rows_moved (es := es) hr hp
  rw [← r3] at T
  have hs2 : (order.filterMap (es[·]?)).size = es.size := by rw [← Array.length_toList, r1, rowK_len, r2.length_eq, hes]
  rw [setRelay_eq]
  refine wpAny_bind (wpAny_setState_of ho hd (fits_of (by rw [hes]; exact hsz) hdm (by rw [hes]; exact hle)) ?_)
  dsimp only
  refine wp_if_neg (by rw [hw, sizeLine_eq]; omega) ?_
  try refine wpAny_bind (wpAny_pure ?_)
  rw [e]
  dsimp only
  refine wpAny_bind ?_
  refine wp_if_neg (by rw [hs2]; simp) ?_
  try refine wpAny_bind (wpAny_pure ?_)
  refine wpAny_pure ?_
  dsimp only
  refine wpAny_storeSet_of ho hd ?_ (by rw [hs2, hes, sizeLine_eq]; omega)
  have sb : Heap.SameBut a s.heap (s.heap.update a (Obj.putSet (order.filterMap (es[·]?)) t')) := Heap.SameBut.update ..
  refine hQ _ L2 (order.filterMap (es[·]?)) t' sb ⟨⟨_, _, store_at ho hd, ⟨hex.1, hex.2.1, hex.2.2⟩, rfl⟩, r1, T, fun p hpm => (hk p (r2.mem_iff.mp hpm)).but ho hd sb, (r2.map (·.1)).nodup_iff.mpr hu, by rw [ep']; exact hpl, by rw [el]; exact hled, by rw [r2.length_eq, em]; exact hroom, by rw [r2.length_eq]; exact hfew⟩ r2

theorem rowK_put (k : NestedKey) (x : Addr) (p : Nat) : rowK w (L.take p ++ (k, x) :: L.drop p) = (rowK w L).take p ++ (k.hash w, Value.ref x) :: (rowK w L).drop p := by
  unfold rowK
  rw [List.map_append, List.map_cons, List.map_take, List.map_drop]
theorem full_masks (hm : MaskOk t.mask) (hr : L.length * 5 < t.mask * 3) (hfew : L.length + 1 < 64) (hf : (L.length + 1) * 5 ≥ t.mask * 3) : ∃ M, SetTable.sizeAbove (SetTable.grown (L.length + 1)) = M + 1 ∧ MaskOk M ∧ (L.length + 1) * 5 < M * 3 ∧ L.length + 1 ≤ t.mask := by
  rcases hm with e | e | e
  · have : L.length + 1 = 5 := by omega
    rw [this]
    exact ⟨31, size_20, .inr (.inl rfl), by decide, by omega⟩
  · have : L.length + 1 = 19 := by omega
    rw [this]
    exact ⟨127, size_76, .inr (.inr rfl), by decide, by omega⟩
  · omega
/-- a key is added -/
theorem nset_add (R : NSet w s.heap a L es t) {x : Addr} {k : NestedKey} (hx : NK s.heap k x) (hu : A.units + 8 < cLine) (hfew : L.length + 1 < 64) {Q : Bool → Shared → Prop}
    (hQ : ∀ b h' L' es' t', Heap.SameBut a s.heap h' → NSet w h' a L' es' t' → (k ∈ L.map (·.1) → L' = L) → (k ∉ L.map (·.1) → L'.Perm ((k, x) :: L)) → Q b { s with heap := h' }) :
    wpAny (model P w) A (setAddHashed a (.ref x) (k.hash w)) Q E s := by
  obtain ⟨o, ep, ho, hex, hd⟩ := R.ob
  unfold setAddHashed
  refine wpAny_holding ?_
  rw [show (100000 : Nat) = 99999 + 1 from rfl, setAddHashedIn_succ]
  refine wpAny_bind (wpAny_setState_of ho hd R.fits ?_)
  dsimp only
  refine wp_if_neg (by simp [byScan, Value.scannable]) ?_
  try refine wpAny_bind (wpAny_pure ?_)
  refine wpAny_bind (nset_search R hx hu (fun hm => wpAny_pure (hQ false s.heap L es t (Heap.SameBut.refl a s.heap) R (fun _ => rfl) fun z => absurd hm z)) fun K hm hK hb => ?_)
  dsimp only
  refine wpAny_bind (wpAny_setState_of ho hd R.fits ?_)
  dsimp only
  obtain ⟨q1, q2, q3, q4, q5, q6, q7, q8, q9⟩ := R.tab.put hK hb
  rw [List.length_map] at q9
  have hpl : (t.put (way t.mask (k.hash w) K)).1.plain = true := by rw [q6]; exact R.plain
  have hled : w.params.followText "set-order" = true ∨ (t.put (way t.mask (k.hash w) K)).1.led = true := by rw [q5]; exact R.led
  -- where the new row stands
  have hrow : (SetTable.insertAt es (SetTable.below t.place (way t.mask (k.hash w) K)) (k.hash w, Value.ref x)).toList = rowK w (L.take (SetTable.below t.place (way t.mask (k.hash w) K)) ++ (k, x) :: L.drop (SetTable.below t.place (way t.mask (k.hash w) K))) := by
    rw [SetTable.toList_insertAt, rowK_put, R.rows]
  have pm := put_perm L (SetTable.below t.place (way t.mask (k.hash w) K)) (k, x)
  have hhs : (L.take (SetTable.below t.place (way t.mask (k.hash w) K)) ++ (k, x) :: L.drop (SetTable.below t.place (way t.mask (k.hash w) K))).map (fun p => p.1.hash w) = (L.map fun p => p.1.hash w).take (SetTable.below t.place (way t.mask (k.hash w) K)) ++ k.hash w :: (L.map fun p => p.1.hash w).drop (SetTable.below t.place (way t.mask (k.hash w) K)) := by
    rw [List.map_append, List.map_cons, List.map_take, List.map_drop]
  rw [← hhs] at q3
  generalize hpt : t.put (way t.mask (k.hash w) K) = pt at q1 q3 q4 q5 q6 q7 q8 q9 hpl hled ⊢
  obtain ⟨t1, p⟩ := pt
  dsimp only at q1 q3 q4 q5 q6 q7 q8 q9 hpl hled ⊢
  rw [← q1] at q3 hrow pm
  clear hhs hpt
  generalize L.take p ++ (k, x) :: L.drop p = L1 at q3 hrow pm
  have hL1 : L1.length = L.length + 1 := pm.length_eq
  have hsz1 : t1.place.size = L1.length := by rw [q3.sz, List.length_map]
  have huq : (L1.map (·.1)).Nodup := (pm.map (·.1)).nodup_iff.mpr (by rw [List.map_cons]; exact List.nodup_cons.mpr ⟨hm, R.uniq⟩)
  first
    | (refine wpAny_bind ?_; refine wp_if_pos hpl ?_; refine key_byval k _ 8 s hx.is hx.deep hx.plain _ _ _ ?_)
    | refine wp_if_pos hpl (wpAny_bind (key_byval k _ 8 s hx.is hx.deep hx.plain _ _ _ ?_))
  simp only [if_true]
  have hes : (SetTable.insertAt es p (k.hash w, Value.ref x)).size = L1.length := by rw [← Array.length_toList, hrow, rowK_len]
  generalize SetTable.insertAt es p (k.hash w, Value.ref x) = es1 at hrow hes ⊢
  refine wpAny_bind (wpAny_storeSet_of ho hd ?_ (by rw [hes, hL1, sizeLine_eq]; omega))
  have sb : Heap.SameBut a s.heap (s.heap.update a (Obj.putSet es1 t1)) := Heap.SameBut.update ..
  have ho1 := store_at (es' := es1) (t' := t1) ho hd
  generalize s.heap.update a (Obj.putSet es1 t1) = h1 at sb ho1 ⊢
  have keys1 : ∀ p ∈ L1, NK h1 p.1 p.2 := fun p hp => by
    rcases List.mem_cons.mp (pm.mem_iff.mp hp) with e | z
    · subst e; exact hx.but ho hd sb
    · exact (R.keys p z).but ho hd sb
  have hfull : t1.tooFull = decide ((L.length + 1) * 5 ≥ t1.mask * 3) := by unfold SetTable.tooFull; rw [q9]
  by_cases hf : t1.tooFull = true
  · obtain ⟨M, m1, m2, m3, m4⟩ := full_masks R.tab.mok R.room hfew (by rw [← q4]; rw [hfull] at hf; exact of_decide_eq_true hf)
    have lay : wpAny (model P w) A (setRelay a (SetTable.grown (es.size + 1))) (fun _ s' => wpAny (model P w) A (pure true) Q E s') E { s with heap := h1 } := by
      rw [R.sz]
      refine nset_relay (s := { s with heap := h1 }) (L := L1) ho1 ⟨hex.1, hex.2.1, hex.2.2⟩ rfl hrow hsz1 q3.dm (by rw [hL1, q4]; exact m4) keys1 huq hpl hled (by omega) m1 m2 (by rw [hL1]; exact m3) fun h2 L2 es2 t2 sb2 R2 pm2 => ?_
      exact wpAny_pure (hQ true h2 L2 es2 t2 (sb.trans sb2) R2 (fun z => absurd z hm) fun _ => pm2.trans pm)
    first
      | (refine wpAny_bind ?_; refine wp_if_pos (by simp [hf]) ?_; exact lay)
      | (refine wp_if_pos (by simp [hf]) ?_; exact wpAny_bind lay)
  · have hroom : L1.length * 5 < t1.mask * 3 := by
      rw [hfull, decide_eq_true_iff] at hf
      omega
    have fin : wpAny (model P w) A (pure true) Q E { s with heap := h1 } := wpAny_pure (hQ true h1 L1 es1 t1 sb ⟨⟨_, _, ho1, ⟨hex.1, hex.2.1, hex.2.2⟩, rfl⟩, hrow, q3, keys1, huq, hpl, hled, hroom, by omega⟩ (fun z => absurd z hm) fun _ => pm)
    first
      | (refine wp_if_neg (by simp [hf]) ?_; exact fin)
      | (refine wpAny_bind ?_; refine wp_if_neg (by simp [hf]) ?_; exact wpAny_pure fin)
end
end
end DD
namespace DD
open PySem PySem.Spec PyProof.Rows L2
/-! ### set(..) of nested tuples -/
section
variable {P : Program} {w : World} {A : Around} {E : Value → Shared → Prop} {s : Shared}
/-- a new set -/
def freshSet (w : World) : Obj := { cls := .type "set", dict := none, data := .set #[] 0 (.fresh 0 0 (!w.params.followText "set-order")) }
theorem call_set_by {x : Value} {Q : Value → Shared → Prop} {R : Shared → Prop} (hq : ∀ s', R s' → Q (.ref s.heap.objs.size) s')
    (hi : wpAny (model P w) A.in1.in1 (Builtin.«set.__init__» ⟨[.ref s.heap.objs.size, x], []⟩) (fun fin s' => match fin with
      | .done f => wants (fun r s₂ => r = .none ∧ R s₂) E (.ok f) s'
      | .again c' => c'.quiet = true ∧ codeAny (model P w) A.in1 c' (wants (fun r s₂ => r = .none ∧ R s₂) E) s') (fun e s' => wants (fun r s₂ => r = .none ∧ R s₂) E (.error e) s') { s with heap := s.heap.push (freshSet w) }) :
    wpAny (model P w) A (call (.type "set") [x]) Q E s := by
  obtain ⟨c, tl, hmro⟩ := F.called_set.mro
  have hmade := F.called_set.made
  have hsub := F.called_set.sub
  refine wpAny_call (codeAny_of_tree ?_)
  show wpAny _ _ (callAny (.type "set") _) _ _ _
  refine wpAny_pure ⟨Code.quiet_builtin _ (by decide +kernel), codeAny_builtin F.entry_type_call ?_⟩
  rw [Around.under_plain (weight_type_call_type "set" [x] []) rfl]
  have h1 := F.called_set.notType
  have h2 := F.called_set.canCreate
  have hct := F.typeCall_set_1 x
  repeat (any_goals (first | assumption | wp_step))
  refine codeAny_mono (code_set_led1 x (E := E) (Q₁ := fun obj s₁ => obj = .ref s.heap.objs.size ∧ s₁ = { s with heap := s.heap.push (freshSet w) }) ⟨rfl, rfl⟩) fun r s₁ hr => ?_
  cases r with
  | error e => exact hr
  | ok fl =>
    cases fl with
    | ret obj =>
      obtain ⟨rfl, rfl⟩ := hr
      have hS : (s.heap.push (freshSet w)).get? s.heap.objs.size = some (freshSet w) := Heap.get?_push_size _ rfl
      have hT : Shared.TypeIs { s with heap := s.heap.push (freshSet w) } (.ref s.heap.objs.size) "set" := ⟨_, hS, rfl⟩
      have hli := F.called_set.init.lookup
      have hbi := F.called_set.init.bind (.ref s.heap.objs.size)
      repeat (any_goals (first | assumption | wp_step))
      refine codeAny_mono (codeAny_call_builtin (R := wants (fun r s₂ => r = .none ∧ R s₂) E) F.called_set.init.plain F.entry_set_init (check_set_init_1 hT hi)) fun r₂ s₂ hr₂ => ?_
      cases r₂ with
      | error e => exact hr₂
      | ok fl₂ =>
        cases fl₂ with
        | ret r =>
          obtain ⟨rfl, hR⟩ := hr₂
          repeat (any_goals (first | assumption | wp_step))
          exact hq _ hR
        | _ => exact hr₂.elim
    | _ => exact hr.elim
/-- the new set is asked to take what a list has -/
theorem init_list {l : Addr} {items : Array Value} {R : Result → Shared → Prop} {s0 : Shared} (hl : s0.heap.IsList l items) (hlt : l < s0.heap.objs.size)
    (h : codeAny (model P w) A.in1.in1 (.builtin "set.update.loop" ⟨[.ref s0.heap.objs.size, .ref (s0.heap.objs.size + 1)], []⟩) (wants (fun _ s' => R (.ok (.ret .none)) s') fun e s' => R (.error e) s') { s0 with heap := (s0.heap.push (freshSet w)).push { cls := .type "list_iterator", data := .fields #[.ref l, .int 0 0] } }) :
    wpAny (model P w) A.in1.in1 (Builtin.«set.__init__» ⟨[.ref s0.heap.objs.size, .ref l], []⟩) (fun fin s' => match fin with
      | .done f => R (.ok f) s'
      | .again c' => c'.quiet = true ∧ codeAny (model P w) A.in1 c' R s') (fun e s' => R (.error e) s') { s0 with heap := s0.heap.push (freshSet w) } := by
  have hS : (s0.heap.push (freshSet w)).get? s0.heap.objs.size = some (freshSet w) := Heap.get?_push_size _ rfl
  have hT : Shared.TypeIs { s0 with heap := s0.heap.push (freshSet w) } (.ref s0.heap.objs.size) "set" := ⟨_, hS, rfl⟩
  obtain ⟨ol, hol, hcl, nl, hdl⟩ := hl
  obtain ⟨ocls, odict, odata, oslots⟩ := ol
  simp only at hcl hdl
  subst hcl; subst hdl
  have hol' : (s0.heap.push (freshSet w)).get? l = some { cls := .type "list", dict := odict, data := .seq items nl, slots := oslots } := Heap.get?_push_of_some _ hol
  have hsls := F.sub_list_set
  have hslf := F.sub_list_frozenset
  have hne : (Value.type "list" == Value.type "dict") = false := by decide
  have hl1 : (s0.heap.push (freshSet w)).IsList l items := ⟨_, hol', rfl, nl, rfl⟩
  unfold freshSet at *
  unfold Builtin.«set.__init__» noKeywords Builtin.Frozenset.updateFrom
  generalize hPI : pyIter = PI
  wp_walk
  subst hPI
  refine wpAny_pyIter_list hl1 ?_
  refine wpAny_bind (wpAny_runValue (codeAny_mono (by rw [Heap.size_push]; exact h) fun r s' hr => ?_))
  cases r with
  | error e => exact hr
  | ok fl =>
    cases fl with
    | ret v => exact wpAny_pure (wpAny_pure hr)
    | _ => exact hr.elim

/-- the same of a tuple -/
theorem init_tup {l : Addr} {items : Array Value} {R : Result → Shared → Prop} {s0 : Shared} (hl : s0.heap.IsTuple l items) (hlt : l < s0.heap.objs.size)
    (h : codeAny (model P w) A.in1.in1 (.builtin "set.update.loop" ⟨[.ref s0.heap.objs.size, .ref (s0.heap.objs.size + 1)], []⟩) (wants (fun _ s' => R (.ok (.ret .none)) s') fun e s' => R (.error e) s') { s0 with heap := (s0.heap.push (freshSet w)).push { cls := .type "tuple_iterator", data := .fields #[.ref l, .int 0 0] } }) :
    wpAny (model P w) A.in1.in1 (Builtin.«set.__init__» ⟨[.ref s0.heap.objs.size, .ref l], []⟩) (fun fin s' => match fin with
      | .done f => R (.ok f) s'
      | .again c' => c'.quiet = true ∧ codeAny (model P w) A.in1 c' R s') (fun e s' => R (.error e) s') { s0 with heap := s0.heap.push (freshSet w) } := by
  have hS : (s0.heap.push (freshSet w)).get? s0.heap.objs.size = some (freshSet w) := Heap.get?_push_size _ rfl
  have hT : Shared.TypeIs { s0 with heap := s0.heap.push (freshSet w) } (.ref s0.heap.objs.size) "set" := ⟨_, hS, rfl⟩
  obtain ⟨ol, hol, hcl, nl, hdl⟩ := hl
  obtain ⟨ocls, odict, odata, oslots⟩ := ol
  simp only at hcl hdl
  subst hcl; subst hdl
  have hol' : (s0.heap.push (freshSet w)).get? l = some { cls := .type "tuple", dict := odict, data := .seq items nl, slots := oslots } := Heap.get?_push_of_some _ hol
  have hsls : isSubtype (.type "tuple") (.type "set") = pure false := by rw [isSubtype_type]; kernel_rfl
  have hslf : isSubtype (.type "tuple") (.type "frozenset") = pure false := by rw [isSubtype_type]; kernel_rfl
  have hne : (Value.type "tuple" == Value.type "dict") = false := by decide
  have hl1 : (s0.heap.push (freshSet w)).IsTuple l items := ⟨_, hol', rfl, nl, rfl⟩
  unfold freshSet at *
  unfold Builtin.«set.__init__» noKeywords Builtin.Frozenset.updateFrom
  generalize hPI : pyIter = PI
  wp_walk
  subst hPI
  refine wpAny_pyIter_tuple hl1 ?_
  refine wpAny_bind (wpAny_runValue (codeAny_mono (by rw [Heap.size_push]; exact h) fun r s' hr => ?_))
  cases r with
  | error e => exact hr
  | ok fl =>
    cases fl with
    | ret v => exact wpAny_pure (wpAny_pure hr)
    | _ => exact hr.elim
/-- taking what is walked, by what each adding does -/
theorem set_loop {I S : Addr} {fp wr : List Addr} {G : Array GenState → Array GenState → Prop} {n : Nat} {Pv : Nat → Value → Prop} {St : Nat → Shared → Prop} {R : Result → Shared → Prop} (W : WalksS P w A.in1 I fp wr G n Pv St) (hS : S ∉ fp)
    {h0 : Heap} (hS0 : h0.get? S = none) (hw0 : ∀ b ∈ wr, h0.get? b = none) (J : Nat → Heap → Prop)
    (hJ : ∀ i h h', J i h → (∀ o, h.get? S = some o → h'.get? S = some o) → (∀ b o, h0.get? b = some o → h'.get? b = some o) → J i h')
    (step : ∀ i v (s : Shared) (E : Value → Shared → Prop) (Q : Bool → Shared → Prop), i < n → Pv i v → J i s.heap → (∀ b o, h0.get? b = some o → s.heap.get? b = some o) →
      (∀ b h' tk, Heap.SameBut S s.heap h' → s.toks ≤ tk → J (i + 1) h' → Q b { s with heap := h', toks := tk }) → wpAny (model P w) A.in1 (setAdd S v) Q E s) :
    ∀ (k i : Nat) (s : Shared), i + k = n → St i s → J i s.heap → (∀ b o, h0.get? b = some o → s.heap.get? b = some o) →
      (∀ s', Moved (S :: wr) G s s' → J n s'.heap → (∀ b o, h0.get? b = some o → s'.heap.get? b = some o) → R (.ok (.ret .none)) s') →
      codeAny (model P w) A (.builtin "set.update.loop" ⟨[.ref S, .ref I], []⟩) R s := by
  have hSw : S ∉ wr := fun h => hS (W.sub _ h)
  have more : ∀ b ∈ wr, b ∈ S :: wr := fun b hb => List.mem_cons_of_mem _ hb
  have kept : ∀ {s s' : Shared}, Moved wr G s s' → (∀ b o, h0.get? b = some o → s.heap.get? b = some o) → ∀ b o, h0.get? b = some o → s'.heap.get? b = some o := fun m h b o e =>
    m.heap b o (fun hb => by rw [hw0 b hb] at e; cases e) (h b o e)
  intro k
  induction k with
  | zero =>
    intro i s hi hst hj hk hR
    have e : i = n := by omega
    subst e
    refine codeAny_builtin F.entry_set_update_loop ?_
    rw [Around.under_plainId F.plain_set_update_loop _]
    show wpAny _ A.in1 (pyNext (.ref I) >>= _) _ _ s
    refine wpAny_bind (W.done s _ _ hst fun s' m => ?_)
    show wpAny _ A.in1 (ret Value.none) _ _ s'
    exact wpAny_pure (hR s' (m.mono more) (hJ _ _ _ hj (fun o e => m.heap S o hSw e) (kept m hk)) (kept m hk))
  | succ k ih =>
    intro i s hi hst hj hk hR
    refine codeAny_builtin F.entry_set_update_loop ?_
    rw [Around.under_plainId F.plain_set_update_loop _]
    show wpAny _ A.in1 (pyNext (.ref I) >>= _) _ _ s
    refine wpAny_bind (W.item i s _ _ (by omega) hst fun v s' hv hst' m => ?_)
    show wpAny _ A.in1 (holding [v] (setAdd S v) >>= _) _ _ s'
    have hk' := kept m hk
    refine wpAny_bind (wpAny_holding (step i v s' _ _ (by omega) hv (hJ _ _ _ hj (fun o e => m.heap S o hSw e) hk') hk' fun b h' tk sb ht hj' => ?_))
    have hk2 : ∀ b o, h0.get? b = some o → h'.get? b = some o := fun b o e => (sb.2 b (fun z => by rw [z, hS0] at e; cases e)).trans (hk' b o e)
    refine wpAny_pure ⟨plainId_quiet F.plain_set_update_loop _, ih (i + 1) _ (by omega) (W.frame _ s' _ _ hst' ht fun b hb o e => ?_) hj' hk2 fun s2 m2 hj2 hk3 => ?_⟩
    · rw [sb.2 b (fun z : b = S => hS (by rw [← z]; exact hb))]
      exact e
    · refine hR s2 (Moved.trans W.gtrans ((m.mono more).then_heap ht fun b o hb e => ?_) m2) hj2 hk3
      rw [sb.2 b (fun z : b = S => hb (by rw [z]; exact List.mem_cons_self))]
      exact e
theorem none_from {h : Heap} {b : Addr} (hb : h.objs.size ≤ b) : h.get? b = none := by
  cases q : h.get? b with
  | none => rfl
  | some o => exact absurd (Nat.lt_of_lt_of_le (Heap.lt_size q) hb) (Nat.lt_irrefl _)
theorem call_set_L {l : Addr} {items : Array Value} {Q : Value → Shared → Prop} (hh : A.handled = none) (hl : s.heap.IsList l items) (J : Nat → Heap → Prop)
    (hJ : ∀ i h h', J i h → (∀ o, h.get? s.heap.objs.size = some o → h'.get? s.heap.objs.size = some o) → (∀ b o, s.heap.get? b = some o → h'.get? b = some o) → J i h')
    (h0 : ∀ h, h.get? s.heap.objs.size = some (freshSet w) → J 0 h)
    (step : ∀ i v (s1 : Shared) (E : Value → Shared → Prop) (Q : Bool → Shared → Prop), i < items.size → items[i]? = some v → J i s1.heap → (∀ b o, s.heap.get? b = some o → s1.heap.get? b = some o) →
      (∀ b h' tk, Heap.SameBut s.heap.objs.size s1.heap h' → s1.toks ≤ tk → J (i + 1) h' → Q b { s1 with heap := h', toks := tk }) → wpAny (model P w) A.in1.in1.in1 (setAdd s.heap.objs.size v) Q E s1)
    (hQ : ∀ h' tk, J items.size h' → (∀ b o, s.heap.get? b = some o → h'.get? b = some o) → Q (.ref s.heap.objs.size) { s with heap := h', toks := tk }) :
    wpAny (model P w) A (call (.type "set") [.ref l]) Q E s := by
  have hlS : l < s.heap.objs.size := by obtain ⟨o, ho, -⟩ := hl; exact Heap.lt_size ho
  have hh3 : A.in1.in1.in1.handled = none := by simp [hh]
  refine call_set_by (R := fun s' => ∃ h' tk, s' = { s with heap := h', toks := tk } ∧ J items.size h' ∧ ∀ b o, s.heap.get? b = some o → h'.get? b = some o) (fun s' ⟨h', tk, e, j, k⟩ => by rw [e]; exact hQ h' tk j k) ?_
  refine init_list (R := wants (fun r s₂ => r = .none ∧ ∃ h' tk, s₂ = { s with heap := h', toks := tk } ∧ J items.size h' ∧ ∀ b o, s.heap.get? b = some o → h'.get? b = some o) E) hl hlS ?_
  have kk : ∀ b o, s.heap.get? b = some o → ((s.heap.push (freshSet w)).push { cls := .type "list_iterator", data := .fields #[.ref l, .int 0 0] }).get? b = some o := fun b o e => Heap.get?_push_of_some _ (Heap.get?_push_of_some _ e)
  refine set_loop ((Walks.list hh3 (s.heap.objs.size + 1) l (Nat.ne_of_lt (Nat.lt_succ_of_lt hlS)) items).toS) (S := s.heap.objs.size) (by simp only [List.mem_cons, List.not_mem_nil, or_false, not_or]; exact ⟨Nat.ne_of_lt (Nat.lt_succ_self _), Nat.ne_of_gt hlS⟩) (none_from (Nat.le_refl _)) (fun b hb => none_from (by rw [List.mem_singleton.mp hb]; exact Nat.le_succ _)) J hJ
    (fun i v s1 E Q hi hv => step i v s1 E Q hi hv) items.size 0 _ (by omega) ⟨⟨_, by have q := Heap.get?_push_size (s.heap.push (freshSet w)) (o := { cls := .type "list_iterator", data := .fields #[.ref l, .int 0 0] }) rfl; rw [Heap.size_push] at q; exact q, rfl, rfl⟩, (hl.push _).push _⟩ (h0 _ (Heap.get?_push_of_some _ (Heap.get?_push_size _ rfl))) kk fun s' m j k => ?_
  obtain ⟨h', g', d', tk', os'⟩ := s'
  have eg : g' = s.gens := m.gens
  have ed : d' = s.drawn := m.drawn
  have eo : os' = s.os := m.os
  subst eg ed eo
  exact ⟨rfl, h', tk', rfl, j, k⟩
theorem call_set_T {l : Addr} {items : Array Value} {Q : Value → Shared → Prop} (hh : A.handled = none) (hl : s.heap.IsTuple l items) (J : Nat → Heap → Prop)
    (hJ : ∀ i h h', J i h → (∀ o, h.get? s.heap.objs.size = some o → h'.get? s.heap.objs.size = some o) → (∀ b o, s.heap.get? b = some o → h'.get? b = some o) → J i h')
    (h0 : ∀ h, h.get? s.heap.objs.size = some (freshSet w) → J 0 h)
    (step : ∀ i v (s1 : Shared) (E : Value → Shared → Prop) (Q : Bool → Shared → Prop), i < items.size → items[i]? = some v → J i s1.heap → (∀ b o, s.heap.get? b = some o → s1.heap.get? b = some o) →
      (∀ b h' tk, Heap.SameBut s.heap.objs.size s1.heap h' → s1.toks ≤ tk → J (i + 1) h' → Q b { s1 with heap := h', toks := tk }) → wpAny (model P w) A.in1.in1.in1 (setAdd s.heap.objs.size v) Q E s1)
    (hQ : ∀ h' tk, J items.size h' → (∀ b o, s.heap.get? b = some o → h'.get? b = some o) → Q (.ref s.heap.objs.size) { s with heap := h', toks := tk }) :
    wpAny (model P w) A (call (.type "set") [.ref l]) Q E s := by
  have hlS : l < s.heap.objs.size := by obtain ⟨o, ho, -⟩ := hl; exact Heap.lt_size ho
  have hh3 : A.in1.in1.in1.handled = none := by simp [hh]
  refine call_set_by (R := fun s' => ∃ h' tk, s' = { s with heap := h', toks := tk } ∧ J items.size h' ∧ ∀ b o, s.heap.get? b = some o → h'.get? b = some o) (fun s' ⟨h', tk, e, j, k⟩ => by rw [e]; exact hQ h' tk j k) ?_
  refine init_tup (R := wants (fun r s₂ => r = .none ∧ ∃ h' tk, s₂ = { s with heap := h', toks := tk } ∧ J items.size h' ∧ ∀ b o, s.heap.get? b = some o → h'.get? b = some o) E) hl hlS ?_
  have kk : ∀ b o, s.heap.get? b = some o → ((s.heap.push (freshSet w)).push { cls := .type "tuple_iterator", data := .fields #[.ref l, .int 0 0] }).get? b = some o := fun b o e => Heap.get?_push_of_some _ (Heap.get?_push_of_some _ e)
  refine set_loop ((Walks.tuple hh3 (s.heap.objs.size + 1) l (Nat.ne_of_lt (Nat.lt_succ_of_lt hlS)) items).toS) (S := s.heap.objs.size) (by simp only [List.mem_cons, List.not_mem_nil, or_false, not_or]; exact ⟨Nat.ne_of_lt (Nat.lt_succ_self _), Nat.ne_of_gt hlS⟩) (none_from (Nat.le_refl _)) (fun b hb => none_from (by rw [List.mem_singleton.mp hb]; exact Nat.le_succ _)) J hJ
    (fun i v s1 E Q hi hv => step i v s1 E Q hi hv) items.size 0 _ (by omega) ⟨⟨_, by have q := Heap.get?_push_size (s.heap.push (freshSet w)) (o := { cls := .type "tuple_iterator", data := .fields #[.ref l, .int 0 0] }) rfl; rw [Heap.size_push] at q; exact q, rfl, rfl⟩, (hl.push _).push _⟩ (h0 _ (Heap.get?_push_of_some _ (Heap.get?_push_size _ rfl))) kk fun s' m j k => ?_
  obtain ⟨h', g', d', tk', os'⟩ := s'
  have eg : g' = s.gens := m.gens
  have ed : d' = s.drawn := m.drawn
  have eo : os' = s.os := m.os
  subst eg ed eo
  exact ⟨rfl, h', tk', rfl, j, k⟩
end
end DD
namespace DD
open PySem PySem.Spec PyProof.Rows L2
/-! ### sorted(set(..)) of nested tuples -/
theorem perm_map_ex {α β : Type} {f : α → β} : ∀ {l : List β} {m : List β}, l.Perm m → ∀ L : List α, m = L.map f → ∃ L' : List α, L'.Perm L ∧ l = L'.map f := by
  intro l m h
  induction h with
  | nil => intro L e; exact ⟨L, .refl _, e⟩
  | @cons x l m h ih =>
    intro L e
    cases L with
    | nil => cases e
    | cons a L =>
      injection e with e1 e2
      obtain ⟨L', p, q⟩ := ih L e2
      exact ⟨a :: L', p.cons a, by rw [List.map_cons, ← q, e1]⟩
  | swap x y l =>
    intro L e
    cases L with
    | nil => cases e
    | cons a L =>
      cases L with
      | nil => injection e with _ e; cases e
      | cons b L =>
        injection e with e1 e2
        injection e2 with e2 e3
        exact ⟨b :: a :: L, .swap a b L, by rw [List.map_cons, List.map_cons, ← e1, ← e2, ← e3]⟩
  | trans h1 h2 ih1 ih2 =>
    intro L e
    obtain ⟨L1, p1, q1⟩ := ih2 L e
    obtain ⟨L2, p2, q2⟩ := ih1 L1 q1
    exact ⟨L2, p2.trans p1, q2⟩
/-- a key that a set of ours may have -/
structure KS (k : NestedKey) : Prop where
  tt : TT k
  deep : k.depth ≤ 8
  plain : noTx k = true
section
variable {X : Cx} {pins : List (Addr × Obj)} {σ : L2.St} {G H : Hp} {s : Shared}
theorem keys_at (I : Inv X pins σ H s) (sub : Sub G H) : ∀ {ks : List NestedKey} {xs : List V} {us : List Value}, RpA G xs (ks.map NestedKey.data) → Vals xs us → (∀ k ∈ ks, KS k) →
    ∃ kb : List (NestedKey × Addr), kb.map (·.1) = ks ∧ us = kb.map (fun p => Value.ref p.2) ∧ ∀ p ∈ kb, NK s.heap p.1 p.2 ∧ Rp G (.ref p.2) p.1.data
  | [], _, _, .nil, .nil, _ => ⟨[], rfl, rfl, fun p hp => by cases hp⟩
  | k :: ks, x :: xs, u :: us, .cons r1 r2, .cons v1 v2, hk => by
    obtain ⟨kb, h1, h2, h3⟩ := keys_at I sub r2 v2 fun l hl => hk l (List.mem_cons_of_mem _ hl)
    obtain ⟨⟨f, r, ef⟩, hdp, hpl⟩ := hk k List.mem_cons_self
    have r1' := r1
    subst ef
    cases r1 with
    | @tup a ws _ e1 e2 =>
      cases v1
      have nis := rp_key I sub _ r1' (show RelV (.ref a) (.ref a) from rfl)
      refine ⟨(.tup (.tup f :: r), a) :: kb, by rw [List.map_cons, h1], by rw [List.map_cons, h2], fun p hp => ?_⟩
      rcases List.mem_cons.mp hp with e | e
      · subst e; exact ⟨⟨nis, hdp, hpl⟩, r1'⟩
      · exact h3 p e
section
variable {A : Around} {E : Value → Shared → Prop}
theorem nset_fresh {w : World} {h : Heap} {a : Addr} (ho : h.get? a = some (freshSet w)) : NSet w h a [] #[] (.fresh 0 0 (!w.params.followText "set-order")) where
  ob := ⟨_, _, ho, ⟨rfl, rfl, rfl⟩, rfl⟩
  rows := rfl
  tab := ⟨List.Pairwise.nil, rfl, rfl, .inl rfl, fun x hx => (by cases hx), fun i h j hi => (by simp at hi)⟩
  keys := fun p hp => by cases hp
  uniq := List.nodup_nil
  plain := rfl
  led := by
    cases q : w.params.followText "set-order" with
    | true => exact .inl rfl
    | false => exact .inr rfl
  room := by show 0 * 5 < 7 * 3; decide
  few := by show 0 < 64; decide
theorem NSet.keep {w : World} {h h' : Heap} {a : Addr} {L : List (NestedKey × Addr)} {es : Array (Int × Value)} {t : SetTable} (R : NSet w h a L es t) (ha : ∀ o, h.get? a = some o → h'.get? a = some o) (hk : ∀ p ∈ L, NK h' p.1 p.2) : NSet w h' a L es t := by
  obtain ⟨o, ep, ho, r⟩ := R.ob
  exact ⟨⟨o, ep, ha o ho, r⟩, R.rows, R.tab, hk, R.uniq, R.plain, R.led, R.room, R.few⟩
/-- what the set has of the first i keys -/
structure Gets (w : World) (kb : List (NestedKey × Addr)) (S : Addr) (i : Nat) (h : Heap) : Prop where
  ex : ∃ L es t, NSet w h S L es t ∧ (∀ p ∈ L, p ∈ kb) ∧ (∀ p ∈ kb.take i, p.1 ∈ L.map (·.1)) ∧ L.length ≤ i
theorem call_setK {P : Program} {w : World} {s : Shared} {l : Addr} {items : Array Value} {kb : List (NestedKey × Addr)} {Q : Value → Shared → Prop} (hh : A.handled = none) (hl : s.heap.IsList l items) (hit : items.toList = kb.map fun p => Value.ref p.2)
    (hk : ∀ p ∈ kb, NK s.heap p.1 p.2) (hfew : kb.length < 64) (hu : A.units + 16 < cLine) (hQ : ∀ h' tk, Gets w kb s.heap.objs.size kb.length h' → (∀ b o, s.heap.get? b = some o → h'.get? b = some o) → Q (.ref s.heap.objs.size) { s with heap := h', toks := tk }) :
    wpAny (model P w) A (call (.type "set") [.ref l]) Q E s := by
  have hsz : items.size = kb.length := by rw [← Array.length_toList, hit, List.length_map]
  refine call_set_L hh hl (Gets w kb s.heap.objs.size) (fun i h h' g ks ka => ?_) (fun h e => ⟨[], #[], _, nset_fresh e, fun p hp => (by cases hp), fun p hp => (by rw [List.take_zero] at hp; cases hp), Nat.le_refl _⟩) (fun i v s1 E Q hi hv g ka hq => ?_) (fun h' tk g ka => hQ h' tk (by rw [hsz] at g; exact g) ka)
  · obtain ⟨L, es, t, R, g1, g2, g3⟩ := g.ex
    exact ⟨L, es, t, R.keep ks fun p hp => (hk p (g1 p hp)).stay ka, g1, g2, g3⟩
  · obtain ⟨L, es, t, R, g1, g2, g3⟩ := g.ex
    have hv2 : items.toList[i]? = some v := by rw [Array.getElem?_toList]; exact hv
    rw [hit, List.getElem?_map] at hv2
    obtain ⟨p, hp, rfl⟩ := Option.map_eq_some_iff.mp hv2
    have hpm : p ∈ kb := List.mem_of_getElem? hp
    have hx : NK s1.heap p.1 p.2 := (hk p hpm).stay ka
    have htk : kb.take (i + 1) = kb.take i ++ [p] := by rw [List.take_succ, hp]; rfl
    have hu3 : A.in1.in1.in1.units + 8 < cLine := by simp only [Around.in1_units]; omega
    unfold setAdd
    refine wpAny_holding (wpAny_bind ((nestedKind P w).pyHash (k := p.1) hu3 ⟨hx.is, hx.deep⟩ ?_))
    refine nset_add (s := { s1 with toks := s1.toks + p.1.draws }) R hx hu3 (by omega) fun b h' L' es' t' sb R' same new => hq b h' _ sb (Nat.le_add_right _ _) ⟨L', es', t', R', ?_⟩
    by_cases m : p.1 ∈ L.map (·.1)
    · rw [same m]
      refine ⟨g1, fun q hqm => ?_, by omega⟩
      rw [htk] at hqm
      rcases List.mem_append.mp hqm with z | z
      · exact g2 q z
      · rw [List.mem_singleton.mp z]; exact m
    · have pm := new m
      refine ⟨fun q hqm => ?_, fun q hqm => ?_, by rw [pm.length_eq, List.length_cons]; omega⟩
      · rcases List.mem_cons.mp (pm.mem_iff.mp hqm) with z | z
        · rw [z]; exact hpm
        · exact g1 q z
      · rw [(pm.map (·.1)).mem_iff, List.map_cons]
        rw [htk] at hqm
        rcases List.mem_append.mp hqm with z | z
        · exact List.mem_cons_of_mem _ (g2 q z)
        · rw [List.mem_singleton.mp z]; exact List.mem_cons_self
end
/-- sorted(a set of ours) -/
theorem sort_nset {E : Value → Shared → Prop} {S : Addr} {kb : List (NestedKey × Addr)} {ks zk : List NestedKey} {Q : VK} (I : Inv X pins σ H s) (sub : Sub G H) (g : Gets X.w kb S kb.length s.heap) (hkb : kb.map (·.1) = ks) (hR : ∀ p ∈ kb, Rp G (.ref p.2) p.1.data)
    (hk : ∀ k ∈ ks, KS k) (hal : ∀ a ∈ ks, ∀ b ∈ ks, PySem.W.alike a.data b.data = true) (hz : ∀ k, k ∈ zk ↔ k ∈ ks) (hn : zk.Nodup) (hs : zk.Pairwise fun x y => PySem.W.dataLt y.data x.data = false) (hd : ∀ k ∈ ks, k.data.depth ≤ 20) (hu : X.A.units + 64 < cLine) (hh : X.A.handled = none)
    (q : ∀ a ws, H a = none → RpA G ws (zk.map NestedKey.data) → Q (.ref a) (upd H a (.lst ws))) :
    wpAny (model X.prog X.w) X.A (call (.builtin "sorted") [.ref S]) (EP X pins σ Q) E s := by
  obtain ⟨L, es, t, R, g1, g2, g3⟩ := g.ex
  obtain ⟨o, ep, ho, hex, hdat⟩ := R.ob
  have hfew := R.few
  have hsz := R.sz
  refine Calls.call_function_entry kind_sorted plain_sorted entry_sorted (args_sorted1 _) ?_
  unfold Builtin.«sorted»
  refine wpAny_bind (m := checkCount "sorted" 1 1 _) (wpAny_pure ?_)
  refine wpAny_bind (collect_set (A := X.A.in1) hh ⟨o, ho, hex.1, hdat⟩ R.fits (by unfold scanBound; omega) R.tab.ris R.led fun s1 out k1 _ e1 e2 pm => ?_)
  have hes : es.toList.map (·.2) = L.map fun p => Value.ref p.2 := by
    rw [R.rows]
    unfold rowK
    rw [List.map_map]
    rfl
  rw [hes] at pm
  obtain ⟨L', p1, p2⟩ := perm_map_ex pm L rfl
  subst p2
  have hL : ∀ p ∈ L', p ∈ kb := fun p hp => g1 p (p1.mem_iff.mp hp)
  have hlen : L'.length < 64 := by rw [p1.length_eq]; exact hfew
  have es1 : s1 = { s with heap := s1.heap, gens := s1.gens, drawn := s1.drawn, toks := s1.toks } := by
    cases s1
    cases s
    cases e2
    rfl
  have I1 : Inv X pins σ H s1 := by
    rw [es1]
    exact I.call (ch := []) (Un.kept k1) (I.hok.kept k1) (by rw [e1]; exact I.bare) (fun _ z => nomatch z)
  clear es1
  refine wpAny_bind (wpAny_newList ?_ (by rw [List.length_map, sizeLine_eq]; omega))
  have hin : ∀ p ∈ L', p.1 ∈ ks := fun p hp => by rw [← hkb]; exact List.mem_map.mpr ⟨p, hL p hp, rfl⟩
  have hpz : (L'.map (·.1)).Perm zk := by
    refine (List.perm_ext_iff_of_nodup ((p1.map (·.1)).nodup_iff.mpr R.uniq) hn).mpr fun k => ?_
    rw [hz, (p1.map (·.1)).mem_iff]
    constructor
    · intro hm
      obtain ⟨p, hp, rfl⟩ := List.mem_map.mp hm
      exact hin p (p1.mem_iff.mpr hp)
    · intro hm
      rw [← hkb] at hm
      obtain ⟨p, hp, rfl⟩ := List.mem_map.mp hm
      exact g2 p (by rw [List.take_length]; exact hp)
  have vals : ∀ M : List (NestedKey × Addr), Vals (M.map fun p => V.ref p.2) (M.map fun p => Value.ref p.2) := fun M => by
    induction M with
    | nil => exact .nil
    | cons p M ih => exact .cons rfl ih
  have reps : ∀ M : List (NestedKey × Addr), (∀ p ∈ M, p ∈ kb) → RpA G (M.map fun p => V.ref p.2) (M.map fun p => p.1.data) := fun M => by
    induction M with
    | nil => intro _; exact .nil
    | cons p M ih => intro h; exact .cons (hR p (h p List.mem_cons_self)) (ih fun z hz => h z (List.mem_cons_of_mem _ hz))
  refine wpAny_bind (wpAny_holding (wpAny_mono (sort_tail (ds := L'.map fun p => p.1.data) (zs := zk.map NestedKey.data) (Q := Q) I1 sub (vals L') (reps L' hL) ?_ ?_ ?_ ?_ ?_ hu (by rw [List.length_map, sizeLine_eq]; omega) q) (fun v s' h => ?_) fun e s' h => h))
  · intro d hd'
    obtain ⟨p, hp, rfl⟩ := List.mem_map.mp hd'
    exact ⟨p.1, (hk _ (hin p hp)).tt, rfl⟩
  · intro a ha b hb
    obtain ⟨p, hp, rfl⟩ := List.mem_map.mp ha
    obtain ⟨p', hp', rfl⟩ := List.mem_map.mp hb
    exact hal _ (hin p hp) _ (hin p' hp')
  · have := (hpz.map NestedKey.data).symm
    rw [List.map_map] at this
    exact this
  · exact List.pairwise_map.mpr hs
  · intro d hd'
    obtain ⟨p, hp, rfl⟩ := List.mem_map.mp hd'
    exact hd _ (hin p hp)
  · exact wpAny_pure ⟨_, rfl, h⟩
end
end DD
namespace DD
open PySem PySem.Spec PyProof.Rows L2
def tSortSet (K : PySem.W.Frag) (ta : TE) : TE := fun σ H Q => ta σ H fun x H1 => ∃ (l : Addr) (xs : List V) (ks zk : List NestedKey) (G : Hp), x = .ref l ∧ SqL K H1 l xs ∧ Sub G H1 ∧ RpA G xs (ks.map NestedKey.data) ∧ (∀ k ∈ ks, KS k) ∧ ks.length < 64 ∧
  (∀ a ∈ ks, ∀ b ∈ ks, PySem.W.alike a.data b.data = true) ∧ (∀ k, k ∈ zk ↔ k ∈ ks) ∧ zk.Nodup ∧ (zk.Pairwise fun x y => PySem.W.dataLt y.data x.data = false) ∧ (∀ k ∈ ks, k.data.depth ≤ 20) ∧
  ∀ a ws, H1 a = none → RpA G ws (zk.map NestedKey.data) → Q (.ref a) (upd H1 a (.lst ws))
def tSortSetI (K : PySem.W.Frag) (ta : TE) : TE := fun σ H Q => ta σ H fun x H1 => ∃ (l : Addr) (ns zs : List Int), x = .ref l ∧ SqT K H1 l (ns.map V.int) ∧ ns.length < 60 ∧ (∀ k, k ∈ zs ↔ k ∈ ns) ∧ zs.Pairwise (· < ·) ∧
  ∀ a, H1 a = none → Q (.ref a) (upd H1 a (.lst (zs.map V.int)))
theorem asc_same {l m : List Int} (h1 : l.Pairwise (· < ·)) (h2 : m.Pairwise (· < ·)) (h : ∀ k, k ∈ l ↔ k ∈ m) : l = m := by
  have nd : ∀ {l : List Int}, l.Pairwise (· < ·) → l.Nodup := fun h => h.imp fun h e => by omega
  refine sorted_uniq (lt := fun x y => decide (x < y)) (fun x _ y _ a1 a2 => by have a1 := of_decide_eq_false a1; have a2 := of_decide_eq_false a2; omega) (h1.imp fun h => decide_eq_false (by omega)) (h2.imp fun h => decide_eq_false (by omega)) ((List.perm_ext_iff_of_nodup (nd h1) (nd h2)).mpr h)
section
variable {X : Cx} {a : Expr} {ta : TE} {p p2 q pos : Pos}
theorem pe_sortSet (hg : Gl X "sorted") (hm : X.mg "sorted" = none) (hg2 : Gl X "set") (hm2 : X.mg "set" = none) (hu : X.A.units + 64 < cLine) (ha : PE X a ta) (hc : X.calm = true)
    (na : starEach [a] X.env = (false, eval a X.env) :: starEach [] X.env) : PE X (.Call (.Name "sorted" p) [.Call (.Name "set" p2) [a] [] q] [] pos) (tSortSet X.K ta) := by
  refine ⟨fun pins s σ H Q I h => ?_⟩
  refine Call_ (ld_blt I hg hm PyProof.Rows.boot_sorted ?_)
  refine PyProof.Rows.callWith_builtin1 (PyProof.Rows.args_cons ?_ rfl) rfl rfl
  refine Call_ (ld_blt I hg2 hm2 PyProof.Rows.boot_set ?_)
  refine PyProof.Rows.callWith_type1 (PyProof.Rows.args_cons (thn (ha.run pins s σ H _ I h) fun v s1 ⟨x, H1, I1, r1, q1⟩ => PyProof.Rows.args_nil ?_) na) na rfl
  obtain ⟨l, xs, ks, zk, G, rfl, hq, sub, hr, hk, h64, hal, hz, hn, hs, hd, q1⟩ := q1
  cases r1
  obtain ⟨its, rv, pl, hsz⟩ := I1.list hq
  obtain ⟨kb, b1, b2, b3⟩ := keys_at I1 sub hr rv hk
  have hlen : kb.length < 64 := by rw [← List.length_map (f := (·.1)), b1]; exact h64
  refine call_setK (I1.ok.hd hc) pl.isList (kb := kb) (by simpa using b2) (fun p hp => (b3 p hp).1) hlen (by omega) fun h' tk g ka => ?_
  refine PyProof.Rows.args_nil ?_
  have I2 : Inv X pins σ H1 { s1 with heap := h', toks := tk } := I1.kept ka
  exact sort_nset (s := { s1 with heap := h', toks := tk }) I2 sub g b1 (fun p hp => (b3 p hp).2) hk hal hz hn hs hd hu (I1.ok.hd hc) q1
theorem pe_sortSetI (hg : Gl X "sorted") (hm : X.mg "sorted" = none) (hg2 : Gl X "set") (hm2 : X.mg "set" = none) (ha : PE X a ta) (hc : X.calm = true)
    (na : starEach [a] X.env = (false, eval a X.env) :: starEach [] X.env) : PE X (.Call (.Name "sorted" p) [.Call (.Name "set" p2) [a] [] q] [] pos) (tSortSetI X.K ta) := by
  refine ⟨fun pins s σ H Q I h => ?_⟩
  refine Call_ (ld_blt I hg hm PyProof.Rows.boot_sorted ?_)
  refine PyProof.Rows.callWith_builtin1 (PyProof.Rows.args_cons ?_ rfl) rfl rfl
  refine Call_ (ld_blt I hg2 hm2 PyProof.Rows.boot_set ?_)
  refine PyProof.Rows.callWith_type1 (PyProof.Rows.args_cons (thn (ha.run pins s σ H _ I h) fun v s1 ⟨x, H1, I1, r1, q1⟩ => PyProof.Rows.args_nil ?_) na) na rfl
  obtain ⟨l, ns, zs, rfl, hq, h60, hz, hs, q1⟩ := q1
  cases r1
  obtain ⟨its, rv, pl, hsz⟩ := I1.tuple hq
  have hints := rv.ints
  have hlen : its.toArray.size = ns.length := by rw [List.size_toArray, ← rv.length, List.length_map]
  refine call_set_T (I1.ok.hd hc) pl (fun i h => ∃ m, m ≤ i ∧ SetR X.w h s1.heap.objs.size (fun k => decide (k ∈ ns.take i)) m) (fun i h h' ⟨m, m1, R⟩ ks ka => ⟨m, m1, R.at ks⟩) (fun h e => ⟨0, Nat.le_refl _, ?_⟩) (fun i v s2 E Q2 hi hv ⟨m, m1, R⟩ ka hq2 => ?_) (fun h' tk ⟨m, m1, R⟩ ka => ?_)
  · refine ⟨freshSet X.w, #[], 0, _, e, ⟨rfl, rfl, rfl⟩, rfl, fun e he => (by simp at he), (by simp), fun k => (by simp), (by unfold scanBound; decide), rfl, rfl, List.Pairwise.nil, ?_⟩
    cases q : X.w.params.followText "set-order" with
    | true => exact .inl rfl
    | false => exact .inr rfl
  · obtain ⟨t, rfl⟩ := PyProof.Rows.IntsAre.int_at hints i v (by have : its.toArray[i]? = some v := hv; simpa using this)
    have hil : i < ns.length := by rw [← hlen]; exact hi
    have eg : ns.getD i 0 = ns[i] := getD_in hil
    have htk : ns.take (i + 1) = ns.take i ++ [ns.getD i 0] := by rw [List.take_succ, List.getElem?_eq_getElem hil, eg]; rfl
    generalize ns.getD i 0 = k at htk ⊢
    unfold setAdd
    refine wpAny_holding (wpAny_bind ((intKind X.prog X.w).pyHash (k := k) (intKind_is _ _ _ _) ?_))
    refine setR_add_hashed (s := { s2 with toks := s2.toks + 1 }) R (by unfold scanBound; omega) fun h' sb R' => hq2 _ h' _ sb (Nat.le_succ _) ⟨_, ?_, R'.congr fun j => ?_⟩
    · split <;> omega
    · rw [htk]
      simp [List.mem_append, Bool.decide_or]
  · refine PyProof.Rows.args_nil ?_
    have I2 : Inv X pins σ H1 { s1 with heap := h', toks := tk } := I1.kept ka
    rw [hlen] at m1 R
    rw [List.take_length] at R
    have R2 : SetR X.w ({ s1 with heap := h', toks := tk } : Shared).heap s1.heap.objs.size (fun k => decide (k ∈ ns)) m := R
    generalize ({ s1 with heap := h', toks := tk } : Shared) = s3 at I2 R2 ⊢
    refine sorted_set (s := s3) R2 (I1.ok.hd hc) (by omega) fun s' p out c zs' k g o hp hgt hi' hs' hm' hl => ?_
    have e0 : zs' = zs := asc_same hs' hs fun k => by rw [hm', hz]; simp
    subst e0
    have hn : H1 p = none := I2.hok.fresh hp
    have J : Inv X pins σ (upd H1 p (.lst (zs'.map V.int))) { s3 with heap := s'.heap, gens := s'.gens, drawn := s'.drawn, toks := s'.toks } :=
      I2.call (ch := []) (Un.laid k hp hn) (I2.hok.laid k hp ⟨by rw [List.length_map, hl, sizeLine_eq]; omega, out.toList, c, vals_of_ints hi', hgt⟩) (by rw [g]; exact I2.bare) (fun _ z => nomatch z)
    have e : s' = { s3 with heap := s'.heap, gens := s'.gens, drawn := s'.drawn, toks := s'.toks } := by
      cases s'
      cases s3
      cases o
      rfl
    rw [e]
    exact ⟨.ref p, _, J, rfl, q1 p hn⟩
variable {ρ : En}
/-- sorted(set(a list of nested tuples)) -/
theorem dl_sortSet {ks zk : List NestedKey} (hm : X.mg "sorted" = none) (hm2 : X.mg "set" = none) (ha : DE X ρ a (.list (ks.map NestedKey.data))) (hk : ∀ k ∈ ks, KS k) (hl : ks.length < 64) (hal : ∀ a ∈ ks, ∀ b ∈ ks, PySem.W.alike a.data b.data = true) (hz : ∀ k, k ∈ zk ↔ k ∈ ks) (hn : zk.Nodup)
    (hs : zk.Pairwise fun x y => PySem.W.dataLt y.data x.data = false) (hd : ∀ k ∈ ks, k.data.depth ≤ 20) (hu : X.A.units + 64 < cLine) (hg : Gl X "sorted" := by rfl) (hg2 : Gl X "set" := by rfl) (hc : X.calm = true := by rfl)
    (na : starEach [a] X.env = (false, eval a X.env) :: starEach [] X.env := by rfl) : DL X ρ (.Call (.Name "sorted" p) [.Call (.Name "set" p2) [a] [] q] [] pos) (zk.map NestedKey.data) := .mk fun H₀ G H σ Q S q pins s I =>
  (pe_sortSet hg hm hg2 hm2 hu pe_D hc na).run pins s σ H Q I (ha H₀ G H σ _ S fun v G1 H1 e1 r1 => by
    cases r1 with
    | @lst q1 ws _ h1 h2 =>
      refine ⟨q1, ws, ks, zk, G1, rfl, .of (e1.gh _ _ h1), e1.gh, h2, hk, hl, hal, hz, hn, hs, hd, fun b us hb rb => ?_⟩
      have gb : G1 b = none := free_back e1.gh hb
      exact q b us G1 _ ⟨e1.gg, fun c u e => by rw [upd_ne (ne_of_none (e1.hh _ _ e) hb)]; exact e1.hh _ _ e, fun c u e => by rw [upd_ne (ne_of_none e gb)]; exact e1.gh _ _ e, e1.nw⟩ (free_back e1.hh hb) gb upd_same rb)
/-- sorted(set(a tuple of whole numbers)) -/
theorem dl_sortSetI {ns zs : List Int} (hm : X.mg "sorted" = none) (hm2 : X.mg "set" = none) (ha : DE X ρ a (.tuple (ns.map .int))) (hl : ns.length < 60) (hz : ∀ k, k ∈ zs ↔ k ∈ ns) (hs : zs.Pairwise (· < ·))
    (hg : Gl X "sorted" := by rfl) (hg2 : Gl X "set" := by rfl) (hc : X.calm = true := by rfl)
    (na : starEach [a] X.env = (false, eval a X.env) :: starEach [] X.env := by rfl) : DL X ρ (.Call (.Name "sorted" p) [.Call (.Name "set" p2) [a] [] q] [] pos) (zs.map .int) := .mk fun H₀ G H σ Q S q pins s I =>
  (pe_sortSetI hg hm hg2 hm2 pe_D hc na).run pins s σ H Q I (ha H₀ G H σ _ S fun v G1 H1 e1 r1 => by
    cases r1 with
    | @tup q1 ws _ h1 h2 =>
      have ew := rpA_ints h2
      subst ew
      refine ⟨q1, ns, zs, rfl, .of (e1.gh _ _ h1), hl, hz, hs, fun b hb => ?_⟩
      have gb : G1 b = none := free_back e1.gh hb
      exact q b _ G1 _ ⟨e1.gg, fun c u e => by rw [upd_ne (ne_of_none (e1.hh _ _ e) hb)]; exact e1.hh _ _ e, fun c u e => by rw [upd_ne (ne_of_none e gb)]; exact e1.gh _ _ e, e1.nw⟩ (free_back e1.hh hb) gb upd_same (rpA_mapInt _))
end
end DD
namespace DD
open PySem PySem.Spec PyProof.Rows L2
open Mo (su mom Rw NN shr shfs pr oth)
/-! ### the laws' choices, means and corners -/
def keepC (one : List Int) (m : Int) : Bool := one.isEmpty || decide (one.getLastD 0 < m)
def stepC (xs : List Int) (one : List Int) : List (List Int) := (xs.filter (keepC one)).map fun m => one ++ [m]
def chC (xs : List Int) : Nat → List (List Int)
  | 0 => [[]]
  | n + 1 => (chC xs n).flatMap (stepC xs)
theorem stepC_len (xs one : List Int) : (stepC xs one).length ≤ xs.length := by unfold stepC; rw [List.length_map]; exact List.length_filter_le _ _
theorem flat_len (xs : List Int) : ∀ F : List (List Int), (F.flatMap (stepC xs)).length ≤ F.length * xs.length
  | [] => by simp
  | one :: F => by
    rw [List.flatMap_cons, List.length_append, List.length_cons, Nat.succ_mul]
    have := flat_len xs F
    have := stepC_len xs one
    omega
theorem chC_len (xs : List Int) : ∀ n, (chC xs n).length ≤ xs.length ^ n
  | 0 => by simp [chC]
  | n + 1 => by
    rw [chC, Nat.pow_succ]
    exact Nat.le_trans (flat_len xs _) (Nat.mul_le_mul_right _ (chC_len xs n))
theorem chC_one {xs : List Int} : ∀ {n : Nat} {one : List Int}, one ∈ chC xs n → one.length = n
  | 0, one, h => by
    simp only [chC, List.mem_singleton] at h
    subst h; rfl
  | n + 1, one, h => by
    rw [chC, List.mem_flatMap] at h
    obtain ⟨f, hf, h⟩ := h
    unfold stepC at h
    obtain ⟨m, -, rfl⟩ := List.mem_map.mp h
    rw [List.length_append, List.length_singleton, chC_one hf]
theorem last_lt {l : List Int} {a b : Int} (h : l.Pairwise (· < ·)) (hb : b ∈ l) (ha : l.getLastD 0 < a) : b < a := by
  obtain ⟨r, x, rfl⟩ : ∃ r x, l = r ++ [x] := ⟨l.dropLast, l.getLast (List.ne_nil_of_mem hb), (List.dropLast_concat_getLast _).symm⟩
  rw [List.getLastD_concat] at ha
  rcases List.mem_append.mp hb with z | z
  · have := (List.pairwise_append.mp h).2.2 b z x (List.mem_singleton.mpr rfl)
    omega
  · rw [List.mem_singleton.mp z]; exact ha
theorem mem_chC {xs : List Int} : ∀ {n : Nat} {one : List Int}, one ∈ chC xs n ↔ one.length = n ∧ one.Pairwise (· < ·) ∧ ∀ p ∈ one, p ∈ xs
  | 0, one => by
    simp only [chC, List.mem_singleton]
    constructor
    · intro h; subst h; exact ⟨rfl, List.Pairwise.nil, fun p hp => by cases hp⟩
    · intro h; exact List.eq_nil_of_length_eq_zero h.1
  | n + 1, one => by
    rw [chC, List.mem_flatMap]
    constructor
    · rintro ⟨f, hf, h⟩
      obtain ⟨h1, h2, h3⟩ := mem_chC.mp hf
      unfold stepC at h
      obtain ⟨m, hm, rfl⟩ := List.mem_map.mp h
      obtain ⟨m1, m2⟩ := List.mem_filter.mp hm
      refine ⟨by rw [List.length_append, List.length_singleton, h1], ?_, fun p hp => ?_⟩
      · refine List.pairwise_append.mpr ⟨h2, List.pairwise_singleton _ _, fun x hx y hy => ?_⟩
        rw [List.mem_singleton.mp hy]
        unfold keepC at m2
        rw [Bool.or_eq_true, List.isEmpty_iff, decide_eq_true_iff] at m2
        rcases m2 with e | e
        · subst e; cases hx
        · exact last_lt h2 hx e
      · rcases List.mem_append.mp hp with z | z
        · exact h3 p z
        · rw [List.mem_singleton.mp z]; exact m1
    · rintro ⟨h1, h2, h3⟩
      obtain ⟨r, x, rfl⟩ : ∃ r x, one = r ++ [x] := ⟨one.dropLast, one.getLast (by intro e; subst e; cases h1), (List.dropLast_concat_getLast _).symm⟩
      rw [List.length_append, List.length_singleton] at h1
      have hp := List.pairwise_append.mp h2
      refine ⟨r, mem_chC.mpr ⟨by omega, hp.1, fun p hp => h3 p (List.mem_append_left _ hp)⟩, List.mem_map.mpr ⟨x, List.mem_filter.mpr ⟨h3 x (by simp), ?_⟩, rfl⟩⟩
      unfold keepC
      rw [Bool.or_eq_true, List.isEmpty_iff, decide_eq_true_iff]
      by_cases e : r = []
      · exact .inl e
      · refine .inr (hp.2.2 _ ?_ x (List.mem_singleton.mpr rfl))
        obtain ⟨r', y, rfl⟩ : ∃ r' y, r = r' ++ [y] := ⟨r.dropLast, r.getLast e, (List.dropLast_concat_getLast _).symm⟩
        rw [List.getLastD_concat]; simp
/-- an ascending choice is a sublist -/
theorem asc_sub : ∀ {xs l : List Int}, xs.Pairwise (· < ·) → l.Pairwise (· < ·) → (∀ p ∈ l, p ∈ xs) → l.Sublist xs
  | [], [], _, _, _ => .slnil
  | [], a :: l, _, _, h => by cases h a List.mem_cons_self
  | x :: xs, [], _, _, _ => List.nil_sublist _
  | x :: xs, a :: l, hx, hl, h => by
    obtain ⟨x1, x2⟩ := List.pairwise_cons.mp hx
    obtain ⟨l1, l2⟩ := List.pairwise_cons.mp hl
    by_cases e : a = x
    · subst e
      refine (asc_sub x2 l2 fun p hp => ?_).cons₂ a
      rcases List.mem_cons.mp (h p (List.mem_cons_of_mem _ hp)) with z | z
      · have := l1 p hp; omega
      · exact z
    · refine (asc_sub x2 hl fun p hp => ?_).cons x
      rcases List.mem_cons.mp (h p hp) with z | z
      · exfalso
        subst z
        rcases List.mem_cons.mp (h a List.mem_cons_self) with y | y
        · exact e y
        · have := x1 a y
          rcases List.mem_cons.mp hp with q | q
          · exact e q.symm
          · have := l1 p q; omega
      · exact z
theorem mem_chC_supp {last d : Nat} {S : List Int} : S ∈ chC (intsL 0 (last + 1)) (d + 1) ↔ S ∈ suppsM last d := by
  rw [mem_chC, mem_supps]
  have e : intsL 0 (last + 1) = Rw last := rfl
  rw [e]
  constructor
  · rintro ⟨h1, h2, h3⟩; exact ⟨asc_sub (Mo.Rw_asc last) h2 h3, h1⟩
  · rintro ⟨h1, h2⟩; exact ⟨h2, (Mo.sub_asc h1).1, fun p hp => h1.subset hp⟩
def S__law_choices (ds : List PyData) (o : Out) : Prop := ∃ (xs : List Int) (many : Nat), ds = [.list (xs.map .int), .int (many : Int)] ∧ xs.length ≤ 8 ∧ many ≤ 4 ∧ o = .ret (.list ((chC xs many).map encP))

/-! a product multiplied out -/
def cfM (row : List Int) (z : Int) (j : Nat) : Int := (0 :: row).getD j 0 - z * (row ++ [0]).getD j 0
def lonM (row : List Int) (z : Int) (k : Nat) : List Int := (List.range (row.length + 1)).map fun j => if j < k then cfM row z j else if j = k then (0 :: row).getD k 0 else 0
theorem lonM_len (row : List Int) (z : Int) (k : Nat) : (lonM row z k).length = row.length + 1 := by unfold lonM; rw [List.length_map, List.length_range]
theorem lonM_get {row : List Int} {z : Int} {k j : Nat} (h : j < row.length + 1) : (lonM row z k)[j]? = some (if j < k then cfM row z j else if j = k then (0 :: row).getD k 0 else 0) := by
  unfold lonM
  rw [List.getElem?_map, List.getElem?_range h]
  rfl
theorem lonM_zero (row : List Int) (z : Int) : lonM row z 0 = List.replicate (row.length + 1) 0 := by
  apply List.ext_getElem?
  intro j
  by_cases h : j < row.length + 1
  · rw [lonM_get h, List.getElem?_replicate, if_pos h, if_neg (by omega)]
    split
    · rfl
    · rfl
  · rw [List.getElem?_eq_none (by rw [lonM_len]; omega), List.getElem?_eq_none (by rw [List.length_replicate]; omega)]
theorem lonM_step {row : List Int} {z : Int} {k : Nat} (h : k < row.length) : ((lonM row z k).set (k + 1) (row.getD k 0)).set k ((0 :: row).getD k 0 - z * row.getD k 0) = lonM row z (k + 1) := by
  apply List.ext_getElem?
  intro j
  by_cases hj : j < row.length + 1
  · rw [lonM_get hj]
    by_cases e1 : j = k
    · subst e1
      rw [List.getElem?_set_self (by rw [List.length_set, lonM_len]; omega), if_pos (by omega)]
      unfold cfM
      have : (row ++ [0]).getD j 0 = row.getD j 0 := by rw [List.getD_eq_getElem?_getD, List.getElem?_append_left h, ← List.getD_eq_getElem?_getD]
      rw [this]
    · rw [List.getElem?_set_ne (by omega)]
      by_cases e2 : j = k + 1
      · subst e2
        rw [List.getElem?_set_self (by rw [lonM_len]; omega), if_neg (by omega), if_pos rfl]
        rfl
      · rw [List.getElem?_set_ne (by omega), lonM_get hj]
        by_cases e3 : j < k
        · rw [if_pos e3, if_pos (by omega)]
        · rw [if_neg e3, if_neg e1, if_neg (by omega), if_neg e2]
  · rw [List.getElem?_eq_none (by rw [List.length_set, List.length_set, lonM_len]; omega), List.getElem?_eq_none (by rw [lonM_len]; omega)]
theorem lonM_all (row : List Int) (z : Int) : lonM row z row.length = coefS row z := by
  apply List.ext_getElem?
  intro j
  by_cases hj : j < row.length + 1
  · rw [lonM_get hj]
    unfold coefS
    rw [List.getElem?_map, List.getElem?_zip_eq_some.mpr (show (0 :: row)[j]? = some ((0 :: row).getD j 0, (row ++ [0]).getD j 0).1 ∧ (row ++ [0])[j]? = some ((0 :: row).getD j 0, (row ++ [0]).getD j 0).2 from ⟨by show (0 :: row)[j]? = some ((0 :: row).getD j 0); rw [getD_in (show j < (0 :: row).length by rw [List.length_cons]; omega)]; exact List.getElem?_eq_getElem _, by show (row ++ [0])[j]? = some ((row ++ [0]).getD j 0); rw [getD_in (show j < (row ++ [0]).length by rw [List.length_append, List.length_singleton]; omega)]; exact List.getElem?_eq_getElem _⟩)]
    by_cases e : j < row.length
    · rw [if_pos e]; rfl
    · have : j = row.length := by omega
      subst this
      rw [if_neg (by omega), if_pos rfl]
      have : (row ++ [0]).getD row.length 0 = 0 := by rw [List.getD_eq_getElem?_getD, List.getElem?_append_right (Nat.le_refl _), Nat.sub_self]; rfl
      show some _ = some (_ - z * _)
      rw [this]
      congr 1
      omega
  · rw [List.getElem?_eq_none (by rw [lonM_len]; omega), List.getElem?_eq_none (by rw [coefS_len]; omega)]
theorem red_one (c : Int) : redM c 1 = (c, 1) := by
  unfold redM
  rw [show Nat.gcd c.natAbs (1 : Int).natAbs = 1 from Nat.gcd_one_right _]
  simp
theorem total_mean (avs : Wts) (c : Int) (r : List Int) : totalM ((c, 1) :: (r.zip avs).map fun z => timesM (z.1, 1) z.2) = meanM avs (c :: r) := by
  unfold totalM meanM
  rw [List.foldl_cons, List.foldl_map]
  have : plusM (0, 1) (c, 1) = (c, 1) := by
    unfold plusM
    show redM (0 * 1 + c * 1) (1 * 1) = _
    rw [show (0 : Int) * 1 + c * 1 = c by omega, show (1 : Int) * 1 = 1 by omega, red_one]
  rw [this]
  rfl
def lawL (avs : Wts) (row : List Int) : Wts := (row.headD 0, 1) :: (intsL 0 avs.length).map fun p => timesM (row.getD (p + 1).toNat 0, 1) (avs.getD p.toNat (0, 1))
theorem lawL_eq {avs : Wts} {row : List Int} (h : row.length = avs.length + 1) : totalM (lawL avs row) = meanM avs row := by
  obtain ⟨c, r, rfl⟩ : ∃ c r, row = c :: r := by
    cases row with
    | nil => cases h
    | cons c r => exact ⟨c, r, rfl⟩
  have hr : r.length = avs.length := by simpa using h
  rw [← total_mean]
  unfold lawL
  rw [← zip_idx (fun v f => timesM (v, 1) f) (0 : Int) ((0, 1) : Int × Int) hr rfl]
  congr 1
  show (c, 1) :: _ = (c, 1) :: _
  congr 1
  refine List.map_congr_left fun p hp => ?_
  have hp := intsL_mem hp
  rw [show (p + 1).toNat = p.toNat + 1 by omega]
  rfl
theorem lawL_size {n : Nat} {avs : Wts} {row : List Int} (hr : ∀ v ∈ row, v.natAbs < 2 ^ 20) (ha : ∀ f ∈ avs, Fz n f) (hn : 1 ≤ n) : ∀ f ∈ lawL avs row, Fz (20 + n) f := fun f hf => by
  have hd : ∀ i, (row.getD i 0).natAbs < 2 ^ 20 := fun i => by
    by_cases h : i < row.length
    · rw [getD_in h]; exact hr _ (List.getElem_mem h)
    · rw [getD_out (by omega)]; decide
  have hz : ∀ i : Nat, Fz 20 (row.getD i 0, 1) := fun i => ⟨by show (0 : Int) < 1; decide, hd i, by show (1 : Int).natAbs < 2 ^ 20; decide⟩
  unfold lawL at hf
  rcases List.mem_cons.mp hf with e | e
  · subst e
    have : row.headD 0 = row.getD 0 0 := by cases row <;> rfl
    rw [this]
    exact (hz 0).up (by omega)
  · obtain ⟨p, hp, rfl⟩ := List.mem_map.mp e
    exact timesM_size (hz _) (getD_size ha hn _)
def S__law_mean (ds : List PyData) (o : Out) : Prop := ∃ (avs : Wts) (s : Int) (zs : List Int) (d : PyData) (n : Nat), ds = [encL avs, .int s, d] ∧ IsSeq d (zs.map .int) ∧ s.natAbs ≤ 1 ∧ (∀ p ∈ zs, 0 ≤ p ∧ p ≤ 6) ∧ zs.length = avs.length ∧ avs.length ≤ 3 ∧ (∀ f ∈ avs, Fz n f) ∧ 1 ≤ n ∧ n ≤ 1000 ∧ o = .ret (encF (meanM avs (prow s zs)))

/-! corners by the laws -/
theorem chC_35 : ∀ l : Fin 7, ∀ n : Fin 5, (chC (intsL 0 (l.val + 1)) n.val).length ≤ 35 := by decide +kernel
theorem share_low {avs : Wts} (ha : ∀ f ∈ avs, 0 < f.2) {p : Int} {os : List Int} (hl : os.length = avs.length) : shareM avs p os = lowM (meanM avs (prow 1 os)).1 ((meanM avs (prow 1 os)).2 * prodM 1 os p) := by
  have hm := (mean_lo ha (coefM os) (by rw [coefM_len, hl])).1
  have e : prodM 1 os p = divM p os := rfl
  rw [e, prow_one]
  unfold shareM lowM
  by_cases h : 0 < divM p os
  · rw [if_pos h, if_pos (Int.mul_pos hm h)]
  · have : ¬ 0 < (meanM avs (coefM os)).2 * divM p os := fun z => h (by
      refine Classical.byContradiction fun y => ?_
      have := Int.mul_nonneg (Int.le_of_lt hm) (show 0 ≤ -divM p os by omega)
      rw [Int.mul_neg] at this
      omega)
    rw [if_neg h, if_neg this, Int.neg_mul]
theorem noTx_keyW (ws : Wts) : noTx (keyW ws) = true := by
  unfold keyW
  rw [noTx]
  induction ws with
  | nil => rfl
  | cons f ws ih => rw [List.map_cons, noTxs, ih]; rfl
theorem depth_keyW (ws : Wts) : (keyW ws).depth ≤ 8 := by
  unfold keyW
  rw [NestedKey.depth]
  have : ∀ l : Wts, NestedKey.depthAll (l.map keyF) ≤ 1 := by
    intro l
    induction l with
    | nil => exact Nat.zero_le _
    | cons f l ih =>
      rw [List.map_cons, NestedKey.depthAll]
      exact Nat.max_le.mpr ⟨Nat.le_refl _, ih⟩
  have := this ws
  omega
theorem ks_keyW {ws : Wts} (h : ws ≠ []) : KS (keyW ws) := by
  refine ⟨?_, depth_keyW ws, noTx_keyW ws⟩
  cases ws with
  | nil => exact absurd rfl h
  | cons f r => exact ⟨[.num f.1, .num f.2], r.map keyF, rfl⟩
theorem corners_law {last : Nat} {avs : Wts} {c : Wts} : c ∈ cornersM last avs ↔ c ∈ cornerList last avs (chC (intsL 0 (last + 1)) (avs.length + 1)) := by
  unfold cornersM
  rw [mem_sortU]
  unfold cornerList
  rw [List.mem_filter, List.mem_filter, List.mem_map, List.mem_map]
  constructor
  · rintro ⟨⟨S, hS, rfl⟩, h⟩; exact ⟨⟨S, mem_chC_supp.mpr hS, rfl⟩, h⟩
  · rintro ⟨⟨S, hS, rfl⟩, h⟩; exact ⟨⟨S, mem_chC_supp.mp hS, rfl⟩, h⟩
theorem keys_data (l : List Wts) : (l.map keyW).map NestedKey.data = l.map encL := by
  rw [List.map_map]
  exact List.map_congr_left fun c _ => data_keyW c
def S__law_corners (ds : List PyData) (o : Out) : Prop := ∃ (last : Nat) (avs : Wts), ds = [.int (last : Int), encL avs] ∧ 1 ≤ last ∧ last ≤ 6 ∧ AvOk last avs ∧ o = .ret (.list ((cornersM last avs).map encL))
end DD
namespace DD
open PySem PySem.Spec PyProof.Rows L2
open Mo (su mom Rw NN shr shfs pr oth)
section
variable {X : Cx} {ρ : En} {a b : Expr} {d : PyData} {ds : List PyData} {pos : Pos}
theorem de_inL (hu : X.A.units + 65 < cLine) (ha : DE X ρ a d) (hb : DE X ρ b (.list ds)) (h1 : SeqAt.shaped d = true) (h2 : SeqAt.shaped (.list ds) = true) (hm : behindInMarks .In b = false := by rfl) : DE X ρ (.Compare a [.In] [b] pos) (.bool (ds.any fun z => PyData.eqv z d)) := de_cmp (op_inD hu) (r2_in h1 h2) hm ha hb
end
/-! ### places by the laws -/
def S__law_placed0 (ds : List PyData) (o : Out) : Prop := ∃ (mode last : Nat) (avs : Wts), ds = [.int (mode : Int), .int (last : Int), encL avs] ∧ mode < 4 ∧ 1 ≤ last ∧ last ≤ 6 ∧ AvOk last avs ∧ cornersM last avs = [] ∧ o = .ret (.str "no")
def posP (last : Nat) (c : Wts) : List Int := (intsL 0 (last + 1)).filter fun p => decide (0 < (c.getD p.toNat (0, 1)).1)
theorem mem_posP {last : Nat} {c : Wts} {p : Int} : p ∈ posP last c ↔ p ∈ Rw last ∧ 0 < (c.getD p.toNat (0, 1)).1 := by
  unfold posP
  rw [List.mem_filter, decide_eq_true_iff]
  rfl
theorem posP_few (last : Nat) (c : Wts) : (posP last c).length ≤ last + 1 := by
  unfold posP
  have := List.length_filter_le (fun p : Int => decide (0 < (c.getD p.toNat (0, 1)).1)) (intsL 0 (last + 1))
  rwa [intsL_len] at this
section
variable {last : Nat} {avs : Wts}
theorem poss_law (hl : avs.length ≤ last) (ha : ∀ f ∈ avs, 0 < f.2) : ((intsL 0 (last + 1)).filter fun p => !(((cornersM last avs).filter fun c => decide (p ∈ posP last c)).isEmpty)) = possM last (cornersM last avs) := by
  unfold possM
  refine List.filter_congr fun p hp => ?_
  rw [Bool.eq_iff_iff, Bool.not_eq_true', List.isEmpty_eq_false_iff, ne_eq, List.filter_eq_nil_iff, List.any_eq_true]
  constructor
  · intro h
    refine Classical.byContradiction fun z => h fun c hc q => z ⟨c, hc, ?_⟩
    exact decide_eq_true (mem_posP.mp (of_decide_eq_true q)).2
  · rintro ⟨c, hc, q⟩ h
    exact h c hc (decide_eq_true (mem_posP.mpr ⟨hp, of_decide_eq_true q⟩))
theorem need_law (hl : avs.length ≤ last) (ha : ∀ f ∈ avs, 0 < f.2) : ((intsL 0 (last + 1)).filter fun p => ((cornersM last avs).filter fun c => !decide (p ∈ posP last c)).isEmpty) = needM last (cornersM last avs) := by
  unfold needM
  refine List.filter_congr fun p hp => ?_
  rw [Bool.eq_iff_iff, List.isEmpty_iff, List.filter_eq_nil_iff, List.all_eq_true]
  have nn : ∀ c ∈ cornersM last avs, 0 ≤ (c.getD p.toNat (0, 1)).1 := fun c hc => by
    have hcc := (corner_iff hl ha).mp hc
    have hp' := Mo.mem_Rw.mp hp
    have h1 := hcc.nn p hp
    unfold wf at h1
    rw [getD_in (show p.toNat < c.length by rw [hcc.len]; omega)] at h1 ⊢
    exact (qf_nn (hcc.lo _ (List.getElem_mem _)).1).mp h1
  constructor
  · intro h c hc
    have := h c hc
    rw [Bool.not_eq_true, Bool.not_eq_false', decide_eq_true_iff] at this
    have := (mem_posP.mp this).2
    rw [Bool.not_eq_true', decide_eq_false_iff_not]
    omega
  · intro h c hc
    have := h c hc
    rw [Bool.not_eq_true', decide_eq_false_iff_not] at this
    rw [Bool.not_eq_true, Bool.not_eq_false', decide_eq_true_iff]
    exact mem_posP.mpr ⟨hp, by have := nn c hc; omega⟩
theorem few_law (hl : avs.length ≤ last) (ha : ∀ f ∈ avs, 0 < f.2) : ((cornersM last avs).map fun c => ((posP last c).length : Int)) = (cornersM last avs).map fun c => (cntP c : Int) := by
  refine List.map_congr_left fun c hc => ?_
  have hcc := (corner_iff hl ha).mp hc
  rw [cntP_sup hcc.len (fun f hf => (hcc.lo f hf).1) hcc.nn]
  congr 2
  unfold posP Mo.sup
  refine List.filter_congr fun p hp => ?_
  rw [decide_eq_decide]
  have h0 := hcc.nn p hp
  rw [← wf_pos hcc.len (fun f hf => (hcc.lo f hf).1) hp]
  constructor
  · intro h; grind
  · intro h; grind
end

theorem dvd_60 {d : Int} (h0 : d ≠ 0) (h1 : -6 ≤ d) (h2 : d ≤ 6) : d ∣ 60 := by
  rcases (show d = -6 ∨ d = -5 ∨ d = -4 ∨ d = -3 ∨ d = -2 ∨ d = -1 ∨ d = 1 ∨ d = 2 ∨ d = 3 ∨ d = 4 ∨ d = 5 ∨ d = 6 by omega) with e | e | e | e | e | e | e | e | e | e | e | e <;> subst e <;> decide
theorem divM_dvd {p : Int} : ∀ os : List Int, (∀ o ∈ os, o ≠ p ∧ -6 ≤ p - o ∧ p - o ≤ 6) → divM p os ∣ (60 : Int) ^ os.length := by
  refine snoc_ind (fun _ => ⟨1, rfl⟩) fun l a ih h => ?_
  rw [divM_snoc, List.length_append, List.length_singleton, Int.pow_succ]
  have ha := h a (by simp)
  exact Int.mul_dvd_mul (ih fun o ho => h o (List.mem_append_left _ ho)) (dvd_60 (by have := ha.1; omega) ha.2.1 ha.2.2)
/-- a corner's weights have a common divisor -/
theorem corner_int {last : Nat} {L : Wts} (h6 : last ≤ 6) (hl : L.length ≤ last) (h3 : L.length ≤ 3) (hp : ∀ f ∈ L, 0 < f.2) {N : Rat} (hN : ∀ k, k ≤ L.length → ∃ K : Int, mo L k * N = K) {c : Wts} (hc : c ∈ cornersM last L) {p : Int} (hpR : p ∈ Rw last) : ∃ K : Int, wf c p * (N * 216000) = K := by
  have hC := (corner_iff hl hp).mp hc
  obtain ⟨S, s1, s2, s3, s4⟩ := Mo.few_shr (Mo.Rw_nodup last) (d := L.length) (by rw [Mo.Rw_len]; omega) hC.few
  by_cases q : p ∈ S
  · have nd := (Mo.Rw_nodup last).sublist s1
    have hol := Mo.oth_len nd q
    have hbd := (Mo.sub_asc s1).2
    obtain ⟨K, hK⟩ := shfs_int (N := N) (oth S p) (mom (Rw last) (wf c)) 0 (fun j hj => by
      obtain ⟨K, hK⟩ := hN j (by omega)
      exact ⟨K, by rw [hC.mom j (by omega)]; exact hK⟩)
    have hd : divM p (oth S p) ∣ (60 : Int) ^ (oth S p).length := divM_dvd _ fun o ho => by
      obtain ⟨o1, o2⟩ := Mo.mem_oth.mp ho
      have := hbd o o1
      have := hbd p q
      exact ⟨o2, by omega, by omega⟩
    have hd2 : divM p (oth S p) ∣ 216000 := Int.dvd_trans hd (by
      rcases (show (oth S p).length = 0 ∨ (oth S p).length = 1 ∨ (oth S p).length = 2 ∨ (oth S p).length = 3 by omega) with e | e | e | e <;> rw [e] <;> decide)
    obtain ⟨t, ht⟩ := hd2
    refine ⟨K * t, ?_⟩
    rw [s4 p q]
    unfold Mo.shr
    have hdn := rc_ne (divM_ne (os := oth S p) Mo.oth_not)
    rw [← div_pr]
    have e2 : (216000 : Rat) = ((divM p (oth S p) : Int) : Rat) * (t : Rat) := by
      rw [← rc_mul, ← ht]; rfl
    rw [e2, rc_mul, ← hK]
    generalize ((divM p (oth S p) : Int) : Rat) = D at hdn
    grind
  · refine ⟨0, ?_⟩
    rw [s3 p hpR q]
    have : ((0 : Int) : Rat) = 0 := rfl
    grind
theorem su_int2 {α : Type} {l : List α} {f : α → Rat} {N : Rat} (h : ∀ a ∈ l, ∃ K : Int, f a * N = K) : ∃ K : Int, su l f * N = K := by
  induction l with
  | nil => exact ⟨0, by show (0 : Rat) * N = _; have : ((0 : Int) : Rat) = 0 := rfl; grind⟩
  | cons a l ih =>
    obtain ⟨K1, h1⟩ := ih fun x hx => h x (List.mem_cons_of_mem _ hx)
    obtain ⟨K2, h2⟩ := h a List.mem_cons_self
    exact ⟨K2 + K1, by rw [Mo.su_cons, rc_add, ← h1, ← h2]; grind⟩
/-- the middle's parts are small -/
theorem mid_small {last : Nat} {avs : Wts} (h6 : last ≤ 6) (hl : avs.length ≤ last) (h3 : avs.length ≤ 3) (ha : ∀ f ∈ avs, 0 < f.2) (hne : cornersM last avs ≠ []) {N : Nat} (n1 : 1 ≤ N) (n2 : N ≤ 54) (hN : ∀ k, k ≤ avs.length → ∃ K : Int, mo avs k * ((N : Int) : Rat) = K) : ∀ f ∈ midM last (cornersM last avs), Fz 40 f := fun f hf => by
  have hlo := midM_lo hl ha hne f hf
  obtain ⟨p, hp, rfl⟩ := List.mem_map.mp hf
  have hp : p ∈ Rw last := hp
  obtain ⟨m1, m2⟩ := mid_lo hl ha hne hp
  have hfew := corners_35 h6 (avs := avs) h3
  have hn := List.length_pos_iff.mpr hne
  obtain ⟨K, hK⟩ := su_int2 (l := cornersM last avs) (f := fun c => wf c p) (N := ((N : Int) : Rat) * 216000) fun c hc => corner_int h6 hl h3 ha hN hc hp
  rw [← m2] at hK
  have hle : su (cornersM last avs) (fun c => wf c p) ≤ su (cornersM last avs) fun _ => 1 := Mo.su_le fun c hc => by
    have hcc := (corner_iff hl ha).mp hc
    have h0 := hcc.mom 0 (Nat.zero_le _)
    rw [Mo.mom_zero, mo_zero] at h0
    rw [← h0]
    have : wf c p = su (Rw last) fun q => if q = p then wf c q else 0 := by
      rw [Mo.su_one (x := p) (Mo.Rw_nodup last) hp (fun a _ h => by rw [if_neg h]), if_pos rfl]
    rw [this]
    refine Mo.su_le fun q hq => ?_
    by_cases z : q = p
    · rw [if_pos z]; exact Rat.le_refl
    · rw [if_neg z]; exact hcc.nn q hq
  have hge : 0 ≤ su (cornersM last avs) fun c => wf c p := Mo.su_nonneg fun c hc => ((corner_iff hl ha).mp hc).nn p hp
  rw [su_const, ← m2] at hle
  rw [← m2] at hge
  have hnp : (0 : Rat) < ((((cornersM last avs).length : Nat) : Int) : Rat) := rc_pos.mpr (by omega)
  have q1 : qf (midP (cornersM last avs) p) ≤ 1 := by
    refine Classical.byContradiction fun z => ?_
    have := Rat.mul_pos (show (0 : Rat) < qf (midP (cornersM last avs) p) - 1 by grind) hnp
    grind
  have q0 : 0 ≤ qf (midP (cornersM last avs) p) := by
    refine Classical.byContradiction fun z => ?_
    have := Rat.mul_pos (show (0 : Rat) < - qf (midP (cornersM last avs) p) by grind) hnp
    grind
  have hM : (N * 216000 * (cornersM last avs).length) ≤ 54 * 216000 * 35 := Nat.mul_le_mul (Nat.mul_le_mul_right _ n2) hfew
  obtain ⟨b1, b2⟩ := bd_parts hlo (N := N * 216000 * (cornersM last avs).length) (B := 1) (Nat.mul_pos (Nat.mul_pos (by omega) (by decide)) hn) (by have : (((1 : Nat) : Int) : Rat) = 1 := rfl; grind) (by have : (((1 : Nat) : Int) : Rat) = 1 := rfl; grind) ⟨K, by
    have e : (((N * 216000 * (cornersM last avs).length : Nat) : Int) : Rat) = ((N : Int) : Rat) * 216000 * ((((cornersM last avs).length : Nat) : Int) : Rat) := by
      rw [show ((N * 216000 * (cornersM last avs).length : Nat) : Int) = (N : Int) * 216000 * ((cornersM last avs).length : Int) by simp, rc_mul, rc_mul]; rfl
    rw [e, ← hK]
    grind⟩
  have := hlo.1
  exact ⟨hlo.1, by omega, by omega⟩

theorem qf_gt {f : Int × Int} (h : 0 < f.2) : 0 < qf f ↔ 0 < f.1 := by
  have h1 := qf_nn (f := f) h
  have h2 : qf f = 0 ↔ f.1 = 0 := by
    constructor
    · intro e
      have : (f.1 : Rat) = 0 := by
        have hr := rc_ne (show f.2 ≠ 0 by omega)
        unfold qf at e
        have e2 : (f.1 : Rat) = (f.1 : Rat) / (f.2 : Rat) * (f.2 : Rat) := by grind
        rw [e2, e]; grind
      exact rc_inj.mp (by rw [this]; rfl)
    · intro e
      unfold qf
      rw [e]
      have : ((0 : Int) : Rat) = 0 := rfl
      grind
  constructor
  · intro h
    have := h1.mp (by grind)
    have : f.1 ≠ 0 := fun e => by have := h2.mpr e; grind
    omega
  · intro h
    have a := h1.mpr (by omega)
    have : qf f ≠ 0 := fun e => by have := h2.mp e; omega
    grind
section
variable {last : Nat} {avs : Wts}
theorem lo_pos_iff (hl : avs.length ≤ last) (ha : ∀ f ∈ avs, 0 < f.2) (hne : cornersM last avs ≠ []) {i : Nat} (hi : i ≤ last) : decide (0 < (loA last avs (indV last (i : Int))).1) = decide ((i : Int) ∈ needM last (cornersM last avs)) := by
  obtain ⟨a1, ⟨c, hc, -, e⟩, a3⟩ := lo_spec hl ha (indV_len last (i : Int)) hne
  rw [decide_eq_decide, ← qf_gt a1.1, mem_need hl ha]
  have hR : (i : Int) ∈ Rw last := Mo.mem_Rw.mpr (by omega)
  constructor
  · intro h
    refine ⟨hR, fun d hd => ?_⟩
    have := a3 d hd
    rw [val_ind hi] at this
    grind
  · rintro ⟨-, h⟩
    rw [e, val_ind hi]
    exact h c hc
theorem hi_pos_iff (hl : avs.length ≤ last) (ha : ∀ f ∈ avs, 0 < f.2) (hne : cornersM last avs ≠ []) {i : Nat} (hi : i ≤ last) : decide (0 < (hiA last avs (indV last (i : Int))).1) = decide ((i : Int) ∈ possM last (cornersM last avs)) := by
  obtain ⟨a1, ⟨c, hc, -, e⟩, a3⟩ := hi_spec hl ha (indV_len last (i : Int)) hne
  rw [decide_eq_decide, ← qf_gt a1.1, mem_poss hl ha]
  have hR : (i : Int) ∈ Rw last := Mo.mem_Rw.mpr (by omega)
  constructor
  · intro h
    rw [e, val_ind hi] at h
    exact ⟨hR, c, hc, h⟩
  · rintro ⟨-, d, hd, h⟩
    have := a3 d hd
    rw [val_ind hi] at this
    grind
theorem midP_low (hl : avs.length ≤ last) (ha : ∀ f ∈ avs, 0 < f.2) (hne : cornersM last avs ≠ []) {p : Int} (hp : p ∈ Rw last) :
    lowM (totalM ((cornersM last avs).map fun c => c.getD p.toNat (0, 1))).1 ((totalM ((cornersM last avs).map fun c => c.getD p.toNat (0, 1))).2 * ((cornersM last avs).length : Int)) = midP (cornersM last avs) p := by
  obtain ⟨m1, m2⟩ := mid_lo hl ha hne hp
  have hn := List.length_pos_iff.mpr hne
  have hd : ∀ f ∈ (cornersM last avs).map (fun c => c.getD p.toNat (0, 1)), 0 < f.2 := fun f hf => by
    obtain ⟨c, hc, rfl⟩ := List.mem_map.mp hf
    have hC := (corner_iff hl ha).mp hc
    have hp' := Mo.mem_Rw.mp hp
    rw [getD_in (by rw [hC.len]; omega)]
    exact (hC.lo _ (List.getElem_mem _)).1
  obtain ⟨t1, t2⟩ := total_lo hd
  have hpos : 0 < (totalM ((cornersM last avs).map fun c => c.getD p.toNat (0, 1))).2 * ((cornersM last avs).length : Int) := Int.mul_pos t1.1 (by omega)
  obtain ⟨l1, l2⟩ := low_lo (a := (totalM ((cornersM last avs).map fun c => c.getD p.toNat (0, 1))).1) (b := (totalM ((cornersM last avs).map fun c => c.getD p.toNat (0, 1))).2 * ((cornersM last avs).length : Int)) (by omega)
  refine lo_inj l1 m1 ?_
  rw [l2]
  rw [Mo.su_map] at t2
  have e : (su (cornersM last avs) fun c => wf c p) = qf (totalM ((cornersM last avs).map fun c => c.getD p.toNat (0, 1))) := t2.symm
  rw [e] at m2
  unfold qf at m2
  rw [rc_mul]
  have h1 := rc_ne (show (totalM ((cornersM last avs).map fun c => c.getD p.toNat (0, 1))).2 ≠ 0 by have := t1.1; omega)
  have h2 := rc_ne (show ((cornersM last avs).length : Int) ≠ 0 by omega)
  unfold qf
  generalize ((totalM ((cornersM last avs).map fun c => c.getD p.toNat (0, 1))).1 : Rat) = A at *
  generalize ((totalM ((cornersM last avs).map fun c => c.getD p.toNat (0, 1))).2 : Rat) = B at *
  generalize (((cornersM last avs).length : Int) : Rat) = n at *
  generalize ((midP (cornersM last avs) p).1 : Rat) = u at *
  generalize ((midP (cornersM last avs) p).2 : Rat) = v at *
  generalize hx : u / v = x at *
  have : x = A / B / n := by rw [← m2]; grind
  grind
end
end DD
namespace DD
open PySem PySem.Spec PyProof.Rows L2
open Mo (su mom Rw NN shr shfs pr oth)
/-! ### bounds by the laws -/
def OutB (CW CN CV : Addr) (o' o : Out) : Prop := (∃ d, o' = .ret d ∧ o = .ret d) ∨ (o' = .exc ⟨CW, none⟩ ∧ o = .ret (.str "no")) ∨ (o' = .exc ⟨CN, none⟩ ∧ o = .ret (.str "number")) ∨ (o' = .exc ⟨CV, none⟩ ∧ o = .ret (.str "values"))
def bndO (CN CV CW : Addr) (mode last : Nat) (avs : Wts) (some_ : PyData) : Out := if mode = 0 then boundAtO CN CW some_ last avs else if mode = 1 then boundOfO CV CW some_ last avs else nextO CN CW last avs
def S__law_bounded (CN CV CW : Addr) (ds : List PyData) (o : Out) : Prop := ∃ (mode last : Nat) (avs : Wts) (some_ : PyData), ds = [.int (mode : Int), .int (last : Int), encL avs, some_] ∧ mode ≤ 2 ∧ 1 ≤ last ∧ last ≤ 6 ∧ AvOk last avs ∧ OutB CW CN CV (bndO CN CV CW mode last avs some_) o
def betM (a b f : Int × Int) : Bool := !lessM f a && !lessM b f
def S__law_between (ds : List PyData) (o : Out) : Prop := ∃ (a b f : Int × Int) (n : Nat), ds = [.tuple [encF a, encF b], encF f] ∧ Fz n a ∧ Fz n b ∧ Fz n f ∧ n ≤ 4400 ∧ o = .ret (.bool (betM a b f))
theorem any_enc {T : Type} [DecidableEq T] {f : T → PyData} (h : EqEnc f) (l : List T) (x : T) : ((l.map f).any fun z => PyData.eqv z (f x)) = decide (x ∈ l) := by
  rw [List.any_map, Bool.eq_iff_iff, List.any_eq_true, decide_eq_true_iff]
  constructor
  · rintro ⟨y, hy, e⟩
    have e : PyData.eqv (f y) (f x) = true := e
    rw [h] at e
    rw [← of_decide_eq_true e]; exact hy
  · intro hx
    exact ⟨x, hx, eqv_self h x⟩
theorem bet_ok {a b f : Int × Int} (ha : 0 < a.2) (hb : 0 < b.2) (hf : 0 < f.2) (h1 : qf a ≤ qf f) (h2 : qf f ≤ qf b) : betM a b f = true := by
  unfold betM
  rw [less_no hf ha h1, less_no hb hf h2] <;> rfl
theorem bet_iff {a b f : Int × Int} (ha : 0 < a.2) (hb : 0 < b.2) (hf : 0 < f.2) : betM a b f = true ↔ qf a ≤ qf f ∧ qf f ≤ qf b := by
  constructor
  · intro h
    unfold betM at h
    rw [Bool.and_eq_true, Bool.not_eq_true', Bool.not_eq_true'] at h
    constructor
    · refine Rat.not_lt.mp fun z => ?_
      have := (lessM_iff hf ha).mpr z
      rw [h.1] at this; cases this
    · refine Rat.not_lt.mp fun z => ?_
      have := (lessM_iff hb hf).mpr z
      rw [h.2] at this; cases this
  · rintro ⟨h1, h2⟩; exact bet_ok ha hb hf h1 h2
/-- menus of things that are no place, no values -/
def oddP (last : Nat) : List PyData := [.none, .int (-1), .int ((last : Int) + 1), .bool true]
theorem oddP_ok {CN CW : Addr} {last : Nat} {avs : Wts} : ∀ d ∈ oddP last, boundAtO CN CW d last avs = .exc ⟨CN, none⟩ := by
  intro d hd
  simp only [oddP, List.mem_cons, List.not_mem_nil, or_false] at hd
  rcases hd with e | e | e | e <;> subst e
  · rfl
  · rfl
  · show (if inR (.int ((last : Int) + 1)) 0 (last : Int) = true then _ else _) = _
    rw [if_neg]
    intro h
    obtain ⟨i, e, -, i2⟩ := inR_iff.mp h
    injection e with e
    omega
  · rfl
def oddV (vs : List Int) : List PyData := [.none, .list (vs.map .int), .tuple ((vs.drop 1).map .int), .tuple ((vs.drop 1).map .int ++ [.int 100]), .tuple ((vs.drop 1).map .int ++ [.none])]
theorem oddV_ok {CV CW : Addr} {last : Nat} {avs : Wts} {vs : List Int} (h : vs.length = last + 1) : ∀ d ∈ oddV vs, boundOfO CV CW d last avs = .exc ⟨CV, none⟩ := by
  have key : ∀ d, okVs last d = false → boundOfO CV CW d last avs = .exc ⟨CV, none⟩ := fun d hd => by unfold boundOfO; rw [if_neg (by rw [hd]; decide)]
  intro d hd
  simp only [oddV, List.mem_cons, List.not_mem_nil, or_false] at hd
  rcases hd with e | e | e | e | e <;> subst e <;> apply key
  · rfl
  · rfl
  · show (decide (((vs.drop 1).map PyData.int).length = last + 1) && _) = false
    rw [List.length_map, List.length_drop, decide_eq_false (by omega), Bool.false_and]
  · show (_ && List.all _ fun x => inR x (-99) 99) = false
    rw [List.all_append, show ([PyData.int 100].all fun x => inR x (-99) 99) = false from by decide, Bool.and_false, Bool.and_false]
  · show (_ && List.all _ fun x => inR x (-99) 99) = false
    rw [List.all_append, show ([PyData.none].all fun x => inR x (-99) 99) = false from by decide, Bool.and_false, Bool.and_false]
theorem no_31 : cornersM 2 [(3, 1)] = [] := by
  have : (cornersM 2 [(3, 1)]).isEmpty = true := by decide +kernel
  exact List.isEmpty_iff.mp this
theorem av_31 : AvOk 2 [(3, 1)] := ⟨by decide, by decide, by decide, fun f hf => by
  rw [List.mem_singleton.mp hf]
  exact ⟨by decide, by decide, by decide, by decide, by decide⟩⟩
theorem lo_at {last : Nat} {avs : Wts} (hl : avs.length ≤ last) (ha : ∀ f ∈ avs, 0 < f.2) (hne : cornersM last avs ≠ []) {i : Nat} (hi : i ≤ last) : loA last avs (indV last (i : Int)) ∈ (cornersM last avs).map (fun c => c.getD i (0, 1)) ∧ hiA last avs (indV last (i : Int)) ∈ (cornersM last avs).map (fun c => c.getD i (0, 1)) := by
  have at_ : ∀ c ∈ cornersM last avs, ∀ f, Lo f → qf f = val last (indV last (i : Int)) (wf c) → f = c.getD i (0, 1) := fun c hc f hf e => by
    have hcc := (corner_iff hl ha).mp hc
    have hi2 : i < c.length := by rw [hcc.len]; omega
    refine lo_inj hf (by rw [getD_in hi2]; exact hcc.lo _ (List.getElem_mem hi2)) ?_
    rw [e, val_ind hi]
    unfold wf
    rw [Int.toNat_natCast]
  obtain ⟨a1, ⟨c, hc, -, e⟩, -⟩ := lo_spec hl ha (indV_len last (i : Int)) hne
  obtain ⟨b1, ⟨d, hd, -, g⟩, -⟩ := hi_spec hl ha (indV_len last (i : Int)) hne
  exact ⟨List.mem_map.mpr ⟨c, hc, (at_ c hc _ a1 e).symm⟩, List.mem_map.mpr ⟨d, hd, (at_ d hd _ b1 g).symm⟩⟩
theorem any_in {T : Type} [DecidableEq T] {f : T → PyData} (h : EqEnc f) {l : List T} {x : T} (hx : x ∈ l) : ((l.map f).any fun z => PyData.eqv z (f x)) = true := by rw [any_enc h, decide_eq_true hx]
theorem any_no {T : Type} [DecidableEq T] {f : T → PyData} (h : EqEnc f) {l : List T} {x : T} (hx : x ∉ l) : ((l.map f).any fun z => PyData.eqv z (f x)) = false := by rw [any_enc h, decide_eq_false hx]
theorem bnd_no0 {CN CV CW : Addr} : bndO CN CV CW 0 2 [(3, 1)] (.int 0) = .exc ⟨CW, none⟩ := by
  show boundAtO CN CW (.int ((0 : Nat) : Int)) 2 [(3, 1)] = _
  rw [boundAt_eq (by decide), range_no no_31]
theorem bnd_no1 {CN CV CW : Addr} : bndO CN CV CW 1 2 [(3, 1)] (.tuple [.int 0, .int 0, .int 0]) = .exc ⟨CW, none⟩ := by
  show boundOfO CV CW (.tuple ([0, 0, 0].map .int)) 2 [(3, 1)] = _
  rw [boundOf_eq (by decide) (by decide), range_no no_31]
end DD
namespace DD
open PySem PySem.Spec PyProof.Rows L2
open Mo (su mom Rw NN shr shfs pr oth)
/-! ### the next average -/
theorem mom_mix (R : List Int) (a b : Int → Rat) (t : Rat) (k : Nat) : mom R (fun p => (1 - t) * a p + t * b p) k = (1 - t) * mom R a k + t * mom R b k := by
  unfold Mo.mom
  rw [← Mo.su_mul, ← Mo.su_mul, ← Mo.su_add]
  exact Mo.su_congr fun p _ => by grind
theorem nn_mix {R : List Int} {a b : Int → Rat} {t : Rat} (h0 : 0 ≤ t) (h1 : t ≤ 1) (ha : NN R a) (hb : NN R b) : NN R fun p => (1 - t) * a p + t * b p := fun p hp => by
  have x := Rat.mul_nonneg (show (0 : Rat) ≤ 1 - t by grind) (ha p hp)
  have y := Rat.mul_nonneg h0 (hb p hp)
  show 0 ≤ (1 - t) * a p + t * b p
  grind
/-- between two numbers: a share -/
theorem share_ex {x y e : Rat} (h1 : x ≤ e) (h2 : e ≤ y) : ∃ t : Rat, 0 ≤ t ∧ t ≤ 1 ∧ (1 - t) * x + t * y = e := by
  by_cases q : x = y
  · refine ⟨0, by grind, by grind, by grind⟩
  · have hd : 0 < y - x := by
      have z : x ≤ y := Rat.le_trans h1 h2
      grind
    have hi : 0 < (y - x)⁻¹ := Rat.inv_pos.mpr hd
    have hc : (y - x) * (y - x)⁻¹ = 1 := Rat.mul_inv_cancel _ (by grind)
    refine ⟨(e - x) * (y - x)⁻¹, Rat.mul_nonneg (by grind) (by grind), ?_, ?_⟩
    · have := Rat.mul_nonneg (show (0 : Rat) ≤ y - e by grind) (show (0 : Rat) ≤ (y - x)⁻¹ by grind)
      grind
    · grind
theorem next_iff {last : Nat} {L : List (Int × Int)} (hl : L.length + 1 ≤ last) (hp : ∀ f ∈ L, 0 < f.2) (hne : cornersM last L ≠ []) {e : Int × Int} (he : 0 < e.2) :
    cornersM last (L ++ [e]) ≠ [] ↔ qf (loA last L (powL last (L.length + 1))) ≤ qf e ∧ qf e ≤ qf (hiA last L (powL last (L.length + 1))) := by
  have hlen := powL_len last (L.length + 1)
  obtain ⟨a1, ⟨ca, hca, -, ea⟩, a3⟩ := lo_spec (by omega) hp hlen hne
  obtain ⟨b1, ⟨cb, hcb, -, eb⟩, b3⟩ := hi_spec (by omega) hp hlen hne
  rw [val_pow] at ea eb
  have hpe : ∀ f ∈ L ++ [e], 0 < f.2 := fun f hf => by
    rcases List.mem_append.mp hf with q | q
    · exact hp f q
    · rw [List.mem_singleton.mp q]; exact he
  have hle : (L ++ [e]).length = L.length + 1 := by simp
  obtain ⟨m1, m2⟩ := mo_snoc L e
  constructor
  · intro h
    obtain ⟨c, hc⟩ := List.exists_mem_of_ne_nil _ h
    obtain ⟨w1, w2⟩ := corner_w (by omega) hpe hc
    have hk : ∀ k, k ≤ L.length → mom (Rw last) (wf c) k = mo L k := fun k hk => by rw [w2 k (by omega), m1 k hk]
    have x := lo_w (by omega) hp hlen w1 hk
    have y := hi_w (by omega) hp hlen w1 hk
    rw [val_pow, w2 _ (by omega), m2] at x y
    exact ⟨x, y⟩
  · rintro ⟨h1, h2⟩
    obtain ⟨u1, u2⟩ := corner_w (by omega) hp hca
    obtain ⟨v1, v2⟩ := corner_w (by omega) hp hcb
    rw [ea] at h1
    rw [eb] at h2
    obtain ⟨t, t0, t1, te⟩ := share_ex h1 h2
    refine corners_ne (by omega) hpe (nn_mix t0 t1 u1 v1) fun k hk => ?_
    rw [mom_mix]
    rw [hle] at hk
    by_cases q : k = L.length + 1
    · rw [q, te, m2]
    · rw [u2 k (by omega), v2 k (by omega), m1 k (by omega)]; grind
theorem avOk_snoc {last : Nat} {L : List (Int × Int)} (h : AvOk last L) (hl : L.length ≠ min last 3) {e : Int × Int} (he : Frac e) : AvOk last (L ++ [e]) := by
  obtain ⟨h1, h2, h3, h4⟩ := h
  refine ⟨by simp, by simp; omega, by simp; omega, fun f hf => ?_⟩
  rcases List.mem_append.mp hf with q | q
  · exact h4 f q
  · rw [List.mem_singleton.mp q]; exact he
end DD
namespace DD
open PySem PySem.Spec PyProof.Rows L2
open Mo (su mom Rw NN shr shfs pr oth)
/-! ### papers -/
theorem prodM_div (s : Int) (p : Int) : ∀ zs : List Int, prodM s zs p = s * divM p zs := snoc_ind (by unfold prodM divM; simp) fun l a h => by rw [prodM_snoc, divM_snoc, h, Int.mul_assoc]
theorem prodM_pr (s : Int) (zs : List Int) (p : Int) : ((prodM s zs p : Int) : Rat) = (s : Rat) * pr p zs := by rw [prodM_div, rc_mul, div_pr]
theorem nnM_iff {last : Nat} {s : Int} {zs : List Int} : nnM last s zs = true ↔ ∀ p ∈ Rw last, 0 ≤ (s : Rat) * pr p zs := by
  unfold nnM
  rw [List.all_eq_true]
  constructor
  · intro h p hp
    rw [← prodM_pr]
    exact Mo.rat_nn.mpr (of_decide_eq_true (h p hp))
  · intro h p hp
    have := h p hp
    rw [← prodM_pr] at this
    exact decide_eq_true (Mo.rat_nn.mp this)
theorem shfs_eq (zs : List Int) {m m' : Nat → Rat} {k : Nat} (h : ∀ j, j ≤ k + zs.length → m j = m' j) : shfs zs m k = shfs zs m' k := by
  have := Mo.shfs_lead zs m m' k (fun j hj => h j (by omega))
  rw [h _ (Nat.le_refl _)] at this
  grind
theorem dot_mul (s : Int) (m : Nat → Rat) : ∀ r : List Int, dot (r.map (s * ·)) m = (s : Rat) * dot r m := by
  intro r
  induction r generalizing m with
  | nil => show (0 : Rat) = _ * 0; grind
  | cons a r ih =>
    show ((s * a : Int) : Rat) * m 0 + dot (r.map (s * ·)) (fun k => m (k + 1)) = (s : Rat) * ((a : Rat) * m 0 + dot r (fun k => m (k + 1)))
    rw [ih, rc_mul]
    grind
theorem mean_paper {avs : Wts} (ha : ∀ f ∈ avs, 0 < f.2) {s : Int} {zs : List Int} (hl : zs.length = avs.length) : 0 < (meanM avs (prow s zs)).2 ∧ qf (meanM avs (prow s zs)) = (s : Rat) * shfs zs (mo avs) 0 := by
  obtain ⟨h1, h2⟩ := mean_lo ha (prow s zs) (by rw [prow_len, hl])
  refine ⟨h1, ?_⟩
  rw [h2, ← prow_mul, dot_mul, dot_coef]
theorem neg_iff {f : Int × Int} (h : 0 < f.2) : f.1 < 0 ↔ qf f < 0 := by
  constructor
  · intro z
    refine Rat.not_le.mp fun y => ?_
    have := (qf_nn h).mp y
    omega
  · intro z
    have : ¬ 0 ≤ f.1 := fun y => by have := (qf_nn h).mpr y; grind
    omega
theorem papB_iff {last : Nat} {avs : Wts} (ha : ∀ f ∈ avs, 0 < f.2) {s : Int} {zs : List Int} (hl : zs.length = avs.length) : papB last avs s zs = true ↔ (∀ p ∈ Rw last, 0 ≤ (s : Rat) * pr p zs) ∧ (s : Rat) * shfs zs (mo avs) 0 < 0 := by
  obtain ⟨h1, h2⟩ := mean_paper ha (s := s) hl
  unfold papB
  rw [Bool.and_eq_true, nnM_iff, decide_eq_true_iff, neg_iff h1, h2]
/-- a paper: no weights -/
theorem paper_no {last : Nat} {avs : Wts} (hl : avs.length ≤ last) (ha : ∀ f ∈ avs, 0 < f.2) {s : Int} {zs : List Int} (hz : zs.length = avs.length) (h : papB last avs s zs = true) : cornersM last avs = [] := by
  obtain ⟨h1, h2⟩ := (papB_iff ha hz).mp h
  refine Classical.byContradiction fun hne => ?_
  obtain ⟨c, hc⟩ := List.exists_mem_of_ne_nil _ hne
  obtain ⟨w1, w2⟩ := corner_w hl ha hc
  have h3 := Mo.paper_nn w1 s zs h1
  rw [shfs_eq zs (m' := mo avs) (fun j hj => w2 j (by omega))] at h3
  grind
/-- no paper: weights -/
theorem paper_yes {last : Nat} {avs : Wts} (h1 : 1 ≤ avs.length) (hl : avs.length ≤ last) (h3 : avs.length ≤ 3) (ha : ∀ f ∈ avs, 0 < f.2)
    (h : ∀ (s : Int) (zs : List Int), (s = 1 ∨ s = -1) → zs.Sublist (Rw last) → zs.length = avs.length → papB last avs s zs = false) : cornersM last avs ≠ [] := by
  obtain ⟨S, s1, s2, s3⟩ := Mo.farkas h1 h3 hl (mo avs) (mo_zero avs) fun s zs hs z1 z2 z3 => by
    refine Rat.not_lt.mp fun y => ?_
    have := (papB_iff ha z2).mpr ⟨z3, y⟩
    rw [h s zs hs z1 z2] at this
    cases this
  obtain ⟨w, w1, w2, -, -⟩ := Mo.shr_weights s1 s2 _ s3
  exact corners_ne hl ha w1 w2
/-- the papers tried, in order -/
def papL (last d : Nat) : List (Int × List Int) := [-1, 1].flatMap fun s => (chooseM (intsL 0 (last + 1)) d).map fun zs => (s, zs)
def papF (last : Nat) (avs : Wts) : Option (Int × List Int) := (papL last avs.length).find? fun z => papB last avs z.1 z.2
theorem mem_papL {last d : Nat} {z : Int × List Int} : z ∈ papL last d ↔ (z.1 = -1 ∨ z.1 = 1) ∧ z.2.Sublist (Rw last) ∧ z.2.length = d := by
  unfold papL
  rw [List.mem_flatMap]
  constructor
  · rintro ⟨s, hs, h⟩
    obtain ⟨zs, hz, rfl⟩ := List.mem_map.mp h
    obtain ⟨e1, e2⟩ := choose_mem hz
    exact ⟨by simpa using hs, e2, e1⟩
  · rintro ⟨h1, h2, h3⟩
    refine ⟨z.1, by simpa using h1, List.mem_map.mpr ⟨z.2, ?_, rfl⟩⟩
    rw [← h3]
    exact mem_choose h2
theorem papF_none {last : Nat} {avs : Wts} (hav : AvOk last avs) : papF last avs = none ↔ cornersM last avs ≠ [] := by
  unfold papF
  rw [List.find?_eq_none]
  constructor
  · intro h
    refine paper_yes hav.1 hav.2.1 hav.2.2.1 hav.pos fun s zs hs z1 z2 => ?_
    have := h (s, zs) (mem_papL.mpr ⟨hs.symm, z1, z2⟩)
    simpa using this
  · intro hne z hz hp
    exact hne (paper_no hav.2.1 hav.pos (mem_papL.mp hz).2.2 hp)
theorem papF_some {last : Nat} {avs : Wts} {z : Int × List Int} (h : papF last avs = some z) : (z.1 = -1 ∨ z.1 = 1) ∧ z.2.Sublist (Rw last) ∧ z.2.length = avs.length ∧ papB last avs z.1 z.2 = true := by
  unfold papF at h
  have h1 := List.find?_some h
  have h2 := mem_papL.mp (List.mem_of_find?_eq_some h)
  exact ⟨h2.1, h2.2.1, h2.2.2, h1⟩
theorem asc_of_sub {last : Nat} {zs : List Int} (h : zs.Sublist (Rw last)) : zs.Pairwise (· < ·) ∧ ∀ p ∈ zs, 0 ≤ p ∧ p ≤ (last : Int) := Mo.sub_asc h
theorem ascB_iff : ∀ {zs : List Int}, ascB zs = true ↔ zs.Pairwise (· < ·)
  | [] => by simp [ascB]
  | [a] => by simp [ascB]
  | a :: b :: r => by
    have ih := ascB_iff (zs := b :: r)
    have e : ascB (a :: b :: r) = (decide (a < b) && ascB (b :: r)) := rfl
    rw [e, Bool.and_eq_true, decide_eq_true_iff, ih]
    constructor
    · rintro ⟨h1, h2⟩
      refine List.pairwise_cons.mpr ⟨fun z hz => ?_, h2⟩
      rcases List.mem_cons.mp hz with q | q
      · rw [q]; exact h1
      · have := (List.pairwise_cons.mp h2).1 z q; omega
    · intro h
      obtain ⟨h1, h2⟩ := List.pairwise_cons.mp h
      exact ⟨h1 b List.mem_cons_self, h2⟩
/-- what papers are, as data -/
def encZ (z : Int × List Int) : PyData := .tuple [.int z.1, encP z.2]
theorem isPap_enc {last : Nat} {avs : Wts} {z : Int × List Int} : isPap last avs (encZ z) = true ↔ (-1 ≤ z.1 ∧ z.1 ≤ 1 ∧ z.1 ≠ 0) ∧ z.2.length = avs.length ∧ (∀ p ∈ z.2, 0 ≤ p ∧ p ≤ (last : Int)) ∧ z.2.Pairwise (· < ·) ∧ papB last avs z.1 z.2 = true := by
  obtain ⟨s, zs⟩ := z
  show (((decide (-1 ≤ s) && decide (s ≤ 1) && !decide (s = 0)) && (decide ((zs.map PyData.int).length = avs.length) && ((zs.map PyData.int).all (fun z => inR z 0 last) && (ascB ((zs.map PyData.int).map intOf) && papB last avs s ((zs.map PyData.int).map intOf)))) : Bool) = true) ↔ _
  rw [intOf_map, List.length_map]
  simp only [Bool.and_eq_true, Bool.not_eq_true', decide_eq_true_iff, decide_eq_false_iff_not, ascB_iff, and_assoc]
  have : ((zs.map PyData.int).all (fun z => inR z 0 last) = true) ↔ ∀ p ∈ zs, 0 ≤ p ∧ p ≤ (last : Int) := by
    constructor
    · intro h
      obtain ⟨ns, e, h2⟩ := ints_typed h
      have : zs = ns := by have := congrArg (List.map intOf) e; rwa [intOf_map, intOf_map] at this
      rw [this]; exact h2
    · exact all_inR
  rw [this]
theorem papF_is {last : Nat} {avs : Wts} {z : Int × List Int} (h : papF last avs = some z) : isPap last avs (encZ z) = true := by
  obtain ⟨h1, h2, h3, h4⟩ := papF_some h
  obtain ⟨a1, a2⟩ := asc_of_sub h2
  exact isPap_enc.mpr ⟨by omega, h3, a2, a1, h4⟩
/-- of any object: none is a paper with weights -/
theorem isPap_no {last : Nat} {avs : Wts} (hl : avs.length ≤ last) (ha : ∀ f ∈ avs, 0 < f.2) (hne : cornersM last avs ≠ []) (d : PyData) : isPap last avs d = false := by
  cases q : isPap last avs d with
  | false => rfl
  | true =>
    exfalso
    unfold isPap at q
    split at q
    · rename_i s zs
      simp only [Bool.and_eq_true, decide_eq_true_iff] at q
      obtain ⟨-, q2, q3, -, q5⟩ := q
      obtain ⟨ns, rfl, -⟩ := ints_typed q3
      rw [intOf_map] at q5
      rw [List.length_map] at q2
      exact hne (paper_no hl ha q2 q5)
    · cases q
def encO : Option (Int × List Int) → PyData
  | none => .none
  | some z => encZ z
def S_paper_of (ds : List PyData) (o : Out) : Prop := ∃ (last : Nat) (avs : Wts), ds = [.int (last : Int), encL avs] ∧ 1 ≤ last ∧ last ≤ 6 ∧ AvOk last avs ∧ o = .ret (encO (papF last avs))
def papO (CE : Addr) (last : Nat) (avs : Wts) : Out := match papF last avs with
  | none => .exc ⟨CE, none⟩
  | some z => .ret (encZ z)
def S_paper (CN CA CE : Addr) (ds : List PyData) (o : Out) : Prop := ∃ l v : PyData, ds = [l, v] ∧ ofV CN CA (papO CE) l v o
def S__law_decided (ds : List PyData) (o : Out) : Prop := ∃ (mode last : Nat) (avs : Wts), ds = [.int (mode : Int), .int (last : Int), encL avs] ∧ mode ≤ 1 ∧ 1 ≤ last ∧ last ≤ 6 ∧ AvOk last avs ∧
  o = .ret (if mode = 0 then (match cornersM last avs with | [] => .str "no" | c :: _ => encL c) else match papF last avs with | none => .str "exist" | some z => encZ z)
def S__law_is_paper3 (ds : List PyData) (o : Out) : Prop := ∃ (last : Nat) (avs : Wts) (pv : PyData), ds = [.int (last : Int), encL avs, pv] ∧ 1 ≤ last ∧ last ≤ 6 ∧ AvOk last avs ∧ Sh 20 pv ∧ o = .ret (.bool (isPap last avs pv))
theorem sh_inT {n : Nat} {ds : List PyData} (h : Sh (n + 1) (.tuple ds)) : ∀ d ∈ ds, Sh n d := by
  have key : ∀ {ds : List PyData}, PyData.canLayAll0 ds = true → PyData.depthAll ds ≤ n → ∀ d ∈ ds, Sh n d := by
    intro ds
    induction ds with
    | nil => intro _ _ d hd; cases hd
    | cons a r ih =>
      intro h1 h2 d hd
      have h1 : (a.canLay0 && PyData.canLayAll0 r) = true := h1
      have h2 : max a.depth (PyData.depthAll r) ≤ n := h2
      rw [Bool.and_eq_true] at h1
      rcases List.mem_cons.mp hd with e | e
      · rw [e]; exact ⟨h1.1, by omega⟩
      · exact ih h1.2 (by omega) d e
  exact key h.1 (by have : PyData.depthAll ds + 1 ≤ n + 1 := h.2; omega)
theorem find_at {α : Type} {p : α → Bool} {pre post : List α} {z : α} (h : ∀ a ∈ pre, p a = false) (hz : p z = true) : (pre ++ z :: post).find? p = some z := by
  rw [List.find?_eq_some_iff_append]
  exact ⟨hz, pre, post, rfl, fun a ha => by rw [h a ha]; rfl⟩
/-- sorted and each once -/
theorem asc_filter (last : Nat) (ns : List Int) (h : ∀ p ∈ ns, 0 ≤ p ∧ p ≤ (last : Int)) : ∃ zs : List Int, (∀ k, k ∈ zs ↔ k ∈ ns) ∧ zs.Pairwise (· < ·) ∧ (ns = zs ↔ ascB ns = true) := by
  refine ⟨(intsL 0 (last + 1)).filter fun p => decide (p ∈ ns), fun k => ?_, (Mo.Rw_asc last).filter _, ?_⟩
  · rw [List.mem_filter, decide_eq_true_iff]
    constructor
    · exact fun z => z.2
    · intro z
      exact ⟨Mo.mem_Rw.mpr (h k z), z⟩
  · constructor
    · intro e
      rw [e]
      exact ascB_iff.mpr ((Mo.Rw_asc last).filter _)
    · intro e
      refine DD.asc_same (ascB_iff.mp e) ((Mo.Rw_asc last).filter _) fun k => ?_
      rw [List.mem_filter, decide_eq_true_iff]
      constructor
      · intro z
        exact ⟨Mo.mem_Rw.mpr (h k z), z⟩
      · exact fun z => z.2
end DD
namespace DD
open PySem PySem.Spec PyProof.Rows L2
open Mo (su mom Rw NN shr shfs pr oth)
/-! ### things that may be papers -/
def triesA (z d : Int × List Int) : List PyData := [encZ z, encZ z, encZ d, encZ d, .list [.int z.1, encP z.2], .tuple [.int z.1, .list (z.2.map .int)], .tuple [.int (-z.1), encP z.2], .tuple [.int 0, encP z.2], .none]
def triesB (last : Nat) (z : Int × List Int) : List PyData := [.tuple [.int z.1, .tuple (z.2.map .int ++ [.int (last : Int)])], .tuple [.int z.1, .tuple ((z.2.drop 1).map .int)], .tuple [.int z.1, .tuple (z.2.map PyData.int).reverse], .tuple [.bool true, encP z.2]]
def triesC (last : Nat) (z : Int × List Int) (z0 : Int) : List PyData := [.tuple [.int z.1, .tuple (z.2.dropLast.map .int ++ [.int ((last : Int) + 1)])], .tuple [.int z.1, .tuple (List.replicate ((z.2.map PyData.int).length : Int).toNat [PyData.int z0]).flatten]]
def triesD (last : Nat) (z d : Int × List Int) (z0 : Int) : List PyData := triesA z d ++ triesB last z ++ triesC last z z0 ++ [.tuple [.int 2, encP z.2]]
theorem sh2 {n : Nat} {a b : PyData} (ha : Sh n a) (hb : Sh n b) : ∀ d ∈ [a, b], Sh n d := fun d hd => by
  rcases List.mem_cons.mp hd with e | e
  · rw [e]; exact ha
  · rw [List.mem_singleton.mp e]; exact hb
theorem sh_pair {n : Nat} {a b : PyData} (ha : Sh n a) (hb : Sh n b) : Sh (n + 1) (.tuple [a, b]) := sh_tup (sh2 ha hb)
theorem sh_Z (z : Int × List Int) : Sh 2 (encZ z) := sh_pair sh_int sh_tupI
theorem tries_sh {last : Nat} {z d : Int × List Int} {z0 : Int} : ∀ x ∈ triesD last z d z0, Sh 20 x := by
  have hints : ∀ l : List PyData, (∀ x ∈ l, ∃ i : Int, x = .int i) → Sh 2 (.tuple [.int z.1, .tuple l]) := fun l h => sh_pair sh_int (sh_tup (n := 0) fun x hx => by obtain ⟨i, rfl⟩ := h x hx; exact sh_int)
  have mi : ∀ l : List Int, ∀ x ∈ l.map PyData.int, ∃ i : Int, x = .int i := fun l x hx => by obtain ⟨i, -, rfl⟩ := List.mem_map.mp hx; exact ⟨i, rfl⟩
  intro x hx
  refine Sh.up (n := 2) ?_ (by decide)
  unfold triesD triesA triesB triesC at hx
  simp only [List.mem_append, List.mem_cons, List.not_mem_nil, or_false] at hx
  rcases hx with (((e | e | e | e | e | e | e | e | e) | (e | e | e | e)) | (e | e)) | e <;> rw [e]
  · exact sh_Z z
  · exact sh_Z z
  · exact sh_Z d
  · exact sh_Z d
  · exact sh_lst (sh2 sh_int sh_tupI)
  · exact sh_pair sh_int sh_lstI
  · exact sh_pair sh_int sh_tupI
  · exact sh_pair sh_int sh_tupI
  · exact sh_none
  · exact hints _ fun y hy => by
      rcases List.mem_append.mp hy with q | q
      · exact mi _ y q
      · exact ⟨_, List.mem_singleton.mp q⟩
  · exact hints _ (mi _)
  · exact hints _ fun y hy => mi _ y (List.mem_reverse.mp hy)
  · exact sh_pair sh_bool sh_tupI
  · exact hints _ fun y hy => by
      rcases List.mem_append.mp hy with q | q
      · exact mi _ y q
      · exact ⟨_, List.mem_singleton.mp q⟩
  · exact hints _ fun y hy => by
      rw [flat_one] at hy
      exact ⟨_, (List.mem_replicate.mp hy).2⟩
  · exact sh_pair sh_int sh_tupI
theorem chC_pos {last d : Nat} (h : d ≤ last) : 0 < (chC (intsL 0 (last + 1)) d).length := by
  refine List.length_pos_of_mem (a := intsL 0 d) (mem_chC.mpr ⟨intsL_len _ _, ?_, fun p hp => ?_⟩)
  · cases d with
    | zero => exact List.Pairwise.nil
    | succ d => exact Mo.Rw_asc d
  · have := intsL_mem hp
    exact Mo.mem_Rw.mpr (by omega)
end DD
namespace DD
open PySem PySem.Spec PyProof.Rows L2

/-! ### instances of own classes: fields that hold data -/
inductive FR (G : Hp) : List (Str × V) → List (Str × PyData) → Prop
  | nil : FR G [] []
  | cons {f : Str} {v : V} {d : PyData} {vs : List (Str × V)} {ds : List (Str × PyData)} : Rp G v d → FR G vs ds → FR G ((f, v) :: vs) ((f, d) :: ds)
theorem FR.up {G G' : Hp} (s : Sub G G') : ∀ {vs : List (Str × V)} {ds : List (Str × PyData)}, FR G vs ds → FR G' vs ds
  | _, _, .nil => .nil
  | _, _, .cons r t => .cons (r.up s) (t.up s)
theorem FR.length {G : Hp} : ∀ {vs : List (Str × V)} {ds : List (Str × PyData)}, FR G vs ds → vs.length = ds.length
  | _, _, .nil => rfl
  | _, _, .cons _ t => by rw [List.length_cons, List.length_cons, t.length]
def putG (f : Str) (d : PyData) : List (Str × PyData) → List (Str × PyData)
  | [] => [(f, d)]
  | (g, x) :: r => if g = f then (g, d) :: r else (g, x) :: putG f d r
theorem FR.look {G : Hp} {f : Str} {d : PyData} : ∀ {vs : List (Str × V)} {ds : List (Str × PyData)}, FR G vs ds → ds.lookup f = some d → ∃ v, vs.lookup f = some v ∧ Rp G v d
  | _, _, .nil, h => by cases h
  | _, _, .cons (f := g) (v := v) (d := x) r t, h => by
    rw [List.lookup_cons] at h ⊢
    cases q : f == g with
    | true => rw [q] at h; cases h; exact ⟨v, rfl, r⟩
    | false => rw [q] at h; exact t.look h
theorem FR.none {G : Hp} {f : Str} : ∀ {vs : List (Str × V)} {ds : List (Str × PyData)}, FR G vs ds → ds.lookup f = Option.none → vs.lookup f = Option.none
  | _, _, .nil, _ => rfl
  | _, _, .cons (f := g) r t, h => by
    rw [List.lookup_cons] at h ⊢
    cases q : f == g with
    | true => rw [q] at h; cases h
    | false => rw [q] at h; exact t.none h
theorem FR.put {G : Hp} {f : Str} {v : V} {d : PyData} (r : Rp G v d) : ∀ {vs : List (Str × V)} {ds : List (Str × PyData)}, FR G vs ds → FR G (putF f v vs) (putG f d ds)
  | _, _, .nil => .cons r .nil
  | _, _, .cons (f := g) (v := x) (d := y) q t => by
    show FR G (if g = f then (g, v) :: _ else (g, x) :: putF f v _) (if g = f then (g, d) :: _ else (g, y) :: putG f d _)
    split
    · exact .cons r t
    · exact .cons q (t.put r)
/-- an instance of the class at C stands at p, its fields hold data -/
def InsAt (C p : Addr) (fs : List (Str × PyData)) (G H : Hp) : Prop := ∃ dx fv, H p = some (.ins C dx fv) ∧ FR G fv fs
def insF (C p : Addr) (fs : List (Str × PyData)) : Hp → Addr → HO → Prop := fun G q o => q = p ∧ ∃ dx fv, o = .ins C dx fv ∧ FR G fv fs
/-- .. at a slot, own -/
def SV.ins (C p : Addr) (fs : List (Str × PyData)) : SV := .obj (insF C p fs) fun G G' q o s ⟨e, dx, fv, e2, r⟩ => ⟨e, dx, fv, e2, r.up s⟩
def insXF (C p dx : Addr) (fv : List (Str × V)) (fs : List (Str × PyData)) : Hp → Addr → HO → Prop := fun G q o => q = p ∧ o = .ins C dx fv ∧ FR G fv fs
/-- .. exactly this one -/
def SV.insX (C p dx : Addr) (fv : List (Str × V)) (fs : List (Str × PyData)) : SV := .obj (insXF C p dx fv fs) fun G G' q o s ⟨e, e2, r⟩ => ⟨e, e2, r.up s⟩
/-- a slot that holds such an instance -/
structure IsIns (C p : Addr) (fs : List (Str × PyData)) (s : SV) : Prop where
  mk' ::
  own : s.isOwn = true
  at_ : ∀ H₀ G H x, SlotOk H₀ G H x s → x = some (some (.ref p)) ∧ H₀ p = none ∧ G p = none ∧ InsAt C p fs G H
theorem isIns {C p : Addr} {fs : List (Str × PyData)} : IsIns C p fs (SV.ins C p fs) := ⟨rfl, fun H₀ G H x h => by
  obtain ⟨q, o, e1, h0, hg, hh, e2, dx, fv, e3, r⟩ := h
  subst e2 e3
  exact ⟨e1, h0, hg, dx, fv, hh, r⟩⟩
theorem isInsX {C p dx : Addr} {fv : List (Str × V)} {fs : List (Str × PyData)} : IsIns C p fs (SV.insX C p dx fv fs) := ⟨rfl, fun H₀ G H x h => by
  obtain ⟨q, o, e1, h0, hg, hh, e2, e3, r⟩ := h
  subst e2 e3
  exact ⟨e1, h0, hg, dx, fv, hh, r⟩⟩
/-- the heap without an address -/
def del (H : Hp) (p : Addr) : Hp := fun a => if a = p then none else H a
theorem del_ne {H : Hp} {p a : Addr} (h : a ≠ p) : del H p a = H a := if_neg h
theorem del_at {H : Hp} {p : Addr} : del H p p = none := if_pos rfl
theorem del_sub {H : Hp} {p : Addr} : Sub (del H p) H := fun a o h => by
  by_cases e : a = p
  · subst e; rw [del_at] at h; cases h
  · rwa [del_ne e] at h
/-- behind a call that may change the object at p alone -/
structure Mut (G H : Hp) (p : Addr) (G' H' : Hp) : Prop where
  ext : Ext G (del H p) G' H'
  out : G' p = none
theorem Mut.back {G H G1 H1 : Hp} {p : Addr} {G' H' : Hp} (m : Mut G1 H1 p G' H') (e : Ext G H G1 H1) (hp : H p ≠ none) : Mut G H p G' H' := by
  refine ⟨⟨e.gg.trans m.ext.gg, fun a o h => ?_, m.ext.gh, fun a o h => ?_⟩, m.out⟩
  · by_cases q : a = p
    · subst q; rw [del_at] at h; cases h
    · rw [del_ne q] at h
      exact m.ext.hh a o (by rw [del_ne q]; exact e.hh a o h)
  · by_cases q : a = p
    · subst q; exact .inr del_at
    · rcases m.ext.nw a o h with z | z
      · rcases e.nw a o z with y | y
        · exact .inl y
        · exact .inr (by rw [del_ne q]; exact y)
      · rw [del_ne q] at z
        exact .inr (by rw [del_ne q]; exact free_back e.hh z)
/-- what it means for the slots -/
theorem Sat.mutX {H₀ G H G' H' : Hp} {σ : L2.St} {ρ : En} {i : Nat} {s : SV} {C p : Addr} {fs fs' : List (Str × PyData)} (h : Sat H₀ G H σ ρ) (hi : ρ[i]? = some s) (hs : IsIns C p fs s) (m : Mut G H p G' H') (at' : InsAt C p fs' G' H') :
    Sat H₀ G' H' σ (ρ.set i (SV.ins C p fs')) := by
  obtain ⟨e1, h0, hg, dx, fv, hh, r⟩ := hs.at_ _ _ _ _ (h.slot i _ hi)
  obtain ⟨dx', fv', hh', r'⟩ := at'
  have stay : ∀ {q : Addr} {o : HO}, q ≠ p → H q = some o → H' q = some o := fun hq e => m.ext.hh _ _ (by rw [del_ne hq]; exact e)
  have gone : ∀ {q : Addr} {o : HO}, q ≠ p → H q = some o → G q = none → G' q = none := fun {q o} hq e g => by
    cases z : G' q with
    | none => rfl
    | some o' =>
      rcases m.ext.nw q o' z with y | y
      · rw [g] at y; cases y
      · rw [del_ne hq, e] at y; cases y
  refine ⟨m.ext.gh, by rw [List.length_set, h.len], fun j t q => ?_, fun a b s1 t1 pp hab q1 q2 o1 o2 r1 => ?_, fun a o e => ?_⟩
  · by_cases e : i = j
    · subst e
      have hl : i < ρ.length := (List.getElem?_eq_some_iff.mp hi).1
      rw [List.getElem?_set_self hl] at q; cases q
      exact ⟨p, _, e1, h0, m.out, hh', rfl, dx', fv', rfl, r'⟩
    · rw [List.getElem?_set_ne e] at q
      have x := h.slot j t q
      cases t with
      | un => trivial
      | dat d => obtain ⟨v, e2, r2⟩ := x; exact ⟨v, e2, r2.up m.ext.gg⟩
      | raw v => exact x
      | pin v φ mm => exact x
      | own es =>
        obtain ⟨p2, us, e2, h02, hg2, hh2, r2⟩ := x
        have ne : p2 ≠ p := fun z => h.apart i j _ _ p e hi q hs.own rfl e1 (by rw [e2, z])
        exact ⟨p2, us, e2, h02, gone ne hh2 hg2, stay ne hh2, r2.up m.ext.gg⟩
      | obj φ mm =>
        obtain ⟨p2, u, e2, h02, hg2, hh2, r2⟩ := x
        have ne : p2 ≠ p := fun z => h.apart i j _ _ p e hi q hs.own rfl e1 (by rw [e2, z])
        exact ⟨p2, u, e2, h02, gone ne hh2 hg2, stay ne hh2, mm _ _ _ _ m.ext.gg r2⟩
  · have back : ∀ {a : Nat} {s1 : SV}, (ρ.set i (SV.ins C p fs'))[a]? = some s1 → s1.isOwn = true → ∃ s2, ρ[a]? = some s2 ∧ s2.isOwn = true := by
      intro a s1 q o
      by_cases e : i = a
      · subst e; exact ⟨_, hi, hs.own⟩
      · rw [List.getElem?_set_ne e] at q; exact ⟨s1, q, o⟩
    obtain ⟨s2, q1', o1'⟩ := back q1 o1
    obtain ⟨t2, q2', o2'⟩ := back q2 o2
    exact h.apart a b s2 t2 pp hab q1' q2' o1' o2' r1
  · have ne : a ≠ p := fun z => by subst z; rw [h0] at e; cases e
    exact stay ne (h.old a o e)
theorem Ext.mutX {G₀ H₀ G H G' H' : Hp} {p : Addr} (e : Ext G₀ H₀ G H) (h0 : H₀ p = none) (m : Mut G H p G' H') : Ext G₀ H₀ G' H' := by
  refine ⟨e.gg.trans m.ext.gg, fun a o h => ?_, m.ext.gh, fun a o h => ?_⟩
  · have ne : a ≠ p := fun z => by subst z; rw [h0] at h; cases h
    exact m.ext.hh a o (by rw [del_ne ne]; exact e.hh a o h)
  · by_cases q : a = p
    · subst q; exact .inr h0
    · rcases m.ext.nw a o h with z | z
      · exact e.nw a o z
      · rw [del_ne q] at z
        exact .inr (free_back e.hh z)

/-! ### attributes -/
section
variable {X : Cx} {W : WX} {ρ : En} {e a b : Expr} {es : List Expr} {d : PyData} {o : Out} {pos : Pos} {P : Post} {rest : List Stmt} {C p : Addr} {fs : List (Str × PyData)} {s : SV}
/-- a slot whose value is the address -/
def RefS (ρ : En) (i : Nat) (p : Addr) : Prop := ∀ H₀ G H σ, Sat H₀ G H σ ρ → σ[i]? = some (some (.ref p))
theorem refS {i : Nat} (hρ : ρ[i]? = some s) (hs : IsIns C p fs s) : RefS ρ i p := fun H₀ G H σ S => (hs.at_ _ _ _ _ (S.slot i _ hρ)).1
theorem refR {i : Nat} (hρ : ρ[i]? = some (.raw (.ref p))) : RefS ρ i p := fun H₀ G H σ S => S.slot i _ hρ
theorem de_fld {i : Nat} {x f : Str} {px : Pos} (hρ : ρ[i]? = some s) (hs : IsIns C p fs s) (c : Cls X.K C) (n : NoAttr X.K C f) (hl : fs.lookup f = some d) (hN : X.N[i]? = some x := by rfl) (hv : Vis X.env.scope x := by first | exact Or.inl rfl | exact Or.inr (Or.inl rfl) | exact Or.inr (Or.inr rfl))
    (hd : (x == ("__debug__" : Str)) = false := by decide) (hcd : (x == ("__classdict__" : Str)) = false := by decide) (hb : attributeBase (.Name x px) f X.env (eval (.Name x px) X.env) = eval (.Name x px) X.env := by rfl) : DE X ρ (.Attribute (.Name x px) f pos) d :=
  de_of (pe_fld (pe_var hN hv hd hcd) hb) fun H₀ G H σ Q S q => by
    obtain ⟨e1, h0, hg, dx, fv, hh, r⟩ := hs.at_ _ _ _ _ (S.slot i _ hρ)
    obtain ⟨v, hv', rv⟩ := r.look hl
    exact ⟨_, e1, p, C, dx, fv, v, rfl, hh, c, n, hv', q.of S.sub rv⟩
/-- x.f = e on an own instance -/
theorem ds_fld (i : Nat) {x f : Str} {px p2 : Pos} (hρ : ρ[i]? = some s) (hs : IsIns C p fs s) (c : Cls X.K C) (n : NoAttr X.K C f) (he : DE X ρ e d) (h : DS X W (ρ.set i (SV.ins C p (putG f d fs))) rest P) (hlen : fs.length < 1000 := by decide) (hN : X.N[i]? = some x := by rfl) (hv : Vis X.env.scope x := by first | exact Or.inl rfl | exact Or.inr (Or.inl rfl) | exact Or.inr (Or.inr rfl))
    (hd : (x == ("__debug__" : Str)) = false := by decide) (hcd : (x == ("__classdict__" : Str)) = false := by decide) (hsw : swapsWith e (some (.Attribute (.Name x px) f p2)) pos.line X.env = pure false := by rfl) :
    DS X W ρ (.Assign [.Attribute (.Name x px) f p2] e pos :: rest) P :=
  ds_cons (ps_fld (pe_var hN hv hd hcd) pe_D hsw) fun H₀ G₀ G H σ D E S p' => he H₀ G H σ _ S fun v G1 H1 e1 r1 => by
    have S1 := S.up e1
    obtain ⟨ev, h0, hg, dx, fv, hh, r⟩ := hs.at_ _ _ _ _ (S1.slot i _ hρ)
    refine ⟨_, ev, p, C, dx, fv, rfl, hh, c, n, by rw [r.length]; exact hlen, ?_⟩
    have m : Mut G1 H1 p G1 (upd H1 p (.ins C dx (putF f v fv))) := by
      refine ⟨⟨.refl _, fun a o g => ?_, fun a o g => ?_, fun a o g => .inl g⟩, hg⟩
      · by_cases q : a = p
        · rw [q, del_at] at g; cases g
        · rw [del_ne q] at g; rw [upd_ne q]; exact g
      · have q : a ≠ p := fun z => by rw [z, hg] at g; cases g
        rw [upd_ne q]; exact S1.sub a o g
    exact h H₀ G₀ G1 _ σ D ((E.step e1).mutX h0 m) (S1.mutX hρ hs m ⟨dx, _, upd_same, r.put r1⟩) p'
end
end DD
namespace DD
open PySem PySem.Spec PyProof.Rows L2

abbrev Flds := List (Str × PyData)
/-! ### what a method does: nothing to its object; something to it; makes another one -/
def spMp (C : Addr) (S : Flds → List PyData → Out → Prop) : Sp := fun vs H Q E => ∃ (p dx : Addr) (fv : List (Str × V)) (fs : Flds) (vs' : List V) (G : Hp) (ds : List PyData) (o : Out), vs = .ref p :: vs' ∧ H p = some (.ins C dx fv) ∧ G p = none ∧ Sub G H ∧ FR G fv fs ∧ RpA G vs' ds ∧ S fs ds o ∧
  match o with
  | .ret d => Res G H d Q
  | .exc x => ∀ c a G' H', Ext G H G' H' → ExcAt G' H' x c a → E c a H'
def spMm (C : Addr) (S : Flds → List PyData → Out → Flds → Prop) : Sp := fun vs H Q E => ∃ (p dx : Addr) (fv : List (Str × V)) (fs : Flds) (vs' : List V) (G : Hp) (ds : List PyData) (o : Out) (fs' : Flds), vs = .ref p :: vs' ∧ H p = some (.ins C dx fv) ∧ G p = none ∧ Sub G H ∧ FR G fv fs ∧ RpA G vs' ds ∧ S fs ds o fs' ∧
  match o with
  | .ret d => ∀ v G' H', Mut G H p G' H' → InsAt C p fs' G' H' → Rp G' v d → Q v H'
  | .exc x => ∀ c a G' H', Mut G H p G' H' → InsAt C p fs' G' H' → ExcAt G' H' x c a → E c a H'
def spMd (C : Addr) (S : Flds → Flds → Prop) : Sp := fun vs H Q E => ∃ (p dx : Addr) (fv : List (Str × V)) (fs : Flds) (G : Hp) (fs' : Flds), vs = [.ref p] ∧ H p = some (.ins C dx fv) ∧ G p = none ∧ Sub G H ∧ FR G fv fs ∧ S fs fs' ∧
  ∀ q G' H', Ext G H G' H' → H q = none → G' q = none → InsAt C q fs' G' H' → Q (.ref q) H'
theorem start_one {N : List Str} {p : Addr} {vs : List V} {ds : List PyData} {G H : Hp} {s : SV} (sb : Sub G (del H p)) (hs : SlotOk (del H p) G H (some (some (.ref p))) s) (r : RpA G vs ds) (hl : vs.length + 1 ≤ N.length) (k : Nat) (hk : k = ds.length + 1) :
    Sat (del H p) G H (L2.start N (.ref p :: vs)) (s :: (ds.map SV.dat ++ List.replicate (N.length - k) SV.un)) := by
  have e1 : L2.start N (.ref p :: vs) = some (.ref p) :: L2.start (List.replicate (N.length - 1) "") vs := by
    unfold L2.start
    rw [List.map_cons, List.length_replicate, List.length_cons, List.cons_append]
    congr 3
    omega
  have hn := r.length
  have T := start_sat (N := List.replicate (N.length - 1) "") sb r (by rw [List.length_replicate]; omega)
  rw [List.length_replicate, show N.length - 1 - ds.length = N.length - k by omega] at T
  have own : ∀ (i : Nat) (t : SV), (ds.map SV.dat ++ List.replicate (N.length - k) SV.un)[i]? = some t → t.isOwn = false := by
    intro i t q
    rcases List.mem_append.mp (List.mem_of_getElem? q) with z | z
    · obtain ⟨d, -, rfl⟩ := List.mem_map.mp z; rfl
    · rw [List.eq_of_mem_replicate z]; rfl
  rw [e1]
  refine ⟨fun a o g => del_sub a o (sb a o g), by rw [List.length_cons, List.length_cons, T.len], fun i s' q => ?_, fun i j s' t pp hij q1 q2 o1 o2 r1 => ?_, del_sub⟩
  · cases i with
    | zero => cases q; exact hs
    | succ i =>
      have q : (ds.map SV.dat ++ List.replicate (N.length - k) SV.un)[i]? = some s' := q
      have x := T.slot i s' q
      have o := own i s' q
      cases s' with
      | un => trivial
      | dat d => exact x
      | raw v => exact x
      | pin v φ m => exact x
      | own es => cases o
      | obj φ m => cases o
  · cases i with
    | zero =>
      cases j with
      | zero => exact absurd rfl hij
      | succ j => rw [own j t q2] at o2; cases o2
    | succ i => rw [own i s' q1] at o1; cases o1
section
variable {P : Program} {w : World} {K : PySem.W.Frag} {mg : Str → Option Value} {base : Heap} {x qual : Str} {st : Stmt} {f : Addr} {fd : FuncData} {N ps : List Str} {k : Nat} {C : Addr}
/-- the end of a method that leaves its object as it is -/
def PostMp (s : SV) (o : Out) : Post := { nx := fun ρ => o = .ret .none ∧ ρ[0]? = some s, rt := fun _ => False, ro := fun d ρ => o = .ret d ∧ ρ[0]? = some s, ex := fun x ρ => o = .exc x ∧ ρ[0]? = some s }
theorem back_pure {G H G' H' : Hp} {σ : L2.St} {ρ : En} {p dx : Addr} {fv : List (Str × V)} {fs : Flds} (hh : H p = some (.ins C dx fv)) (e : Ext G (del H p) G' H') (S : Sat (del H p) G' H' σ ρ) (h0 : ρ[0]? = some (SV.insX C p dx fv fs)) : Ext G H G' H' ∧ G' p = none := by
  obtain ⟨q, o, e1, -, hg, hh', e2, e3, r⟩ := S.slot 0 _ h0
  subst e2 e3
  refine ⟨⟨e.gg, fun a o h => ?_, e.gh, fun a o h => ?_⟩, hg⟩
  · by_cases z : a = q
    · rw [z] at h ⊢; rw [hh] at h; cases h; exact hh'
    · exact e.hh a o (by rw [del_ne z]; exact h)
  · have z : a ≠ q := fun y => by rw [y, hg] at h; cases h
    rcases e.nw a o h with y | y
    · exact .inl y
    · exact .inr (by rwa [del_ne z] at y)
theorem fnMp_ok {S : Flds → List PyData → Out → Prop} (F : Fun K x qual st f fd) (SC : FnScope N ps (defScope st))
    (hlen : ∀ fs ds o, S fs ds o → ds.length + 1 = ps.length) (hps : ps.length ≤ N.length)
    (hbody : ∀ (cdv : Value) (A : Around) (outer : List Env) (s : Shared) (H : Hp) (E : XK) (p dx : Addr) (fv : List (Str × V)) (fs : Flds) (ds : List PyData) (o : Out), Room k (A.deeper (envOfC qual (defScope st) s.heap.objs.size f cdv)) → S fs ds o →
      Takes (cxOf (L2.CX P w) P w K mg base N qual (defScope st) f cdv A outer s H E) (fun c a _ H => E c a H) →
      DS (cxOf (L2.CX P w) P w K mg base N qual (defScope st) f cdv A outer s H E) (fun c a _ H => E c a H) (SV.insX C p dx fv fs :: (ds.map SV.dat ++ List.replicate (N.length - ps.length) SV.un)) (defBody st) (PostMp (SV.insX C p dx fv fs) o)) : FnOk P w K mg base (L2.CX P w) (k + 1) f fd ps (spMp C S) := by
  refine F.okX SC (fun vs H Q E ⟨p, dx, fv, fs, vs', G, ds, o, e, _, _, _, _, r, hS, _⟩ => by rw [e, List.length_cons, r.length]; exact hlen fs ds o hS) fun cdv A outer s H vs Q E hr ⟨p, dx, fv, fs, vs', G, ds, o, e, hh, hg, sb, fr, r, hS, q⟩ => ?_
  subst e
  refine ⟨_, pss_S, ?_⟩
  have hl := hlen fs ds o hS
  have hl2 := r.length
  have tk : Takes (cxOf (L2.CX P w) P w K mg base N qual (defScope st) f cdv A outer s H E) (fun c a _ H => E c a H) := takes_of rfl rfl rfl rfl
  have sb' : Sub G (del H p) := fun a o g => by
    have z : a ≠ p := fun y => by rw [y, hg] at g; cases g
    rw [del_ne z]; exact sb a o g
  have S0 := start_one (N := N) (s := SV.insX C p dx fv fs) sb' ⟨p, _, rfl, del_at, hg, hh, rfl, rfl, fr⟩ r (by omega) ps.length hl.symm
  have E0 : Ext G (del H p) G H := ⟨.refl _, del_sub, sb, fun a o h => .inl h⟩
  refine hbody cdv A outer s H E p dx fv fs ds o hr hS tk (del H p) G G H _ _ E0 S0 ⟨fun ρ σ G' H' ⟨z, z0⟩ e' S' => ?_, fun d v G' H' z => z.elim, fun ρ σ G' H' z => z.elim, fun ρ σ G' H' z => z.elim, fun x ρ σ G' H' c a ⟨z, z0⟩ e' S' ea => ?_, fun d ρ v σ G' H' ⟨z, z0⟩ e' S' rv => ?_, fun q ρ σ G' H' z => z.elim⟩
  · subst z
    exact q _ G' H' (back_pure hh e' S' z0).1 .non
  · subst z
    exact q c a G' H' (back_pure hh e' S' z0).1 ea
  · subst z
    exact q _ G' H' (back_pure hh e' S' z0).1 rv
/-- the end of a method, or a def, that changes its first object -/
def PostMm (s : SV) (o : Out) : Post := PostMp s o
theorem back_mut {G H G' H' : Hp} {σ : L2.St} {ρ : En} {p : Addr} {fs : Flds} (e : Ext G (del H p) G' H') (S : Sat (del H p) G' H' σ ρ) (h0 : ρ[0]? = some (SV.ins C p fs)) : Mut G H p G' H' ∧ InsAt C p fs G' H' := by
  obtain ⟨e1, -, hg, h⟩ := isIns.at_ _ _ _ _ (S.slot 0 _ h0)
  exact ⟨⟨e, hg⟩, h⟩
theorem fnMm_ok {S : Flds → List PyData → Out → Flds → Prop} (F : Fun K x qual st f fd) (SC : FnScope N ps (defScope st))
    (hlen : ∀ fs ds o fs', S fs ds o fs' → ds.length + 1 = ps.length) (hps : ps.length ≤ N.length)
    (hbody : ∀ (cdv : Value) (A : Around) (outer : List Env) (s : Shared) (H : Hp) (E : XK) (p : Addr) (fs : Flds) (ds : List PyData) (o : Out) (fs' : Flds), Room k (A.deeper (envOfC qual (defScope st) s.heap.objs.size f cdv)) → S fs ds o fs' →
      Takes (cxOf (L2.CX P w) P w K mg base N qual (defScope st) f cdv A outer s H E) (fun c a _ H => E c a H) →
      DS (cxOf (L2.CX P w) P w K mg base N qual (defScope st) f cdv A outer s H E) (fun c a _ H => E c a H) (SV.ins C p fs :: (ds.map SV.dat ++ List.replicate (N.length - ps.length) SV.un)) (defBody st) (PostMm (SV.ins C p fs') o)) : FnOk P w K mg base (L2.CX P w) (k + 1) f fd ps (spMm C S) := by
  refine F.okX SC (fun vs H Q E ⟨p, dx, fv, fs, vs', G, ds, o, fs', e, _, _, _, _, r, hS, _⟩ => by rw [e, List.length_cons, r.length]; exact hlen fs ds o fs' hS) fun cdv A outer s H vs Q E hr ⟨p, dx, fv, fs, vs', G, ds, o, fs', e, hh, hg, sb, fr, r, hS, q⟩ => ?_
  subst e
  refine ⟨_, pss_S, ?_⟩
  have hl := hlen fs ds o fs' hS
  have hl2 := r.length
  have tk : Takes (cxOf (L2.CX P w) P w K mg base N qual (defScope st) f cdv A outer s H E) (fun c a _ H => E c a H) := takes_of rfl rfl rfl rfl
  have sb' : Sub G (del H p) := fun a o g => by
    have z : a ≠ p := fun y => by rw [y, hg] at g; cases g
    rw [del_ne z]; exact sb a o g
  have S0 := start_one (N := N) (s := SV.ins C p fs) sb' ⟨p, _, rfl, del_at, hg, hh, rfl, dx, fv, rfl, fr⟩ r (by omega) ps.length hl.symm
  have E0 : Ext G (del H p) G H := ⟨.refl _, del_sub, sb, fun a o h => .inl h⟩
  refine hbody cdv A outer s H E p fs ds o fs' hr hS tk (del H p) G G H _ _ E0 S0 ⟨fun ρ σ G' H' ⟨z, z0⟩ e' S' => ?_, fun d v G' H' z => z.elim, fun ρ σ G' H' z => z.elim, fun ρ σ G' H' z => z.elim, fun x ρ σ G' H' c a ⟨z, z0⟩ e' S' ea => ?_, fun d ρ v σ G' H' ⟨z, z0⟩ e' S' rv => ?_, fun q ρ σ G' H' z => z.elim⟩
  · subst z
    exact q _ G' H' (back_mut e' S' z0).1 (back_mut e' S' z0).2 .non
  · subst z
    exact q c a G' H' (back_mut e' S' z0).1 (back_mut e' S' z0).2 ea
  · subst z
    exact q _ G' H' (back_mut e' S' z0).1 (back_mut e' S' z0).2 rv
/-- the end of a method that makes another object -/
def PostMd (C p dx : Addr) (fv : List (Str × V)) (fs fs' : Flds) : Post := { nx := fun _ => False, rt := fun _ => False, rq := fun q ρ => ρ[0]? = some (SV.insX C p dx fv fs) ∧ ∃ j, j ≠ 0 ∧ ρ[j]? = some (SV.ins C q fs') }
theorem fnMd_ok {S : Flds → Flds → Prop} (F : Fun K x qual st f fd) (SC : FnScope N ps (defScope st)) (hl : ps.length = 1) (hps : ps.length ≤ N.length)
    (hbody : ∀ (cdv : Value) (A : Around) (outer : List Env) (s : Shared) (H : Hp) (E : XK) (p dx : Addr) (fv : List (Str × V)) (fs fs' : Flds), Room k (A.deeper (envOfC qual (defScope st) s.heap.objs.size f cdv)) → S fs fs' →
      Takes (cxOf (L2.CX P w) P w K mg base N qual (defScope st) f cdv A outer s H E) (fun c a _ H => E c a H) →
      DS (cxOf (L2.CX P w) P w K mg base N qual (defScope st) f cdv A outer s H E) (fun c a _ H => E c a H) (SV.insX C p dx fv fs :: List.replicate (N.length - ps.length) SV.un) (defBody st) (PostMd C p dx fv fs fs')) : FnOk P w K mg base (L2.CX P w) (k + 1) f fd ps (spMd C S) := by
  refine F.okX SC (fun vs H Q E ⟨p, dx, fv, fs, G, fs', e, _⟩ => by rw [e, hl]; rfl) fun cdv A outer s H vs Q E hr ⟨p, dx, fv, fs, G, fs', e, hh, hg, sb, fr, hS, q⟩ => ?_
  subst e
  refine ⟨_, pss_S, ?_⟩
  have tk : Takes (cxOf (L2.CX P w) P w K mg base N qual (defScope st) f cdv A outer s H E) (fun c a _ H => E c a H) := takes_of rfl rfl rfl rfl
  have sb' : Sub G (del H p) := fun a o g => by
    have z : a ≠ p := fun y => by rw [y, hg] at g; cases g
    rw [del_ne z]; exact sb a o g
  have S0 := start_one (N := N) (s := SV.insX C p dx fv fs) sb' ⟨p, _, rfl, del_at, hg, hh, rfl, rfl, fr⟩ .nil (by show 0 + 1 ≤ _; omega) ps.length (by rw [hl]; rfl)
  have E0 : Ext G (del H p) G H := ⟨.refl _, del_sub, sb, fun a o h => .inl h⟩
  refine hbody cdv A outer s H E p dx fv fs fs' hr hS tk (del H p) G G H _ _ E0 S0 ⟨fun ρ σ G' H' z => z.elim, fun d v G' H' z => z.elim, fun ρ σ G' H' z => z.elim, fun ρ σ G' H' z => z.elim, fun x ρ σ G' H' c a z => z.elim, fun d ρ v σ G' H' z => z.elim, fun q' ρ σ G' H' ⟨z0, j, j0, zj⟩ e' S' => ?_⟩
  obtain ⟨e1, h0, hg', h'⟩ := isIns.at_ _ _ _ _ (S'.slot j _ zj)
  obtain ⟨y1, -, -, -⟩ := isInsX.at_ _ _ _ _ (S'.slot 0 _ z0)
  have ne : q' ≠ p := fun y => S'.apart 0 j _ _ p (Ne.symm j0) z0 zj rfl rfl y1 (by rw [e1, y])
  rw [del_ne ne] at h0
  exact q q' G' H' (back_pure hh e' S' z0).1 h0 hg' h'
end
end DD
namespace DD
open PySem PySem.Spec PyProof.Rows L2

/-! ### o.m(..) that may raise -/
def tMethX (C : Addr) (m : Str) (sp : Sp) (E : L2.St → XK) (ta : TE) (t : TA) : TE := fun σ H Q => ta σ H fun x H1 => ∃ a dx fs, x = .ref a ∧ H1 a = some (.ins C dx fs) ∧ fs.lookup m = none ∧ t σ H1 fun vs H2 => sp (.ref a :: vs) H2 Q (E σ)
section
variable {X : Cx} {CX : CXT} {k : Nat} {f C : Addr} {fd : FuncData} {ps : List Str} {sp : Sp} {E : L2.St → XK} {x m : Str} {p pos apos : Pos} {e o : Expr} {es : List Expr} {ta : TE} {t : TA}
theorem pe_methX {pl : Sem Bool} (he : PE X o ta) (c : Cls X.K C) (hm : Meth X.K C m f) (F : FnOk X.prog X.w X.K X.mg X.base CX k f fd ps sp) (hr : Room k X.A) (hb : Binds X.K fd ps []) (hx : ∀ σ, PassesAt CX X σ (E σ)) (ha : PA X (e :: es) t)
    (hst : starEach (e :: es) X.env = (false, eval e X.env) :: starEach es X.env := by rfl) (hpl : (backTo pos (starEach es X.env)).any (·.1) = false := by rfl)
    (ht : eval (.Call (.Attribute o m apos) (e :: es) [] pos) X.env = (do
      let ov ← eval o X.env
      standAt apos.atName
      let (f, first) ← holding [ov] (getMethod ov m pl)
      callWith pos f first (backTo pos (starEach (e :: es) X.env)) (backToKw pos (keywordEach [] X.env))) := by rfl) :
    PE X (.Call (.Attribute o m apos) (e :: es) [] pos) (tMethX C m sp E ta t) := by
  refine ⟨fun pins s σ H Q I h => ?_⟩
  refine PySem.W.methodCall_KW (pl := pl) (thn (he.run pins s σ H _ I h) fun u s1 ⟨x, H1, I1, rx, a, dx, fs, ex, ea, l, q⟩ => ?_) ht
  subst ex
  obtain rfl : u = Value.ref a := rx
  refine getmeth_ok I1 ea c hm l ?_
  refine PySem.W.callWith_K (first := [.ref a]) (h₀ := X.base) I.ok.mod.kin hm.kp (thn (ha.run pos pins s1 σ H1 _ I1 q) fun us s2 ⟨vs, H2, I2, r, q2⟩ => ⟨I2.kIn, ?_⟩) hst hpl
  exact run_fnS (us := .ref a :: us) (vs := .ref a :: vs) F hr hb (hx σ) I2 (.cons rfl r) q2
theorem pe_methX0 {pl : Sem Bool} (he : PE X o ta) (c : Cls X.K C) (hm : Meth X.K C m f) (F : FnOk X.prog X.w X.K X.mg X.base CX k f fd ps sp) (hr : Room k X.A) (hb : Binds X.K fd ps []) (hx : ∀ σ, PassesAt CX X σ (E σ))
    (ht : eval (.Call (.Attribute o m apos) [] [] pos) X.env = (do
      let ov ← eval o X.env
      standAt apos.atName
      let (f, first) ← holding [ov] (getMethod ov m pl)
      callWith pos f first (backTo pos (starEach [] X.env)) (backToKw pos (keywordEach [] X.env))) := by rfl) :
    PE X (.Call (.Attribute o m apos) [] [] pos) (tMethX C m sp E ta fun σ H Q => Q [] H) := by
  refine ⟨fun pins s σ H Q I h => ?_⟩
  refine PySem.W.methodCall_KW (pl := pl) (thn (he.run pins s σ H _ I h) fun u s1 ⟨x, H1, I1, rx, a, dx, fs, ex, ea, l, q⟩ => ?_) ht
  subst ex
  obtain rfl : u = Value.ref a := rx
  refine getmeth_ok I1 ea c hm l ?_
  exact PySem.W.callWith_K0 (first := [.ref a]) I1.kIn hm.kp (run_fnS (us := [.ref a]) (vs := [.ref a]) F hr hb (hx σ) I1 (.cons rfl .nil) q)
end

/-! ### methods and defs, by name and level -/
def MeIn (P : Program) (w : World) (K : PySem.W.Frag) (mg : Str → Option Value) (base : Heap) (k : Nat) (C : Addr) (m : Str) (sp : Sp) : Prop :=
  ∃ (f : Addr) (fd : FuncData) (ps : List Str), FnOk P w K mg base (L2.CX P w) k f fd ps sp ∧ Meth K C m f ∧ Binds K fd ps []
def FnMu (P : Program) (w : World) (K : PySem.W.Frag) (mg : Str → Option Value) (base : Heap) (k : Nat) (name : Str) (C : Addr) (S : Flds → List PyData → Out → Flds → Prop) : Prop :=
  ∃ (f : Addr) (fd : FuncData) (ps : List Str), FnOk P w K mg base (L2.CX P w) k f fd ps (spMm C S) ∧ mg name = some (.ref f) ∧ PySem.W.keepIn K (.ref f) = true ∧ Binds K fd ps []
def MkIn (P : Program) (w : World) (K : PySem.W.Frag) (mg : Str → Option Value) (base : Heap) (k : Nat) (C : Addr) (S : Flds → List PyData → Out → Flds → Prop) : Prop :=
  ∃ (f : Addr) (fd : FuncData) (ps : List Str), FnOk P w K mg base (L2.CX P w) k f fd ps (spMm C S) ∧ Mk K C f ∧ Binds K fd ps []

/-- what is wanted of a call that changes the slots to ρ' -/
def OutU (W : WX) (σ : L2.St) (G₀ H₀ : Hp) (ρ' : En) (o : Out) (Q : VK) : Prop := match o with
  | .ret d => ∀ v G' H', Ext G₀ H₀ G' H' → Sat H₀ G' H' σ ρ' → Rp G' v d → Q v H'
  | .exc x => ∀ c a G' H', Ext G₀ H₀ G' H' → Sat H₀ G' H' σ ρ' → ExcAt G' H' x c a → W c a σ H'
structure DU (X : Cx) (W : WX) (ρ : En) (e : Expr) (o : Out) (ρ' : En) : Prop where
  run : ∀ H₀ G₀ G H σ Q, Ext G₀ H₀ G H → Sat H₀ G H σ ρ → OutU W σ G₀ H₀ ρ' o Q → tD X e σ H Q
structure DTU (X : Cx) (ρ : En) (e : Expr) (k : Bool) (ρ' : En) : Prop where
  run : ∀ H₀ G₀ G H σ Q, Ext G₀ H₀ G H → Sat H₀ G H σ ρ → (∀ G' H', Ext G₀ H₀ G' H' → Sat H₀ G' H' σ ρ' → Q k H') → tT X e σ H Q
structure DWU (X : Cx) (ρ : En) (e : Expr) (k : Bool) (ρ' : En) : Prop where
  run : ∀ H₀ G₀ G H σ Q, Ext G₀ H₀ G H → Sat H₀ G H σ ρ → (∀ G' H', Ext G₀ H₀ G' H' → Sat H₀ G' H' σ ρ' → Q k H') → tW X e σ H Q
/-- a new instance -/
structure DNi (X : Cx) (ρ : En) (e : Expr) (C : Addr) (fs : Flds) : Prop where
  run : ∀ H₀ G H σ Q, Sat H₀ G H σ ρ → (∀ p G' H', Ext G H G' H' → H p = none → G' p = none → InsAt C p fs G' H' → Q (.ref p) H') → tD X e σ H Q
section
variable {X : Cx} {W : WX} {ρ ρ' : En} {e a b c : Expr} {es : List Expr} {d d1 d2 : PyData} {ds : List PyData} {o : Out} {pos apos px : Pos} {P : Post} {rest body orelse : List Stmt} {C p : Addr} {fs fs' : Flds} {s : SV} {k i j : Nat} {x m name : Str}
theorem du_of (h : DX X W ρ e o) : DU X W ρ e o ρ := ⟨fun H₀ G₀ G H σ Q E S q => h H₀ G H σ Q S (by
  cases o with
  | ret d => exact fun v G' H' e' r => q v G' H' (E.step e') (S.up e') r
  | exc x => exact fun c a G' H' e' r => q c a G' H' (E.step e') (S.up e') r)⟩
theorem du_de (h : DE X ρ e d) : DU X W ρ e (.ret d) ρ := du_of (dx_ret h)
theorem dtu_of {k : Bool} (h : DT X ρ e k) : DTU X ρ e k ρ := ⟨fun H₀ G₀ G H σ Q E S q => h H₀ G H σ Q S fun G' H' e' => q G' H' (E.step e') (S.up e')⟩
/-! calls of methods that leave their object as it is -/
theorem dx_meth {S : Flds → List PyData → Out → Prop} {pl : Sem Bool} (F : MeIn X.prog X.w X.K X.mg X.base k C m (spMp C S)) (hr : Room k X.A) (tk : Takes X W) (c : Cls X.K C) (hrec : RefS ρ i p) (hρ : ρ[j]? = some s) (hs : IsIns C p fs s) (hm : fs.lookup m = none) (ha : DA X ρ (e :: es) ds) (hS : S fs ds o)
    (hN : X.N[i]? = some x := by rfl) (hv : Vis X.env.scope x := by first | exact Or.inl rfl | exact Or.inr (Or.inl rfl) | exact Or.inr (Or.inr rfl))
    (hd : (x == ("__debug__" : Str)) = false := by decide) (hcd : (x == ("__classdict__" : Str)) = false := by decide)
    (hst : starEach (e :: es) X.env = (false, eval e X.env) :: starEach es X.env := by rfl) (hpl : (backTo pos (starEach es X.env)).any (·.1) = false := by rfl)
    (ht : eval (.Call (.Attribute (.Name x px) m apos) (e :: es) [] pos) X.env = (do
      let ov ← eval (.Name x px) X.env
      standAt apos.atName
      let (f, first) ← holding [ov] (getMethod ov m pl)
      callWith pos f first (backTo pos (starEach (e :: es) X.env)) (backToKw pos (keywordEach [] X.env))) := by rfl) :
    DX X W ρ (.Call (.Attribute (.Name x px) m apos) (e :: es) [] pos) o := by
  obtain ⟨f, fd, ps, F, hme, hb⟩ := F
  refine dx_of (pe_methX (pl := pl) (pe_var hN hv hd hcd) c hme F hr hb (fun σ => passAt tk σ) pa_A hst hpl ht) fun H₀ G H σ Q St q => ?_
  obtain ⟨-, -, -, dx, fv, hh, fr⟩ := hs.at_ _ _ _ _ (St.slot j _ hρ)
  refine ⟨_, hrec _ _ _ _ St, p, dx, fv, rfl, hh, fr.none hm, ha H₀ G H σ _ St fun vs G1 H1 e1 r1 => ?_⟩
  obtain ⟨-, -, hg1, dx1, fv1, hh1, fr1⟩ := hs.at_ _ _ _ _ ((St.up e1).slot j _ hρ)
  refine ⟨p, dx1, fv1, fs, vs, G1, ds, o, rfl, hh1, hg1, e1.gh, fr1, r1, hS, ?_⟩
  cases o with
  | ret d => exact Res.back q e1
  | exc x => exact fun c a G' H' e2 x2 => q c a G' H' (e1.trans e2) x2
theorem dx_meth0 {S : Flds → List PyData → Out → Prop} {pl : Sem Bool} (F : MeIn X.prog X.w X.K X.mg X.base k C m (spMp C S)) (hr : Room k X.A) (tk : Takes X W) (c : Cls X.K C) (hrec : RefS ρ i p) (hρ : ρ[j]? = some s) (hs : IsIns C p fs s) (hm : fs.lookup m = none) (hS : S fs [] o)
    (hN : X.N[i]? = some x := by rfl) (hv : Vis X.env.scope x := by first | exact Or.inl rfl | exact Or.inr (Or.inl rfl) | exact Or.inr (Or.inr rfl))
    (hd : (x == ("__debug__" : Str)) = false := by decide) (hcd : (x == ("__classdict__" : Str)) = false := by decide)
    (ht : eval (.Call (.Attribute (.Name x px) m apos) [] [] pos) X.env = (do
      let ov ← eval (.Name x px) X.env
      standAt apos.atName
      let (f, first) ← holding [ov] (getMethod ov m pl)
      callWith pos f first (backTo pos (starEach [] X.env)) (backToKw pos (keywordEach [] X.env))) := by rfl) :
    DX X W ρ (.Call (.Attribute (.Name x px) m apos) [] [] pos) o := by
  obtain ⟨f, fd, ps, F, hme, hb⟩ := F
  refine dx_of (pe_methX0 (pl := pl) (pe_var hN hv hd hcd) c hme F hr hb (fun σ => passAt tk σ) ht) fun H₀ G H σ Q St q => ?_
  obtain ⟨-, -, hg, dx, fv, hh, fr⟩ := hs.at_ _ _ _ _ (St.slot j _ hρ)
  refine ⟨_, hrec _ _ _ _ St, p, dx, fv, rfl, hh, fr.none hm, p, dx, fv, fs, [], G, [], o, rfl, hh, hg, St.sub, fr, .nil, hS, ?_⟩
  cases o with
  | ret d => exact q
  | exc x => exact fun c a G' H' e2 x2 => q c a G' H' e2 x2
theorem takesL : Takes X W → True := fun _ => trivial
/-- .. that never raises: data -/
theorem de_meth0 {S : Flds → List PyData → Out → Prop} {pl : Sem Bool} (F : MeIn X.prog X.w X.K X.mg X.base k C m (spMp C S)) (hr : Room k X.A) (c : Cls X.K C) (hrec : RefS ρ i p) (hρ : ρ[j]? = some s) (hs : IsIns C p fs s) (hm : fs.lookup m = none) (hS : S fs [] (.ret d))
    (hN : X.N[i]? = some x := by rfl) (hv : Vis X.env.scope x := by first | exact Or.inl rfl | exact Or.inr (Or.inl rfl) | exact Or.inr (Or.inr rfl))
    (hd : (x == ("__debug__" : Str)) = false := by decide) (hcd : (x == ("__classdict__" : Str)) = false := by decide)
    (ht : eval (.Call (.Attribute (.Name x px) m apos) [] [] pos) X.env = (do
      let ov ← eval (.Name x px) X.env
      standAt apos.atName
      let (f, first) ← holding [ov] (getMethod ov m pl)
      callWith pos f first (backTo pos (starEach [] X.env)) (backToKw pos (keywordEach [] X.env))) := by rfl) :
    DE X ρ (.Call (.Attribute (.Name x px) m apos) [] [] pos) d := by
  obtain ⟨f, fd, ps, F, hme, hb⟩ := F
  refine de_of (pe_meth0 (pl := pl) (pe_var hN hv hd hcd) c hme F hr hb .nil passL ht) fun H₀ G H σ Q St q => ?_
  obtain ⟨-, -, hg, dx, fv, hh, fr⟩ := hs.at_ _ _ _ _ (St.slot j _ hρ)
  exact ⟨_, hrec _ _ _ _ St, p, dx, fv, rfl, hh, fr.none hm, p, dx, fv, fs, [], G, [], _, rfl, hh, hg, St.sub, fr, .nil, hS, q⟩
/-! calls that change the object at slot j -/
theorem du_meth {S : Flds → List PyData → Out → Flds → Prop} {pl : Sem Bool} (F : MeIn X.prog X.w X.K X.mg X.base k C m (spMm C S)) (hr : Room k X.A) (tk : Takes X W) (c : Cls X.K C) (hrec : RefS ρ i p) (hρ : ρ[j]? = some s) (hs : IsIns C p fs s) (hm : fs.lookup m = none) (ha : DA X ρ (e :: es) ds) (hS : S fs ds o fs')
    (hN : X.N[i]? = some x := by rfl) (hv : Vis X.env.scope x := by first | exact Or.inl rfl | exact Or.inr (Or.inl rfl) | exact Or.inr (Or.inr rfl))
    (hd : (x == ("__debug__" : Str)) = false := by decide) (hcd : (x == ("__classdict__" : Str)) = false := by decide)
    (hst : starEach (e :: es) X.env = (false, eval e X.env) :: starEach es X.env := by rfl) (hpl : (backTo pos (starEach es X.env)).any (·.1) = false := by rfl)
    (ht : eval (.Call (.Attribute (.Name x px) m apos) (e :: es) [] pos) X.env = (do
      let ov ← eval (.Name x px) X.env
      standAt apos.atName
      let (f, first) ← holding [ov] (getMethod ov m pl)
      callWith pos f first (backTo pos (starEach (e :: es) X.env)) (backToKw pos (keywordEach [] X.env))) := by rfl) :
    DU X W ρ (.Call (.Attribute (.Name x px) m apos) (e :: es) [] pos) o (ρ.set j (SV.ins C p fs')) := by
  obtain ⟨f, fd, ps, F, hme, hb⟩ := F
  refine ⟨fun H₀ G₀ G H σ Q E St q pins s' I => (pe_methX (pl := pl) (pe_var hN hv hd hcd) c hme F hr hb (fun σ => passAt tk σ) pa_A hst hpl ht).run pins s' σ H Q I ?_⟩
  obtain ⟨-, -, -, dx, fv, hh, fr⟩ := hs.at_ _ _ _ _ (St.slot j _ hρ)
  refine ⟨_, hrec _ _ _ _ St, p, dx, fv, rfl, hh, fr.none hm, ha H₀ G H σ _ St fun vs G1 H1 e1 r1 => ?_⟩
  have S1 := St.up e1
  obtain ⟨-, h0, hg1, dx1, fv1, hh1, fr1⟩ := hs.at_ _ _ _ _ (S1.slot j _ hρ)
  refine ⟨p, dx1, fv1, fs, vs, G1, ds, o, fs', rfl, hh1, hg1, e1.gh, fr1, r1, hS, ?_⟩
  cases o with
  | ret d => exact fun v G' H' mu at' r => q v G' H' ((E.step e1).mutX h0 mu) (S1.mutX hρ hs mu at') r
  | exc x => exact fun c a G' H' mu at' r => q c a G' H' ((E.step e1).mutX h0 mu) (S1.mutX hρ hs mu at') r
theorem du_meth0 {S : Flds → List PyData → Out → Flds → Prop} {pl : Sem Bool} (F : MeIn X.prog X.w X.K X.mg X.base k C m (spMm C S)) (hr : Room k X.A) (tk : Takes X W) (c : Cls X.K C) (hrec : RefS ρ i p) (hρ : ρ[j]? = some s) (hs : IsIns C p fs s) (hm : fs.lookup m = none) (hS : S fs [] o fs')
    (hN : X.N[i]? = some x := by rfl) (hv : Vis X.env.scope x := by first | exact Or.inl rfl | exact Or.inr (Or.inl rfl) | exact Or.inr (Or.inr rfl))
    (hd : (x == ("__debug__" : Str)) = false := by decide) (hcd : (x == ("__classdict__" : Str)) = false := by decide)
    (ht : eval (.Call (.Attribute (.Name x px) m apos) [] [] pos) X.env = (do
      let ov ← eval (.Name x px) X.env
      standAt apos.atName
      let (f, first) ← holding [ov] (getMethod ov m pl)
      callWith pos f first (backTo pos (starEach [] X.env)) (backToKw pos (keywordEach [] X.env))) := by rfl) :
    DU X W ρ (.Call (.Attribute (.Name x px) m apos) [] [] pos) o (ρ.set j (SV.ins C p fs')) := by
  obtain ⟨f, fd, ps, F, hme, hb⟩ := F
  refine ⟨fun H₀ G₀ G H σ Q E St q pins s' I => (pe_methX0 (pl := pl) (pe_var hN hv hd hcd) c hme F hr hb (fun σ => passAt tk σ) ht).run pins s' σ H Q I ?_⟩
  obtain ⟨-, h0, hg, dx, fv, hh, fr⟩ := hs.at_ _ _ _ _ (St.slot j _ hρ)
  refine ⟨_, hrec _ _ _ _ St, p, dx, fv, rfl, hh, fr.none hm, p, dx, fv, fs, [], G, [], o, fs', rfl, hh, hg, St.sub, fr, .nil, hS, ?_⟩
  cases o with
  | ret d => exact fun v G' H' mu at' r => q v G' H' (E.mutX h0 mu) (St.mutX hρ hs mu at') r
  | exc x => exact fun c a G' H' mu at' r => q c a G' H' (E.mutX h0 mu) (St.mutX hρ hs mu at') r
/-- f(x, ..) with the object at slot j -/
theorem du_fn {S : Flds → List PyData → Out → Flds → Prop} {pn : Pos} (F : FnMu X.prog X.w X.K X.mg X.base k name C S) (hr : Room k X.A) (tk : Takes X W) (hrec : RefS ρ i p) (hρ : ρ[j]? = some s) (hs : IsIns C p fs s) (ha : DA X ρ es ds) (hS : S fs ds o fs')
    (hN : X.N[i]? = some x := by rfl) (hv : Vis X.env.scope x := by first | exact Or.inl rfl | exact Or.inr (Or.inl rfl) | exact Or.inr (Or.inr rfl))
    (hd : (x == ("__debug__" : Str)) = false := by decide) (hcd : (x == ("__classdict__" : Str)) = false := by decide) (hg : Gl X name := by rfl) (hdb : (name == ("__debug__" : Str)) = false := by decide)
    (he : starEach (.Name x px :: es) X.env = (false, eval (.Name x px) X.env) :: starEach es X.env := by rfl) (hpl : (backTo pos (starEach es X.env)).any (·.1) = false := by rfl) :
    DU X W ρ (.Call (.Name name pn) (.Name x px :: es) [] pos) o (ρ.set j (SV.ins C p fs')) := by
  obtain ⟨f, fd, ps, F, hme, hk, hb⟩ := F
  refine ⟨fun H₀ G₀ G H σ Q E St q pins s' I => (pe_callS F hr hg hme hk hb (fun σ => passAt tk σ) (pa_cons (pe_var hN hv hd hcd) pa_A he) hdb he hpl).run pins s' σ H Q I ?_⟩
  refine ⟨_, hrec _ _ _ _ St, ha H₀ G H σ _ St fun vs G1 H1 e1 r1 => ?_⟩
  have S1 := St.up e1
  obtain ⟨-, h0, hg1, dx1, fv1, hh1, fr1⟩ := hs.at_ _ _ _ _ (S1.slot j _ hρ)
  refine ⟨p, dx1, fv1, fs, vs, G1, ds, o, fs', rfl, hh1, hg1, e1.gh, fr1, r1, hS, ?_⟩
  cases o with
  | ret d => exact fun v G' H' mu at' r => q v G' H' ((E.step e1).mutX h0 mu) (S1.mutX hρ hs mu at') r
  | exc x => exact fun c a G' H' mu at' r => q c a G' H' ((E.step e1).mutX h0 mu) (S1.mutX hρ hs mu at') r
/-! new instances -/
theorem dn_make {S : Flds → List PyData → Out → Flds → Prop} {pn : Pos} (F : MkIn X.prog X.w X.K X.mg X.base k C S) (hr : Room (k + 1) X.A) (hm : X.mg name = some (.ref C)) (ha : DA X ρ (e :: es) ds) (hS : S [] ds (.ret .none) fs') (hg : Gl X name := by rfl) (hdb : (name == ("__debug__" : Str)) = false := by decide)
    (he : starEach (e :: es) X.env = (false, eval e X.env) :: starEach es X.env := by rfl) (hpl : (backTo pos (starEach es X.env)).any (·.1) = false := by rfl) : DNi X ρ (.Call (.Name name pn) (e :: es) [] pos) C fs' := by
  obtain ⟨f, fd, ps, F, mk, hb⟩ := F
  refine ⟨fun H₀ G H σ Q St q pins s' I => (pe_make mk F hr hg hm hb .nil passL pa_A hdb he hpl).run pins s' σ H Q I ?_⟩
  refine ha H₀ G H σ _ St fun vs G1 H1 e1 r1 => ?_
  intro y dy ny ndy ne
  have gy : G1 y = none := free_back e1.gh ny
  have gdy : G1 dy = none := free_back e1.gh ndy
  have sub : Sub G1 (upd (upd H1 dy (.own y)) y (.ins C dy [])) := fun a u h => by
    rw [upd_ne (fun z => by rw [z, gy] at h; cases h), upd_ne (fun z => by rw [z, gdy] at h; cases h)]
    exact e1.gh a u h
  refine ⟨y, dy, [], [], vs, G1, ds, .ret .none, fs', by rw [List.append_nil], upd_same, gy, sub, .nil, r1, hS, fun v G' H' mu at' r => ?_⟩
  cases r
  refine ⟨rfl, q y G' H' (e1.trans ⟨mu.ext.gg, fun a u h => ?_, mu.ext.gh, fun a u h => ?_⟩) (free_back e1.hh ny) mu.out at'⟩
  · have n1 : a ≠ y := fun z => by rw [z, ny] at h; cases h
    have n2 : a ≠ dy := fun z => by rw [z, ndy] at h; cases h
    exact mu.ext.hh a u (by rw [del_ne n1, upd_ne n1, upd_ne n2]; exact h)
  · rcases mu.ext.nw a u h with z | z
    · exact .inl z
    · have n1 : a ≠ y := fun z => by have := mu.out; rw [z, this] at h; cases h
      rw [del_ne n1, upd_ne n1] at z
      by_cases n2 : a = dy
      · rw [n2]; exact .inr ndy
      · rw [upd_ne n2] at z; exact .inr z
theorem dn_meth {S : Flds → Flds → Prop} {pl : Sem Bool} (F : MeIn X.prog X.w X.K X.mg X.base k C m (spMd C S)) (hr : Room k X.A) (c : Cls X.K C) (hrec : RefS ρ i p) (hρ : ρ[j]? = some s) (hs : IsIns C p fs s) (hm : fs.lookup m = none) (hS : S fs fs')
    (hN : X.N[i]? = some x := by rfl) (hv : Vis X.env.scope x := by first | exact Or.inl rfl | exact Or.inr (Or.inl rfl) | exact Or.inr (Or.inr rfl))
    (hd : (x == ("__debug__" : Str)) = false := by decide) (hcd : (x == ("__classdict__" : Str)) = false := by decide)
    (ht : eval (.Call (.Attribute (.Name x px) m apos) [] [] pos) X.env = (do
      let ov ← eval (.Name x px) X.env
      standAt apos.atName
      let (f, first) ← holding [ov] (getMethod ov m pl)
      callWith pos f first (backTo pos (starEach [] X.env)) (backToKw pos (keywordEach [] X.env))) := by rfl) :
    DNi X ρ (.Call (.Attribute (.Name x px) m apos) [] [] pos) C fs' := by
  obtain ⟨f, fd, ps, F, hme, hb⟩ := F
  refine ⟨fun H₀ G H σ Q St q pins s' I => (pe_meth0 (pl := pl) (pe_var hN hv hd hcd) c hme F hr hb .nil passL ht).run pins s' σ H Q I ?_⟩
  obtain ⟨-, -, hg, dx, fv, hh, fr⟩ := hs.at_ _ _ _ _ (St.slot j _ hρ)
  exact ⟨_, hrec _ _ _ _ St, p, dx, fv, rfl, hh, fr.none hm, p, dx, fv, fs, G, fs', rfl, hh, hg, St.sub, fr, hS, fun q' G' H' e n g at' => q q' G' H' e n g at'⟩

/-! ### statements -/
theorem ds_newI (i : Nat) {p2 : Pos} (he : DNi X ρ e C fs) (h : ∀ p, DS X W (ρ.set i (SV.ins C p fs)) rest P) (hN : X.N.Nodup) (hi : X.N[i]? = some x := by rfl) (hx : Loc X.env.scope x := by first | exact Or.inl rfl | exact Or.inr rfl)
    (hs : swapsWith e (some (.Name x p2)) pos.line X.env = pure false := by rfl) (hf : X.fn x = true ∨ X.env.scope.names.lookup x = some .local := by first | exact .inl rfl | exact .inr rfl) :
    DS X W ρ (.Assign [.Name x p2] e pos :: rest) P :=
  ds_cons (ps_set hN hi hx pe_D hs hf) fun H₀ G₀ G H σ D E S p' => he.run H₀ G H σ _ S fun q G1 H1 e1 nq gq ⟨dx, fv, hh, fr⟩ =>
    h q H₀ G₀ G1 H1 _ D (E.step e1) ((S.up e1).set ⟨q, _, rfl, free_back E.hh nq, gq, hh, rfl, dx, fv, rfl, fr⟩ (fun _ j t hj ht ho => S.fresh nq ht ho)) p'
theorem ds_exprU (he : DU X W ρ e o ρ') (h : match o with | .ret _ => DS X W ρ' rest P | .exc x => P.ex x ρ') (hs : swapsWith e none pos.line X.env = pure false := by rfl) : DS X W ρ (.Expr e pos :: rest) P :=
  ds_cons (ps_expr pe_D hs) fun H₀ G₀ G H σ D E S p => he.run H₀ G₀ G H σ _ E S (by
    cases o with
    | ret d => exact fun v G1 H1 e1 S1 r1 => h H₀ G₀ G1 H1 σ D e1 S1 p
    | exc x => exact fun c a G1 H1 e1 S1 r1 => p.ex x ρ' σ G1 H1 c a h e1 S1 r1)
theorem ds_retU (he : DU X W ρ e o ρ') (h : match o with | .ret d => P.ro d ρ' | .exc x => P.ex x ρ') : DS X W ρ (.Return (some e) pos :: rest) P :=
  ds_cons (ps_ret pe_D) fun H₀ G₀ G H σ D E S p => he.run H₀ G₀ G H σ _ E S (by
    cases o with
    | ret d => exact fun v G1 H1 e1 S1 r1 => p.ro d ρ' v σ G1 H1 h e1 S1 r1
    | exc x => exact fun c a G1 H1 e1 S1 r1 => p.ex x ρ' σ G1 H1 c a h e1 S1 r1)
theorem ds_retO (he : DE X ρ e d) (h : P.ro d ρ) : DS X W ρ (.Return (some e) pos :: rest) P := ds_retU (W := W) (o := .ret d) (du_de he) h
theorem ds_setU (i : Nat) {p2 : Pos} (he : DU X W ρ e (.ret d) ρ') (h : DS X W (ρ'.set i (.dat d)) rest P) (hN : X.N.Nodup) (hi : X.N[i]? = some x := by rfl) (hx : Loc X.env.scope x := by first | exact Or.inl rfl | exact Or.inr rfl)
    (hs : swapsWith e (some (.Name x p2)) pos.line X.env = pure false := by rfl) (hf : X.fn x = true ∨ X.env.scope.names.lookup x = some .local := by first | exact .inl rfl | exact .inr rfl) :
    DS X W ρ (.Assign [.Name x p2] e pos :: rest) P :=
  ds_cons (ps_set hN hi hx pe_D hs hf) fun H₀ G₀ G H σ D E S p => he.run H₀ G₀ G H σ _ E S fun v G1 H1 e1 S1 r1 =>
    h H₀ G₀ G1 H1 _ D e1 (S1.set ⟨v, rfl, r1⟩ (fun z => by cases z)) p
/-- return x, an own instance -/
theorem ds_retQ {px : Pos} (hρ : ρ[i]? = some s) (hs : IsIns C p fs s) (h : P.rq p ρ) (hN : X.N[i]? = some x := by rfl) (hv : Vis X.env.scope x := by first | exact Or.inl rfl | exact Or.inr (Or.inl rfl) | exact Or.inr (Or.inr rfl))
    (hd : (x == ("__debug__" : Str)) = false := by decide) (hcd : (x == ("__classdict__" : Str)) = false := by decide) : DS X W ρ (.Return (some (.Name x px)) pos :: rest) P :=
  ds_cons (ps_ret (pe_var hN hv hd hcd)) fun H₀ G₀ G H σ D E S p' => ⟨_, (hs.at_ _ _ _ _ (S.slot i _ hρ)).1, p'.rq p ρ σ G H h E S⟩
theorem ds_ifU (k : Bool) (hc : DTU X ρ c k ρ') (h1 : k = true → DS X W ρ' body { P with nx := fun ρ => DS X W ρ rest P }) (h2 : k = false → DS X W ρ' orelse { P with nx := fun ρ => DS X W ρ rest P }) : DS X W ρ (.If c body orelse pos :: rest) P :=
  ds_cons (ps_if pt_T pss_S pss_S) fun H₀ G₀ G H σ D E S p => hc.run H₀ G₀ G H σ _ E S fun G1 H1 e1 S1 => by
    cases k with
    | true => exact h1 rfl H₀ G₀ G1 H1 σ _ e1 S1 (p.seq fun _ h => h)
    | false => exact h2 rfl H₀ G₀ G1 H1 σ _ e1 S1 (p.seq fun _ h => h)
theorem ds_FU {k : Bool} (h : DTU X ρ c k ρ') (h2 : DS X W ρ' rest P) (hk : k = false := by first | rfl | assumption) : DS X W ρ (.If c body [] pos :: rest) P := by subst hk; exact ds_ifU false h (fun z => by cases z) (fun _ => ds_end h2)
/-! tests -/
theorem dtu_val {k : Bool} {W' : WX} (h : DU X W' ρ e (.ret (.bool k)) ρ') (he : ∀ whole, isTrue e X.env whole = (do let v ← whole; standAt e.pos; holding [v] (truthy v)) := by intro _; rfl) : DTU X ρ e k ρ' :=
  ⟨fun H₀ G₀ G H σ Q E S q pins s I => (pt_val pe_D he).run pins s σ H Q I (h.run H₀ G₀ G H σ _ E S fun v G1 H1 e1 S1 r1 => by
    cases r1
    exact ⟨k, rfl, q _ _ e1 S1⟩)⟩
theorem dtu_not {k : Bool} (h : DTU X ρ a k ρ') : DTU X ρ (.UnaryOp .Not a pos) (!k) ρ' :=
  ⟨fun H₀ G₀ G H σ Q E S q pins s I => (pt_not pt_T).run pins s σ H Q I (h.run H₀ G₀ G H σ _ E S fun G1 H1 e1 S1 => q _ _ e1 S1)⟩
theorem dtu_cmp {op : CmpOp} {r : R2} {k : Bool} {W' : WX} (ho : OpR X (compareOp op) r) (hr : R2D r d1 d2 (.bool k)) (hm : behindInMarks op b = false) (ha : DU X W' ρ a (.ret d1) ρ') (hb : DE X ρ' b d2) : DTU X ρ (.Compare a [op] [b] pos) k ρ' :=
  ⟨fun H₀ G₀ G H σ Q E S q pins s I => (pt_cmpR ho pe_D pe_D hm).run pins s σ H Q I (ha.run H₀ G₀ G H σ _ E S fun v G1 H1 e1 S1 r1 => hb H₀ G1 H1 σ _ S1 fun u G2 H2 e2 r2 => hr G2 H2 v u _ e2.gh (r1.up e2.gg) r2 fun w G3 H3 e3 r3 => by
    cases r3
    have e23 := e2.trans e3
    exact ⟨k, rfl, q G3 H3 (e1.step e23) (S1.up e23)⟩)⟩
theorem dtu_ne {W' : WX} (hu : X.A.units + 64 < cLine) (ha : DU X W' ρ a (.ret d1) ρ') (hb : DE X ρ' b d2) (h1 : SeqAt.shaped d1 = true) (h2 : SeqAt.shaped d2 = true) : DTU X ρ (.Compare a [.NotEq] [b] pos) (!PyData.eqv d1 d2) ρ' := dtu_cmp (op_neD hu) (r2_ne h1 h2) (nomark _) ha hb
theorem dtu_lt {W' : WX} {i j : Int} (ha : DU X W' ρ a (.ret (.int i)) ρ') (hb : DE X ρ' b (.int j)) : DTU X ρ (.Compare a [.Lt] [b] pos) (decide (i < j)) ρ' := dtu_cmp op_lt r2_B0 (nomark _) ha hb
theorem dtu_is {k k' : Bool} (h : DTU X ρ e k ρ') (q : k = k') : DTU X ρ e k' ρ' := q ▸ h
theorem dtu_w {k : Bool} (h : DWU X ρ e k ρ') : DTU X ρ e k ρ' := ⟨fun H₀ G₀ G H σ Q E S q pins s I => pw_W.pt.run pins s σ H Q I (h.run H₀ G₀ G H σ Q E S q)⟩
theorem dwu_or1 {k : Bool} (h : DTU X ρ a k ρ') : DWU X ρ (.BoolOp .Or [a] pos) k ρ' := ⟨fun H₀ G₀ G H σ Q E S q wh pins s I => (pw_or1 pt_T).run wh pins s σ H Q I (h.run H₀ G₀ G H σ Q E S q)⟩
theorem dwu_orF {k : Bool} (h : DT X ρ a k) (h2 : DWU X ρ (.BoolOp .Or (b :: es) pos) false ρ') (hk : k = false := by first | rfl | assumption) : DWU X ρ (.BoolOp .Or (a :: b :: es) pos) false ρ' := by
  subst hk
  exact ⟨fun H₀ G₀ G H σ Q E S q wh pins s I => (pw_or pt_T pw_W).run wh pins s σ H Q I (h H₀ G H σ _ S fun G1 H1 e1 => h2.run H₀ G₀ G1 H1 σ Q (E.step e1) (S.up e1) q)⟩
theorem du_ifT {k : Bool} (h : DT X ρ c k) (h1 : DU X W ρ a o ρ') (hk : k = true := by first | rfl | assumption) : DU X W ρ (.IfExp c a b pos) o ρ' := by
  subst hk
  exact ⟨fun H₀ G₀ G H σ Q E S q pins s I => (pe_ifExp pt_T pe_D pe_D).run pins s σ H Q I (h H₀ G H σ _ S fun G1 H1 e1 => h1.run H₀ G₀ G1 H1 σ Q (E.step e1) (S.up e1) q)⟩
theorem du_ifF {k : Bool} (h : DT X ρ c k) (h1 : DU X W ρ b o ρ') (hk : k = false := by first | rfl | assumption) : DU X W ρ (.IfExp c a b pos) o ρ' := by
  subst hk
  exact ⟨fun H₀ G₀ G H σ Q E S q pins s I => (pe_ifExp pt_T pe_D pe_D).run pins s σ H Q I (h H₀ G H σ _ S fun G1 H1 e1 => h1.run H₀ G₀ G1 H1 σ Q (E.step e1) (S.up e1) q)⟩
end
end DD
namespace DD
open PySem PySem.Spec PyProof.Rows L2

/-! ### != by an own == -/
section
variable {prog : Program} {w : World} {A : Around} {E : Value → Shared → Prop} {s : Shared} {K : PySem.W.Frag} {x C L f : Addr} {h₀ : Heap} {m : Str → Option Value} {ox : Obj} {od : Option Obj} {name : Str} {b tb : Value}
open PySem.W in
theorem ifBound_B {M : Model} {id : String} {args : List Value} {Q : Option Value → Shared → Prop} (X : K.In s.heap) (I : PySem.W.InstAt s.heap x ox C od) (hs : findIn K (.ref C) name = some (some (.builtin id))) (hb : ∀ self, bindSpecial (.builtin id) self = pure (.builtin id, [self]))
    (h : wpAny M A (call (.builtin id) (.ref x :: args)) (fun v => Q (some v)) E s) : wpAny M A (callSpecialIfBound? (.ref x) name args) Q E s := by
  simp only [callSpecialIfBound?, bindSpecialIfBound?]
  refine wpAny_holding (wpAny_bind (wpAny_bind (wpAny_bind (I.type.here ((looks_findIn X hs).here ?_)))))
  refine wpAny_bind (wpAny_askSetting (wpAny_ite ?_))
  have fin : wpAny M A (call (.builtin id) ([.ref x] ++ args) >>= fun v => pure (some v)) Q E s := wpAny_bind (wpAny_mono h (fun v s' h' => wpAny_pure h') fun _ _ h' => h')
  split
  · exact wpAny_bind ((PySem.W.Looks.of_pure (hb _)).here (wpAny_pure (by exact fin)))
  · exact wpAny_tryCatch (wpAny_bind ((PySem.W.Looks.of_pure (hb _)).here (wpAny_pure (by exact fin))))
open PySem.W in
theorem objNe_K {Q : Fin → Shared → Prop} (X : K.In s.heap) (I : PySem.W.InstAt s.heap x ox C od) (hs : findIn K (.ref C) "__eq__" = some (some (.ref f))) (hf : isFn K (.ref f) = true) (hu : A.units < cLine)
    (h : wpAny (model prog w) A (call (.ref f) [.ref x, b]) (fun v s' => ∃ k, v = .bool k ∧ Q (.done (.ret (.bool (!k)))) s') E s) :
    wpAny (model prog w) A (Builtin.«object.__ne__» ⟨[.ref x, b], []⟩) Q E s := by
  unfold Builtin.«object.__ne__»
  repeat (first
    | with_reducible refine wpAny_cRoomFor hu ?_
    | (refine wpAny_bind (m := callSpecialIfBound? (.ref x) (Str.ofString "__eq__") [b])
        (ifBound_K X I hs hf (wpAny_mono h (fun r s' hr => by
          obtain ⟨k, rfl, hq⟩ := hr
          repeat (first | exact hq | exact wpAny_pure hq | exact wpAny_truthy_bool hq | (refine wpAny_bind (m := truthy (.bool _)) (wpAny_truthy_bool ?_)) | wp_step)) fun _ _ e => e)))
    | wp_step)
open PySem.W in
theorem cmp_ne {Q : Value → Shared → Prop} (hu : A.units < cLine) (hu1 : A.in1.units < cLine) (F : Fr h₀ L s.heap m) (X₀ : K.In h₀) (I : PySem.W.InstAt s.heap x ox C od) (hb : PySem.W.Looks (model prog w) s.heap (typeOf b) tb) (hn : notFirst K C tb = true)
    (hne : findIn K (.ref C) "__ne__" = some (some (.builtin "object.__ne__"))) (hm : mroIn K C (.type "object") = some true) (hs : findIn K (.ref C) "__eq__" = some (some (.ref f))) (hf : isFn K (.ref f) = true)
    (hsl : ∀ self, bindSpecial (.builtin "object.__ne__") self = pure (.builtin "object.__ne__", [self])) (hpl : plainId "object.__ne__" = true)
    (h : wpAny (model prog w) A.in1 (call (.ref f) [.ref x, b]) (fun v s' => ∃ k, v = .bool k ∧ Q (.bool (!k)) s') E s) : wpAny (model prog w) A (richCompare .NotEq (.ref x) b) Q E s := by
  have X := X₀.keeps F.keep
  have one : wpAny (model prog w) A (tryCompare (.ref x) (cmpInfo .NotEq).2.1 b) (fun r s' => ∃ v, r = some v ∧ Q v s') E s := by
    unfold tryCompare
    refine wpAny_bind (ifBound_B X I hne hsl (wpAny_call (codeAny_call_builtin hpl PySem.F.cmpEntry_ne (check_slot (i := "object.__ne__") (owner := "object") (n := "__ne__") PySem.F.cmpKind_ne PySem.F.cmpSplit_ne (I.type.andThen (looks_mroIn X hm)) (PySem.F.cmpArgs_ne _ _)
      (objNe_K (A := A.in1) X I hs hf hu1 (wpAny_mono h (fun v s' hv => ?_) fun _ _ e => e))))))
    obtain ⟨k, rfl, hq⟩ := hv
    first | exact ⟨k, rfl, wpAny_pure ⟨_, rfl, hq⟩⟩ | exact ⟨k, rfl, _, rfl, hq⟩
  unfold richCompare
  simp only [oneThing_ref]
  refine wpAny_holding (wpAny_bind (wpAny_cRoomFor hu ?_))
  refine wpAny_bind (I.type.here (wpAny_bind (hb.here ?_)))
  split
  · rename_i q
    have e : subIn K tb (.ref C) = some false := by
      rcases Bool.or_eq_true_iff.mp hn with e | e
      · rw [beq_iff_eq.mp e] at q; simp at q
      · exact beq_iff_eq.mp e
    refine wpAny_bind ((looks_subIn X e).here ?_)
    simp only [Bool.false_eq_true, if_false]
    refine wpAny_bind (wpAny_mono one (fun r s' z => ?_) fun _ _ e => e)
    obtain ⟨v, rfl, hq⟩ := z
    exact wpAny_pure hq
  · refine wpAny_bind (wpAny_pure ?_)
    simp only [Bool.false_eq_true, if_false]
    refine wpAny_bind (wpAny_mono one (fun r s' z => ?_) fun _ _ e => e)
    obtain ⟨v, rfl, hq⟩ := z
    exact wpAny_pure hq
end
end DD
namespace DD
open PySem PySem.Spec PyProof.Rows L2

section
variable {X : Cx} {pins : List (Addr × Obj)} {σ : L2.St} {H : Hp} {s : Shared} {A : Around}
/-- a def runs somewhere below the running body -/
theorem run_fn_at {CX : CXT} {n : Nat} {f : Addr} {fd : FuncData} {ps : List Str} {sp : Sp} {E : XK} {us : List Value} {vs : List V} {Q : VK} (F : FnOk X.prog X.w X.K X.mg X.base CX n f fd ps sp) (hr : Room n A) (fr : A.frames = X.A.frames) (hb : Binds X.K fd ps []) (hx : Passes CX X E)
    (I : Inv X pins σ H s) (r : Vals vs us) (h : sp vs H Q E) : wpAny (model X.prog X.w) A (call (.ref f) us) (EP X pins σ Q) X.xe s := by
  have e0 : Env0 X.prog X.w X.K X.mg X.base A X.stack s H := by
    have e := I.env0
    exact ⟨by rw [fr]; exact e.frames, e.mod, e.bs, e.bsz, e.funs, e.frf, e.hok, e.bare⟩
  have hl := F.len _ _ _ _ h
  have hlu : us.length = ps.length := by rw [← r.length]; exact hl
  have b := hb s us I.kIn (by simpa using hlu)
  refine wpAny_call (codeAny_mono (F.run A X.stack s H ⟨us, []⟩ us vs Q E hr e0 (by simpa using b) r h) fun r s' hq => ?_)
  cases r with
  | error e => exact hx pins σ H s e s' I hq
  | ok fl =>
    cases fl with
    | ret w => exact I.after hq
    | next => exact False.elim hq
    | brk => exact False.elim hq
    | cont => exact False.elim hq
theorem ins_at {a C dx : Addr} {fs : List (Str × V)} (I : Inv X pins σ H s) (h : H a = some (.ins C dx fs)) : ∃ od, PySem.W.InstAt s.heap a (PySem.W.instObj C dx) C (some od) := by
  obtain ⟨mA, J, _⟩ := ins_get I.hok h
  obtain ⟨od, J, _⟩ := J.look
  exact ⟨od, J⟩
end
/-! ### len(x), str(x), x == y, x != y of own instances -/
section
variable {X : Cx} {k : Nat} {C f : Addr} {fd : FuncData} {ps : List Str} {sp : Sp}
theorem call_lenI (F : FnOk X.prog X.w X.K X.mg X.base (L2.CX X.prog X.w) k f fd ps sp) (hm : Meth X.K C "__len__" f) (hr : Room (k + 1) X.A) (hb : Binds X.K fd ps []) :
    CallR X (.builtin "len") (fun xs H Q => ∃ a dx fs, xs = [.ref a] ∧ H a = some (.ins C dx fs) ∧ sp [.ref a] H (fun v H' => ∃ n : Int, v = .int n ∧ 0 ≤ n ∧ n < 2 ^ 63 ∧ Q (.int n) H') E0) := by
  intro pins s σ H xs us Q I r h
  obtain ⟨a, dx, fs, rfl, ha, q⟩ := h
  obtain ⟨u, rfl, rx⟩ := vals1 r
  cases rx
  obtain ⟨od, J⟩ := ins_at I ha
  obtain ⟨m, hF⟩ := I.fr
  refine PySem.W.len_K hF I.ok.mod.kin J hm.at_ hm.fn (wpAny_mono (run_fn_at F hr.in1 rfl hb passL I (show Vals [V.ref a] [Value.ref a] from .cons rfl .nil) q) (fun v s' z => ?_) fun _ _ e => e)
  obtain ⟨v', H', I', rv, n, rfl, n0, n1, q'⟩ := z
  obtain ⟨t, rfl⟩ := rv
  exact ⟨⟨n0, n1⟩, .int n, H', I'.tok _, ⟨_, rfl⟩, q'⟩
theorem call_strI (F : FnOk X.prog X.w X.K X.mg X.base (L2.CX X.prog X.w) k f fd ps sp) (hm : Meth X.K C "__str__" f) (hr : Room (k + 2) X.A) (hb : Binds X.K fd ps []) :
    CallR X (.type "str") (fun xs H Q => ∃ a dx fs, xs = [.ref a] ∧ H a = some (.ins C dx fs) ∧ sp [.ref a] H (fun v H' => ∃ z : Str, v = .str z ∧ Q (.str z) H') E0) := by
  intro pins s σ H xs us Q I r h
  obtain ⟨a, dx, fs, rfl, ha, q⟩ := h
  obtain ⟨u, rfl, rx⟩ := vals1 r
  cases rx
  obtain ⟨od, J⟩ := ins_at I ha
  have hr2 : Room k X.A.in1.in1 := hr.in1.in1
  refine PySem.W.kso_call hr2.units0 I.kIn J hm.at_ hm.fn (wpAny_mono (run_fn_at F hr2 rfl hb passL I (show Vals [V.ref a] [Value.ref a] from .cons rfl .nil) q) (fun v s' z => ?_) fun _ _ e => e)
  obtain ⟨v', H', I', rv, n, rfl, q'⟩ := z
  obtain ⟨t, rfl⟩ := rv
  exact ⟨.str n, H', I', ⟨_, rfl⟩, q'⟩
/-- whose type is known and does not come first in a comparison -/
def OthV (X : Cx) (C : Addr) (y : V) (H : Hp) : Prop := ∀ (pins : List (Addr × Obj)) (σ : L2.St) (s : Shared) (u : Value), Inv X pins σ H s → RelV y u → ∃ tb, PySem.W.Looks (model X.prog X.w) s.heap (typeOf u) tb ∧ PySem.W.notFirst X.K C tb = true
theorem oth_ins {C a dx : Addr} {fs : List (Str × V)} {H : Hp} (h : H a = some (.ins C dx fs)) : OthV X C (.ref a) H := fun pins σ s u I r => by
  cases r
  obtain ⟨od, J⟩ := ins_at I h
  exact ⟨.ref C, J.type, by simp [PySem.W.notFirst]⟩
theorem oth_str {C : Addr} {z : Str} {H : Hp} (h : PySem.W.notFirst X.K C (.type "str") = true) : OthV X C (.str z) H := fun pins σ s u I r => by
  obtain ⟨t, rfl⟩ := r
  exact ⟨.type "str", PySem.W.Looks.of_pure rfl, h⟩
theorem oth_tup {C a : Addr} {xs : List V} {H : Hp} (h : PySem.W.notFirst X.K C (.type "tuple") = true) (ha : H a = some (.tup xs)) : OthV X C (.ref a) H := fun pins σ s u I r => by
  cases r
  obtain ⟨_, _, _, o, h1, h2, _⟩ := (show ObjOk X.prog X.w H s.heap a (.tup xs) from I.hok a _ ha)
  refine ⟨.type "tuple", fun A' Q E s' k q => ?_, h⟩
  refine wpAny_typeOf_ref (k _ _ h1) ?_
  rw [h2]
  exact q
def rEqI (X : Cx) (C : Addr) (sp : Sp) (neg : Bool) : R2 := fun x y H Q => ∃ a dx fs, x = .ref a ∧ H a = some (.ins C dx fs) ∧ OthV X C y H ∧ sp [x, y] H (fun v H' => ∃ b : Bool, v = .bl b ∧ Q (.bl (b != neg)) H') E0
theorem op_eqI (F : FnOk X.prog X.w X.K X.mg X.base (L2.CX X.prog X.w) k f fd ps sp) (hm : Meth X.K C "__eq__" f) (hr : Room (k + 1) X.A) (hb : Binds X.K fd ps []) : OpR X (compareOp .Eq) (rEqI X C sp false) := by
  intro pins s σ H x y v u Q I rx ry h
  obtain ⟨a, dx, fs, rfl, ha, ho, q⟩ := h
  cases rx
  obtain ⟨od, J⟩ := ins_at I ha
  obtain ⟨m, hF⟩ := I.fr
  obtain ⟨tb, l1, l2⟩ := ho pins σ s u I ry
  show wpAny (model X.prog X.w) X.A (richCompare .Eq (.ref a) u) (EP X pins σ Q) X.xe s
  refine PySem.W.cmp_K (op := .Eq) hr.units0 hF I.ok.mod.kin J l1 l2 hm.at_ hm.fn (wpAny_mono (run_fn_at F (hr.mono (Nat.le_succ _)) rfl hb passL I (show Vals [V.ref a, y] [Value.ref a, u] from .cons rfl (.cons ry .nil)) q) (fun v s' z => ?_) fun _ _ e => e)
  obtain ⟨v', H', I', rv, b, rfl, q'⟩ := z
  cases rv
  refine ⟨.bl b, H', I', rfl, ?_⟩
  cases b <;> exact q'
theorem op_neI (F : FnOk X.prog X.w X.K X.mg X.base (L2.CX X.prog X.w) k f fd ps sp) (hm : Meth X.K C "__eq__" f) (hne : PySem.W.findIn X.K (.ref C) "__ne__" = some (some (.builtin "object.__ne__"))) (hmo : PySem.W.mroIn X.K C (.type "object") = some true) (hr : Room (k + 1) X.A) (hb : Binds X.K fd ps []) :
    OpR X (compareOp .NotEq) (rEqI X C sp true) := by
  intro pins s σ H x y v u Q I rx ry h
  obtain ⟨a, dx, fs, rfl, ha, ho, q⟩ := h
  cases rx
  obtain ⟨od, J⟩ := ins_at I ha
  obtain ⟨m, hF⟩ := I.fr
  obtain ⟨tb, l1, l2⟩ := ho pins σ s u I ry
  show wpAny (model X.prog X.w) X.A (richCompare .NotEq (.ref a) u) (EP X pins σ Q) X.xe s
  refine cmp_ne hr.units0 hr.in1.units0 hF I.ok.mod.kin J l1 l2 hne hmo hm.at_ hm.fn PySem.F.slot_object_ne.bind PySem.F.slot_object_ne.plain (wpAny_mono (run_fn_at F hr.in1 rfl hb passL I (show Vals [V.ref a, y] [Value.ref a, u] from .cons rfl (.cons ry .nil)) q) (fun v s' z => ?_) fun _ _ e => e)
  obtain ⟨v', H', I', rv, b, rfl, q'⟩ := z
  cases rv
  refine ⟨b, rfl, .bl (!b), H', I', rfl, ?_⟩
  cases b <;> exact q'
end
end DD
namespace DD
open PySem PySem.Spec PyProof.Rows L2

/-- what isinstance asks of an own class -/
structure InsK (K : PySem.W.Frag) (C : Addr) : Prop where
  cl : Cls K C
  ha : PySem.W.findIn K (.ref C) "__class__" = some (some (.builtin "object.__class__"))
  hn : PySem.W.specialIn K (.builtin "object.__class__") "__get__" = some (some (.builtin "getset_descriptor.__get__"))
  htk : PySem.W.takesIn K (.builtin "object.__class__") = some true
  hm : PySem.W.mroIn K C (.type "object") = some true
  me : PySem.W.kitOne K (.ref C) (.ref C) = some true
section
variable {X : Cx} {W : WX} {ρ : En} {e b : Expr} {d : PyData} {pos px p1 p2 py : Pos} {C p q : Addr} {fs gs : Flds} {s t : SV} {k i i2 j j2 : Nat} {x y z : Str}
theorem de_lenI {S : Flds → List PyData → Out → Prop} {n : Int} (F : MeIn X.prog X.w X.K X.mg X.base k C "__len__" (spMp C S)) (hr : Room (k + 1) X.A) (hmg : X.mg "len" = none) (hrec : RefS ρ i p) (hρ : ρ[j]? = some s) (hs : IsIns C p fs s) (hS : S fs [] (.ret (.int n))) (h0 : 0 ≤ n) (h1 : n < 2 ^ 63)
    (hN : X.N[i]? = some x := by rfl) (hv : Vis X.env.scope x := by first | exact Or.inl rfl | exact Or.inr (Or.inl rfl) | exact Or.inr (Or.inr rfl)) (hd : (x == ("__debug__" : Str)) = false := by decide) (hcd : (x == ("__classdict__" : Str)) = false := by decide) (hg : Gl X "len" := by rfl)
    (he : starEach [.Name x px] X.env = (false, eval (.Name x px) X.env) :: starEach [] X.env := by rfl) (hpl : (backTo pos (starEach ([] : List Expr) X.env)).any (·.1) = false := by rfl) : DE X ρ (.Call (.Name "len" p1) [.Name x px] [] pos) (.int n) := by
  obtain ⟨f, fd, ps, F, hme, hb⟩ := F
  refine de_of (pe_callB (call_lenI F hme hr hb) hg hmg PySem.boot_len (pa_cons (pe_var hN hv hd hcd) pa_nil he) (by decide) (by decide) he hpl) fun H₀ G H σ Q St q => ?_
  obtain ⟨-, -, hg', dx, fv, hh, fr⟩ := hs.at_ _ _ _ _ (St.slot j _ hρ)
  exact ⟨_, hrec _ _ _ _ St, p, dx, fv, rfl, hh, p, dx, fv, fs, [], G, [], _, rfl, hh, hg', St.sub, fr, .nil, hS, fun v G' H' e' r => by
    cases r
    exact ⟨n, rfl, h0, h1, q _ G' H' e' (.int n)⟩⟩
theorem de_strI {S : Flds → List PyData → Out → Prop} {z : Str} (F : MeIn X.prog X.w X.K X.mg X.base k C "__str__" (spMp C S)) (hr : Room (k + 2) X.A) (hmg : X.mg "str" = none) (hrec : RefS ρ i p) (hρ : ρ[j]? = some s) (hs : IsIns C p fs s) (hS : S fs [] (.ret (.str z)))
    (hN : X.N[i]? = some x := by rfl) (hv : Vis X.env.scope x := by first | exact Or.inl rfl | exact Or.inr (Or.inl rfl) | exact Or.inr (Or.inr rfl)) (hd : (x == ("__debug__" : Str)) = false := by decide) (hcd : (x == ("__classdict__" : Str)) = false := by decide) (hg : Gl X "str" := by rfl)
    (he : starEach [.Name x px] X.env = (false, eval (.Name x px) X.env) :: starEach [] X.env := by rfl) (hpl : (backTo pos (starEach ([] : List Expr) X.env)).any (·.1) = false := by rfl) : DE X ρ (.Call (.Name "str" p1) [.Name x px] [] pos) (.str z) := by
  obtain ⟨f, fd, ps, F, hme, hb⟩ := F
  refine de_of (pe_callTy (call_strI F hme hr hb) hg hmg (by decide +kernel) (pa_cons (pe_var hN hv hd hcd) pa_nil he) (by decide) (by decide) he hpl) fun H₀ G H σ Q St q => ?_
  obtain ⟨-, -, hg', dx, fv, hh, fr⟩ := hs.at_ _ _ _ _ (St.slot j _ hρ)
  exact ⟨_, hrec _ _ _ _ St, p, dx, fv, rfl, hh, p, dx, fv, fs, [], G, [], _, rfl, hh, hg', St.sub, fr, .nil, hS, fun v G' H' e' r => by
    cases r
    exact ⟨z, rfl, q _ G' H' e' (.str z)⟩⟩
/-- isinstance(x, C) -/
theorem de_isIns (c : InsK X.K C) (hm : X.mg "isinstance" = none) (hC : X.mg z = some (.ref C)) (hrec : RefS ρ i p) (hρ : ρ[j]? = some s) (hs : IsIns C p fs s)
    (hN : X.N[i]? = some x := by rfl) (hv : Vis X.env.scope x := by first | exact Or.inl rfl | exact Or.inr (Or.inl rfl) | exact Or.inr (Or.inr rfl)) (hd : (x == ("__debug__" : Str)) = false := by decide) (hcd : (x == ("__classdict__" : Str)) = false := by decide) (hg : Gl X "isinstance" := by rfl) (hgz : Gl X z := by rfl) (hdz : (z == ("__debug__" : Str)) = false := by decide)
    (he : starEach [.Name x px, .Name z p2] X.env = (false, eval (.Name x px) X.env) :: starEach [.Name z p2] X.env := by rfl) (he2 : starEach [.Name z p2] X.env = (false, eval (.Name z p2) X.env) :: starEach [] X.env := by rfl) (hpl : (backTo pos (starEach [.Name z p2] X.env)).any (·.1) = false := by rfl) :
    DE X ρ (.Call (.Name "isinstance" p1) [.Name x px, .Name z p2] [] pos) (.bool true) :=
  de_of (pe_callB call_isi hg hm (by decide +kernel) (pa_cons (pe_var hN hv hd hcd) (pa_cons (pe_glob (v := .ref C) hgz hC rfl hdz) pa_nil he2) he) (by decide) (by decide) he hpl) fun H₀ G H σ Q St q => by
    obtain ⟨-, -, -, dx, fv, hh, fr⟩ := hs.at_ _ _ _ _ (St.slot j _ hρ)
    exact ⟨_, hrec _ _ _ _ St, _, .ref C, _, _, true, rfl, .own C, .base (.ins hh c.cl c.ha c.hn c.htk c.hm), c.me, q.of St.sub (.bl true)⟩
theorem de_isOwn {kk : Bool} (hm : X.mg "isinstance" = none) (hC : X.mg z = some (.ref C)) (ha : DE X ρ e d) (hk : PySem.W.kitOne X.K (.type (tyD d)) (.ref C) = some kk) (hg : Gl X "isinstance" := by rfl) (hgz : Gl X z := by rfl) (hdz : (z == ("__debug__" : Str)) = false := by decide)
    (he : starEach [e, .Name z p2] X.env = (false, eval e X.env) :: starEach [.Name z p2] X.env := by rfl) (he2 : starEach [.Name z p2] X.env = (false, eval (.Name z p2) X.env) :: starEach [] X.env := by rfl) (hpl : (backTo pos (starEach [.Name z p2] X.env)).any (·.1) = false := by rfl) :
    DE X ρ (.Call (.Name "isinstance" p1) [e, .Name z p2] [] pos) (.bool kk) :=
  de_of (pe_callB call_isi hg hm (by decide +kernel) (pa_cons pe_D (pa_cons (pe_glob (v := .ref C) hgz hC rfl hdz) pa_nil he2) he) (by decide) (by decide) he hpl) fun H₀ G H σ Q St q => ha H₀ G H σ _ St fun v G1 H1 e1 r1 =>
    ⟨v, .ref C, _, _, kk, rfl, .own C, ty_of e1.gh r1, hk, (q.back e1).of e1.gh (.bl kk)⟩

/-! == and != -/
/-- what the own == does -/
def spEq (C : Addr) (T : Flds → Prop) (R : Flds → Flds → Bool) : Sp := fun vs H Q E => ∃ (p dx : Addr) (fv : List (Str × V)) (fs : Flds) (y : V) (G : Hp), vs = [.ref p, y] ∧ H p = some (.ins C dx fv) ∧ G p = none ∧ Sub G H ∧ FR G fv fs ∧ T fs ∧
  ((∃ (q dq : Addr) (gv : List (Str × V)) (gs : Flds), y = .ref q ∧ T gs ∧ q ≠ p ∧ H q = some (.ins C dq gv) ∧ G q = none ∧ FR G gv gs ∧ Res G H (.bool (R fs gs)) Q) ∨ (∃ d, Rp G y d ∧ (tyD d = "tuple" ∨ tyD d = "str") ∧ Res G H (.bool false) Q))
theorem r_eqI {T : Flds → Prop} {R : Flds → Flds → Bool} {neg : Bool} {G H : Hp} {Q : VK} {dx dq : Addr} {fv gv : List (Str × V)} (hp : H p = some (.ins C dx fv)) (gp : G p = none) (sb : Sub G H) (fp : FR G fv fs) (hq : H q = some (.ins C dq gv)) (gq : G q = none) (fq : FR G gv gs) (ne : q ≠ p) (t1 : T fs) (t2 : T gs) (h : Res G H (.bool (R fs gs != neg)) Q) :
    rEqI X C (spEq C T R) neg (.ref p) (.ref q) H Q :=
  ⟨p, dx, fv, rfl, hp, oth_ins hq, p, dx, fv, fs, _, G, rfl, hp, gp, sb, fp, t1, .inl ⟨q, dq, gv, gs, rfl, t2, ne, hq, gq, fq, fun v G' H' e r => by cases r; exact ⟨_, rfl, h _ G' H' e (.bl _)⟩⟩⟩
/-- two instances at slots -/
theorem sat_two {H₀ G H : Hp} {σ : L2.St} (St : Sat H₀ G H σ ρ) (hρ : ρ[j]? = some s) (hs : IsIns C p fs s) (hρ2 : ρ[j2]? = some t) (ht : IsIns C q gs t) (hj : j ≠ j2) : q ≠ p := fun z => by
  obtain ⟨e1, -⟩ := hs.at_ _ _ _ _ (St.slot j _ hρ)
  obtain ⟨e2, -⟩ := ht.at_ _ _ _ _ (St.slot j2 _ hρ2)
  exact St.apart j j2 _ _ p hj hρ hρ2 hs.own ht.own e1 (by rw [e2, z])
variable {T : Flds → Prop} {R : Flds → Flds → Bool} {op : CmpOp} {neg : Bool}
theorem dt_cmpII (ho : OpR X (compareOp op) (rEqI X C (spEq C T R) neg)) (hrec : RefS ρ i p) (hρ : ρ[j]? = some s) (hs : IsIns C p fs s) (hrec2 : RefS ρ i2 q) (hρ2 : ρ[j2]? = some t) (ht : IsIns C q gs t) (hj : j ≠ j2) (t1 : T fs) (t2 : T gs)
    (hm : behindInMarks op (.Name y py) = false := by exact nomark _) (hN : X.N[i]? = some x := by rfl) (hv : Vis X.env.scope x := by first | exact Or.inl rfl | exact Or.inr (Or.inl rfl) | exact Or.inr (Or.inr rfl)) (hd : (x == ("__debug__" : Str)) = false := by decide) (hcd : (x == ("__classdict__" : Str)) = false := by decide)
    (hN2 : X.N[i2]? = some y := by rfl) (hv2 : Vis X.env.scope y := by first | exact Or.inl rfl | exact Or.inr (Or.inl rfl) | exact Or.inr (Or.inr rfl)) (hd2 : (y == ("__debug__" : Str)) = false := by decide) (hcd2 : (y == ("__classdict__" : Str)) = false := by decide) :
    DT X ρ (.Compare (.Name x px) [op] [.Name y py] pos) (R fs gs != neg) :=
  dt_of (pt_cmpR ho (pe_var hN hv hd hcd) (pe_var hN2 hv2 hd2 hcd2) hm) fun H₀ G H σ Q St qq => by
    obtain ⟨-, -, g1, dx, fv, hh, fr⟩ := hs.at_ _ _ _ _ (St.slot j _ hρ)
    obtain ⟨-, -, g2, dq, gv, hh2, fr2⟩ := ht.at_ _ _ _ _ (St.slot j2 _ hρ2)
    exact ⟨_, hrec _ _ _ _ St, _, hrec2 _ _ _ _ St, r_eqI hh g1 St.sub fr hh2 g2 fr2 (sat_two St hρ hs hρ2 ht hj) t1 t2 fun v G' H' e r => by cases r; exact ⟨_, rfl, qq G' H' e⟩⟩
theorem de_cmpII (ho : OpR X (compareOp op) (rEqI X C (spEq C T R) neg)) (hrec : RefS ρ i p) (hρ : ρ[j]? = some s) (hs : IsIns C p fs s) (hrec2 : RefS ρ i2 q) (hρ2 : ρ[j2]? = some t) (ht : IsIns C q gs t) (hj : j ≠ j2) (t1 : T fs) (t2 : T gs)
    (hm : behindInMarks op (.Name y py) = false := by exact nomark _) (hN : X.N[i]? = some x := by rfl) (hv : Vis X.env.scope x := by first | exact Or.inl rfl | exact Or.inr (Or.inl rfl) | exact Or.inr (Or.inr rfl)) (hd : (x == ("__debug__" : Str)) = false := by decide) (hcd : (x == ("__classdict__" : Str)) = false := by decide)
    (hN2 : X.N[i2]? = some y := by rfl) (hv2 : Vis X.env.scope y := by first | exact Or.inl rfl | exact Or.inr (Or.inl rfl) | exact Or.inr (Or.inr rfl)) (hd2 : (y == ("__debug__" : Str)) = false := by decide) (hcd2 : (y == ("__classdict__" : Str)) = false := by decide) :
    DE X ρ (.Compare (.Name x px) [op] [.Name y py] pos) (.bool (R fs gs != neg)) :=
  de_of (pe_cmpR ho (pe_var hN hv hd hcd) (pe_var hN2 hv2 hd2 hcd2) hm) fun H₀ G H σ Q St qq => by
    obtain ⟨-, -, g1, dx, fv, hh, fr⟩ := hs.at_ _ _ _ _ (St.slot j _ hρ)
    obtain ⟨-, -, g2, dq, gv, hh2, fr2⟩ := ht.at_ _ _ _ _ (St.slot j2 _ hρ2)
    exact ⟨_, hrec _ _ _ _ St, _, hrec2 _ _ _ _ St, r_eqI hh g1 St.sub fr hh2 g2 fr2 (sat_two St hρ hs hρ2 ht hj) t1 t2 qq⟩
/-- .. with one just made -/
theorem r_new {H₀ G H : Hp} {σ : L2.St} {Q : VK} (St : Sat H₀ G H σ ρ) (hρ : ρ[j]? = some s) (hs : IsIns C p fs s) (t1 : T fs) (t2 : T gs) (q : Res G H (.bool (R fs gs != neg)) Q) : ∀ (u : Addr) (G' H' : Hp), Ext G H G' H' → H u = none → G' u = none → InsAt C u gs G' H' → rEqI X C (spEq C T R) neg (.ref p) (.ref u) H' Q := fun u G' H' e nu gu ⟨dq, gv, hh2, fr2⟩ => by
  obtain ⟨-, -, -, dx0, fv0, hh0, -⟩ := hs.at_ _ _ _ _ (St.slot j _ hρ)
  obtain ⟨-, -, g1, dx, fv, hh, fr⟩ := hs.at_ _ _ _ _ ((St.up e).slot j _ hρ)
  exact r_eqI hh g1 e.gh fr hh2 gu fr2 (fun z => by rw [z, hh0] at nu; cases nu) t1 t2 (q.back e)
theorem dt_cmpIN (ho : OpR X (compareOp op) (rEqI X C (spEq C T R) neg)) (hrec : RefS ρ i p) (hρ : ρ[j]? = some s) (hs : IsIns C p fs s) (hb : DNi X ρ b C gs) (t1 : T fs) (t2 : T gs) (hm : behindInMarks op b = false := by exact nomark _)
    (hN : X.N[i]? = some x := by rfl) (hv : Vis X.env.scope x := by first | exact Or.inl rfl | exact Or.inr (Or.inl rfl) | exact Or.inr (Or.inr rfl)) (hd : (x == ("__debug__" : Str)) = false := by decide) (hcd : (x == ("__classdict__" : Str)) = false := by decide) : DT X ρ (.Compare (.Name x px) [op] [b] pos) (R fs gs != neg) :=
  dt_of (pt_cmpR ho (pe_var hN hv hd hcd) pe_D hm) fun H₀ G H σ Q St qq => ⟨_, hrec _ _ _ _ St, hb.run H₀ G H σ _ St (r_new St hρ hs t1 t2 fun v G' H' e r => by cases r; exact ⟨_, rfl, qq G' H' e⟩)⟩
theorem de_cmpIN (ho : OpR X (compareOp op) (rEqI X C (spEq C T R) neg)) (hrec : RefS ρ i p) (hρ : ρ[j]? = some s) (hs : IsIns C p fs s) (hb : DNi X ρ b C gs) (t1 : T fs) (t2 : T gs) (hm : behindInMarks op b = false := by exact nomark _)
    (hN : X.N[i]? = some x := by rfl) (hv : Vis X.env.scope x := by first | exact Or.inl rfl | exact Or.inr (Or.inl rfl) | exact Or.inr (Or.inr rfl)) (hd : (x == ("__debug__" : Str)) = false := by decide) (hcd : (x == ("__classdict__" : Str)) = false := by decide) : DE X ρ (.Compare (.Name x px) [op] [b] pos) (.bool (R fs gs != neg)) :=
  de_of (pe_cmpR ho (pe_var hN hv hd hcd) pe_D hm) fun H₀ G H σ Q St qq => ⟨_, hrec _ _ _ _ St, hb.run H₀ G H σ _ St (r_new St hρ hs t1 t2 qq)⟩
/-- .. with data -/
theorem dt_cmpID (ho : OpR X (compareOp op) (rEqI X C (spEq C T R) neg)) (hrec : RefS ρ i p) (hρ : ρ[j]? = some s) (hs : IsIns C p fs s) (hb : DE X ρ b d) (t1 : T fs) (hd' : (∃ z, d = .str z) ∨ ∃ ds, d = .tuple ds) (n1 : PySem.W.notFirst X.K C (.type "str") = true) (n2 : PySem.W.notFirst X.K C (.type "tuple") = true) (hm : behindInMarks op b = false := by exact nomark _)
    (hN : X.N[i]? = some x := by rfl) (hv : Vis X.env.scope x := by first | exact Or.inl rfl | exact Or.inr (Or.inl rfl) | exact Or.inr (Or.inr rfl)) (hd : (x == ("__debug__" : Str)) = false := by decide) (hcd : (x == ("__classdict__" : Str)) = false := by decide) : DT X ρ (.Compare (.Name x px) [op] [b] pos) neg :=
  dt_of (pt_cmpR ho (pe_var hN hv hd hcd) pe_D hm) fun H₀ G H σ Q St qq => ⟨_, hrec _ _ _ _ St, hb H₀ G H σ _ St fun v G1 H1 e1 r1 => by
    obtain ⟨-, -, g1, dx, fv, hh, fr⟩ := hs.at_ _ _ _ _ ((St.up e1).slot j _ hρ)
    have ot : OthV X C v H1 := by
      rcases hd' with ⟨z, rfl⟩ | ⟨ds, rfl⟩
      · cases r1; exact oth_str n1
      · cases r1 with
        | tup h1 h2 => exact oth_tup n2 (e1.gh _ _ h1)
    have ty : tyD d = "tuple" ∨ tyD d = "str" := by
      rcases hd' with ⟨z, rfl⟩ | ⟨ds, rfl⟩
      · exact .inr rfl
      · exact .inl rfl
    refine ⟨p, dx, fv, rfl, hh, ot, p, dx, fv, fs, v, G1, rfl, hh, g1, e1.gh, fr, t1, .inr ⟨d, r1, ty, fun w G' H' e r => ?_⟩⟩
    cases r
    refine ⟨false, rfl, neg, ?_, qq G' H' (e1.trans e)⟩
    cases neg <;> rfl⟩
end
/-! ### the own == itself -/
section
variable {P : Program} {w : World} {K : PySem.W.Frag} {mg : Str → Option Value} {base : Heap} {x qual : Str} {st : Stmt} {f : Addr} {fd : FuncData} {k : Nat} {C : Addr}
def PostEq (s t : SV) (b : Bool) : Post := { nx := fun _ => False, rt := fun _ => False, ro := fun d ρ => d = .bool b ∧ ρ[0]? = some s ∧ ρ[1]? = some t }
theorem fnEq_ok {N ps : List Str} {T : Flds → Prop} {R : Flds → Flds → Bool} (F : Fun K x qual st f fd) (SC : FnScope N ps (defScope st)) (hl : ps.length = 2) (hNl : N.length = 2)
    (h1 : ∀ (cdv : Value) (A : Around) (outer : List Env) (s : Shared) (H : Hp) (E : XK) (p dx : Addr) (fv : List (Str × V)) (fs : Flds) (q dq : Addr) (gv : List (Str × V)) (gs : Flds), Room k (A.deeper (envOfC qual (defScope st) s.heap.objs.size f cdv)) → T fs → T gs →
      DS (cxOf (L2.CX P w) P w K mg base N qual (defScope st) f cdv A outer s H E) (fun c a _ H => E c a H) [SV.insX C p dx fv fs, SV.insX C q dq gv gs] (defBody st) (PostEq (SV.insX C p dx fv fs) (SV.insX C q dq gv gs) (R fs gs)))
    (h2 : ∀ (cdv : Value) (A : Around) (outer : List Env) (s : Shared) (H : Hp) (E : XK) (p dx : Addr) (fv : List (Str × V)) (fs : Flds) (d : PyData), Room k (A.deeper (envOfC qual (defScope st) s.heap.objs.size f cdv)) → (tyD d = "tuple" ∨ tyD d = "str") →
      DS (cxOf (L2.CX P w) P w K mg base N qual (defScope st) f cdv A outer s H E) (fun c a _ H => E c a H) [SV.insX C p dx fv fs, .dat d] (defBody st) (PostMp (SV.insX C p dx fv fs) (.ret (.bool false)))) : FnOk P w K mg base (L2.CX P w) (k + 1) f fd ps (spEq C T R) := by
  refine F.okX SC (fun vs H Q E ⟨p, dx, fv, fs, y, G, e, _⟩ => by rw [e, hl]; rfl) fun cdv A outer s H vs Q E hr ⟨p, dx, fv, fs, y, G, e, hh, hg, sb, fr, tf, h⟩ => ?_
  subst e
  refine ⟨_, pss_S, ?_⟩
  have hst : L2.start N [.ref p, y] = [some (.ref p), some y] := by
    match N, hNl with
    | [a, b], _ => rfl
  have sbp : Sub G (del H p) := fun a o g => by
    have z : a ≠ p := fun y => by rw [y, hg] at g; cases g
    rw [del_ne z]; exact sb a o g
  rw [hst]
  rcases h with ⟨q, dq, gv, gs, rfl, tg, ne, hq, gq, fq, qq⟩ | ⟨d, rd, ty, qq⟩
  · have sbq : Sub G (del (del H p) q) := fun a o g => by
      have z : a ≠ q := fun y => by rw [y, gq] at g; cases g
      rw [del_ne z]; exact sbp a o g
    have old : Sub (del (del H p) q) H := fun a o g => del_sub a o (del_sub a o g)
    have S0 : Sat (del (del H p) q) G H [some (.ref p), some (.ref q)] [SV.insX C p dx fv fs, SV.insX C q dq gv gs] := by
      refine ⟨sb, rfl, fun i s' z => ?_, fun i j s' t pp hij q1 q2 o1 o2 r1 => ?_, old⟩
      · match i, z with
        | 0, z => cases z; exact ⟨p, _, rfl, by rw [del_ne (Ne.symm ne)]; exact del_at, hg, hh, rfl, rfl, fr⟩
        | 1, z => cases z; exact ⟨q, _, rfl, del_at, gq, hq, rfl, rfl, fq⟩
        | i + 2, z => cases z
      · match i, j with
        | 0, 0 => exact absurd rfl hij
        | 1, 1 => exact absurd rfl hij
        | 0, 1 => cases r1; intro z; cases z; exact ne rfl
        | 1, 0 => cases r1; intro z; cases z; exact ne rfl
        | i + 2, _ => cases q1
        | 0, j + 2 => cases q2
        | 1, j + 2 => cases q2
    have E0 : Ext G (del (del H p) q) G H := ⟨.refl _, old, sb, fun a o h => .inl h⟩
    refine h1 cdv A outer s H E p dx fv fs q dq gv gs hr tf tg (del (del H p) q) G G H _ _ E0 S0 ⟨fun ρ σ G' H' z => z.elim, fun d v G' H' z => z.elim, fun ρ σ G' H' z => z.elim, fun ρ σ G' H' z => z.elim, fun x ρ σ G' H' c a z => z.elim, fun d ρ v σ G' H' ⟨z, z0, z1⟩ e' S' rv => ?_, fun q ρ σ G' H' z => z.elim⟩
    subst z
    obtain ⟨p', o, a1, -, a3, a4, a5, a6, -⟩ := S'.slot 0 _ z0
    obtain ⟨q', o', b1, -, b3, b4, b5, b6, -⟩ := S'.slot 1 _ z1
    subst a5 b5 a6 b6
    refine qq v G' H' ⟨e'.gg, fun a o g => ?_, e'.gh, fun a o g => ?_⟩ rv
    · by_cases y1 : a = p'
      · rw [y1] at g ⊢; rw [hh] at g; cases g; exact a4
      · by_cases y2 : a = q'
        · rw [y2] at g ⊢; rw [hq] at g; cases g; exact b4
        · exact e'.hh a o (by rw [del_ne y2, del_ne y1]; exact g)
    · have y1 : a ≠ p' := fun y => by rw [y, a3] at g; cases g
      have y2 : a ≠ q' := fun y => by rw [y, b3] at g; cases g
      rcases e'.nw a o g with y | y
      · exact .inl y
      · rw [del_ne y2, del_ne y1] at y; exact .inr y
  · have S0 : Sat (del H p) G H [some (.ref p), some y] [SV.insX C p dx fv fs, .dat d] := by
      refine ⟨sb, rfl, fun i s' z => ?_, fun i j s' t pp hij q1 q2 o1 o2 r1 => ?_, del_sub⟩
      · match i, z with
        | 0, z => cases z; exact ⟨p, _, rfl, del_at, hg, hh, rfl, rfl, fr⟩
        | 1, z => cases z; exact ⟨y, rfl, rd⟩
        | i + 2, z => cases z
      · match i, j with
        | 0, 0 => exact absurd rfl hij
        | 1, _ => cases q1; cases o1
        | 0, 1 => cases q2; cases o2
        | i + 2, _ => cases q1
        | 0, j + 2 => cases q2
    have E0 : Ext G (del H p) G H := ⟨.refl _, del_sub, sb, fun a o h => .inl h⟩
    refine h2 cdv A outer s H E p dx fv fs d hr ty (del H p) G G H _ _ E0 S0 ⟨fun ρ σ G' H' ⟨z, z0⟩ e' S' => ?_, fun d v G' H' z => z.elim, fun ρ σ G' H' z => z.elim, fun ρ σ G' H' z => z.elim, fun x ρ σ G' H' c a ⟨z, z0⟩ e' S' ea => ?_, fun d ρ v σ G' H' ⟨z, z0⟩ e' S' rv => ?_, fun q ρ σ G' H' z => z.elim⟩
    · cases z
    · cases z
    · cases z
      exact qq v G' H' (back_pure hh e' S' z0).1 rv
end
end DD
namespace DD
open PySem PySem.Spec PyProof.Rows L2
open Mo (su mom Rw NN shr shfs pr oth)

/-! ### texts -/
def numS (i : Int) : Str := (toString i : String)
theorem numS_len {i : Int} (h : i.natAbs < 10 ^ 10) : (numS i).length ≤ 11 := by
  have := int_text_length_le10 (k := 10) (by decide) h
  show (Str.ofString (toString i)).length ≤ 11
  rw [PySem.ofString_length]
  exact this
theorem log_small {i : Int} (h : i.natAbs < 2 ^ 1900) : i.natAbs.log2 < 1920 := by
  by_cases z : i.natAbs = 0
  · rw [z]; decide
  · exact Nat.lt_of_lt_of_le ((Nat.log2_lt z).mpr h) (by decide)
section
variable {X : Cx} {ρ : En} {e a b c : Expr} {pos p apos : Pos} {i j : Int} {x y z : Str}
theorem de_strS (hm : X.mg "str" = none) (ha : DE X ρ e (.str x)) (hg : Gl X "str" := by rfl) (he : starEach [e] X.env = (false, eval e X.env) :: starEach [] X.env := by rfl) (hpl : (backTo pos (starEach ([] : List Expr) X.env)).any (·.1) = false := by rfl) : DE X ρ (.Call (.Name "str" p) [e] [] pos) (.str x) :=
  de_of (pe_callTy SkE.call_str_str hg hm (by decide +kernel) (pa_cons pe_D pa_nil he) (by decide) (by decide) he hpl) fun H₀ G H σ Q St q => ha H₀ G H σ _ St fun v G1 H1 e1 r1 => by
    cases r1
    exact ⟨x, rfl, (q.back e1).of e1.gh (.str x)⟩
theorem de_strI2 (hm : X.mg "str" = none) (ha : DE X ρ e (.int i)) (hi : i.natAbs < 2 ^ 1900) (hg : Gl X "str" := by rfl) (he : starEach [e] X.env = (false, eval e X.env) :: starEach [] X.env := by rfl) (hpl : (backTo pos (starEach ([] : List Expr) X.env)).any (·.1) = false := by rfl) : DE X ρ (.Call (.Name "str" p) [e] [] pos) (.str (numS i)) :=
  de_of (pe_callTy call_str_int hg hm (by decide +kernel) (pa_cons pe_D pa_nil he) (by decide) (by decide) he hpl) fun H₀ G H σ Q St q => ha H₀ G H σ _ St fun v G1 H1 e1 r1 => by
    cases r1
    exact ⟨i, rfl, log_small hi, (q.back e1).of e1.gh (.str _)⟩
theorem de_catS (ha : DE X ρ a (.str x)) (hb : DE X ρ b (.str y)) (hz : x.length + y.length ≤ sizeLine) : DE X ρ (.BinOp a .Add b pos) (.str (x ++ y)) :=
  de_of (pe_op op_add_str pe_D pe_D) fun H₀ G H σ Q S q => ha H₀ G H σ _ S fun v G1 H1 e1 r1 => hb H₀ G1 H1 σ _ (S.up e1) fun u G2 H2 e2 r2 => by
    cases r1; cases r2
    exact ⟨x, y, rfl, rfl, hz, (q.back (e1.trans e2)).of e2.gh (.str _)⟩
theorem de_join {ys : List Str} (ho : DE X ρ a (.str x)) (hb : DE X ρ e (.list (ys.map .str))) (hl : (ys.map (·.length)).sum + ys.length * x.length ≤ 16777216) (hs : starEach [e] X.env = [(false, eval e X.env)] := by rfl) (hbase : attributeBase a "join" X.env (eval a X.env) = eval a X.env := by rfl) (hline : (apos.endLine == pos.line) = true := by rfl) :
    DE X ρ (.Call (.Attribute a "join" apos) [e] [] pos) (.str (Txt.join x ys)) :=
  de_of (pe_join pe_D pe_D hs hbase hline) fun H₀ G H σ Q S q => ho H₀ G H σ _ S fun v G1 H1 e1 r1 => by
    cases r1
    refine ⟨⟨x, rfl⟩, hb H₀ G1 H1 σ _ (S.up e1) fun u G2 H2 e2 r2 => ?_⟩
    cases r2 with
    | @lst l xs _ h1 h2 =>
      have hxs : xs = ys.map V.str := by
        have key : ∀ {G : Hp} {ys : List Str} {xs : List V}, RpA G xs (ys.map PyData.str) → xs = ys.map V.str := by
          intro G ys
          induction ys with
          | nil => intro xs h; cases h; rfl
          | cons y ys ih => intro xs h; cases h with | cons r t => cases r; rw [ih t]; rfl
        exact key h2
      subst hxs
      exact ⟨x, l, ys, rfl, rfl, .inl (.of (e2.gh _ _ h1)), hl, (q.back (e1.trans e2)).of e2.gh (.str _)⟩
theorem pe_fmtI (ha : DE X ρ a (.int i)) (hi : i.natAbs < 2 ^ 1900) : DE X ρ (.FormattedValue a (-1) none pos) (.str (numS i)) :=
  de_of (pe_fmt pe_D) fun H₀ G H σ Q S q => ha H₀ G H σ _ S fun v G1 H1 e1 r1 => by
    cases r1
    exact .inr ⟨i, rfl, log_small hi, (q.back e1).of e1.gh (.str _)⟩
/-- f'..' of three parts -/
theorem de_f3 (ha : DE X ρ a (.str x)) (hb : DE X ρ b (.str y)) (hc : DE X ρ c (.str z)) (hl : (x ++ y ++ z).length ≤ sizeLine) : DE X ρ (.JoinedStr [a, b, c] pos) (.str (x ++ y ++ z)) := by
  have la : ∀ u v : Str, (u ++ v).length = u.length + v.length := fun u v => by
    show (u ++ v).cps.size = u.cps.size + v.cps.size
    rw [Str.cps_append, Array.size_append]
  rw [la, la] at hl
  exact de_of (pe_joined (.cons pe_D (.cons pe_D (.cons pe_D .nil)))) fun H₀ G H σ Q S q => ha H₀ G H σ _ S fun v G1 H1 e1 r1 => by
    cases r1
    refine ⟨x, rfl, by rw [Str.empty_append]; omega, hb H₀ G1 H1 σ _ (S.up e1) fun u G2 H2 e2 r2 => ?_⟩
    cases r2
    refine ⟨y, rfl, by rw [Str.empty_append, la]; omega, hc H₀ G2 H2 σ _ (S.up (e1.trans e2)) fun w G3 H3 e3 r3 => ?_⟩
    cases r3
    refine ⟨z, rfl, by rw [Str.empty_append, la, la]; omega, ?_⟩
    rw [Str.empty_append]
    exact (q.back ((e1.trans e2).trans e3)).of e3.gh (.str _)
end
theorem str_len_app (u v : Str) : (u ++ v).length = u.length + v.length := by
  show (u ++ v).cps.size = u.cps.size + v.cps.size
  rw [Str.cps_append, Array.size_append]
/-- the text of a fraction, of fractions -/
def wordF (f : Int × Int) : Str := numS f.1 ++ "/" ++ numS f.2
def textW (fs : Wts) : Str := Txt.join " " (fs.map wordF)
theorem wordF_len {f : Int × Int} (h : Frac f) : (wordF f).length ≤ 23 := by
  obtain ⟨h1, h2, h3, h4, -⟩ := h
  have a1 := numS_len (i := f.1) (by omega)
  have a2 := numS_len (i := f.2) (by omega)
  unfold wordF
  rw [str_len_app, str_len_app]
  have : ("/" : Str).length = 1 := by decide
  omega
theorem words_sum {fs : Wts} (h : ∀ f ∈ fs, Frac f) : ((fs.map wordF).map (·.length)).sum ≤ 23 * fs.length := by
  induction fs with
  | nil => exact Nat.le_refl _
  | cons f fs ih =>
    have := ih fun g hg => h g (List.mem_cons_of_mem _ hg)
    have := wordF_len (h f List.mem_cons_self)
    rw [List.map_cons, List.map_cons, List.sum_cons, List.length_cons]
    omega
def S_written (ds : List PyData) (o : Out) : Prop := ∃ fs : Wts, ds = [encL fs] ∧ (∀ f ∈ fs, Frac f) ∧ fs.length ≤ 8 ∧ o = .ret (.str (textW fs))

/-! ### tellers -/
def telF (last : Nat) (told : Wts) (kept : Int) : Flds := [("last", .int (last : Int)), ("told", encL told), ("kept", .int kept)]
/-- what a teller holds -/
structure TelOk (last : Nat) (told : Wts) : Prop where
  l1 : 1 ≤ last
  l6 : last ≤ 6
  tok : told = [] ∨ (AvOk last told ∧ cornersM last told ≠ [])
theorem TelOk.few {last : Nat} {told : Wts} (h : TelOk last told) : told.length ≤ last ∧ told.length ≤ 3 ∧ ∀ f ∈ told, Frac f := by
  rcases h.tok with e | ⟨a, -⟩
  · subst e; exact ⟨Nat.zero_le _, Nat.zero_le _, fun f hf => by cases hf⟩
  · exact ⟨a.2.1, a.2.2.1, a.2.2.2⟩
def loT (last : Nat) (told : Wts) : Int × Int := if told = [] then (0, 1) else loA last told (powL last (told.length + 1))
def hiT (last : Nat) (told : Wts) : Int × Int := if told = [] then ((last : Int), 1) else hiA last told (powL last (told.length + 1))
/-- a point mass -/
def pt (q : Int) : Int → Rat := fun p => if p = q then 1 else 0
theorem pt_mom {last : Nat} {q : Int} (hq : q ∈ Rw last) (k : Nat) : mom (Rw last) (pt q) k = (q : Rat) ^ k := by
  unfold Mo.mom
  rw [Mo.su_one (Mo.Rw_nodup last) hq (fun p _ hne => by unfold pt; rw [if_neg hne]; grind)]
  unfold pt
  rw [if_pos rfl]
  grind
theorem pt_nn (last : Nat) (q : Int) : NN (Rw last) (pt q) := fun p _ => by
  unfold pt
  split
  · decide
  · decide
theorem first_iff {last : Nat} (h1 : 1 ≤ last) {e : Int × Int} (he : 0 < e.2) : cornersM last [e] ≠ [] ↔ 0 ≤ qf e ∧ qf e ≤ ((last : Int) : Rat) := by
  have hp : ∀ f ∈ [e], 0 < f.2 := fun f hf => by rw [List.mem_singleton.mp hf]; exact he
  have m1 : mo [e] 1 = qf e := rfl
  have z0 : ((0 : Int) : Rat) = 0 := rfl
  constructor
  · intro h
    obtain ⟨c, hc⟩ := List.exists_mem_of_ne_nil _ h
    obtain ⟨w1, w2⟩ := corner_w (by exact h1) hp hc
    have a := w2 1 (Nat.le_refl _)
    have b := w2 0 (Nat.zero_le _)
    rw [mo_zero, Mo.mom_zero] at b
    rw [m1] at a
    rw [← a]
    have key : ∀ p ∈ Rw last, 0 ≤ (p : Rat) ∧ (p : Rat) ≤ ((last : Int) : Rat) := fun p hp => by
      have := Mo.mem_Rw.mp hp
      exact ⟨Mo.rat_nn.mpr this.1, rc_le.mpr this.2⟩
    constructor
    · exact Mo.su_nonneg fun p hp => by
        have := Rat.mul_nonneg (key p hp).1 (w1 p hp)
        grind
    · have : mom (Rw last) (wf c) 1 ≤ su (Rw last) fun p => ((last : Int) : Rat) * wf c p := Mo.su_le fun p hp => by
        have := Rat.mul_le_mul_of_nonneg_right (key p hp).2 (w1 p hp)
        grind
      rw [Mo.su_mul, b] at this
      grind
  · rintro ⟨a, b⟩
    obtain ⟨t, t0, t1, te⟩ := share_ex (x := 0) a b
    have r0 : (0 : Int) ∈ Rw last := Mo.mem_Rw.mpr (by omega)
    have rl : (last : Int) ∈ Rw last := Mo.mem_Rw.mpr (by omega)
    refine corners_ne (by exact h1) hp (nn_mix t0 t1 (pt_nn last 0) (pt_nn last (last : Int))) fun k hk => ?_
    rw [mom_mix, pt_mom r0, pt_mom rl]
    have hk : k ≤ 1 := hk
    rcases (show k = 0 ∨ k = 1 by omega) with e | e
    · subst e; rw [mo_zero]; grind
    · subst e; rw [m1, ← te]; grind
/-- what may be told next -/
theorem tell_iff {last : Nat} {told : Wts} (h : TelOk last told) (hf : told.length ≠ min last 3) {e : Int × Int} (he : 0 < e.2) : cornersM last (told ++ [e]) ≠ [] ↔ qf (loT last told) ≤ qf e ∧ qf e ≤ qf (hiT last told) := by
  rcases h.tok with z | ⟨a, hne⟩
  · subst z
    rw [List.nil_append, first_iff h.l1 he]
    unfold loT hiT
    rw [if_pos rfl, if_pos rfl, qf_zero, qf_int]
  · have hn : told ≠ [] := fun z => by have := a.1; rw [z] at this; cases this
    unfold loT hiT
    rw [if_neg hn, if_neg hn]
    exact next_iff (by have := a.2.1; have := a.2.2.1; omega) a.pos hne he
theorem telOk_snoc {last : Nat} {told : Wts} (h : TelOk last told) (hf : told.length ≠ min last 3) {e : Int × Int} (he : Frac e) (hc : cornersM last (told ++ [e]) ≠ []) : TelOk last (told ++ [e]) := by
  refine ⟨h.l1, h.l6, .inr ⟨?_, hc⟩⟩
  rcases h.tok with z | ⟨a, hne⟩
  · subst z
    exact ⟨by show 1 ≤ 1; decide, h.l1, by show 1 ≤ 3; decide, fun f hf => by rw [List.mem_singleton.mp hf]; exact he⟩
  · exact avOk_snoc a hf he
theorem avOk_told {last : Nat} {told : Wts} (h : TelOk last told) (hn : told ≠ []) : AvOk last told ∧ cornersM last told ≠ [] := h.tok.resolve_left hn
theorem bnd_T {last : Nat} {told : Wts} (h : TelOk last told) : Fz 1801 (loT last told) ∧ Fz 1801 (hiT last told) := by
  unfold loT hiT
  rcases h.tok with z | ⟨a, hne⟩
  · rw [if_pos z, if_pos z]
    have hl := h.l6
    exact ⟨(show Fz 3 ((0, 1) : Int × Int) from ⟨by decide, by decide, by decide⟩).up (by decide), (show Fz 3 (((last : Int), 1) : Int × Int) from ⟨by show (0 : Int) < 1; decide, by show ((last : Int)).natAbs < 8; omega, by show (1 : Int).natAbs < 8; decide⟩).up (by decide)⟩
  · have hn : told ≠ [] := fun z => by have := a.1; rw [z] at this; cases this
    rw [if_neg hn, if_neg hn]
    exact bnd_size h.l6 a (powL_len _ _) (powL_small h.l6 (by have := a.2.2.1; omega)) hne
/-- one average less -/
theorem telOk_init {last : Nat} {told : Wts} (h : TelOk last told) : TelOk last told.dropLast := by
  refine ⟨h.l1, h.l6, ?_⟩
  by_cases z : told.dropLast = []
  · exact .inl z
  · right
    have hn : told ≠ [] := fun y => z (by rw [y]; rfl)
    obtain ⟨a, hne⟩ := avOk_told h hn
    obtain ⟨l, e, rfl⟩ : ∃ l e, told = l ++ [e] := ⟨told.dropLast, told.getLast hn, (List.dropLast_concat_getLast hn).symm⟩
    rw [List.dropLast_concat] at z ⊢
    have hl : l.length ≠ 0 := fun y => z (List.length_eq_zero_iff.mp y)
    obtain ⟨a1, a2, a3, a4⟩ := a
    rw [List.length_append] at a1 a2 a3
    have a2 : l.length + 1 ≤ last := a2
    have a3 : l.length + 1 ≤ 3 := a3
    have hf : ∀ f ∈ l, Frac f := fun f hf => a4 f (List.mem_append_left _ hf)
    refine ⟨⟨by omega, by omega, by omega, hf⟩, ?_⟩
    obtain ⟨c, hc⟩ := List.exists_mem_of_ne_nil _ hne
    obtain ⟨w1, w2⟩ := corner_w (by rw [List.length_append]; exact a2) (fun f hf => (a4 f hf).lo.1) hc
    refine corners_ne (by omega) (fun f hf' => (hf f hf').lo.1) w1 fun k hk => ?_
    rw [w2 k (by rw [List.length_append]; show k ≤ l.length + 1; omega), (mo_snoc l e).1 k hk]
/-! what the methods do -/
def S_T_init (fs : Flds) (ds : List PyData) (o : Out) (fs' : Flds) : Prop := ∃ last : Nat, fs = [] ∧ ds = [.int (last : Int)] ∧ 1 ≤ last ∧ last ≤ 6 ∧ o = .ret .none ∧ fs' = telF last [] 0
def S_T_len (fs : Flds) (ds : List PyData) (o : Out) : Prop := ∃ (last : Nat) (told : Wts) (kept : Int), fs = telF last told kept ∧ ds = [] ∧ o = .ret (.int (told.length : Int))
def S_T_str (fs : Flds) (ds : List PyData) (o : Out) : Prop := ∃ (last : Nat) (told : Wts) (kept : Int), fs = telF last told kept ∧ ds = [] ∧ TelOk last told ∧ o = .ret (.str (if told = [] then "none" else textW told))
def S_T_averages (fs : Flds) (ds : List PyData) (o : Out) : Prop := ∃ (last : Nat) (told : Wts) (kept : Int), fs = telF last told kept ∧ ds = [] ∧ o = .ret (encL told)
def bndTO (CN : Addr) (last : Nat) (told : Wts) : Out := if told.length = min last 3 then .exc ⟨CN, none⟩ else .ret (encL [loT last told, hiT last told])
def S_T_bounds (CN : Addr) (fs : Flds) (ds : List PyData) (o : Out) : Prop := ∃ (last : Nat) (told : Wts) (kept : Int), fs = telF last told kept ∧ ds = [] ∧ TelOk last told ∧ o = bndTO CN last told
/-- telling: the outcome and what is told then -/
def tellO (CN CA CP : Addr) (last : Nat) (told : Wts) (d : PyData) : Out × Wts :=
  if told.length = min last 3 then (.exc ⟨CN, none⟩, told) else if isFr d = true then (if cornersM last (told ++ [frOf d]) = [] then (.exc ⟨CP, none⟩, told) else (.ret (.int ((cornersM last (told ++ [frOf d])).length : Int)), told ++ [frOf d])) else (.exc ⟨CA, none⟩, told)
def S_T_tell (CN CA CP : Addr) (fs : Flds) (ds : List PyData) (o : Out) (fs' : Flds) : Prop := ∃ (last : Nat) (told : Wts) (kept : Int) (d : PyData), fs = telF last told kept ∧ ds = [d] ∧ TelOk last told ∧ o = (tellO CN CA CP last told d).1 ∧ fs' = telF last (tellO CN CA CP last told d).2 kept
def undoO (CU : Addr) (told : Wts) (kept : Int) : Out × Wts := if (told.length : Int) ≤ kept then (.exc ⟨CU, none⟩, told) else (.ret (encF (told.getLast?.getD (0, 1))), told.dropLast)
def S_T_undo (CU : Addr) (fs : Flds) (ds : List PyData) (o : Out) (fs' : Flds) : Prop := ∃ (last : Nat) (told : Wts) (kept : Int), fs = telF last told kept ∧ ds = [] ∧ 0 ≤ kept ∧ o = (undoO CU told kept).1 ∧ fs' = telF last (undoO CU told kept).2 kept
def S_T_dup (fs fs' : Flds) : Prop := ∃ (last : Nat) (told : Wts) (kept : Int), fs = telF last told kept ∧ 1 ≤ last ∧ last ≤ 6 ∧ fs' = telF last told (told.length : Int)
def lastOf : Flds → Int
  | (_, .int l) :: _ => l
  | _ => 0
def toldOf : Flds → Wts
  | _ :: (_, .tuple ds) :: _ => ds.map frOf
  | _ => []
def eqT (fs gs : Flds) : Bool := decide (lastOf fs = lastOf gs) && decide (toldOf fs = toldOf gs)
def IsTel (fs : Flds) : Prop := ∃ (last : Nat) (told : Wts) (kept : Int), fs = telF last told kept
theorem eqT_tel {l l2 : Nat} {t t2 : Wts} {k k2 : Int} : eqT (telF l t k) (telF l2 t2 k2) = (decide ((l : Int) = (l2 : Int)) && decide (t = t2)) := by
  unfold eqT
  show (decide ((l : Int) = (l2 : Int)) && decide ((t.map encF).map frOf = (t2.map encF).map frOf)) = _
  rw [map_frOf, map_frOf]

/-! telling, as the laws ask -/
def tellR (last : Nat) (told : Wts) (d : PyData) : PyData × Wts :=
  if told.length = min last 3 then (.str "number", told) else if isFr d = true then (if cornersM last (told ++ [frOf d]) = [] then (.str "not", told) else (.int ((cornersM last (told ++ [frOf d])).length : Int), told ++ [frOf d])) else (.str "averages", told)
def undoR (told : Wts) (kept : Int) : PyData × Wts := if (told.length : Int) ≤ kept then (.str "nothing", told) else (encF (told.getLast?.getD (0, 1)), told.dropLast)
def bndR (last : Nat) (told : Wts) : PyData := if told.length = min last 3 then .str "number" else encL [loT last told, hiT last told]
def S__law_telling (fs : Flds) (ds : List PyData) (o : Out) (fs' : Flds) : Prop := ∃ (last : Nat) (told : Wts) (kept : Int) (d : PyData), fs = telF last told kept ∧ TelOk last told ∧ 0 ≤ kept ∧
  ((ds = [.int 0, d] ∧ o = .ret (tellR last told d).1 ∧ fs' = telF last (tellR last told d).2 kept) ∨ (ds = [.int 1, d] ∧ o = .ret (undoR told kept).1 ∧ fs' = telF last (undoR told kept).2 kept) ∨ (ds = [.int 2, d] ∧ o = .ret (bndR last told) ∧ fs' = telF last told kept))

/-! ### what the text says of the class -/
structure TelC (K : PySem.W.Frag) (mg : Str → Option Value) (C : Addr) : Prop where
  g : mg "Teller" = some (.ref C)
  i : InsK K C
  n1 : NoAttr K C "last"
  n2 : NoAttr K C "told"
  n3 : NoAttr K C "kept"
  ne : PySem.W.findIn K (.ref C) "__ne__" = some (some (.builtin "object.__ne__"))
  ns : PySem.W.notFirst K C (.type "str") = true
  nt : PySem.W.notFirst K C (.type "tuple") = true
  ks : PySem.W.kitOne K (.type "str") (.ref C) = some false
  kt : PySem.W.kitOne K (.type "tuple") (.ref C) = some false
section
variable {P : Program} {w : World} {K : PySem.W.Frag} {mg : Str → Option Value} {base : Heap} {k : Nat} {C f : Addr} {m name : Str} {fd : FuncData} {ps : List Str}
theorem me_in {sp : Sp} (h : FnOk P w K mg base (L2.CX P w) k f fd ps sp) (me : Meth K C m f) (b : Binds K fd ps []) : MeIn P w K mg base k C m sp := ⟨f, fd, ps, h, me, b⟩
theorem mk_in {S : Flds → List PyData → Out → Flds → Prop} (h : FnOk P w K mg base (L2.CX P w) k f fd ps (spMm C S)) (mk : Mk K C f) (b : Binds K fd ps []) : MkIn P w K mg base k C S := ⟨f, fd, ps, h, mk, b⟩
theorem fnmu_in {S : Flds → List PyData → Out → Flds → Prop} (h : FnOk P w K mg base (L2.CX P w) k f fd ps (spMm C S)) (hm : mg name = some (.ref f)) (hk : PySem.W.keepIn K (.ref f) = true) (b : Binds K fd ps []) : FnMu P w K mg base k name C S := ⟨f, fd, ps, h, hm, hk, b⟩
end
section
variable {last : Nat} {told t' : Wts} {kept k' : Int}
theorem lt_ : ¬ (("last" : Str) = "told") := by decide +kernel
theorem lk_ : ¬ (("last" : Str) = "kept") := by decide +kernel
theorem tk_ : ¬ (("told" : Str) = "kept") := by decide +kernel
theorem tel_last : (telF last told kept).lookup ("last" : Str) = some (.int (last : Int)) := by
  unfold telF
  rw [List.lookup_cons, show (("last" : Str) == "last") = true from by decide +kernel]
theorem tel_told : (telF last told kept).lookup ("told" : Str) = some (encL told) := by
  unfold telF
  rw [List.lookup_cons, show (("told" : Str) == "last") = false from by decide +kernel, List.lookup_cons, show (("told" : Str) == "told") = true from by decide +kernel]
theorem tel_kept : (telF last told kept).lookup ("kept" : Str) = some (.int kept) := by
  unfold telF
  rw [List.lookup_cons, show (("kept" : Str) == "last") = false from by decide +kernel, List.lookup_cons, show (("kept" : Str) == "told") = false from by decide +kernel, List.lookup_cons, show (("kept" : Str) == "kept") = true from by decide +kernel]
theorem tel_no {m : Str} (h1 : (m == ("last" : Str)) = false) (h2 : (m == ("told" : Str)) = false) (h3 : (m == ("kept" : Str)) = false) : (telF last told kept).lookup m = none := by
  unfold telF
  rw [List.lookup_cons, h1, List.lookup_cons, h2, List.lookup_cons, h3]
  rfl
theorem put_told : putG "told" (encL t') (telF last told kept) = telF last t' kept := by
  show (if ("last" : Str) = "told" then _ else (("last" : Str), PyData.int (last : Int)) :: (if ("told" : Str) = "told" then [(("told" : Str), encL t'), ("kept", PyData.int kept)] else _)) = _
  rw [if_neg lt_, if_pos rfl]
  rfl
theorem put_kept : putG "kept" (.int k') (telF last told kept) = telF last told k' := by
  show (if ("last" : Str) = "kept" then _ else (("last" : Str), PyData.int (last : Int)) :: (if ("told" : Str) = "kept" then _ else (("told" : Str), encL told) :: (if ("kept" : Str) = "kept" then [(("kept" : Str), PyData.int k')] else _))) = _
  rw [if_neg lk_, if_neg tk_, if_pos rfl]
  rfl
theorem put_init : putG "kept" (.int 0) (putG "told" (.tuple []) (putG "last" (.int (last : Int)) [])) = telF last [] 0 := by
  show putG "kept" (.int 0) (if ("last" : Str) = "told" then _ else [(("last" : Str), PyData.int (last : Int)), ("told", .tuple [])]) = _
  rw [if_neg lt_]
  show (if ("last" : Str) = "kept" then _ else (("last" : Str), PyData.int (last : Int)) :: (if ("told" : Str) = "kept" then _ else [(("told" : Str), PyData.tuple []), ("kept", .int 0)])) = _
  rw [if_neg lk_, if_neg tk_]
  rfl
theorem put_len {f : Str} {d : PyData} : ∀ {fs : Flds}, (putG f d fs).length ≤ fs.length + 1
  | [] => Nat.le_refl _
  | (g, x) :: r => by
    show (if g = f then (g, d) :: r else (g, x) :: putG f d r).length ≤ _
    split
    · exact Nat.le_succ _
    · exact Nat.succ_le_succ put_len
theorem tel_len : (telF last told kept).length < 1000 := by show 3 < 1000; decide
end
section
variable {X : Cx} {W : WX} {ρ : En} {P : Post}
/-- a clause of a def that changes an object -/
theorem ds_clauseO {a : Addr} {oe : Obj} {pn : List (Addr × Obj)} {D A B : Addr} {d : Option Addr} {x y z s1 s2 : Str} {k1 k2 : Nat} {i : Nat} {p1 p2 p3 p4 p5 p6 p7 p8 p9 p10 p11 p12 p13 p14 : Pos} (E : L2.ExcC X.K D) (hz : Zc (.ref D) d oe) (hd : d = none) (hv : ∃ vs, oe.data = .fields vs)
    (hm : X.mg "isinstance" = none) (hA : X.mg y = some (.ref A)) (hB : X.mg z = some (.ref B)) (rA : RelC X.K D A true) (rB : RelC X.K D B false) (hρ : ρ[i]? = some (.raw (.ref a))) (h : P.ro (.str s1) ρ)
    (hN : X.N[i]? = some x := by rfl) (hx : Vis X.env.scope x := by first | exact Or.inl rfl | exact Or.inr (Or.inl rfl) | exact Or.inr (Or.inr rfl))
    (hd1 : (x == ("__debug__" : Str)) = false := by decide) (hcd : (x == ("__classdict__" : Str)) = false := by decide) (hg : Gl X "isinstance" := by rfl) (hgy : Gl X y := by rfl) (hdy : (y == ("__debug__" : Str)) = false := by decide) (hgz : Gl X z := by rfl) (hdz : (z == ("__debug__" : Str)) = false := by decide)
    (e1 : starEach [.Name x p2, .Name y p3] X.env = (false, eval (.Name x p2) X.env) :: starEach [.Name y p3] X.env := by rfl) (e2 : starEach [.Name y p3] X.env = (false, eval (.Name y p3) X.env) :: starEach [] X.env := by rfl) (e3 : (backTo p4 (starEach [.Name y p3] X.env)).any (·.1) = false := by rfl)
    (e4 : starEach [.Name x p6, .Name z p7] X.env = (false, eval (.Name x p6) X.env) :: starEach [.Name z p7] X.env := by rfl) (e5 : starEach [.Name z p7] X.env = (false, eval (.Name z p7) X.env) :: starEach [] X.env := by rfl) (e6 : (backTo p8 (starEach [.Name z p7] X.env)).any (·.1) = false := by rfl) :
    DS (X.suite a ((a, oe) :: pn)) W ρ [.Return (some (.IfExp (.BoolOp .And [.Call (.Name "isinstance" p1) [.Name x p2, .Name y p3] [] p4, .UnaryOp .Not (.Call (.Name "isinstance" p5) [.Name x p6, .Name z p7] [] p8) p9] p10) (.Constant (.str s1) k1 p11) (.Constant (.str s2) k2 p12) p13)) p14] P := by
  subst hd
  have t1 := de_isE (p := p1) (p1 := p2) (p2 := p3) (pos := p4) (pn := pn) E hz hv hρ hm hA ⟨A, rfl⟩ rA.ki hN hx hd1 hcd hg hgy hdy e1 e2 e3
  have t2 := de_isE (p := p5) (p1 := p6) (p2 := p7) (pos := p8) (pn := pn) E hz hv hρ hm hB ⟨B, rfl⟩ rB.ki hN hx hd1 hcd hg hgz hdz e4 e5 e6
  exact ds_retO (de_ifT (k := true) (dt_w (dw_andT (dt_val t1) (dw_and1 (k := true) (dt_not (dt_val t2))))) de_str) h
end
end DD
namespace DD
open PySem PySem.Spec PyProof.Rows L2
section
variable {X : Cx} {W : WX} {ρ ρ' : En} {e a b c tg iter : Expr} {es : List Expr} {d : PyData} {o : Out} {pos : Pos} {P : Post} {rest body orelse : List Stmt} {T S : Type} {C p : Addr} {fs gs : Flds} {i j : Nat} {x y z : Str}
/-- if: both ways meet -/
theorem ds_ifJ (J : En → Prop) (k : Bool) (hc : DT X ρ c k) (h1 : k = true → DS X W ρ body { P with nx := J }) (h2 : k = false → DS X W ρ orelse { P with nx := J }) (h3 : ∀ ρ, J ρ → DS X W ρ rest P) : DS X W ρ (.If c body orelse pos :: rest) P :=
  ds_cons (ps_if pt_T pss_S pss_S) fun H₀ G₀ G H σ D E S p => hc H₀ G H σ _ S fun G1 H1 e1 => by
    cases k with
    | true => exact h1 rfl H₀ G₀ G1 H1 σ _ (E.step e1) (S.up e1) (p.seq h3)
    | false => exact h2 rfl H₀ G₀ G1 H1 σ _ (E.step e1) (S.up e1) (p.seq h3)
/-- .. the test may change slots -/
theorem ds_ifJU (J : En → Prop) (k : Bool) (hc : DTU X ρ c k ρ') (h1 : k = true → DS X W ρ' body { P with nx := J }) (h2 : k = false → DS X W ρ' orelse { P with nx := J }) (h3 : ∀ ρ, J ρ → DS X W ρ rest P) : DS X W ρ (.If c body orelse pos :: rest) P :=
  ds_cons (ps_if pt_T pss_S pss_S) fun H₀ G₀ G H σ D E S p => hc.run H₀ G₀ G H σ _ E S fun G1 H1 e1 S1 => by
    cases k with
    | true => exact h1 rfl H₀ G₀ G1 H1 σ _ e1 S1 (p.seq h3)
    | false => exact h2 rfl H₀ G₀ G1 H1 σ _ e1 S1 (p.seq h3)
/-- a loop that carries a state -/
theorem ds_forS (xs : List T) (enc : T → PyData) (I : S → Prop) (env : S → En) (ρ2 : S → T → En) (s0 : S) (hi : DI X ρ tg iter (xs.map enc)) (h0 : Weak ρ (env s0)) (i0 : I s0)
    (hg : ∀ s x, x ∈ xs → DG X tg (enc x) (env s) (ρ2 s x))
    (hb : ∀ s x, x ∈ xs → I s → DS X W (ρ2 s x) body { P with nx := fun ρ => ∃ s', I s' ∧ ρ = env s', ct := fun ρ => ∃ s', I s' ∧ ρ = env s', bk := fun ρ => DS X W ρ rest P })
    (hd : ∀ s, I s → DS X W (env s) rest P) (hc : X.calm = true := by rfl) (hp : PassesOwn (model X.prog X.w) X.A X.env X.xe := by first | exact PassesOwn.never | exact passes_of rfl)
    (hs : ∀ x, foldedSetIterable iter X.env x = pure x := by intro _; rfl) : DS X W ρ (.For tg iter body [] pos :: rest) P := by
  refine ds_for (fun _ ρ' => ∃ s, I s ∧ Weak ρ' (env s)) hi ⟨s0, i0, h0⟩ (fun i d ρ' hd' ⟨s, hI, w⟩ => ?_) (fun ρ' ⟨s, hI, w⟩ => ds_weak (hd s hI) w) hc hp hs
  rw [List.getElem?_map] at hd'
  cases hx : xs[i]? with
  | none => rw [hx] at hd'; cases hd'
  | some x =>
    rw [hx] at hd'
    have ed : enc x = d := Option.some.inj hd'
    subst ed
    have hm : x ∈ xs := List.mem_of_getElem? hx
    refine ⟨ρ2 s x, .mk fun H₀ G H σ v Q S r q => hg s x hm H₀ G H σ v Q (S.weak w) r q, ?_⟩
    have b := hb s x hm hI
    refine .mk fun H₀ G₀ G H σ D E S p => ?_
    refine b H₀ G₀ G H σ D E S ⟨fun ρ5 σ5 G5 H5 ⟨s', qI, q⟩ E5 S5 => ?_, p.rt, p.bk, fun ρ5 σ5 G5 H5 ⟨s', qI, q⟩ E5 S5 => ?_, p.ex, p.ro, p.rq⟩
    · exact p.nx ρ5 σ5 G5 H5 ⟨s', qI, by rw [q]; exact Weak.refl _⟩ E5 S5
    · exact p.ct ρ5 σ5 G5 H5 ⟨s', qI, by rw [q]; exact Weak.refl _⟩ E5 S5
/-- an own instance gets another name: the slot moves -/
theorem Sat.move {H₀ G H : Hp} {σ : L2.St} (h : Sat H₀ G H σ ρ) (hij : i ≠ j) (hi : ρ[i]? = some (SV.ins C p fs)) (hj : j < ρ.length) : Sat H₀ G H (σ.set j (some (.ref p))) ((ρ.set i (.raw (.ref p))).set j (SV.ins C p fs)) := by
  have hs := h.slot i _ hi
  obtain ⟨e1, h0, hg, dx, fv, hh, fr⟩ := isIns.at_ _ _ _ _ hs
  have hl : i < ρ.length := (List.getElem?_eq_some_iff.mp hi).1
  have hlen := h.len
  -- what an own slot of the new row was
  have back : ∀ {k : Nat} {t : SV}, ((ρ.set i (.raw (.ref p))).set j (SV.ins C p fs))[k]? = some t → t.isOwn = true → (k = j ∧ t = SV.ins C p fs) ∨ (k ≠ j ∧ k ≠ i ∧ ρ[k]? = some t) := by
    intro k t q o
    by_cases e : j = k
    · subst e
      rw [List.getElem?_set_self (by rw [List.length_set]; exact hj)] at q
      cases q
      exact .inl ⟨rfl, rfl⟩
    · rw [List.getElem?_set_ne e] at q
      by_cases e2 : i = k
      · subst e2
        rw [List.getElem?_set_self hl] at q
        cases q
        cases o
      · rw [List.getElem?_set_ne e2] at q
        exact .inr ⟨fun z => e z.symm, fun z => e2 z.symm, q⟩
  refine ⟨h.sub, by rw [List.length_set, List.length_set, List.length_set, h.len], fun k t q => ?_, fun k l t u pp hkl q1 q2 o1 o2 r1 r2 => ?_, h.old⟩
  · by_cases e : j = k
    · subst e
      rw [List.getElem?_set_self (by rw [List.length_set]; exact hj)] at q
      cases q
      rw [List.getElem?_set_self (by omega)]
      rw [e1] at hs
      exact hs
    · rw [List.getElem?_set_ne e] at q ⊢
      by_cases e2 : i = k
      · subst e2
        rw [List.getElem?_set_self hl] at q
        cases q
        exact e1
      · rw [List.getElem?_set_ne e2] at q
        exact h.slot k t q
  · rcases back q1 o1 with ⟨a1, a2⟩ | ⟨a1, a2, a3⟩
    · rcases back q2 o2 with ⟨b1, b2⟩ | ⟨b1, b2, b3⟩
      · exact hkl (by rw [a1, b1])
      · subst a1
        rw [List.getElem?_set_self (by omega)] at r1
        cases r1
        rw [List.getElem?_set_ne (Ne.symm b1)] at r2
        exact h.apart i l _ _ p (Ne.symm b2) hi b3 rfl o2 e1 r2
    · rw [List.getElem?_set_ne (Ne.symm a1)] at r1
      rcases back q2 o2 with ⟨b1, b2⟩ | ⟨b1, b2, b3⟩
      · subst b1
        rw [List.getElem?_set_self (by omega)] at r2
        cases r2
        exact h.apart i k _ _ p (Ne.symm a2) hi a3 rfl o1 e1 r1
      · rw [List.getElem?_set_ne (Ne.symm b1)] at r2
        exact h.apart k l _ _ pp hkl a3 b3 o1 o2 r1 r2
theorem ds_move (i j : Nat) {p2 px : Pos} (hij : i ≠ j) (hρ : ρ[i]? = some (SV.ins C p fs)) (hl : j < ρ.length) (h : DS X W ((ρ.set i (.raw (.ref p))).set j (SV.ins C p fs)) rest P) (hN : X.N.Nodup) (hi : X.N[j]? = some x := by rfl) (hx : Loc X.env.scope x := by first | exact Or.inl rfl | exact Or.inr rfl)
    (hNy : X.N[i]? = some y := by rfl) (hv : Vis X.env.scope y := by first | exact Or.inl rfl | exact Or.inr (Or.inl rfl) | exact Or.inr (Or.inr rfl)) (hd : (y == ("__debug__" : Str)) = false := by decide) (hcd : (y == ("__classdict__" : Str)) = false := by decide)
    (hs : swapsWith (.Name y px) (some (.Name x p2)) pos.line X.env = pure false := by rfl) (hf : X.fn x = true ∨ X.env.scope.names.lookup x = some .local := by first | exact .inl rfl | exact .inr rfl) :
    DS X W ρ (.Assign [.Name x p2] (.Name y px) pos :: rest) P :=
  ds_cons (ps_set hN hi hx (pe_var hNy hv hd hcd) hs hf) fun H₀ G₀ G H σ D E S p' =>
    ⟨_, refS hρ isIns _ _ _ _ S, h H₀ G₀ G H _ D E (S.move hij hρ hl) p'⟩
/-- x, y = two new instances -/
theorem ds_parN (i j : Nat) {px py pt : Pos} {kt k2 pt2} (h1 : DNi X ρ a C fs) (h2 : DNi X ρ b C gs) (h : ∀ p q, DS X W ((ρ.set i (SV.ins C p fs)).set j (SV.ins C q gs)) rest P) (hN : X.N.Nodup) (hc : X.calm = true := by rfl) (hi : X.N[i]? = some x := by rfl) (hj : X.N[j]? = some y := by rfl) (hij : i ≠ j := by decide)
    (hx : X.env.scope.names.lookup x = some .local := by rfl) (hy : X.env.scope.names.lookup y = some .local := by rfl)
    (hw : swappedStores [.Tuple [.Name x px, .Name y py] kt pt] (.Tuple [a, b] k2 pt2) X.env = pure (some [x, y]) := by rfl)
    (hs : swapsWithSole [.Tuple [.Name x px, .Name y py] kt pt] (.Tuple [a, b] k2 pt2) pos.line X.env = pure false := by rfl)
    (he : starEach [a, b] X.env = (false, eval a X.env) :: starEach [b] X.env := by rfl) (he2 : starEach [b] X.env = (false, eval b X.env) :: starEach [] X.env := by rfl) :
    DS X W ρ (.Assign [.Tuple [.Name x px, .Name y py] kt pt] (.Tuple [a, b] k2 pt2) pos :: rest) P :=
  ds_cons (ps_par hc hN hi hj hij hx hy (pa_cons pe_D (pa_cons pe_D pa_nil he2) he) hw hs) fun H₀ G₀ G H σ D E S p' =>
    h1.run H₀ G H σ _ S fun p G1 H1 e1 np gp ⟨dx, fv, hh, fr⟩ => h2.run H₀ G1 H1 σ _ (S.up e1) fun q G2 H2 e2 nq gq ⟨dy, gv, hh2, fr2⟩ => by
      have E1 := E.step e1
      have S1 := (S.up e1).set (i := i) (s := SV.ins C p fs) ⟨p, _, rfl, free_back E.hh np, gp, hh, rfl, dx, fv, rfl, fr⟩ (fun _ j t hj ht ho => S.fresh np ht ho)
      have S2 := (S1.up e2).set (i := j) (s := SV.ins C q gs) ⟨q, _, rfl, free_back E1.hh nq, gq, hh2, rfl, dy, gv, rfl, fr2⟩ (fun _ j t hj ht ho => S1.fresh nq ht ho)
      exact ⟨_, _, rfl, h p q H₀ G₀ G2 H2 _ D (E1.step e2) S2 p'⟩
/-- isinstance(e, a builtin class), e the exception that the suite holds -/
theorem de_isEB {ad : Addr} {oe : Obj} {pn : List (Addr × Obj)} {D : Addr} {T : String} {k : Bool} {p1 p2 pn2 : Pos} (Cc : L2.ExcC X.K D) (hz : Zc (.ref D) none oe) (hv : ∃ vs, oe.data = .fields vs) (hρ : ρ[i]? = some (.raw (.ref ad)))
    (hm : X.mg "isinstance" = none) (hmT : X.mg (Str.ofString T) = none) (hT : bootBuiltins (Str.ofString T) = some (.type T)) (hk : PySem.W.kitOne X.K (.ref D) (.type T) = some k) (hN : X.N[i]? = some x := by rfl) (hx : Vis X.env.scope x := by first | exact Or.inl rfl | exact Or.inr (Or.inl rfl) | exact Or.inr (Or.inr rfl))
    (hd : (x == ("__debug__" : Str)) = false := by decide) (hcd : (x == ("__classdict__" : Str)) = false := by decide) (hg : Gl X "isinstance" := by rfl) (hgT : Gl X (Str.ofString T) := by rfl) (hn : Str.ofString T ≠ "__name__" := by decide) (hdT : (Str.ofString T == ("__debug__" : Str)) = false := by decide)
    (he : starEach [.Name x p1, .Name (Str.ofString T) p2] X.env = (false, eval (.Name x p1) X.env) :: starEach [.Name (Str.ofString T) p2] X.env := by rfl) (he2 : starEach [.Name (Str.ofString T) p2] X.env = (false, eval (.Name (Str.ofString T) p2) X.env) :: starEach [] X.env := by rfl) (hpl : (backTo pos (starEach [.Name (Str.ofString T) p2] X.env)).any (·.1) = false := by rfl) :
    DE (X.suite ad ((ad, oe) :: pn)) ρ (.Call (.Name "isinstance" pn2) [.Name x p1, .Name (Str.ofString T) p2] [] pos) (.bool k) :=
  de_of (pe_callB (X := X.suite ad ((ad, oe) :: pn)) (call_isE Cc hz hv) hg hm (by decide +kernel) (pa_cons (pe_var hN hx hd hcd) (pa_cons (pe_bltn hgT hmT hT (v := .ty T) rfl hn hdT) pa_nil he2) he) (by decide) (by decide) he hpl) fun H₀ G H σ Q S q =>
    ⟨_, S.slot i _ hρ, .ty T, .type T, k, rfl, fun u hu => hu, hk, q.of S.sub (.bl k)⟩
end
/-! texts that are laid -/
theorem strOk_iff {x : Str} : PyData.strOk x = true ↔ ∀ c ∈ x.cps.toList, c < 0x110000 := by
  unfold PyData.strOk
  rw [Array.all_eq_true_iff_forall_mem]
  constructor
  · intro h c hc; exact of_decide_eq_true (h c (Array.mem_toList_iff.mp hc))
  · intro h c hc; exact decide_eq_true (h c (Array.mem_toList_iff.mpr hc))
theorem strOk_of (s : String) : PyData.strOk (Str.ofString s) = true := strOk_iff.mpr fun c hc => by
  rw [PyProof.Rows.signs_ofString s] at hc
  obtain ⟨ch, -, rfl⟩ := List.mem_map.mp hc
  have := ch.valid
  show ch.val.toNat < _
  rcases this with h | h
  · exact Nat.lt_trans h (by decide)
  · exact h.2
theorem strOk_app {x y : Str} (h1 : PyData.strOk x = true) (h2 : PyData.strOk y = true) : PyData.strOk (x ++ y) = true := strOk_iff.mpr fun c hc => by
  rw [show (x ++ y).cps.toList = x.cps.toList ++ y.cps.toList by rw [Str.cps_append, Array.toList_append]] at hc
  rcases List.mem_append.mp hc with h | h
  · exact strOk_iff.mp h1 c h
  · exact strOk_iff.mp h2 c h
theorem strOk_join {z : Str} (hz : PyData.strOk z = true) {ys : List Str} (h : ∀ y ∈ ys, PyData.strOk y = true) : PyData.strOk (Str.join z ys) = true := by
  have key : ∀ {l : List (List Nat)}, (∀ u ∈ l, ∀ c ∈ u, c < 0x110000) → ∀ c ∈ TL.joinL z.cps.toList l, c < 0x110000 := by
    intro l
    induction l with
    | nil => intro _ c hc; cases hc
    | cons u l ih =>
      intro h c hc
      cases l with
      | nil => exact h u List.mem_cons_self c hc
      | cons v l =>
        have hc : c ∈ u ++ (z.cps.toList ++ TL.joinL z.cps.toList (v :: l)) := hc
        rcases List.mem_append.mp hc with q | q
        · exact h u List.mem_cons_self c q
        · rcases List.mem_append.mp q with q | q
          · exact strOk_iff.mp hz c q
          · exact ih (fun w hw => h w (List.mem_cons_of_mem _ hw)) c q
  refine strOk_iff.mpr fun c hc => ?_
  rw [show (Str.join z ys).cps.toList = TL.joinL z.cps.toList (ys.map TL.tl) from TL.tl_join z ys] at hc
  refine key (fun u hu => ?_) c hc
  obtain ⟨y, hy, rfl⟩ := List.mem_map.mp hu
  exact strOk_iff.mp (h y hy)
theorem strOk_wordF (f : Int × Int) : PyData.strOk (wordF f) = true := strOk_app (strOk_app (strOk_of _) (by decide +kernel)) (strOk_of _)
theorem strOk_textW (fs : Wts) : PyData.strOk (textW fs) = true := by
  unfold textW
  show PyData.strOk (Builtin.Str.glued _ _) = true
  rw [StrLaws.glued_eq_join]
  exact strOk_join (by decide +kernel) fun y hy => by
    obtain ⟨f, -, rfl⟩ := List.mem_map.mp hy
    exact strOk_wordF f
theorem ne_str (s : Str) : (!PyData.eqv (.str s) (.str s)) = false := by
  show (!(s == s)) = false
  simp
theorem ne_int (i : Int) : (!PyData.eqv (.int i) (.int i)) = false := by rw [eqv_self eq_int] <;> rfl
theorem ne_F (f : Int × Int) : (!PyData.eqv (encF f) (encF f)) = false := by rw [eqv_self eq_encF] <;> rfl
theorem sh_str {n : Nat} {s : Str} (h : PyData.strOk s = true) : Sh n (.str s) := ⟨h, Nat.zero_le _⟩
/-- what telling answers: equal to itself, laid -/
structure Ans (d : PyData) : Prop where
  ne : (!PyData.eqv d d) = false
  sh : SeqAt.shaped d = true
theorem ans_str {s : Str} (h : PyData.strOk s = true := by decide +kernel) : Ans (.str s) := ⟨ne_str s, (sh_str (n := 0) h).shaped⟩
theorem ans_int (i : Int) : Ans (.int i) := ⟨ne_int i, (sh_int (n := 0)).shaped⟩
theorem ans_F (f : Int × Int) : Ans (encF f) := ⟨ne_F f, sh_F.shaped⟩
theorem ans_L (fs : Wts) : Ans (encL fs) := ⟨ne_selfL fs, sh_L.shaped⟩
theorem ans_tell (last : Nat) (told : Wts) (d : PyData) : Ans (tellR last told d).1 := by
  unfold tellR
  split
  · exact ans_str
  · split
    · split
      · exact ans_str
      · exact ans_int _
    · exact ans_str
theorem ans_undo (told : Wts) (kept : Int) : Ans (undoR told kept).1 := by
  unfold undoR
  split
  · exact ans_str
  · exact ans_F _
theorem ans_bnd (last : Nat) (told : Wts) : Ans (bndR last told) := by
  unfold bndR
  split
  · exact ans_str
  · exact ans_L _
theorem undo0 (told : Wts) : undoR told 0 = if told = [] then (.str "nothing", []) else (encF (told.getLast?.getD (0, 1)), told.dropLast) := by
  unfold undoR
  cases told with
  | nil => rfl
  | cons a b => rw [if_neg (by rw [List.length_cons]; omega), if_neg (by simp)]
theorem undo0_2 (told : Wts) : (undoR told 0).2 = told.dropLast := by
  rw [undo0]
  split
  · rename_i h; rw [h]; rfl
  · rfl
theorem emp_cmp {l : Wts} : PyData.eqv (encL l) (.tuple []) = decide (l = []) := eq_encL l []
theorem low_frac {a b : Int} (hb : 0 < b) (h1 : a.natAbs ≤ 99998) (h2 : b ≤ 99998) : Frac (lowM a b) := by
  rw [lowM_pos hb]
  have l := redM_lo (a := a) hb
  have e1 : (redM a b).1.natAbs ≤ a.natAbs := Int.natAbs_ediv_le_natAbs _ _
  have e2 : (redM a b).2.natAbs ≤ b.natAbs := Int.natAbs_ediv_le_natAbs _ _
  exact frac_small l (by omega) (by have := l.1; omega)
/-- not fractions -/
def oddsD : List PyData := [.none, .tuple [.int 2, .int 4], .tuple [.int 1, .int 0], .int 1, .list [.int 1, .int 2]]
theorem odds_no {i : Int} (h0 : 0 ≤ i) (h1 : i < 5) : ∃ d, atI oddsD i = some d ∧ isFr d = false := by
  rcases (show i = 0 ∨ i = 1 ∨ i = 2 ∨ i = 3 ∨ i = 4 by omega) with e | e | e | e | e <;> subst e
  · exact ⟨_, rfl, by decide⟩
  · exact ⟨_, rfl, by decide⟩
  · exact ⟨_, rfl, by decide⟩
  · exact ⟨_, rfl, by decide⟩
  · exact ⟨_, rfl, by decide⟩
theorem kit_mk {K : PySem.W.Frag} {C : Addr} {T : String} {b : Bool} (hd : PySem.W.hasDictIn K C = true) (ht : PySem.W.typeIn K (.ref C) = some (.type "type")) (h4 : PySem.W.subIn K (.type T) (.ref C) = some b) : PySem.W.kitOne K (.type T) (.ref C) = some b := by
  unfold PySem.W.kitOne
  rw [if_neg (by simp)]
  show (if ((PySem.W.clsIn K C).isSome && PySem.W.typeIn K (.ref C) == some (.type "type")) = true then PySem.W.subIn K (.type T) (.ref C) else none) = some b
  rw [if_pos]
  · exact h4
  · unfold PySem.W.hasDictIn at hd
    rw [ht]
    cases q : PySem.W.clsIn K C with
    | none => rw [q] at hd; cases hd
    | some cd => rfl
theorem kit_valueError {K : PySem.W.Frag} {D : Addr} {b : Bool} (h4 : PySem.W.subIn K (.ref D) (.type "ValueError") = some b) : PySem.W.kitOne K (.ref D) (.type "ValueError") = some b := by
  unfold PySem.W.kitOne
  rw [if_neg (by simp)]
  show (if PySem.W.kitMeta "ValueError" = true then PySem.W.subIn K (.ref D) (.type "ValueError") else none) = some b
  rw [if_pos (by decide +kernel)]
  exact h4
end DD
namespace DD
open PySem PySem.Spec PyProof.Rows L2
open Mo (su mom Rw NN shr shfs pr oth)
section
variable {X : Cx} {k : Nat} {C : Addr} {T : Flds → Prop} {R : Flds → Flds → Bool}
theorem op_eqM (F : MeIn X.prog X.w X.K X.mg X.base k C "__eq__" (spEq C T R)) (hr : Room (k + 1) X.A) : OpR X (compareOp .Eq) (rEqI X C (spEq C T R) false) := by
  obtain ⟨f, fd, ps, F, hme, hb⟩ := F
  exact op_eqI F hme hr hb
theorem op_neM (F : MeIn X.prog X.w X.K X.mg X.base k C "__eq__" (spEq C T R)) (hr : Room (k + 1) X.A) (hne : PySem.W.findIn X.K (.ref C) "__ne__" = some (some (.builtin "object.__ne__"))) (hmo : PySem.W.mroIn X.K C (.type "object") = some true) : OpR X (compareOp .NotEq) (rEqI X C (spEq C T R) true) := by
  obtain ⟨f, fd, ps, F, hme, hb⟩ := F
  exact op_neI F hme hne hmo hr hb
end
theorem mo_left (l r : Wts) : ∀ k, k ≤ l.length → mo (l ++ r) k = mo l k := fun k hk => by
  unfold mo
  by_cases q : k = 0
  · rw [if_pos q, if_pos q]
  · rw [if_neg q, if_neg q, List.getD_eq_getElem?_getD, List.getD_eq_getElem?_getD, List.getElem?_append_left (by omega)]
/-- what is told of weights can be told -/
theorem pre_corners {last many : Nat} {ws l r : Wts} (hw : WtOk last ws) (e : avsM last ws many = l ++ r) (hl : many ≤ last) : cornersM last l ≠ [] := by
  have hd : ∀ f ∈ ws, 0 < f.2 := fun f hf => (hw.2.1 f hf).1.lo.1
  have hlen : l.length + r.length = many := by rw [← avsM_len last ws many, e, List.length_append]
  refine corners_ne (by omega) (fun f hf => (avsM_lo hw.1 hd f (by rw [e]; exact List.mem_append_left _ hf)).1) (wtOk_nn hw).1 fun k hk => ?_
  rw [← mo_left l r k hk, ← e]
  exact (mo_avs hw.1 hd hw.2.2 k (by omega)).symm
theorem pow_sm : ∀ k, k ≤ 3 → ∀ p : Nat, p ≤ 6 → p ^ k ≤ 216 := by
  intro k hk p hp
  have : ∀ k < 4, ∀ p < 7, p ^ k ≤ 216 := by decide
  exact this k (by omega) p (by omega)
/-- an average that can be told is neither less than nought nor large -/
theorem told_range {last : Nat} {told : Wts} {e : Int × Int} (h6 : last ≤ 6) (hl : told.length + 1 ≤ last) (h3 : told.length + 1 ≤ 3) (ha : ∀ f ∈ told, 0 < f.2) (he : 0 < e.2) (hc : cornersM last (told ++ [e]) ≠ []) : 0 ≤ qf e ∧ qf e ≤ ((216 : Int) : Rat) := by
  obtain ⟨c, hc⟩ := List.exists_mem_of_ne_nil _ hc
  have hpos : ∀ f ∈ told ++ [e], 0 < f.2 := fun f hf => by
    rcases List.mem_append.mp hf with q | q
    · exact ha f q
    · rw [List.mem_singleton.mp q]; exact he
  have hln : (told ++ [e]).length = told.length + 1 := by rw [List.length_append]; rfl
  obtain ⟨w1, w2⟩ := corner_w (by rw [hln]; exact hl) hpos hc
  have a := w2 (told.length + 1) (by rw [hln]; exact Nat.le_refl _)
  have b := w2 0 (Nat.zero_le _)
  rw [mo_zero, Mo.mom_zero] at b
  rw [(mo_snoc told e).2] at a
  rw [← a]
  have key : ∀ p ∈ Rw last, 0 ≤ (p : Rat) ^ (told.length + 1) ∧ (p : Rat) ^ (told.length + 1) ≤ ((216 : Int) : Rat) := fun p hp => by
    have hb := Mo.mem_Rw.mp hp
    rw [← rc_pow]
    have e1 : p = ((p.toNat : Nat) : Int) := by omega
    have e2 : p ^ (told.length + 1) = ((p.toNat ^ (told.length + 1) : Nat) : Int) := by rw [Int.natCast_pow, ← e1]
    have e3 := pow_sm (told.length + 1) h3 p.toNat (by omega)
    rw [e2]
    exact ⟨Mo.rat_nn.mpr (by omega), rc_le.mpr (by omega)⟩
  constructor
  · exact Mo.su_nonneg fun p hp => by
      have := Rat.mul_nonneg (key p hp).1 (w1 p hp)
      grind
  · have : mom (Rw last) (wf c) (told.length + 1) ≤ su (Rw last) fun p => ((216 : Int) : Rat) * wf c p := Mo.su_le fun p hp => by
      have := Rat.mul_le_mul_of_nonneg_right (key p hp).2 (w1 p hp)
      grind
    rw [Mo.su_mul, b] at this
    grind
theorem not_told {last : Nat} {told : Wts} (h : TelOk last told) (hf : told.length ≠ min last 3) {i : Int} (hi : i < 0 ∨ 216 < i) : cornersM last (told ++ [(i, 1)]) = [] := by
  cases q : cornersM last (told ++ [(i, 1)]) with
  | nil => rfl
  | cons a b =>
    obtain ⟨t1, t2, t3⟩ := h.few
    obtain ⟨r1, r2⟩ := told_range (e := (i, 1)) h.l6 (by omega) (by omega) (fun f hf => (t3 f hf).lo.1) (show (0 : Int) < 1 by decide) (by rw [q]; simp)
    rw [qf_int] at r1 r2
    have r1 := Mo.rat_nn.mp r1
    have r2 := rc_le.mp r2
    omega
/-- telling that fails: one of three classes, nothing is told -/
theorem tell_fails {CN CA CP : Addr} {last : Nat} {told : Wts} (kept : Int) (h : TelOk last told) (d : PyData) (hd : told.length ≠ min last 3 → isFr d = true → cornersM last (told ++ [frOf d]) = []) :
    ∃ D, (D = CN ∨ D = CA ∨ D = CP) ∧ S_T_tell CN CA CP (telF last told kept) [d] (.exc ⟨D, none⟩) (telF last told kept) := by
  by_cases hf : told.length = min last 3
  · exact ⟨CN, .inl rfl, last, told, kept, d, rfl, rfl, h, by unfold tellO; rw [if_pos hf], by unfold tellO; rw [if_pos hf]⟩
  · by_cases hi : isFr d = true
    · exact ⟨CP, .inr (.inr rfl), last, told, kept, d, rfl, rfl, h, by unfold tellO; rw [if_neg hf, if_pos hi, if_pos (hd hf hi)], by unfold tellO; rw [if_neg hf, if_pos hi, if_pos (hd hf hi)]⟩
    · exact ⟨CA, .inr (.inl rfl), last, told, kept, d, rfl, rfl, h, by unfold tellO; rw [if_neg hf, if_neg hi], by unfold tellO; rw [if_neg hf, if_neg hi]⟩
def S__law_failed (fs : Flds) (ds : List PyData) (o : Out) (fs' : Flds) : Prop := ∃ (last : Nat) (told : Wts) (m : Nat) (d : PyData), fs = telF last told (told.length : Int) ∧ ds = [.int (m : Int), d] ∧ m < 5 ∧ isFr d = false ∧ TelOk last told ∧ o = .ret (.bool true) ∧ fs' = telF last told (told.length : Int)
def oddsE : List PyData := [.none, .str "x", .list [.int 7], .int (-5), .bool true]
theorem oddsE_no {i : Int} (h0 : 0 ≤ i) (h1 : i < 5) : ∃ d, atI oddsE i = some d ∧ isFr d = false := by
  rcases (show i = 0 ∨ i = 1 ∨ i = 2 ∨ i = 3 ∨ i = 4 by omega) with e | e | e | e | e <;> subst e
  · exact ⟨_, rfl, by decide⟩
  · exact ⟨_, rfl, by decide⟩
  · exact ⟨_, rfl, by decide⟩
  · exact ⟨_, rfl, by decide⟩
  · exact ⟨_, rfl, by decide⟩
def strT (told : Wts) : Str := if told = [] then "none" else textW told
theorem ans_three (told : Wts) : Ans (.tuple [encL told, .int (told.length : Int), .str (strT told)]) := by
  have sk : PyData.strOk (strT told) = true := by
    unfold strT
    split
    · decide +kernel
    · exact strOk_textW _
  have a1 : PyData.eqv (encL told) (encL told) = true := eqv_self eq_encL _
  have a2 : PyData.eqv (.int (told.length : Int)) (.int (told.length : Int)) = true := eqv_self eq_int _
  have a3 : PyData.eqv (.str (strT told)) (.str (strT told)) = true := by show (strT told == strT told) = true; simp
  refine ⟨?_, (sh_tup (n := 2) fun d hd => ?_).shaped⟩
  · show (!(PyData.eqv (encL told) (encL told) && (PyData.eqv (.int (told.length : Int)) (.int (told.length : Int)) && (PyData.eqv (.str (strT told)) (.str (strT told)) && true)))) = false
    rw [a1, a2, a3] <;> rfl
  · simp only [List.mem_cons, List.not_mem_nil, or_false] at hd
    rcases hd with e | e | e
    · subst e; exact sh_L
    · subst e; exact sh_int
    · subst e; exact sh_str sk
end DD
namespace DD
open PySem PySem.Spec PyProof.Rows L2
section
variable {X : Cx} {W : WX} {ρ ρ1 ρ' : En} {e a b c : Expr} {es : List Expr} {d d1 d2 : PyData} {o : Out} {pos : Pos} {P : Post} {rest : List Stmt}
theorem dwu_of {k : Bool} (h : DW X ρ e k) : DWU X ρ e k ρ := ⟨fun H₀ G₀ G H σ Q E S q => h H₀ G H σ Q S fun G' H' e' => q G' H' (E.step e') (S.up e')⟩
theorem dwu_orU {k : Bool} (h : DTU X ρ a k ρ1) (h2 : DWU X ρ1 (.BoolOp .Or (b :: es) pos) false ρ') (hk : k = false := by first | rfl | assumption) : DWU X ρ (.BoolOp .Or (a :: b :: es) pos) false ρ' := by
  subst hk
  exact ⟨fun H₀ G₀ G H σ Q E S q wh pins s I => (pw_or pt_T pw_W).run wh pins s σ H Q I (h.run H₀ G₀ G H σ _ E S fun G1 H1 e1 S1 => h2.run H₀ G₀ G1 H1 σ Q e1 S1 q)⟩
theorem du_andT {k : Bool} (h : DE X ρ a (.bool k)) (h2 : DU X W ρ (.BoolOp .And (b :: es) pos) o ρ') (hk : k = true := by first | rfl | assumption) : DU X W ρ (.BoolOp .And (a :: b :: es) pos) o ρ' := by
  subst hk
  exact ⟨fun H₀ G₀ G H σ Q E S q pins s I => (pe_and pe_D pe_D).run pins s σ H Q I (h H₀ G H σ _ S fun v G1 H1 e1 r1 => by
    cases r1
    exact ⟨true, rfl, h2.run H₀ G₀ G1 H1 σ Q (E.step e1) (S.up e1) q⟩)⟩
theorem du_one {op} (h : DU X W ρ a o ρ') : DU X W ρ (.BoolOp op [a] pos) o ρ' := ⟨fun H₀ G₀ G H σ Q E S q pins s I => (pe_one pe_D).run pins s σ H Q I (h.run H₀ G₀ G H σ Q E S q)⟩
theorem du_cmp {op : CmpOp} {r : R2} {W' : WX} (ho : OpR X (compareOp op) r) (hr : R2D r d1 d2 d) (hm : behindInMarks op b = false) (ha : DU X W' ρ a (.ret d1) ρ') (hb : DE X ρ' b d2) : DU X W ρ (.Compare a [op] [b] pos) (.ret d) ρ' :=
  ⟨fun H₀ G₀ G H σ Q E S q pins s I => (pe_cmpR ho pe_D pe_D hm).run pins s σ H Q I (ha.run H₀ G₀ G H σ _ E S fun v G1 H1 e1 S1 r1 => hb H₀ G1 H1 σ _ S1 fun u G2 H2 e2 r2 => hr G2 H2 v u _ e2.gh (r1.up e2.gg) r2 fun w G3 H3 e3 r3 =>
    q w G3 H3 (e1.step (e2.trans e3)) (S1.up (e2.trans e3)) r3)⟩
theorem du_eq {W' : WX} (hu : X.A.units + 64 < cLine) (ha : DU X W' ρ a (.ret d1) ρ') (hb : DE X ρ' b d2) (h1 : SeqAt.shaped d1 = true) (h2 : SeqAt.shaped d2 = true) : DU X W ρ (.Compare a [.Eq] [b] pos) (.ret (.bool (PyData.eqv d1 d2))) ρ' := du_cmp (op_eqD hu) (r2_eq h1 h2) (nomark _) ha hb
theorem du_is {d' : PyData} (h : DU X W ρ e (.ret d) ρ') (q : d = d') : DU X W ρ e (.ret d') ρ' := q ▸ h
theorem ds_retUt (he : DU X W ρ e (.ret d) ρ') (h : P.rt d) : DS X W ρ (.Return (some e) pos :: rest) P :=
  ds_cons (ps_ret pe_D) fun H₀ G₀ G H σ D E S p => he.run H₀ G₀ G H σ _ E S fun v G1 H1 e1 S1 r1 => p.rt d v G1 H1 h e1 r1
end
theorem take_snoc {α : Type} {l : List α} {i : Nat} (h : i < l.length) (d : α) : l.take (i + 1) = l.take i ++ [l.getD i d] := by
  rw [List.take_add_one, getD_in h, List.getElem?_eq_getElem h]
  rfl
end DD
namespace DD
open PySem PySem.Spec PyProof.Rows L2

/-! ### an own exception whose __init__ keeps a line -/
structure PEC (K : PySem.W.Frag) (mg : Str → Option Value) (C B : Addr) : Prop where
  g : mg "ParseError" = some (.ref C)
  gB : mg "AverageError" = some (.ref B)
  T : L2.OexC K C
  f : XfC K C
  n : PySem.W.findIn K (.ref C) "line" = some none
  rd : PySem.W.readsIn K B (.type "type") = true
  ga : PySem.W.specialIn K (.ref B) "__getattribute__" = some (some (.builtin "type.__getattribute__"))
  vB : PySem.W.findCls K (.ref B) (.type "type") "__init__" = some (.val (.builtin "ValueError.__init__"))
def spInit (C : Addr) : Sp := fun vs H Q E => ∃ (a : Addr) (v : V), vs = [.ref a, v] ∧ H a = some (L2.exo a C none) ∧ ∀ dx, H dx = none → dx ≠ a → Q .non (upd (upd H dx (L2.exd dx [(("line" : Str), v)])) a (L2.exo a C (some dx)))
/-- __init__, by the class -/
def PeIn (P : Program) (w : World) (K : PySem.W.Frag) (mg : Str → Option Value) (base : Heap) (k : Nat) (C : Addr) : Prop :=
  ∃ (f : Addr) (fd : FuncData) (ps : List Str), FnOk P w K mg base (L2.CX P w) k f fd ps (spInit C) ∧ PySem.W.findIn K (.ref C) "__init__" = some (some (.ref f)) ∧ PySem.W.typeIn K (.ref f) = some (.type "function") ∧ Binds K fd ps []
section
variable {X : Cx} {W : WX} {ρ ρ' : En} {e a b c : Expr} {es : List Expr} {d : PyData} {o : Out} {pos : Pos} {P : Post} {rest body orelse : List Stmt}
/-- B.__init__(self, ..), B an own class over ValueError without own __init__ -/
theorem pe_bInit {B : Addr} {name : Str} {ta : TA} {p1 p2 : Pos} {pl : Sem Bool} (hg : Gl X name) (hm : X.mg name = some (.ref B)) (rd : PySem.W.readsIn X.K B (.type "type") = true) (ga : PySem.W.specialIn X.K (.ref B) "__getattribute__" = some (some (.builtin "type.__getattribute__"))) (vV : PySem.W.findCls X.K (.ref B) (.type "type") "__init__" = some (.val (.builtin "ValueError.__init__"))) (ha : PA X (e :: es) ta)
    (hdb : (name == ("__debug__" : Str)) = false := by decide)
    (hc : eval (.Call (.Attribute (.Name name p1) "__init__" p2) (e :: es) [] pos) X.env = (do
      let ov ← eval (.Name name p1) X.env
      standAt p2.atName
      let (f, first) ← holding [ov] (getMethod ov "__init__" pl)
      callWith pos f first (backTo pos (starEach (e :: es) X.env)) (backToKw pos (keywordEach [] X.env))) := by rfl)
    (he : starEach (e :: es) X.env = (false, eval e X.env) :: starEach es X.env := by rfl) (hpl : (backTo pos (starEach es X.env)).any (·.1) = false := by rfl) :
    PE X (.Call (.Attribute (.Name name p1) "__init__" p2) (e :: es) [] pos) (tVeI X.K ta) := by
  refine ⟨fun pins s σ H Q I h => ?_⟩
  refine PySem.W.methodCall_KW (ld_glob I hg hm ?_ hdb) hc
  refine PySem.W.method_cls I.kIn ga (PySem.W.cls_value I.kIn rd vV (by decide +kernel) ?_)
  show wpAny _ _ (callWith pos (Value.builtin "ValueError.__init__") [] (backTo pos (starEach (e :: es) X.env)) []) _ _ _
  refine PyProof.Rows.callWith_method1 (thn (ha.run pos pins _ σ H _ (I.tok _) h) fun us s1 ⟨vs, H1, I1, r1, a, C, ws, ev, hl, T, ea, q⟩ => ?_) he hpl
  subst ev
  cases r1 with
  | @cons _ u0 _ ur ra rw' =>
    obtain rfl : u0 = Value.ref a := ra
    have hlen : ur.length ≤ sizeLine := by
      rw [← Paired.length rw', sizeLine_eq]
      omega
    exact oinit_ok T I1 ea hlen fun s' J => ⟨.non, H1, J, rfl, q⟩
/-- raise C(e), C's own __init__ keeping the line -/
theorem ds_raiseP {x : Str} {C : Addr} {k : Nat} {p p3 : Pos} (F : PeIn X.prog X.w X.K X.mg X.base k C) (hr : Room (k + 1) X.A) (hm : X.mg x = some (.ref C)) (T : L2.OexC X.K C) (tk : Takes X W) (he : DE X ρ e d) (h : P.ex ⟨C, some d⟩ ρ) (hc : X.calm = true := by rfl) (hg : Gl X x := by rfl) (hdb : (x == ("__debug__" : Str)) = false := by decide)
    (hst : starEach [e] X.env = (false, eval e X.env) :: starEach [] X.env := by rfl) (hpl : (backTo p3 (starEach ([] : List Expr) X.env)).any (·.1) = false := by rfl) :
    DS X W ρ (.Raise (some (.Call (.Name x p) [e] [] p3)) none pos :: rest) P := by
  obtain ⟨f, fd, ps, F, iC, tI, hb⟩ := F
  refine ds_cons (ps_raise hc tk (pmk_oex T iC tI F hr hb .nil passL hg hm (pa_cons pe_D pa_nil hst) hdb hst hpl)) fun H₀ G₀ G H σ D Ex S p' => he H₀ G H σ _ S fun v G1 H1 e1 r1 => ?_
  refine ⟨by show 1 ≤ 1000; decide, fun a na => ⟨a, v, rfl, upd_same, fun dx hdx hne => ⟨rfl, dx, _, upd_same, by rw [upd_ne hne, upd_same], ?_, ?_⟩⟩⟩
  · rw [upd_ne hne] at hdx; exact hdx
  · rw [upd_ne hne] at hdx
    have gdx : G1 dx = none := free_back e1.gh hdx
    have stay : ∀ b, b ≠ dx → (upd (L2.del (upd (upd (upd H1 a (L2.exo a C none)) dx (L2.exd dx [(("line" : Str), v)])) a (L2.exo a C (some dx))) a) dx (.xd [(("line" : Str), v)])) b = H1 b := fun b hb => by
      rw [upd_ne hb]
      by_cases q : b = a
      · rw [q, L2.del_same, na]
      · rw [L2.del_ne q, upd_ne q, upd_ne hb, upd_ne q]
    have e2 : Ext G1 H1 G1 (upd (L2.del (upd (upd (upd H1 a (L2.exo a C none)) dx (L2.exd dx [(("line" : Str), v)])) a (L2.exo a C (some dx))) a) dx (.xd [(("line" : Str), v)])) :=
      ⟨.refl _, fun b o g => by rw [stay b (fun z => by rw [z, hdx] at g; cases g)]; exact g, fun b o g => by rw [stay b (fun z => by rw [z, gdx] at g; cases g)]; exact e1.gh b o g, fun b o g => .inl g⟩
    have e3 := e1.trans e2
    exact p'.ex ⟨C, some d⟩ ρ σ _ _ _ _ h (Ex.step e3) (S.up e3) ⟨rfl, dx, v, rfl, upd_same, r1⟩
/-! the suite of a clause: the exception, its line -/
/-- what the held exception's dict says -/
def lineF (d : Option Addr) (l : Option V) : Hp → Prop := fun H => match l with
  | none => d = none
  | some v => ∃ dd, d = some dd ∧ H dd = some (.xd [(("line" : Str), v)])
theorem lineF_up {d : Option Addr} {l : Option V} (H H' : Hp) (s : Sub H H') (h : lineF d l H) : lineF d l H' := by
  cases l with
  | none => exact h
  | some v => obtain ⟨dd, e1, e2⟩ := h; exact ⟨dd, e1, s _ _ e2⟩
/-- .. at a slot -/
def SV.exn (a : Addr) (d : Option Addr) (l : Option V) : SV := .pin (.ref a) (lineF d l) lineF_up
theorem exn_slot {H₀ G H : Hp} {σ : L2.St} {i : Nat} {a : Addr} {dx : Option Addr} {l : Option V} (S : Sat H₀ G H σ ρ) (h : ρ[i]? = some (SV.exn a dx l)) : σ[i]? = some (some (.ref a)) ∧ lineF dx l H := by
  obtain ⟨e1, e2⟩ := S.slot i _ h
  exact ⟨e1, lineF_up _ _ S.old e2⟩
theorem call_isX {a D : Addr} {oe : Obj} {pn : List (Addr × Obj)} {d : Option Addr} (C : L2.ExcC X.K D) (hz : Zc (.ref D) d oe) (hf : ∃ vs, oe.data = .fields vs) :
    CallR (X.suite a ((a, oe) :: pn)) (.builtin "isinstance") (fun xs H Q => ∃ (c : V) (cv : Value) (b : Bool) (l : Option V), xs = [.ref a, c] ∧ (∀ u, RelV c u → u = cv) ∧ PySem.W.kitOne X.K (.ref D) cv = some b ∧ lineF d l H ∧ Q (.bl b) H) := by
  intro pins s σ H xs us Q I r h
  obtain ⟨c, cv, b, l, rfl, hcv, e, hl, q⟩ := h
  cases r with
  | cons rx rr =>
    cases rr with
    | @cons _ u _ _ rt rr =>
      cases rr
      cases rx
      have ec := hcv _ rt
      subst ec
      obtain ⟨hget, _⟩ := I.pin (a, oe) (List.mem_append.mpr (.inl List.mem_cons_self))
      obtain ⟨vs, hv⟩ := hf
      have main : ∀ od : Option Obj, PySem.W.InstAt s.heap a oe D od → wpAny (model (X.suite a ((a, oe) :: pn)).prog (X.suite a ((a, oe) :: pn)).w) (X.suite a ((a, oe) :: pn)).A (call (.builtin "isinstance") [Value.ref a, u]) (EP (X.suite a ((a, oe) :: pn)) pins σ Q) (X.suite a ((a, oe) :: pn)).xe s := fun od J => by
        have hcl : (PySem.W.clsIn X.K D).isSome = true := by
          have := C.hd
          unfold PySem.W.hasDictIn at this
          cases z : PySem.W.clsIn X.K D with
          | none => rw [z] at this; cases this
          | some cd => rfl
        exact PySem.W.kia_one (PySem.W.kitx_exc hcl C.hg C.hk C.hs C.ha C.hn C.ht C.hm) I.kIn J e (fun z => nomatch z) fun tk => ⟨.bl b, H, I.kept (t' := tk) fun _ _ z => z, rfl, q⟩
      have hno : PySem.W.notCls oe = true := by unfold PySem.W.notCls; rw [hv] <;> rfl
      cases l with
      | none =>
        have hl : d = none := hl
        subst hl
        exact main none ⟨hget, hz.1, hno, by rw [hz.2]; trivial⟩
      | some v =>
        obtain ⟨dd, e1, e2⟩ := hl
        subst e1
        have hx : ObjOk X.prog X.w H s.heap dd (.xd [(("line" : Str), v)]) := I.hok dd _ e2
        obtain ⟨mA, hns, hr⟩ := hx
        obtain ⟨od, ho, -⟩ := lookIn_ns hns
        exact main (some od) ⟨hget, hz.1, hno, by rw [hz.2]; exact ho⟩
theorem de_isX {ad D : Addr} {oe : Obj} {pn : List (Addr × Obj)} {dx : Option Addr} {l : Option V} {x y : Str} {A : Addr} {k : Bool} {i : Nat} {p p1 p2 : Pos} (C : L2.ExcC X.K D) (hz : Zc (.ref D) dx oe) (hv : ∃ vs, oe.data = .fields vs) (hρ : ρ[i]? = some (SV.exn ad dx l))
    (hm : X.mg "isinstance" = none) (hc : X.mg y = some (.ref A)) (hk : PySem.W.kitOne X.K (.ref D) (.ref A) = some k) (hN : X.N[i]? = some x := by rfl) (hx : Vis X.env.scope x := by first | exact Or.inl rfl | exact Or.inr (Or.inl rfl) | exact Or.inr (Or.inr rfl))
    (hd : (x == ("__debug__" : Str)) = false := by decide) (hcd : (x == ("__classdict__" : Str)) = false := by decide) (hg : Gl X "isinstance" := by rfl) (hgy : Gl X y := by rfl) (hdy : (y == ("__debug__" : Str)) = false := by decide)
    (he : starEach [.Name x p1, .Name y p2] X.env = (false, eval (.Name x p1) X.env) :: starEach [.Name y p2] X.env := by rfl) (he2 : starEach [.Name y p2] X.env = (false, eval (.Name y p2) X.env) :: starEach [] X.env := by rfl) (hpl : (backTo pos (starEach [.Name y p2] X.env)).any (·.1) = false := by rfl) :
    DE (X.suite ad ((ad, oe) :: pn)) ρ (.Call (.Name "isinstance" p) [.Name x p1, .Name y p2] [] pos) (.bool k) :=
  de_of (pe_callB (X := X.suite ad ((ad, oe) :: pn)) (call_isX C hz hv) hg hm (by decide +kernel) (pa_cons (pe_var hN hx hd hcd) (pa_cons (pe_glob (v := .ref A) hgy hc rfl hdy) pa_nil he2) he) (by decide) (by decide) he hpl) fun H₀ G H σ Q S q =>
    ⟨_, (exn_slot S hρ).1, .ref A, .ref A, k, l, rfl, fun u hu => hu, hk, (exn_slot S hρ).2, q.of S.sub (.bl k)⟩
theorem de_isXB {ad D : Addr} {oe : Obj} {pn : List (Addr × Obj)} {dx : Option Addr} {l : Option V} {x : Str} {T : String} {k : Bool} {i : Nat} {p p1 p2 : Pos} (C : L2.ExcC X.K D) (hz : Zc (.ref D) dx oe) (hv : ∃ vs, oe.data = .fields vs) (hρ : ρ[i]? = some (SV.exn ad dx l))
    (hm : X.mg "isinstance" = none) (hmT : X.mg (Str.ofString T) = none) (hT : bootBuiltins (Str.ofString T) = some (.type T)) (hk : PySem.W.kitOne X.K (.ref D) (.type T) = some k) (hN : X.N[i]? = some x := by rfl) (hx : Vis X.env.scope x := by first | exact Or.inl rfl | exact Or.inr (Or.inl rfl) | exact Or.inr (Or.inr rfl))
    (hd : (x == ("__debug__" : Str)) = false := by decide) (hcd : (x == ("__classdict__" : Str)) = false := by decide) (hg : Gl X "isinstance" := by rfl) (hgT : Gl X (Str.ofString T) := by rfl) (hn : Str.ofString T ≠ "__name__" := by decide) (hdT : (Str.ofString T == ("__debug__" : Str)) = false := by decide)
    (he : starEach [.Name x p1, .Name (Str.ofString T) p2] X.env = (false, eval (.Name x p1) X.env) :: starEach [.Name (Str.ofString T) p2] X.env := by rfl) (he2 : starEach [.Name (Str.ofString T) p2] X.env = (false, eval (.Name (Str.ofString T) p2) X.env) :: starEach [] X.env := by rfl) (hpl : (backTo pos (starEach [.Name (Str.ofString T) p2] X.env)).any (·.1) = false := by rfl) :
    DE (X.suite ad ((ad, oe) :: pn)) ρ (.Call (.Name "isinstance" p) [.Name x p1, .Name (Str.ofString T) p2] [] pos) (.bool k) :=
  de_of (pe_callB (X := X.suite ad ((ad, oe) :: pn)) (call_isX C hz hv) hg hm (by decide +kernel) (pa_cons (pe_var hN hx hd hcd) (pa_cons (pe_bltn hgT hmT hT (v := .ty T) rfl hn hdT) pa_nil he2) he) (by decide) (by decide) he hpl) fun H₀ G H σ Q S q =>
    ⟨_, (exn_slot S hρ).1, .ty T, .type T, k, l, rfl, fun u hu => hu, hk, (exn_slot S hρ).2, q.of S.sub (.bl k)⟩
/-- e.line -/
theorem de_line {ad D : Addr} {oe : Obj} {pn : List (Addr × Obj)} {dx : Option Addr} {v : V} {x : Str} {i : Nat} {px : Pos} (T : XfC X.K D) (hno : PySem.W.findIn X.K (.ref D) "line" = some none) (hz : Zc (.ref D) dx oe) (hv : ∃ vs, oe.data = .fields vs) (hρ : ρ[i]? = some (SV.exn ad dx (some v))) (hd' : ∀ G, Rp G v d)
    (hN : X.N[i]? = some x := by rfl) (hx : Vis X.env.scope x := by first | exact Or.inl rfl | exact Or.inr (Or.inl rfl) | exact Or.inr (Or.inr rfl)) (hd : (x == ("__debug__" : Str)) = false := by decide) (hcd : (x == ("__classdict__" : Str)) = false := by decide) (hb : attributeBase (.Name x px) "line" X.env (eval (.Name x px) X.env) = eval (.Name x px) X.env := by rfl) :
    DE (X.suite ad ((ad, oe) :: pn)) ρ (.Attribute (.Name x px) "line" pos) d :=
  de_of (pe_xf (X := X) T hno hz hv (pe_var (X := X.suite ad ((ad, oe) :: pn)) hN hx hd hcd) hb) fun H₀ G H σ Q S q => by
    obtain ⟨e1, dd, e2, e3⟩ := exn_slot S hρ
    exact ⟨_, e1, rfl, rfl, dd, _, v, e2, e3, by simp [List.lookup], q.of S.sub (hd' G)⟩
/-! slots that stand on their own at any heap -/
def SV.isFlat : SV → Bool
  | .un => true
  | .dat _ => true
  | .raw _ => true
  | _ => false
def Flat (ρ : En) : Prop := ∀ (i : Nat) (s : SV), ρ[i]? = some s → s.isFlat = true
theorem flat_nil : Flat [] := fun i s h => by cases h
theorem flat_cons {s : SV} (h : s.isFlat = true) (t : Flat ρ) : Flat (s :: ρ) := fun i s' e => by
  cases i with
  | zero => cases e; exact h
  | succ i => exact t i s' e
/-- the slots at a later entry -/
theorem Sat.rebase {H₀ G H : Hp} {σ : L2.St} (S : Sat H₀ G H σ ρ) (f : Flat ρ) : Sat H G H σ ρ := by
  refine ⟨S.sub, S.len, fun j t q => ?_, fun a b s t p hab q1 q2 o1 o2 r1 => ?_, fun a o e => e⟩
  · have x := S.slot j t q
    have fl := f j t q
    cases t with
    | un => trivial
    | dat d => exact x
    | raw v => exact x
    | own es => cases fl
    | pin v φ m => cases fl
    | obj φ m => cases fl
  · have fl := f a s q1
    cases s with
    | un => cases o1
    | dat d => cases o1
    | raw v => cases o1
    | own es => cases fl
    | pin v φ m => cases o1
    | obj φ m => cases fl
/-- .. and back: a slot that is no pin -/
theorem Sat.back {H₀ H₁ G H : Hp} {σ : L2.St} (S : Sat H₁ G H σ ρ) (le : Sub H₀ H₁) (np : ∀ (i : Nat) (v : V) (φ : Hp → Prop) (m : ∀ H H', Sub H H' → φ H → φ H'), ρ[i]? ≠ some (.pin v φ m)) : Sat H₀ G H σ ρ := by
  refine ⟨S.sub, S.len, fun j t q => ?_, S.apart, fun a o e => S.old a o (le a o e)⟩
  have x := S.slot j t q
  have nn : ∀ p, H₁ p = none → H₀ p = none := fun p z => by
    cases y : H₀ p with
    | none => rfl
    | some o => rw [le p o y] at z; cases z
  cases t with
  | un => trivial
  | dat d => exact x
  | raw v => exact x
  | own es => obtain ⟨p, us, e, z, r⟩ := x; exact ⟨p, us, e, nn p z, r⟩
  | pin v φ m => exact absurd q (np j v φ m)
  | obj φ m => obtain ⟨p, us, e, z, r⟩ := x; exact ⟨p, us, e, nn p z, r⟩
def NoPin (ρ : En) : Prop := ∀ (i : Nat) (v : V) (φ : Hp → Prop) (m : ∀ H H', Sub H H' → φ H → φ H'), ρ[i]? ≠ some (.pin v φ m)
/-- the line as a value that stands in any heap -/
inductive LineV : Option PyData → Option V → Prop
  | no : LineV none none
  | non : LineV (some .none) (some .non)
  | int (i : Int) : LineV (some (.int i)) (some (.int i))
/-- clauses that may read the line -/
def HandledL (X : Cx) (W : WX) (i : Nat) (P : Post) (rest : List Stmt) : List Cl → Exn → En → Prop
  | [] => fun x ρ => P.ex x ρ
  | k :: r => fun x ρ => ∃ b, PySem.W.exmOne X.K (.ref x.cls) k.c = some b ∧
      (b = true → ∃ l, LineV x.line l ∧ Flat ρ ∧ ∀ (a : Addr) (oe : Obj) (pn : List (Addr × Obj)) (d : Option Addr), Zc (.ref x.cls) d oe → (∃ vs, oe.data = .fields vs) →
        DS (X.suite a ((a, oe) :: pn)) (fun _ _ _ _ => False) (ρ.set i (SV.exn a d l)) k.su { nx := fun ρ' => NoPin (ρ'.set i .un) ∧ DS X W (ρ'.set i .un) rest P, rt := P.rt }) ∧
      (b = false → HandledL X W i P rest r x ρ)
theorem ds_tryL {h₀ : ExceptHandler} {hs : List ExceptHandler} {l : List Cl} {n : Str} (i : Nat) (hk : ClsAre X n (h₀ :: hs) l) (tk : Takes X W)
    (hb : ∀ (W' : WX) (pn : List (Addr × Obj)) (xe : Value → Shared → Prop), Takes (X.tr pn xe) W' → PassesOwn (model X.prog X.w) X.A X.env xe →
      DS (X.tr pn xe) W' ρ body { nx := fun ρ => DS X W ρ rest P, rt := P.rt, bk := P.bk, ct := P.ct, ex := HandledL X W i P rest l, ro := P.ro, rq := P.rq })
    (hN : X.N.Nodup) (hst : X.stack = X.env :: X.outer := by rfl) (hf : X.env.frame = some X.env.locals := by rfl) (hi : X.N[i]? = some n := by rfl) (hln : X.env.kindOf n = some .local := by rfl) : DS X W ρ (.Try body (h₀ :: hs) [] [] pos :: rest) P := by
  refine ds_cons (ps_try_cl (tb := fun W' D σ H => ∀ (pn : List (Addr × Obj)) (xe : Value → Shared → Prop), Takes (X.tr pn xe) W' → PassesOwn (model X.prog X.w) X.A X.env xe → tS (X.tr pn xe) body D σ H) hst hf hN hi hln tk (fun W' pn xe t1 t2 => ⟨fun pins s σ H D I h => h pn xe t1 t2 pins s I⟩) hk) ?_
  intro H₀ G₀ G H σ D E S p pn xe t1 t2
  refine hb _ pn xe t1 t2 H₀ G₀ G H σ _ E S ⟨fun ρ' σ' G' H' q E' S' => q H₀ G₀ G' H' σ' D E' S' p, p.rt, p.bk, p.ct, fun x ρ' σ' G' H' c a q E' S' ea => ?_, p.ro, p.rq⟩
  obtain ⟨rfl, ea⟩ := ea
  have main : ∀ l : List Cl, HandledL X W i P rest l x ρ' → wCl X i W { D with nx := tS X rest D } l (.ref x.cls) a σ' H' := by
    intro l
    induction l with
    | nil => exact fun q => p.ex x ρ' σ' G' H' _ a q E' S' ⟨rfl, ea⟩
    | cons k r ih =>
      intro q
      obtain ⟨b, e1, e2, e3⟩ := q
      refine ⟨b, e1, fun hb a' na oe pn hz hv => ?_, fun hb => ih (e3 hb)⟩
      obtain ⟨lv, hlv, fl, body⟩ := e2 hb
      have hline : lineF a lv H' := by
        generalize x.line = xl at ea hlv
        cases hlv with
        | no => exact ea
        | non =>
          obtain ⟨dx, v, h1, h2, h3⟩ := ea
          cases h3
          exact ⟨dx, h1, h2⟩
        | int j =>
          obtain ⟨dx, v, h1, h2, h3⟩ := ea
          cases h3
          exact ⟨dx, h1, h2⟩
      have S2 : Sat H' G' H' (σ'.set i (some (.ref a'))) (ρ'.set i (SV.exn a' a lv)) := (S'.rebase fl).set (s := SV.exn a' a lv) ⟨rfl, hline⟩ (fun z => by cases z)
      have E2 : Ext G' H' G' H' := ⟨.refl _, fun _ _ z => z, S'.sub, fun _ _ z => .inl z⟩
      refine body a' oe pn a hz hv H' G' G' H' _ _ E2 S2 ⟨fun ρ2 σ2 G2 H2 ⟨np, q2⟩ E3 S3 => ?_, fun d v G2 H2 q2 E3 r3 => p.rt d v G2 H2 q2 (E'.step E3) r3, fun ρ2 σ2 G2 H2 z => z.elim, fun ρ2 σ2 G2 H2 z => z.elim, fun x2 ρ2 σ2 G2 H2 c2 a2 z => z.elim, fun d ρ2 v σ2 G2 H2 z => z.elim, fun q ρ2 σ2 G2 H2 z => z.elim⟩
      exact q2 H₀ G₀ G2 H2 _ D (E'.step E3) (S3.unset.back S'.old np) p
  exact main l q
end
end DD
namespace DD
open PySem PySem.Spec PyProof.Rows L2
open TL (tl)

/-! ### texts taken apart -/
def signD (c : Nat) : PyData := .str ⟨#[c]⟩
theorem src_str {G : Hp} {x : Str} : SrcOk (Its x) G ((tl x).map signD) where
  go := fun i G' H' s1 s2 hi => by
    rw [List.length_map] at hi
    show i < x.cps.size
    rw [Array.length_toList] at hi
    exact hi
  yld := fun i G' H' v H'' d s1 s2 hd y => by
    obtain ⟨e, c, hc, ev⟩ := y
    subst e ev
    rw [List.getElem?_map, Array.getElem?_toList, hc] at hd
    cases hd
    exact ⟨G', .refl s2, .str _⟩
  stop := fun i G' H' s1 s2 hi => by
    rw [List.length_map, Array.length_toList] at hi
    show x.cps.size ≤ i
    omega
section
variable {X : Cx} {W : WX} {ρ ρ' : En} {e a b c : Expr} {es : List Expr} {d : PyData} {o : Out} {pos p apos : Pos} {P : Post} {rest body orelse : List Stmt} {x y z : Str}
theorem di_str {tg iter : Expr} (he : DE X ρ iter (.str x)) : DI X ρ tg iter ((tl x).map signD) :=
  di_of (pi_str pe_D) fun H₀ G H σ R S q => he H₀ G H σ _ S fun v G1 H1 e1 r1 => by
    cases r1
    exact ⟨x, rfl, q _ _ _ e1 src_str⟩
theorem rp_strs {G : Hp} : ∀ {ys : List Str}, RpA G (ys.map V.str) (ys.map PyData.str)
  | [] => .nil
  | y :: ys => .cons (.str y) rp_strs
theorem de_split (ha : DE X ρ a (.str x)) (he : DE X ρ e (.str y)) (hy : (y.length == 0) = false) (hx : x.length + 2 ≤ sizeLine) (hs : starEach [e] X.env = [(false, eval e X.env)] := by rfl) (hbase : attributeBase a "split" X.env (eval a X.env) = eval a X.env := by rfl) (hline : (apos.endLine == pos.line) = true := by rfl) :
    DE X ρ (.Call (.Attribute a "split" apos) [e] [] pos) (.list ((Txt.split x y).map .str)) :=
  de_of (pe_split pe_D pe_D hs hbase hline) fun H₀ G H σ Q S q => ha H₀ G H σ _ S fun v G1 H1 e1 r1 => by
    cases r1
    refine ⟨⟨x, rfl⟩, he H₀ G1 H1 σ _ (S.up e1) fun u G2 H2 e2 r2 => ?_⟩
    cases r2
    refine ⟨x, y, rfl, rfl, hy, hx, fun l hl => ?_⟩
    have e3 := Ext.new (o := .lst ((Txt.split x y).map V.str)) e2.gh hl
    exact q _ _ _ ((e1.trans e2).trans e3) (.lst upd_same rp_strs)
theorem de_intS {n : Int} (hm : X.mg "int" = none) (ha : DE X ρ e (.str x)) (hn : PySem.intText? x = some n) (hl : x.length ≤ 640) (hg : Gl X "int" := by rfl) (he : starEach [e] X.env = (false, eval e X.env) :: starEach [] X.env := by rfl) (hpl : (backTo pos (starEach ([] : List Expr) X.env)).any (·.1) = false := by rfl) : DE X ρ (.Call (.Name "int" p) [e] [] pos) (.int n) :=
  de_of (pe_callTy call_int_str hg hm (by decide +kernel) (pa_cons pe_D pa_nil he) (by decide) (by decide) he hpl) fun H₀ G H σ Q St q => ha H₀ G H σ _ St fun v G1 H1 e1 r1 => by
    cases r1
    exact ⟨x, n, rfl, hn, hl, (q.back e1).of e1.gh (.int _)⟩
theorem dt_notSign {cp : Nat} (ha : DE X ρ a (signD cp)) (hb : DE X ρ b (.str z)) (hm : behindInMarks .NotIn b = false := by rfl) : DT X ρ (.Compare a [.NotIn] [b] pos) (!decide (cp ∈ tl z)) :=
  dt_cmp op_notIn_sign (fun G H v u Q s r1 r2 q => by
    cases r1; cases r2
    exact ⟨cp, z, rfl, rfl, q.of s (.bl _)⟩) hm ha hb
theorem de_index {ds : List PyData} {j : Nat} {zd : PyData} {p2 p3 : Pos} (hu : X.A.units + 65 < cLine) (ha : DE X ρ a (.list ds)) (hb : DE X ρ b d) (s1 : SeqAt.shaped (.list ds) = true) (s2 : SeqAt.shaped d = true) (h1 : ds[j]? = some zd) (h2 : PyData.eqv zd d = true) (h3 : ∀ (m : Nat) (z' : PyData), m < j → ds[m]? = some z' → PyData.eqv z' d = false)
    (hbase : attributeBase a "index" X.env (eval a X.env) = eval a X.env := by rfl)
    (hfew : ((backTo p3 (starEach [b] X.env)).all (fun x => !x.1) && (backToKw p3 (keywordEach [] X.env)).all (fun x => x.1.isSome) && decide ([b].length + ([] : List Keyword).length + (if ([] : List Keyword).isEmpty then 0 else 1) < 30)) = true := by rfl)
    (hline : (p2.endLine == p3.line) = true := by rfl) (he : starEach [b] X.env = (false, eval b X.env) :: starEach [] X.env := by rfl) (hpl : (backTo p3 (starEach ([] : List Expr) X.env)).any (·.1) = false := by rfl) :
    DE X ρ (.Call (.Attribute a "index" p2) [b] [] p3) (.int (j : Nat)) :=
  de_of (pe_bm PySem.F.plainAttrs_list PySem.F.slot_list_index PySem.F.type_list_index (mt_indexD hu) pe_D (pa_cons pe_D pa_nil he) hbase hfew hline he hpl) fun H₀ G H σ Q S q => by
    refine ha H₀ G H σ _ S fun v G1 H1 e1 r1 => ?_
    cases r1 with
    | @lst l xs _ g1 g2 =>
      refine ⟨.inl ⟨rfl, _, .of (e1.gh _ _ g1)⟩, hb H₀ G1 H1 σ _ (S.up e1) fun u G2 H2 e2 r2 => ?_⟩
      have rl : Rp H2 (.ref l) (.list ds) := (Rp.lst g1 g2).up (e2.gg.trans e2.gh)
      exact ⟨_, u, d, ds, j, zd, rfl, rfl, rl.dp, (r2.up e2.gh).dp, s1, s2, h1, h2, h3, (q.back (e1.trans e2)).of e2.gh (.int _)⟩
end
/-! ### what the program's defs make of texts -/
def digs : List Nat := tl "0123456789"
theorem digs_eq : digs = [48, 49, 50, 51, 52, 53, 54, 55, 56, 57] := by decide +kernel
theorem mem_digs {c : Nat} : c ∈ digs ↔ 48 ≤ c ∧ c ≤ 57 := by
  rw [digs_eq]
  simp only [List.mem_cons, List.not_mem_nil, or_false]
  omega
def numP (t : Str) : Option Int := if 1 ≤ t.length ∧ t.length ≤ 5 ∧ ∀ c ∈ tl t, c ∈ digs then (match PySem.intText? t with | some n => if numS n = t then some n else none | none => none) else none
def encN : Option Int → PyData
  | some n => .int n
  | none => .none
def pickP : List (Option Int) → Option (Int × Int)
  | [some a, some b] => if isFr (encF (a, b)) = true then some (a, b) else none
  | _ => none
theorem pick_two (a b : Int) : pickP [some a, some b] = if isFr (encF (a, b)) = true then some (a, b) else none := rfl
theorem pick_none {a b : Option Int} (h : none ∈ [a, b]) : pickP [a, b] = none := by
  cases a with
  | none => rfl
  | some a =>
    cases b with
    | none => rfl
    | some b => simp at h
theorem pick_len {l : List (Option Int)} (h : l.length ≠ 2) : pickP l = none := by
  unfold pickP
  split
  · rename_i a b; exact absurd rfl h
  · rfl
def fracP (t : Str) : Option (Int × Int) := pickP ((Txt.split t "/").map numP)
def encQ : Option (Int × Int) → PyData
  | some f => encF f
  | none => .none
def toksP (t : Str) : List (Option (Int × Int)) := (Txt.split t " ").map fracP
def goodW (fs : Wts) : Bool := decide (1 ≤ (fs.length : Int) - 1 ∧ (fs.length : Int) - 1 ≤ 6) && areWt (fs.length - 1) (encL fs)
def parsO (C : Addr) (t : Str) : Out :=
  if none ∈ toksP t then .exc ⟨C, some (.int (((toksP t).findIdx (· = none) : Nat) : Int))⟩ else
  if goodW ((toksP t).filterMap id) = true then .ret (.tuple [.int ((((toksP t).filterMap id).length : Int) - 1), encL ((toksP t).filterMap id)]) else .exc ⟨C, some .none⟩
def S_parse_number (ds : List PyData) (o : Out) : Prop := ∃ t : Str, ds = [.str t] ∧ t.length ≤ 1000 ∧ o = .ret (encN (numP t))
def S_parse_fraction (ds : List PyData) (o : Out) : Prop := ∃ t : Str, ds = [.str t] ∧ t.length ≤ 1000 ∧ o = .ret (encQ (fracP t))
def S_parse_weights (C : Addr) (ds : List PyData) (o : Out) : Prop := (∃ t : Str, ds = [.str t] ∧ t.length ≤ 1000 ∧ o = parsO C t) ∨ (∃ d, ds = [d] ∧ isSt d = false ∧ o = .exc ⟨C, some .none⟩)
theorem digitsVal_lt : ∀ {cs : List Nat}, NumText.AllDigits cs → NumText.digitsVal cs < 10 ^ cs.length := by
  have key : ∀ (cs : List Nat) (acc : Nat), NumText.AllDigits cs → cs.foldl (fun acc c => acc * 10 + (c - 48)) acc < (acc + 1) * 10 ^ cs.length := by
    intro cs
    induction cs with
    | nil => intro acc _; show acc < (acc + 1) * 1; omega
    | cons c cs ih =>
      intro acc h
      have hc := h c List.mem_cons_self
      have := ih (acc * 10 + (c - 48)) (fun d hd => h d (List.mem_cons_of_mem _ hd))
      rw [List.foldl_cons, List.length_cons, Nat.pow_succ]
      have e : (acc * 10 + (c - 48) + 1) * 10 ^ cs.length ≤ ((acc + 1) * 10) * 10 ^ cs.length := Nat.mul_le_mul_right _ (by omega)
      have e2 : (acc + 1) * (10 ^ cs.length * 10) = ((acc + 1) * 10) * 10 ^ cs.length := by rw [Nat.mul_comm (10 ^ cs.length) 10, Nat.mul_assoc]
      omega
  intro cs h
  have := key cs 0 h
  rw [Nat.zero_add, Nat.one_mul] at this
  exact this
/-- a text of few digits -/
theorem digs_text {t : Str} (h : ∀ c ∈ tl t, c ∈ digs) (h1 : 1 ≤ t.length) (h5 : t.length ≤ 5) : ∃ n : Nat, PySem.intText? t = some (n : Int) ∧ n < 100000 := by
  have hd : NumText.AllDigits (tl t) := fun c hc => mem_digs.mp (h c hc)
  have hl := TL.len_tl t
  have hne : tl t ≠ [] := fun z => by rw [z] at hl; simp only [List.length_nil] at hl; omega
  refine ⟨_, PySem.intText_digits hd hne (by omega), Nat.lt_of_lt_of_le (digitsVal_lt hd) ?_⟩
  exact Nat.pow_le_pow_right (by decide) (show (tl t).length ≤ 5 by omega)
theorem strOk_digs {t : Str} (h : ∀ c ∈ tl t, c ∈ digs) : PyData.strOk t = true := strOk_iff.mpr fun c hc => by
  have := mem_digs.mp (h c hc)
  omega
theorem eqv_str {x y : Str} : PyData.eqv (.str x) (.str y) = decide (x = y) := by
  show (x == y) = _
  rw [Bool.eq_iff_iff]; simp
theorem sh_Q (q : Option (Int × Int)) : Sh 1 (encQ q) := by
  cases q with
  | none => exact ⟨rfl, Nat.zero_le _⟩
  | some f => exact sh_F
theorem sh_N (q : Option Int) : Sh 0 (encN q) := by
  cases q with
  | none => exact sh_none
  | some f => exact sh_int
theorem eqv_noneN (q : Option Int) : PyData.eqv (encN q) .none = decide (q = none) := by cases q <;> rfl
theorem eqv_noneQ (q : Option (Int × Int)) : PyData.eqv (encQ q) .none = decide (q = none) := by cases q <;> rfl
theorem any_noneQ (l : List (Option (Int × Int))) : ((l.map encQ).any fun z => PyData.eqv z .none) = decide (none ∈ l) := by
  rw [List.any_map, Bool.eq_iff_iff, decide_eq_true_iff, List.any_eq_true]
  constructor
  · rintro ⟨q, hq, e⟩
    have e : PyData.eqv (encQ q) .none = true := e
    rw [eqv_noneQ, decide_eq_true_iff] at e
    exact e ▸ hq
  · intro h
    exact ⟨none, h, rfl⟩
theorem spl_bd (S : List Nat) : ∀ (l : List Nat) (k : Nat) (acc : List Nat), (TL.spl S k acc l).length ≤ l.length + 1 ∧ ∀ p ∈ TL.spl S k acc l, p.length ≤ acc.length + l.length
  | [], k, acc => by
    have e : TL.spl S k acc [] = [acc] := by cases k <;> rfl
    rw [e]
    exact ⟨Nat.le_refl _, fun p hp => by rw [List.mem_singleton.mp hp]; exact Nat.le_refl _⟩
  | c :: r, 0, acc => by
    show (if TL.pre S (c :: r) = true then acc :: TL.spl S (S.length - 1) [] r else TL.spl S 0 (acc ++ [c]) r).length ≤ _ ∧ ∀ p ∈ (if TL.pre S (c :: r) = true then acc :: TL.spl S (S.length - 1) [] r else TL.spl S 0 (acc ++ [c]) r), _
    by_cases q : TL.pre S (c :: r) = true
    · rw [if_pos q]
      obtain ⟨h1, h2⟩ := spl_bd S r (S.length - 1) []
      refine ⟨by rw [List.length_cons, List.length_cons]; omega, fun p hp => ?_⟩
      rcases List.mem_cons.mp hp with e | e
      · rw [e]; omega
      · have := h2 p e
        rw [List.length_nil] at this
        rw [List.length_cons]; omega
    · rw [if_neg q]
      obtain ⟨h1, h2⟩ := spl_bd S r 0 (acc ++ [c])
      refine ⟨by rw [List.length_cons]; omega, fun p hp => ?_⟩
      have := h2 p hp
      rw [List.length_append, List.length_cons, List.length_nil] at this
      rw [List.length_cons]; omega
  | c :: r, k + 1, acc => by
    show (TL.spl S k acc r).length ≤ _ ∧ ∀ p ∈ TL.spl S k acc r, _
    obtain ⟨h1, h2⟩ := spl_bd S r k acc
    refine ⟨by rw [List.length_cons]; omega, fun p hp => ?_⟩
    have := h2 p hp
    rw [List.length_cons]; omega
/-- how many parts, how long -/
theorem split_len (x : Str) {y : Str} (hy : tl y ≠ []) (hk : y.cps.all (· < 256) = true) : (Txt.split x y).length ≤ x.length + 1 ∧ ∀ p ∈ Txt.split x y, p.length ≤ x.length := by
  have e := TL.split_spl x y hy (TL.kind_ok hk)
  obtain ⟨h1, h2⟩ := spl_bd (tl y) (tl x) 0 []
  have hl := TL.len_tl x
  refine ⟨?_, fun p hp => ?_⟩
  · have := congrArg List.length e
    rw [List.length_map] at this
    omega
  · have hm : tl p ∈ TL.spl (tl y) 0 [] (tl x) := by rw [← e]; exact List.mem_map.mpr ⟨p, hp, rfl⟩
    have := h2 _ hm
    rw [List.length_nil] at this
    have := TL.len_tl p
    omega
theorem split_sp (x : Str) : (Txt.split x " ").length ≤ x.length + 1 ∧ ∀ p ∈ Txt.split x " ", p.length ≤ x.length := split_len x (by decide +kernel) (by decide +kernel)
theorem split_sl (x : Str) : (Txt.split x "/").length ≤ x.length + 1 ∧ ∀ p ∈ Txt.split x "/", p.length ≤ x.length := split_len x (by decide +kernel) (by decide +kernel)
end DD
namespace DD
open PySem PySem.Spec PyProof.Rows L2
theorem Mut.new {G H G1 H1 : Hp} {p : Addr} {G' H' : Hp} (m : Mut G1 H1 p G' H') (e : Ext G H G1 H1) (hp : H p = none) : Ext G H G' H' := by
  refine ⟨e.gg.trans m.ext.gg, fun a o h => ?_, m.ext.gh, fun a o h => ?_⟩
  · have q : a ≠ p := fun z => by rw [z, hp] at h; cases h
    exact m.ext.hh a o (by rw [del_ne q]; exact e.hh a o h)
  · rcases m.ext.nw a o h with z | z
    · exact e.nw a o z
    · by_cases q : a = p
      · rw [q]; exact .inr hp
      · rw [del_ne q] at z
        exact .inr (free_back e.hh z)
section
variable {X : Cx} {W : WX} {ρ : En} {e a : Expr} {es : List Expr} {ds : List PyData} {o : Out} {pos apos : Pos} {C : Addr} {fs fs' : Flds} {k : Nat} {m : Str}
/-- a method that changes its object, of an instance just made -/
theorem dx_methN {S : Flds → List PyData → Out → Flds → Prop} {pl : Sem Bool} (hn : DNi X ρ a C fs) (F : MeIn X.prog X.w X.K X.mg X.base k C m (spMm C S)) (hr : Room k X.A) (tk : Takes X W) (c : Cls X.K C) (hm : fs.lookup m = none) (ha : DA X ρ (e :: es) ds) (hS : S fs ds o fs')
    (hst : starEach (e :: es) X.env = (false, eval e X.env) :: starEach es X.env := by rfl) (hpl : (backTo pos (starEach es X.env)).any (·.1) = false := by rfl)
    (ht : eval (.Call (.Attribute a m apos) (e :: es) [] pos) X.env = (do
      let ov ← eval a X.env
      standAt apos.atName
      let (f, first) ← holding [ov] (getMethod ov m pl)
      callWith pos f first (backTo pos (starEach (e :: es) X.env)) (backToKw pos (keywordEach [] X.env))) := by rfl) :
    DX X W ρ (.Call (.Attribute a m apos) (e :: es) [] pos) o := by
  obtain ⟨f, fd, ps, F, hme, hb⟩ := F
  refine dx_of (pe_methX (pl := pl) pe_D c hme F hr hb (fun σ => passAt tk σ) pa_A hst hpl ht) fun H₀ G H σ Q St q => ?_
  refine hn.run H₀ G H σ _ St fun p G1 H1 e1 np gp ⟨dx, fv, hh, fr⟩ => ⟨p, dx, fv, rfl, hh, fr.none hm, ha H₀ G1 H1 σ _ (St.up e1) fun vs G2 H2 e2 r2 => ?_⟩
  have g2 : G2 p = none := by
    cases z : G2 p with
    | none => rfl
    | some u =>
      rcases e2.nw p u z with y | y
      · rw [gp] at y; cases y
      · rw [hh] at y; cases y
  refine ⟨p, dx, fv, fs, vs, G2, ds, o, fs', rfl, e2.hh _ _ hh, g2, e2.gh, fr.up e2.gg, r2, hS, ?_⟩
  have e12 := e1.trans e2
  cases o with
  | ret d => exact fun v G' H' mu at' r => q v G' H' (mu.new e12 np) r
  | exc x => exact fun c a G' H' mu at' r => q c a G' H' (mu.new e12 np) r
theorem dx_methN0 {S : Flds → List PyData → Out → Flds → Prop} {pl : Sem Bool} (hn : DNi X ρ a C fs) (F : MeIn X.prog X.w X.K X.mg X.base k C m (spMm C S)) (hr : Room k X.A) (tk : Takes X W) (c : Cls X.K C) (hm : fs.lookup m = none) (hS : S fs [] o fs')
    (ht : eval (.Call (.Attribute a m apos) [] [] pos) X.env = (do
      let ov ← eval a X.env
      standAt apos.atName
      let (f, first) ← holding [ov] (getMethod ov m pl)
      callWith pos f first (backTo pos (starEach [] X.env)) (backToKw pos (keywordEach [] X.env))) := by rfl) :
    DX X W ρ (.Call (.Attribute a m apos) [] [] pos) o := by
  obtain ⟨f, fd, ps, F, hme, hb⟩ := F
  refine dx_of (pe_methX0 (pl := pl) pe_D c hme F hr hb (fun σ => passAt tk σ) ht) fun H₀ G H σ Q St q => ?_
  refine hn.run H₀ G H σ _ St fun p G1 H1 e1 np gp ⟨dx, fv, hh, fr⟩ => ⟨p, dx, fv, rfl, hh, fr.none hm, p, dx, fv, fs, [], G1, [], o, fs', rfl, hh, gp, e1.gh, fr, .nil, hS, ?_⟩
  cases o with
  | ret d => exact fun v G' H' mu at' r => q v G' H' (mu.new e1 np) r
  | exc x => exact fun c a G' H' mu at' r => q c a G' H' (mu.new e1 np) r
end
/-- k14: which class, which line -/
def S__law_raise (cs : List (Addr × Option PyData)) (ds : List PyData) (o : Out) : Prop := ∃ (m : Nat) (c : Addr × Option PyData), ds = [.int (m : Int)] ∧ cs[m]? = some c ∧ o = .exc ⟨c.1, c.2⟩
theorem bad14 : toksP "1/2 x" = [some (1, 2), none] := by decide +kernel
theorem none2 : cornersM 2 [(3, 1)] = [] := by decide +kernel
theorem some2 : cornersM 2 [(1, 1)] ≠ [] := by decide +kernel
def areD (m : Nat) : PyData := .list [.bool (decide (m = 0)), .bool (decide (m = 1)), .bool (decide (m = 2)), .bool (decide (m = 3)), .bool (decide (m = 4)), .bool (decide (m = 5)), .bool (decide (m = 6)), .bool (decide (m = 7)), .bool (decide (m = 8)), .bool (decide (m = 9))]
theorem are14 : ∀ m < 10, PyData.eqv (areD m) (.list ((intsL 0 10).map fun p => .bool (decide (p = (m : Int))))) = true := by decide +kernel
theorem avsO_bad {CN CW : Addr} {v m : PyData} (h : areWt 1 v = false) : avsO CN CW (.int 1) v m = .exc ⟨CW, none⟩ := by
  unfold avsO
  simp only
  rw [if_pos (by decide), if_neg (by rw [show Int.toNat 1 = 1 from rfl, h]; decide)]
end DD
namespace DD
open PySem PySem.Spec PyProof.Rows L2
open TL (tl)
section
variable {X : Cx} {ρ : En} {a : Expr} {pos p2 : Pos} {x : Str}
theorem de_slS {lo hi : Option Expr} {i j : Option Int} (ha : DE X ρ a (.str x)) (hz : x.length ≤ sizeLine) (hl : DO X ρ lo i) (hh : DO X ρ hi j) : DE X ρ (.Subscript a (.Slice lo hi none p2) pos) (.str (L2.cutS x i j)) :=
  de_of (pe_slice sl_str pe_D po_Pt po_Pt) fun H₀ G H σ Q S q => by
    refine ha H₀ G H σ _ S fun v G1 H1 e1 r1 => ?_
    refine hl.run H₀ G1 H1 σ _ (S.up e1) fun G2 H2 e2 => ?_
    refine hh.run H₀ G2 H2 σ _ (S.up (e1.trans e2)) fun G3 H3 e3 => ?_
    cases r1
    exact ⟨x, rfl, hz, (q.back ((e1.trans e2).trans e3)).of e3.gh (.str _)⟩
end
theorem cutS_len (x : Str) (i j : Option Int) : (L2.cutS x i j).length ≤ x.length := by
  unfold L2.cutS
  rw [TL.len_tl, TL.len_tl]
  show ((x.cps.toList.drop _).take _).length ≤ x.cps.toList.length
  rw [List.length_take, List.length_drop]
  omega
/-! ### texts there and back -/
theorem join_split (x y : Str) : Txt.join y (Txt.split x y) = x := by
  unfold Txt.split
  split
  · exact StrLaws.glued_eq_join y [x]
  · split
    · exact StrLaws.glued_eq_join y [x]
    · exact StrLaws.glued_between_self x y _
theorem wordF_join (f : Int × Int) : wordF f = Txt.join "/" [numS f.1, numS f.2] := (StrLaws.glued_eq_join "/" [numS f.1, numS f.2]).symm
theorem tl_numS (n : Nat) : tl (numS (n : Int)) = TL.numL n := TL.tl_num n
theorem num_rt {i : Int} (h0 : 0 ≤ i) (h1 : i ≤ 99999) : numP (numS i) = some i := by
  obtain ⟨n, rfl⟩ := Int.eq_ofNat_of_zero_le h0
  have hl : (TL.numL n).length ≤ 5 := TL.numL_len (by decide) (by show n < 10 ^ 5; omega)
  have hne := TL.numL_ne n
  have hlen : (numS (n : Int)).length = (TL.numL n).length := by rw [TL.len_tl, tl_numS]
  have hpos : 1 ≤ (TL.numL n).length := Nat.one_le_iff_ne_zero.mpr fun z => hne (List.length_eq_zero_iff.mp z)
  have hit : PySem.intText? (numS (n : Int)) = some (n : Int) := TL.int_num (by omega)
  unfold numP
  rw [if_pos ⟨by omega, by omega, fun c hc => mem_digs.mpr (TL.numL_digits n c (by rw [← tl_numS]; exact hc))⟩]
  show (match PySem.intText? (numS (n : Int)) with | some m => if numS m = numS (n : Int) then some m else none | none => none) = _
  rw [hit]
  show (if numS (n : Int) = numS (n : Int) then some (n : Int) else none) = _
  rw [if_pos rfl]
theorem num_inv {t : Str} {n : Int} (h : numP t = some n) : numS n = t := by
  unfold numP at h
  split at h
  · split at h
    · split at h
      · rename_i e; cases h; exact e
      · cases h
    · cases h
  · cases h
theorem no_sl {i : Int} (h0 : 0 ≤ i) {s : Nat} (hs : s < 48 ∨ 57 < s) : s ∉ tl (numS i) := by
  obtain ⟨n, rfl⟩ := Int.eq_ofNat_of_zero_le h0
  rw [tl_numS]
  exact TL.numL_free hs
theorem frac_rt {f : Int × Int} (h : Frac f) (h0 : 0 ≤ f.1) : fracP (wordF f) = some f := by
  have hd := h.lo.1
  have e : Txt.split (wordF f) "/" = [numS f.1, numS f.2] := by
    rw [wordF_join]
    refine TL.split_join (s := 47) (S := []) (by decide +kernel) (by decide +kernel) (by simp) fun p hp => ?_
    simp only [List.mem_cons, List.not_mem_nil, or_false] at hp
    rcases hp with e | e
    · subst e; exact no_sl h0 (by decide)
    · subst e; exact no_sl (by omega) (by decide)
  obtain ⟨h1, h2, h3, h4, -⟩ := id h
  unfold fracP
  rw [e, List.map_cons, List.map_cons, List.map_nil, num_rt h0 (by omega), num_rt (by omega) h4, pick_two, if_pos (isFr_iff.mpr ⟨f, rfl, h⟩)]
theorem frac_inv {t : Str} {f : Int × Int} (h : fracP t = some f) : wordF f = t ∧ Frac f := by
  unfold fracP at h
  have hj := join_split t "/"
  generalize Txt.split t "/" = l at h hj
  match l with
  | [] => cases h
  | [x] =>
    rw [pick_len (by simp)] at h
    cases h
  | [x, y] =>
    rw [List.map_cons, List.map_cons, List.map_nil] at h
    cases ha : numP x with
    | none => rw [ha, pick_none List.mem_cons_self] at h; cases h
    | some a =>
      cases hb : numP y with
      | none => rw [hb, pick_none (List.mem_cons_of_mem _ List.mem_cons_self)] at h; cases h
      | some b =>
        rw [ha, hb, pick_two] at h
        split at h
        · rename_i fr
          cases h
          obtain ⟨g, eg, hg⟩ := isFr_iff.mp fr
          have eg : (a, b) = g := congrArg frOf eg
          subst eg
          refine ⟨?_, hg⟩
          rw [wordF_join]
          show Txt.join "/" [numS a, numS b] = t
          rw [num_inv ha, num_inv hb]
          exact hj
        · cases h
  | x :: y :: z :: r =>
    rw [pick_len (by simp)] at h
    cases h
theorem no_sp {f : Int × Int} (h0 : 0 ≤ f.1) (h1 : 0 ≤ f.2) : 32 ∉ tl (wordF f) := by
  unfold wordF
  rw [TL.tl_append, TL.tl_append]
  intro h
  rcases List.mem_append.mp h with q | q
  · rcases List.mem_append.mp q with q | q
    · exact no_sl h0 (by decide) q
    · revert q; decide +kernel
  · exact no_sl h1 (by decide) q
theorem toks_join {ps : List Str} (hne : ps ≠ []) (h : ∀ p ∈ ps, 32 ∉ tl p) : toksP (Txt.join " " ps) = ps.map fracP := by
  unfold toksP
  rw [TL.split_join (s := 32) (S := []) (by decide +kernel) (by decide +kernel) hne h]
theorem toks_rt {ws : Wts} (hne : ws ≠ []) (h : ∀ f ∈ ws, Frac f ∧ 0 ≤ f.1) : toksP (textW ws) = ws.map some := by
  unfold textW
  rw [toks_join (fun z => hne (List.map_eq_nil_iff.mp z)) fun p hp => ?_]
  · rw [List.map_map]
    exact List.map_congr_left fun f hf => frac_rt (h f hf).1 (h f hf).2
  · obtain ⟨f, hf, rfl⟩ := List.mem_map.mp hp
    exact no_sp (h f hf).2 (Int.le_of_lt (h f hf).1.lo.1)
theorem text_inv {t : Str} {ws : Wts} (h : toksP t = ws.map some) : textW ws = t := by
  have key : ∀ {l : List Str} {ws : Wts}, l.map fracP = ws.map some → ws.map wordF = l := by
    intro l
    induction l with
    | nil => intro ws h; cases ws with
      | nil => rfl
      | cons a b => cases h
    | cons x l ih =>
      intro ws h
      cases ws with
      | nil => cases h
      | cons a b =>
        rw [List.map_cons, List.map_cons] at h
        injection h with h1 h2
        rw [List.map_cons, ih h2, (frac_inv h1).1]
  unfold textW
  rw [key h]
  exact join_split t " "
/-- what parsing answers -/
def parR (t : Str) : PyData :=
  if none ∈ toksP t then .list [.str "line", .int (((toksP t).findIdx (· = none) : Nat) : Int)] else
  if goodW ((toksP t).filterMap id) = true then .tuple [.int ((((toksP t).filterMap id).length : Int) - 1), encL ((toksP t).filterMap id)] else .list [.str "line", .none]
def S__law_parse (ds : List PyData) (o : Out) : Prop := (∃ t : Str, ds = [.str t] ∧ t.length ≤ 1000 ∧ o = .ret (parR t)) ∨ (∃ d, ds = [d] ∧ isSt d = false ∧ o = .ret (.list [.str "line", .none]))
def S_format_weights (ds : List PyData) (o : Out) : Prop := ∃ (last : Nat) (ws : Wts), ds = [.int (last : Int), encL ws] ∧ 1 ≤ last ∧ last ≤ 6 ∧ WtOk last ws ∧ o = .ret (.str (textW ws))
theorem map_some {ws : Wts} : (ws.map some).filterMap id = ws := by rw [List.filterMap_map]; exact List.filterMap_some
theorem good_iff {ws : Wts} : goodW ws = true ↔ ∃ last : Nat, 1 ≤ last ∧ last ≤ 6 ∧ ws.length = last + 1 ∧ WtOk last ws := by
  unfold goodW
  rw [Bool.and_eq_true, decide_eq_true_iff]
  constructor
  · rintro ⟨h1, h2⟩
    obtain ⟨ws', e, hw⟩ := areWt_iff.mp h2
    have e : ws = ws' := by
      have := congrArg (List.map frOf) (PyData.tuple.inj e)
      rwa [map_frOf, map_frOf] at this
    subst e
    exact ⟨ws.length - 1, by omega, by omega, by omega, hw⟩
  · rintro ⟨last, h1, h2, h3, h4⟩
    refine ⟨by omega, ?_⟩
    rw [show ws.length - 1 = last by omega]
    exact areWt_iff.mpr ⟨ws, rfl, h4⟩
theorem par_rt {last : Nat} {ws : Wts} (h1 : 1 ≤ last) (h6 : last ≤ 6) (h : WtOk last ws) : parR (textW ws) = .tuple [.int (last : Int), encL ws] := by
  have hne : ws ≠ [] := fun z => by have := h.1; rw [z] at this; simp at this
  unfold parR
  rw [toks_rt hne h.2.1, if_neg (by simp), map_some, if_pos (good_iff.mpr ⟨last, h1, h6, h.1, h⟩), h.1]
  congr 3
  omega
/-- .. is a line or weights whose text it is -/
theorem par_cases (t : Str) : (∃ d, parR t = .list [.str "line", d]) ∨ ∃ (last : Nat) (ws : Wts), 1 ≤ last ∧ last ≤ 6 ∧ WtOk last ws ∧ textW ws = t ∧ parR t = .tuple [.int (last : Int), encL ws] := by
  unfold parR
  split
  · exact .inl ⟨_, rfl⟩
  · rename_i hn
    split
    · rename_i hg
      right
      obtain ⟨last, h1, h6, h3, h4⟩ := good_iff.mp hg
      have e : toksP t = ((toksP t).filterMap id).map some := by
        generalize toksP t = l at hn
        clear hg h3 h4
        induction l with
        | nil => rfl
        | cons a b ih =>
          cases a with
          | none => exact absurd List.mem_cons_self hn
          | some a => exact congrArg (List.cons (some a)) (ih (fun z => hn (List.mem_cons_of_mem _ z)))
      refine ⟨last, _, h1, h6, h4, text_inv e, ?_⟩
      rw [h3]
      congr 3
      omega
    · exact .inl ⟨_, rfl⟩
/-- a wrong word at a place -/
theorem par_wrong {l r : Wts} {w : Str} (hl : ∀ f ∈ l, Frac f ∧ 0 ≤ f.1) (hr : ∀ f ∈ r, Frac f ∧ 0 ≤ f.1) (hw : fracP w = none) (h32 : 32 ∉ tl w) : parR (Txt.join " " (l.map wordF ++ [w, "y"] ++ r.map wordF)) = .list [.str "line", .int (l.length : Int)] := by
  have ho : ∀ k : Wts, (∀ f ∈ k, Frac f ∧ 0 ≤ f.1) → ∀ p ∈ k.map wordF, 32 ∉ tl p := fun k hk p hp => by
    obtain ⟨f, hf, rfl⟩ := List.mem_map.mp hp
    exact no_sp (hk f hf).2 (Int.le_of_lt (hk f hf).1.lo.1)
  have e : toksP (Txt.join " " (l.map wordF ++ [w, "y"] ++ r.map wordF)) = (l.map wordF ++ [w, "y"] ++ r.map wordF).map fracP := toks_join (by simp) fun p hp => by
    rcases List.mem_append.mp hp with q | q
    · rcases List.mem_append.mp q with q | q
      · exact ho l hl p q
      · simp only [List.mem_cons, List.not_mem_nil, or_false] at q
        rcases q with q | q
        · rw [q]; exact h32
        · rw [q]; decide +kernel
    · exact ho r hr p q
  have el : (l.map wordF).map fracP = l.map some := by
    rw [List.map_map]
    exact List.map_congr_left fun f hf => frac_rt (hl f hf).1 (hl f hf).2
  unfold parR
  rw [e, List.map_append, List.map_append, el, List.map_cons, hw, if_pos (by simp)]
  have : (l.map some ++ none :: [("y" : Str)].map fracP ++ (r.map wordF).map fracP).findIdx (fun x => decide (x = none)) = l.length := by
    rw [List.append_assoc, List.findIdx_append]
    have h0 : (l.map some).findIdx (fun x => decide (x = none)) = (l.map some).length := List.findIdx_eq_length.mpr fun x hx => by
      obtain ⟨f, -, rfl⟩ := List.mem_map.mp hx
      simp
    rw [h0, if_neg (by omega), List.length_map]
    show _ + _ = _
    rw [List.cons_append, List.findIdx_cons]
    simp
  rw [this]
theorem par_bad1 : parR "1/1" = .list [.str "line", .none] := by
  unfold parR
  rw [if_neg (by decide +kernel), if_neg (by decide +kernel)]
theorem par_bad2 : parR "1/2 1/3" = .list [.str "line", .none] := by
  unfold parR
  rw [if_neg (by decide +kernel), if_neg (by decide +kernel)]
def wrongs : List Str := ["", "1", "1/0", "2/4", "0/2", "01/2", "-1/2", "1/2/3", "a/2", "/", "100000/1"]
theorem wrongs_no : ∀ w ∈ wrongs, fracP w = none ∧ 32 ∉ tl w ∧ w.length ≤ 10 := by decide +kernel
theorem join_len {z : Str} : ∀ {ys : List Str} {n : Nat}, (∀ y ∈ ys, y.length + z.length ≤ n) → (Str.join z ys).length ≤ n * ys.length := by
  have key : ∀ {l : List (List Nat)} {n : Nat}, (∀ u ∈ l, u.length + z.length ≤ n) → (TL.joinL (tl z) l).length ≤ n * l.length := by
    intro l n
    induction l with
    | nil => intro _; exact Nat.zero_le _
    | cons u l ih =>
      intro h
      have hu := h u List.mem_cons_self
      have hz := TL.len_tl z
      cases l with
      | nil => show u.length ≤ n * 1; omega
      | cons v l =>
        have ih := ih fun w hw => h w (List.mem_cons_of_mem _ hw)
        show (u ++ (tl z ++ TL.joinL (tl z) (v :: l))).length ≤ n * ((v :: l).length + 1)
        rw [List.length_append, List.length_append, Nat.mul_succ]
        omega
  intro ys n h
  rw [TL.len_tl, TL.tl_join]
  have := key (l := ys.map tl) (n := n) fun u hu => by
    obtain ⟨y, hy, rfl⟩ := List.mem_map.mp hu
    have := h y hy
    have := TL.len_tl y
    omega
  rwa [List.length_map] at this
theorem join_len' {z : Str} {ys : List Str} {n : Nat} (h : ∀ y ∈ ys, y.length + z.length ≤ n) : (Txt.join z ys).length ≤ n * ys.length := by
  rw [show Txt.join z ys = Str.join z ys from StrLaws.glued_eq_join z ys]
  exact join_len h
theorem textW_len {ws : Wts} (h : ∀ f ∈ ws, Frac f) : (textW ws).length ≤ 24 * ws.length := by
  unfold textW
  have := join_len' (z := " ") (ys := ws.map wordF) (n := 24) fun y hy => by
    obtain ⟨f, hf, rfl⟩ := List.mem_map.mp hy
    have := wordF_len (h f hf)
    have : (" " : Str).length = 1 := by decide
    omega
  rwa [List.length_map] at this
theorem ans_pair (l : Int) (ws : Wts) : Ans (.tuple [.int l, encL ws]) := by
  have a1 : PyData.eqv (.int l) (.int l) = true := eqv_self eq_int _
  have a2 : PyData.eqv (encL ws) (encL ws) = true := eqv_self eq_encL _
  refine ⟨?_, (sh_tup (n := 2) fun d hd => ?_).shaped⟩
  · show (!(PyData.eqv (.int l) (.int l) && (PyData.eqv (encL ws) (encL ws) && true))) = false
    rw [a1, a2] <;> rfl
  · simp only [List.mem_cons, List.not_mem_nil, or_false] at hd
    rcases hd with e | e
    · subst e; exact sh_int
    · subst e; exact sh_L
theorem ans_line {d : PyData} (h : d = .none ∨ ∃ i, d = .int i) : Ans (.list [.str "line", d]) := by
  have a2 : PyData.eqv d d = true := by
    rcases h with e | ⟨i, e⟩
    · subst e; rfl
    · subst e; exact eqv_self eq_int _
  refine ⟨?_, (sh_lst (n := 0) fun x hx => ?_).shaped⟩
  · show (!(PyData.eqv (.str "line") (.str "line") && (PyData.eqv d d && true))) = false
    rw [a2, show PyData.eqv (.str "line") (.str "line") = true by decide +kernel] <;> rfl
  · simp only [List.mem_cons, List.not_mem_nil, or_false] at hx
    rcases hx with e | e
    · subst e; exact sh_str (by decide +kernel)
    · subst e
      rcases h with e | ⟨i, e⟩
      · subst e; exact sh_none
      · subst e; exact sh_int
def news : List Str := ["0", " ", "1", "/", "x", "2/2", "-"]
theorem news_len : ∀ w ∈ news, w.length ≤ 3 := by decide +kernel
theorem at_str {l : List Str} {i : Int} (h0 : 0 ≤ i) (h1 : i < l.length) : ∃ w ∈ l, atI (l.map PyData.str) i = some (PyData.str w) := by
  obtain ⟨n, rfl⟩ := Int.eq_ofNat_of_zero_le h0
  have hn : n < l.length := by omega
  exact ⟨l[n], List.getElem_mem hn, atI_nat (by rw [List.getElem?_map, List.getElem?_eq_getElem hn]; rfl)⟩
end DD
namespace My
open PySem PySem.Spec PyProof.Rows L2 DD
def topS (i : Nat) : Stmt := PySem.Challenge.pw_toldaverages_k11_text.main.body.getD i (.Pass ⟨0, 0, 0, 0⟩)
def st_in_range : { s : Stmt // topS 7 = s } := by
  refine ⟨?s, ?h⟩
  case h => conv => lhs; whnf
abbrev s_in_range : Stmt := st_in_range.1
abbrev n_in_range : List Str := ["value", "low", "high"]
abbrev p_in_range : List Str := ["value", "low", "high"]
theorem c_in_range : FnScope n_in_range p_in_range (defScope s_in_range) := ⟨rfl, rfl, rfl, by decide +kernel, rfl, by decide +kernel, by decide +kernel⟩
def st_greatest_divisor : { s : Stmt // topS 8 = s } := by
  refine ⟨?s, ?h⟩
  case h => conv => lhs; whnf
abbrev s_greatest_divisor : Stmt := st_greatest_divisor.1
abbrev n_greatest_divisor : List Str := ["one", "other"]
abbrev p_greatest_divisor : List Str := ["one", "other"]
theorem c_greatest_divisor : FnScope n_greatest_divisor p_greatest_divisor (defScope s_greatest_divisor) := ⟨rfl, rfl, rfl, by decide +kernel, rfl, by decide +kernel, by decide +kernel⟩
def st_reduced : { s : Stmt // topS 9 = s } := by
  refine ⟨?s, ?h⟩
  case h => conv => lhs; whnf
abbrev s_reduced : Stmt := st_reduced.1
abbrev n_reduced : List Str := ["above", "below", "divisor"]
abbrev p_reduced : List Str := ["above", "below"]
theorem c_reduced : FnScope n_reduced p_reduced (defScope s_reduced) := ⟨rfl, rfl, rfl, by decide +kernel, rfl, by decide +kernel, by decide +kernel⟩
def st_is_fraction : { s : Stmt // topS 10 = s } := by
  refine ⟨?s, ?h⟩
  case h => conv => lhs; whnf
abbrev s_is_fraction : Stmt := st_is_fraction.1
abbrev n_is_fraction : List Str := ["value"]
abbrev p_is_fraction : List Str := ["value"]
theorem c_is_fraction : FnScope n_is_fraction p_is_fraction (defScope s_is_fraction) := ⟨rfl, rfl, rfl, by decide +kernel, rfl, by decide +kernel, by decide +kernel⟩
def st_plus : { s : Stmt // topS 11 = s } := by
  refine ⟨?s, ?h⟩
  case h => conv => lhs; whnf
abbrev s_plus : Stmt := st_plus.1
abbrev n_plus : List Str := ["one", "other"]
abbrev p_plus : List Str := ["one", "other"]
theorem c_plus : FnScope n_plus p_plus (defScope s_plus) := ⟨rfl, rfl, rfl, by decide +kernel, rfl, by decide +kernel, by decide +kernel⟩
def st_total : { s : Stmt // topS 12 = s } := by
  refine ⟨?s, ?h⟩
  case h => conv => lhs; whnf
abbrev s_total : Stmt := st_total.1
abbrev n_total : List Str := ["some", "result", "one"]
abbrev p_total : List Str := ["some"]
theorem c_total : FnScope n_total p_total (defScope s_total) := ⟨rfl, rfl, rfl, by decide +kernel, rfl, by decide +kernel, by decide +kernel⟩
def st_check_last : { s : Stmt // topS 15 = s } := by
  refine ⟨?s, ?h⟩
  case h => conv => lhs; whnf
abbrev s_check_last : Stmt := st_check_last.1
abbrev n_check_last : List Str := ["last"]
abbrev p_check_last : List Str := ["last"]
theorem c_check_last : FnScope n_check_last p_check_last (defScope s_check_last) := ⟨rfl, rfl, rfl, by decide +kernel, rfl, by decide +kernel, by decide +kernel⟩
def st_are_weights : { s : Stmt // topS 16 = s } := by
  refine ⟨?s, ?h⟩
  case h => conv => lhs; whnf
abbrev s_are_weights : Stmt := st_are_weights.1
abbrev n_are_weights : List Str := ["last", "value", "one"]
abbrev p_are_weights : List Str := ["last", "value"]
theorem c_are_weights : FnScope n_are_weights p_are_weights (defScope s_are_weights) := ⟨rfl, rfl, rfl, by decide +kernel, rfl, by decide +kernel, by decide +kernel⟩
def st_written : { s : Stmt // topS 19 = s } := by
  refine ⟨?s, ?h⟩
  case h => conv => lhs; whnf
abbrev s_written : Stmt := st_written.1
abbrev n_written : List Str := ["some", "above", "below"]
abbrev p_written : List Str := ["some"]
theorem c_written : FnScope n_written p_written (defScope s_written) := ⟨rfl, rfl, rfl, by decide +kernel, rfl, by decide +kernel, by decide +kernel⟩
def st_format_weights : { s : Stmt // topS 20 = s } := by
  refine ⟨?s, ?h⟩
  case h => conv => lhs; whnf
abbrev s_format_weights : Stmt := st_format_weights.1
abbrev n_format_weights : List Str := ["last", "weights"]
abbrev p_format_weights : List Str := ["last", "weights"]
theorem c_format_weights : FnScope n_format_weights p_format_weights (defScope s_format_weights) := ⟨rfl, rfl, rfl, by decide +kernel, rfl, by decide +kernel, by decide +kernel⟩
def st_parse_number : { s : Stmt // topS 21 = s } := by
  refine ⟨?s, ?h⟩
  case h => conv => lhs; whnf
abbrev s_parse_number : Stmt := st_parse_number.1
abbrev n_parse_number : List Str := ["token", "sign"]
abbrev p_parse_number : List Str := ["token"]
theorem c_parse_number : FnScope n_parse_number p_parse_number (defScope s_parse_number) := ⟨rfl, rfl, rfl, by decide +kernel, rfl, by decide +kernel, by decide +kernel⟩
def st_parse_fraction : { s : Stmt // topS 22 = s } := by
  refine ⟨?s, ?h⟩
  case h => conv => lhs; whnf
abbrev s_parse_fraction : Stmt := st_parse_fraction.1
abbrev n_parse_fraction : List Str := ["token", "numbers", "part"]
abbrev p_parse_fraction : List Str := ["token"]
theorem c_parse_fraction : FnScope n_parse_fraction p_parse_fraction (defScope s_parse_fraction) := ⟨rfl, rfl, rfl, by decide +kernel, rfl, by decide +kernel, by decide +kernel⟩
def st_parse_weights : { s : Stmt // topS 23 = s } := by
  refine ⟨?s, ?h⟩
  case h => conv => lhs; whnf
abbrev s_parse_weights : Stmt := st_parse_weights.1
abbrev n_parse_weights : List Str := ["text", "found", "token", "last"]
abbrev p_parse_weights : List Str := ["text"]
theorem c_parse_weights : FnScope n_parse_weights p_parse_weights (defScope s_parse_weights) := ⟨rfl, rfl, rfl, by decide +kernel, rfl, by decide +kernel, by decide +kernel⟩
def st__law_cell : { s : Stmt // topS 25 = s } := by
  refine ⟨?s, ?h⟩
  case h => conv => lhs; whnf
abbrev s__law_cell : Stmt := st__law_cell.1
abbrev n__law_cell : List Str := ["_law_script", "_law_k"]
abbrev p__law_cell : List Str := ["_law_script", "_law_k"]
theorem c__law_cell : FnScope n__law_cell p__law_cell (defScope s__law_cell) := ⟨rfl, rfl, rfl, by decide +kernel, rfl, by decide +kernel, by decide +kernel⟩
def st__law_row : { s : Stmt // topS 26 = s } := by
  refine ⟨?s, ?h⟩
  case h => conv => lhs; whnf
abbrev s__law_row : Stmt := st__law_row.1
abbrev n__law_row : List Str := ["_law_script", "_law_at", "_law_cell_here", "_law_found", "_law_time"]
abbrev p__law_row : List Str := ["_law_script", "_law_at"]
theorem c__law_row : FnScope n__law_row p__law_row (defScope s__law_row) := ⟨rfl, rfl, rfl, by decide +kernel, rfl, by decide +kernel, by decide +kernel⟩
def st__law_gcd : { s : Stmt // topS 27 = s } := by
  refine ⟨?s, ?h⟩
  case h => conv => lhs; whnf
abbrev s__law_gcd : Stmt := st__law_gcd.1
abbrev n__law_gcd : List Str := ["_law_one", "_law_other"]
abbrev p__law_gcd : List Str := ["_law_one", "_law_other"]
theorem c__law_gcd : FnScope n__law_gcd p__law_gcd (defScope s__law_gcd) := ⟨rfl, rfl, rfl, by decide +kernel, rfl, by decide +kernel, by decide +kernel⟩
def st__law_low : { s : Stmt // topS 28 = s } := by
  refine ⟨?s, ?h⟩
  case h => conv => lhs; whnf
abbrev s__law_low : Stmt := st__law_low.1
abbrev n__law_low : List Str := ["_law_above", "_law_below", "_law_sign", "_law_divisor"]
abbrev p__law_low : List Str := ["_law_above", "_law_below"]
theorem c__law_low : FnScope n__law_low p__law_low (defScope s__law_low) := ⟨rfl, rfl, rfl, by decide +kernel, rfl, by decide +kernel, by decide +kernel⟩
def st__law_weights : { s : Stmt // topS 29 = s } := by
  refine ⟨?s, ?h⟩
  case h => conv => lhs; whnf
abbrev s__law_weights : Stmt := st__law_weights.1
abbrev n__law_weights : List Str := ["_law_script", "_law_at", "_law_last", "_law_draws", "_law_many", "_law_counts", "_law_time", "_law_place", "_law_count"]
abbrev p__law_weights : List Str := ["_law_script", "_law_at", "_law_last"]
theorem c__law_weights : FnScope n__law_weights p__law_weights (defScope s__law_weights) := ⟨rfl, rfl, rfl, by decide +kernel, rfl, by decide +kernel, by decide +kernel⟩
def st__law_parse : { s : Stmt // topS 30 = s } := by
  refine ⟨?s, ?h⟩
  case h => conv => lhs; whnf
abbrev s__law_parse : Stmt := st__law_parse.1
abbrev n__law_parse : List Str := ["_law_text", "e"]
abbrev p__law_parse : List Str := ["_law_text"]
theorem c__law_parse : FnScope n__law_parse p__law_parse (defScope s__law_parse) := ⟨rfl, rfl, rfl, by decide +kernel, rfl, by decide +kernel, by decide +kernel⟩
def st_law : { s : Stmt // topS 31 = s } := by
  refine ⟨?s, ?h⟩
  case h => conv => lhs; whnf
abbrev s_law : Stmt := st_law.1
abbrev n_law : List Str := ["_law_script", "_law_draws", "_law_last", "_law_weights_here", "_law_tokens", "_law_above", "_law_below", "_law_text", "_law_spot", "_law_new", "_law_edited", "_law_found", "_law_at", "_law_wrong"]
abbrev p_law : List Str := ["_law_script"]
theorem c_law : FnScope n_law p_law (defScope s_law) := ⟨rfl, rfl, rfl, by decide +kernel, rfl, by decide +kernel, by decide +kernel⟩
def st_ParseError___init__ : { s : Stmt // inClass (topS 2) 0 = s } := by
  refine ⟨?s, ?h⟩
  case h => conv => lhs; whnf
abbrev s_ParseError___init__ : Stmt := st_ParseError___init__.1
abbrev n_ParseError___init__ : List Str := ["self", "line"]
abbrev p_ParseError___init__ : List Str := ["self", "line"]
theorem c_ParseError___init__ : FnScope n_ParseError___init__ p_ParseError___init__ (defScope s_ParseError___init__) := ⟨rfl, rfl, rfl, by decide +kernel, rfl, by decide +kernel, by decide +kernel⟩
/-- what the module says of its names -/
structure Md (K : PySem.W.Frag) (mg : Str → Option Value) : Type where
  isinstance : mg "isinstance" = none
  int : mg "int" = none
  bool : mg "bool" = none
  tuple : mg "tuple" = none
  range : mg "range" = none
  len : mg "len" = none
  abs : mg "abs" = none
  str : mg "str" = none
  ValueError : mg "ValueError" = none
  C_AverageError : Addr
  E_AverageError : ECls K mg "AverageError" C_AverageError
  C_ParseError : Addr
  P_ParseError : PEC K mg C_ParseError C_AverageError
  C_InvalidNumber : Addr
  E_InvalidNumber : ECls K mg "InvalidNumber" C_InvalidNumber
  C_InvalidWeights : Addr
  E_InvalidWeights : ECls K mg "InvalidWeights" C_InvalidWeights
  g_MAX_PART : ∃ t, mg "MAX_PART" = some (.int 99999 t)
  g_MAX_PLACE : ∃ t, mg "MAX_PLACE" = some (.int 6 t)
  g_DIGITS : ∃ t, mg "DIGITS" = some (.str "0123456789" t)
  R_InvalidNumber_ParseError : RelC K C_InvalidNumber C_ParseError false
  R_InvalidNumber_AverageError : RelC K C_InvalidNumber C_AverageError true
  R_InvalidNumber_InvalidWeights : RelC K C_InvalidNumber C_InvalidWeights false
  R_InvalidWeights_ParseError : RelC K C_InvalidWeights C_ParseError false
  R_InvalidWeights_AverageError : RelC K C_InvalidWeights C_AverageError true
  R_InvalidWeights_InvalidWeights : RelC K C_InvalidWeights C_InvalidWeights true
  R_ParseError_ParseError : RelC K C_ParseError C_ParseError true
  R_ParseError_AverageError : RelC K C_ParseError C_AverageError true
  R_ParseError_InvalidWeights : RelC K C_ParseError C_InvalidWeights false
  X_InvalidNumber : L2.ExcC K C_InvalidNumber
  X_InvalidWeights : L2.ExcC K C_InvalidWeights
  X_ParseError : L2.ExcC K C_ParseError
/-! ### in_range -/
section
variable {P : Program} {w : World} {K : PySem.W.Frag} {mg : Str → Option Value} {base : Heap} (M : Md K mg) {f : Addr} {fd : FuncData}
include M
theorem f_in_range (F : Fun K "in_range" "in_range" s_in_range f fd) : FnOk P w K mg base (L2.CX P w) 1 f fd p_in_range (spD S_in_range) := by
  refine fn_ok (k := 0) F c_in_range (fun ds o ⟨_, _, _, h, _⟩ => by rw [h]; rfl) (by decide) fun cdv A outer s H E ds o hr hS tk => ?_
  obtain ⟨v, lo, hi, rfl, rfl⟩ := hS
  show DS _ _ [.dat v, .dat (.int lo), .dat (.int hi)] _ _
  cases v with
  | int i => exact ds_ret (de_andB (de_isI M.isinstance M.int (de_var (i := 0) rfl)) fun _ => (de_andB (de_notB (de_isBl M.isinstance M.bool (de_var (i := 0) rfl))) fun _ => (de_one (de_lele (de_var (i := 1) rfl) (de_var (i := 0) rfl) (de_var (i := 2) rfl))))) rfl
  | bool b => exact ds_ret (de_andB (de_isI M.isinstance M.int (de_var (i := 0) rfl)) fun _ => de_andF (de_notB (de_isBl M.isinstance M.bool (de_var (i := 0) rfl)))) rfl
  | _ => exact ds_ret (de_andF (de_isI M.isinstance M.int (de_var (i := 0) rfl))) rfl
end
/-! ### greatest_divisor -/
section
variable {P : Program} {w : World} {K : PySem.W.Frag} {mg : Str → Option Value} {base : Heap} (M : Md K mg) {f : Addr} {fd : FuncData}
include M
theorem f_greatest_divisor (F : Fun K "greatest_divisor" "greatest_divisor" s_greatest_divisor f fd) : FnOk P w K mg base (L2.CX P w) 1 f fd p_greatest_divisor (spD S_greatest_divisor) := by
  refine fn_ok (k := 0) F c_greatest_divisor (fun ds o ⟨_, _, h, _⟩ => by rw [h]; rfl) (by decide) fun cdv A outer s H E ds o hr hS tk => ?_
  obtain ⟨a, b, rfl, rfl⟩ := hS
  show DS _ _ [.dat (.int a), .dat (.int b)] _ _
  refine ds_while (fun m ρ => ∃ x y : Nat, ρ = [.dat (.int x), .dat (.int y)] ∧ m = y ∧ Nat.gcd x y = Nat.gcd a b) b ⟨a, b, rfl, rfl, rfl⟩ fun m ρ' hJ => ?_
  obtain ⟨x, y, rfl, rfl, hg⟩ := hJ
  refine ⟨_, dt_tru (de_var (i := 1) (d := .int (m : Int)) rfl) (by intro s h; cases h), fun hk => ?_, fun hk => ?_⟩
  · have h0 : 0 < m := by
      rcases Nat.eq_zero_or_pos m with z | z
      · subst z; cases hk
      · exact z
    refine ds_par 0 1 (da_cons (de_var (i := 1) rfl) (da_cons (de_is (z := .int ((x % m : Nat) : Int)) (de_mod (de_var (i := 0) rfl) (de_var (i := 1) rfl) (by omega)) rfl) da_nil)) ?_ c_greatest_divisor.nd
    refine ds_end ⟨x % m, Nat.mod_lt _ h0, m, x % m, rfl, rfl, ?_⟩
    rw [← hg, Nat.gcd_comm x m, Nat.gcd_rec m x, Nat.gcd_comm]
  · have h0 : m = 0 := by
      rcases Nat.eq_zero_or_pos m with z | z
      · exact z
      · exact absurd hk (by
          show ¬ (!((m : Int) == 0)) = false
          have : ((m : Int) == 0) = false := by simp; omega
          rw [this]; decide)
    subst h0
    refine ds_ret (de_var (i := 0) rfl) ?_
    rw [← hg, Nat.gcd_zero_right]
    exact rfl
end
/-! ### reduced -/
section
variable {P : Program} {w : World} {K : PySem.W.Frag} {mg : Str → Option Value} {base : Heap} (M : Md K mg) {f : Addr} {fd : FuncData}
include M
theorem f_reduced (F : Fun K "reduced" "reduced" s_reduced f fd) (F_greatest_divisor : FnIn P w K mg base 1 "greatest_divisor" S_greatest_divisor) : FnOk P w K mg base (L2.CX P w) 2 f fd p_reduced (spD S_reduced) := by
  refine fn_ok (k := 1) F c_reduced (fun ds o ⟨_, _, h, _⟩ => by rw [h]; rfl) (by decide) fun cdv A outer s H E ds o hr hS tk => ?_
  obtain ⟨a, b, rfl, h0, hb, rfl⟩ := hS
  show DS _ _ [.dat (.int a), .dat (.int b), .un] _ _
  have eb : ((b.natAbs : Nat) : Int) = b := by omega
  refine ds_set 2 (d := .int (Nat.gcd a.natAbs b.natAbs : Nat)) (de_call F_greatest_divisor hr (da_cons (de_abs M.abs (de_var (i := 0) rfl)) (da_cons (de_var (i := 1) rfl) da_nil)) ⟨a.natAbs, b.natAbs, by rw [eb], rfl⟩) ?_ c_reduced.nd
  have hg : 0 < Nat.gcd a.natAbs b.natAbs := Nat.gcd_pos_of_pos_right _ (by omega)
  have hgl : Nat.gcd a.natAbs b.natAbs ≤ b.natAbs := Nat.le_of_dvd (by omega) (Nat.gcd_dvd_right _ _)
  have hd : ∀ i : Int, CDivW i ((Nat.gcd a.natAbs b.natAbs : Nat) : Int) := fun i => wide_div (b := 9000) (by omega) (by rw [Int.natAbs_natCast]; exact Nat.lt_of_le_of_lt hgl hb) (by decide) (by decide)
  exact ds_ret (de_tup (da_cons (de_fdivW (de_var (i := 0) rfl) (de_var (i := 2) rfl) (hd _)) (da_cons (de_fdivW (de_var (i := 1) rfl) (de_var (i := 2) rfl) (hd _)) da_nil))) rfl
end
/-! ### is_fraction -/
section
variable {P : Program} {w : World} {K : PySem.W.Frag} {mg : Str → Option Value} {base : Heap} (M : Md K mg) {f : Addr} {fd : FuncData}
include M
theorem f_is_fraction (F : Fun K "is_fraction" "is_fraction" s_is_fraction f fd) (F_in_range : FnIn P w K mg base 1 "in_range" S_in_range) (F_greatest_divisor : FnIn P w K mg base 1 "greatest_divisor" S_greatest_divisor) : FnOk P w K mg base (L2.CX P w) 2 f fd p_is_fraction (spD S_is_fraction) := by
  refine fn_ok (k := 1) F c_is_fraction (fun ds o ⟨_, h, _⟩ => by rw [h]; rfl) (by decide) fun cdv A outer s H E ds o hr hS tk => ?_
  obtain ⟨v, rfl, rfl⟩ := hS
  obtain ⟨t, g_MAX_PART⟩ := M.g_MAX_PART
  show DS _ _ [.dat v] _ _
  cases v with
  | tuple xs =>
    by_cases h2 : ∃ x y, xs = [x, y]
    · obtain ⟨x, y, rfl⟩ := h2
      cases h1 : inR x (-99999) 99999 with
      | false =>
        refine ds_T (k := true) (dt_w (dw_orF (dt_not (dt_val (de_isTu M.isinstance M.tuple (de_var (i := 0) rfl)))) (dw_orF (dt_neI (de_lenT (ds := [x, y]) M.len (de_var (i := 0) rfl)) de_int) (dw_or1 (k := true) (dt_is (dt_not (dt_val (de_call F_in_range hr (da_cons (de_ixT (ds := [x, y]) (de_var (i := 0) rfl) de_int rfl) (da_cons (de_neg (de_globI g_MAX_PART)) (da_cons (de_globI g_MAX_PART) da_nil))) ⟨_, _, _, rfl, rfl⟩))) (by rw [h1]; rfl)))))) (ds_ret de_bl ?_)
        show Out.ret (.bool (inR x (-99999) 99999 && _)) = _
        rw [h1] <;> rfl
      | true =>
        refine ds_F (k := false) (dt_w (dw_orF (dt_not (dt_val (de_isTu M.isinstance M.tuple (de_var (i := 0) rfl)))) (dw_orF (dt_neI (de_lenT (ds := [x, y]) M.len (de_var (i := 0) rfl)) de_int) (dw_or1 (k := false) (dt_is (dt_not (dt_val (de_call F_in_range hr (da_cons (de_ixT (ds := [x, y]) (de_var (i := 0) rfl) de_int rfl) (da_cons (de_neg (de_globI g_MAX_PART)) (da_cons (de_globI g_MAX_PART) da_nil))) ⟨_, _, _, rfl, rfl⟩))) (by rw [h1]; rfl)))))) ?_
        obtain ⟨i, rfl, -, -⟩ := inR_iff.mp h1
        cases h3 : inR y 1 99999 with
        | false =>
          refine ds_ret (de_andF (de_call F_in_range hr (da_cons (de_ixT (ds := [.int i, y]) (de_var (i := 0) rfl) de_int rfl) (da_cons de_int (da_cons (de_globI g_MAX_PART) da_nil))) ⟨_, _, _, rfl, rfl⟩) h3) ?_
          show Out.ret (.bool (inR (.int i) (-99999) 99999 && _)) = _
          rw [h1]
          cases y with
          | int b => show Out.ret (.bool (true && (inR (.int b) 1 99999 && _))) = _; rw [h3] <;> rfl
          | _ => rfl
        | true =>
          obtain ⟨b, rfl, b1, b2⟩ := inR_iff.mp h3
          have eb : ((b.natAbs : Nat) : Int) = b := by omega
          refine ds_ret (de_andT (de_call F_in_range hr (da_cons (de_ixT (ds := [.int i, .int b]) (de_var (i := 0) rfl) de_int rfl) (da_cons de_int (da_cons (de_globI g_MAX_PART) da_nil))) ⟨_, _, _, rfl, rfl⟩) (de_one (de_eqI (i := ((Nat.gcd i.natAbs b.natAbs : Nat) : Int)) (de_call F_greatest_divisor hr (da_cons (de_abs M.abs (de_ixT (ds := [.int i, .int b]) (de_var (i := 0) rfl) de_int rfl)) (da_cons (de_ixT (ds := [.int i, .int b]) (de_var (i := 0) rfl) de_int rfl) da_nil)) ⟨i.natAbs, b.natAbs, by rw [eb], rfl⟩) de_int)) h3) ?_
          show Out.ret (.bool (inR (.int i) (-99999) 99999 && (inR (.int b) 1 99999 && decide (Nat.gcd i.natAbs b.natAbs = 1)))) = _
          rw [h1, h3]
          congr 2
          show decide (Nat.gcd i.natAbs b.natAbs = 1) = decide (((Nat.gcd i.natAbs b.natAbs : Nat) : Int) = 1)
          congr 1
          apply propext
          omega
    · have hb : isFr (.tuple xs) = false := by
        unfold isFr
        split
        · rename_i x y e; exact absurd ⟨x, y, PyData.tuple.inj e⟩ h2
        · rfl
      refine ds_T (k := true) (dt_w (dw_orF (dt_not (dt_val (de_isTu M.isinstance M.tuple (de_var (i := 0) rfl)))) (dw_orT (dt_neI (de_lenT (ds := xs) M.len (de_var (i := 0) rfl)) de_int) ?_))) (ds_ret de_bl (by rw [hb]; rfl))
      have : (xs.length : Int) ≠ 2 := fun z => h2 (by
        match xs, z with
        | [b1, b2], _ => exact ⟨b1, b2, rfl⟩)
      simp [this]
  | _ => exact ds_T (k := true) (dt_w (dw_orT (dt_not (dt_val (de_isTu M.isinstance M.tuple (de_var (i := 0) rfl)))))) (ds_ret de_bl rfl)
end
/-! ### plus -/
section
variable {P : Program} {w : World} {K : PySem.W.Frag} {mg : Str → Option Value} {base : Heap} (M : Md K mg) {f : Addr} {fd : FuncData}
include M
theorem f_plus (F : Fun K "plus" "plus" s_plus f fd) (F_reduced : FnIn P w K mg base 2 "reduced" S_reduced) : FnOk P w K mg base (L2.CX P w) 3 f fd p_plus (spD S_plus) := by
  refine fn_ok (k := 2) F c_plus (fun ds o ⟨_, _, _, _, h, _⟩ => by rw [h]; rfl) (by decide) fun cdv A outer s H E ds o hr hS tk => ?_
  obtain ⟨f, g, n, m, rfl, hf, hg, hnm, rfl⟩ := hS
  show DS _ _ [.dat (encF f), .dat (encF g)] _ _
  exact ds_ret (de_call F_reduced (hr.mono (by decide)) (da_cons (de_add (de_mulW (de_ixT (ds := [.int f.1, .int f.2]) (de_var (i := 0) rfl) de_int rfl) (de_ixT (ds := [.int g.1, .int g.2]) (de_var (i := 1) rfl) de_int rfl) (mulW hf.2.1 hg.2.2 (by omega)))
      (de_mulW (de_ixT (ds := [.int g.1, .int g.2]) (de_var (i := 1) rfl) de_int rfl) (de_ixT (ds := [.int f.1, .int f.2]) (de_var (i := 0) rfl) de_int rfl) (mulW hg.2.1 hf.2.2 (by omega))))
    (da_cons (de_mulW (de_ixT (ds := [.int f.1, .int f.2]) (de_var (i := 0) rfl) de_int rfl) (de_ixT (ds := [.int g.1, .int g.2]) (de_var (i := 1) rfl) de_int rfl) (mulW hf.2.2 hg.2.2 (by omega))) da_nil))
    ⟨_, _, rfl, Int.mul_pos hf.1 hg.1, Nat.lt_of_lt_of_le (wide_lt hf.2.2 hg.2.2) (Nat.pow_le_pow_right (by decide) (by omega)), rfl⟩) rfl
end
/-! ### check_last -/
section
variable {P : Program} {w : World} {K : PySem.W.Frag} {mg : Str → Option Value} {base : Heap} (M : Md K mg) {f : Addr} {fd : FuncData}
theorem f_check_last (F : Fun K "check_last" "check_last" s_check_last f fd) (F_in_range : FnIn P w K mg base 1 "in_range" S_in_range) :
    FnOk P w K mg base (L2.CX P w) 2 f fd p_check_last (spD (S_check_last M.C_InvalidNumber)) := by
  refine fn_ok (k := 1) F c_check_last (fun ds o ⟨_, h, _⟩ => by rw [h]; rfl) (by decide) fun cdv A outer s H E ds o hr hS tk => ?_
  obtain ⟨v, rfl, rfl⟩ := hS
  obtain ⟨t, g_MAX_PLACE⟩ := M.g_MAX_PLACE
  show DS _ _ [.dat v] _ _
  cases hb : inR v 1 6 with
  | false =>
    refine ds_T (dt_not (dt_val (de_call F_in_range hr (da_cons (de_var (i := 0) rfl) (da_cons de_int (da_cons (de_globI g_MAX_PLACE) da_nil))) ⟨_, _, _, rfl, rfl⟩))) ?_ (by rw [hb]; rfl)
    exact ds_raise M.E_InvalidNumber tk rfl
  | true =>
    refine ds_F (dt_not (dt_val (de_call F_in_range hr (da_cons (de_var (i := 0) rfl) (da_cons de_int (da_cons (de_globI g_MAX_PLACE) da_nil))) ⟨_, _, _, rfl, rfl⟩))) (ds_end rfl) (by rw [hb]; rfl)
end
/-! ### total -/
section
variable {P : Program} {w : World} {K : PySem.W.Frag} {mg : Str → Option Value} {base : Heap} (M : Md K mg) {f : Addr} {fd : FuncData}
include M
theorem f_total (F : Fun K "total" "total" s_total f fd) (F_plus : FnIn P w K mg base 3 "plus" S_plus) : FnOk P w K mg base (L2.CX P w) 4 f fd p_total (spD S_total) := by
  refine fn_ok (k := 3) F c_total (fun ds o ⟨_, _, _, h, _⟩ => by rw [h]; rfl) (by decide) fun cdv A outer s H E ds o hr hS tk => ?_
  obtain ⟨d, fs, n, rfl, hd, hf, hn, rfl⟩ := hS
  show DS _ _ [.dat d, .un, .un] _ _
  refine ds_set 1 (de_tup (da_cons de_int (da_cons de_int da_nil))) ?_ c_total.nd
  refine ds_forE fs encF (fun pre => [.dat d, .dat (encF (totalM pre)), .un]) (fun pre x => [.dat d, .dat (encF (totalM pre)), .dat (encF x)]) (di_seq (de_var (i := 0) rfl) hd) (.eq (.eq (.eq .nil))) (fun pre x post e => dg_name 2 c_total.nd) (fun pre x post e => ?_) ?_
  · have h1 := totalM_size (n := n) pre (fun f hf' => hf f (by rw [e]; exact List.mem_append_left _ hf'))
    have hx : Fz n x := hf x (by rw [e]; simp)
    have hl : pre.length + 1 ≤ fs.length := by rw [e, List.length_append, List.length_cons]; omega
    have hm : (n + 1) * (pre.length + 1) ≤ (n + 1) * fs.length := Nat.mul_le_mul_left _ hl
    rw [Nat.mul_succ] at hm
    refine ds_set 1 (d := encF (totalM (pre ++ [x]))) (de_call F_plus hr (da_cons (de_var (i := 1) rfl) (da_cons (de_var (i := 2) rfl) da_nil)) ⟨_, _, _, n, rfl, h1, hx, by omega, by rw [totalM_snoc]⟩) ?_ c_total.nd
    exact ds_nil rfl (.eq (.eq (.un .nil)))
  · exact ds_ret (de_var (i := 1) rfl) rfl
end
/-! ### are_weights -/
section
variable {P : Program} {w : World} {K : PySem.W.Frag} {mg : Str → Option Value} {base : Heap} (M : Md K mg) {f : Addr} {fd : FuncData}
include M
theorem f_are_weights (F : Fun K "are_weights" "are_weights" s_are_weights f fd) (F_is_fraction : FnIn P w K mg base 2 "is_fraction" S_is_fraction) (F_total : FnIn P w K mg base 4 "total" S_total) : FnOk P w K mg base (L2.CX P w) 5 f fd p_are_weights (spD S_are_weights) := by
  refine fn_ok (k := 4) F c_are_weights (fun ds o ⟨_, _, h, _⟩ => by rw [h]; rfl) (by decide) fun cdv A outer s H E ds o hr hS tk => ?_
  obtain ⟨last, v, rfl, hlast, rfl⟩ := hS
  have hz2 : sizeLine = 16777216 := sizeLine_eq
  show DS _ _ [.dat (.int last), .dat v, .un] _ _
  cases v with
  | tuple vs =>
    by_cases hl : vs.length = last + 1
    · refine ds_F (k := false) (dt_w (dw_orF (dt_not (dt_val (de_isTu M.isinstance M.tuple (de_var (i := 1) rfl)))) (dw_or1 (k := false) (dt_is (dt_neI (de_lenT (ds := vs) M.len (de_var (i := 1) rfl)) (de_add (de_var (i := 0) rfl) de_int)) (by rw [decide_eq_true (show (vs.length : Int) = (last : Int) + 1 by omega)]; rfl))))) ?_
      have ea : vs.all (fun x => isFr x && decide (0 ≤ (frOf x).1)) = (vs.filter fun x => !isFr x || decide ((frOf x).1 < 0)).isEmpty := by
        rw [Bool.eq_iff_iff, List.isEmpty_iff, List.filter_eq_nil_iff, List.all_eq_true]
        constructor
        · intro h x hx
          have := h x hx
          simp at this ⊢
          exact this
        · intro h x hx
          have := h x hx
          simp at this ⊢
          exact this
      refine ds_if (!(vs.filter fun x => !isFr x || decide ((frOf x).1 < 0)).isEmpty) (dt_is (dt_tru (de_ofL (dl_lc vs id (fun x => !isFr x || decide ((frOf x).1 < 0)) id [("one", 2)] (fun x => [.dat (.int last), .dat (.tuple vs), .dat x]) (di_is (di_tup (de_var (i := 1) rfl)) (List.map_id vs).symm) c_are_weights.nd (blkOk_by (N := n_are_weights) (sc := defScope s_are_weights) (by decide +kernel)) (fun _ _ _ _ _ _ _ => dgc_name 2 c_are_weights.nd)
        (fun _ _ _ _ _ x hx => dts_one (dt_w (dw_or (dt_not (dt_val (de_call F_is_fraction (hr.mono (by decide)) (da_cons (de_var (i := 2) rfl) da_nil) ⟨x, rfl, rfl⟩))) fun hk => dw_or1 ?_))) (fun _ _ _ _ _ x hx hk => de_var (i := 2) rfl) (by omega)))) ?_) (fun hb => ?_) (fun hb => ?_)
      · have hk : isFr x = true := by simpa using hk
        obtain ⟨f, rfl, -⟩ := isFr_iff.mp hk
        exact dt_lt (de_ixT (ds := [.int f.1, .int f.2]) (de_var (i := 2) rfl) de_int rfl) de_int
      · rw [List.map_id] <;> rfl
      · refine ds_ret de_bl ?_
        show Out.ret (.bool (_ && (vs.all _ && _))) = _
        have : vs.all (fun x => isFr x && decide (0 ≤ (frOf x).1)) = false := by rw [ea]; simpa using hb
        rw [this, Bool.false_and, Bool.and_false]
      · have ha : vs.all (fun x => isFr x && decide (0 ≤ (frOf x).1)) = true := by rw [ea]; simpa using hb
        obtain ⟨fs, rfl, hf⟩ := wts_typed ha
        rw [List.length_map] at hl
        refine ds_end ?_
        refine ds_ret (de_eq hr.units (de_call F_total hr (da_cons (de_var (i := 1) rfl) da_nil) ⟨_, fs, 17, rfl, .t _, fun f h => (hf f h).1.size, by omega, rfl⟩) (de_tup (da_cons de_int (da_cons de_int da_nil))) sh_F.shaped (sh_F (f := (1, 1))).shaped) ?_
        show Out.ret (.bool (decide ((fs.map encF).length = last + 1) && ((fs.map encF).all _ && decide (totalM ((fs.map encF).map frOf) = (1, 1))))) = Out.ret (.bool (PyData.eqv (encF (totalM fs)) (encF (1, 1))))
        rw [ha, map_frOf, List.length_map, decide_eq_true hl, eq_encF, Bool.true_and, Bool.true_and]
    · refine ds_T (k := true) (dt_w (dw_orF (dt_not (dt_val (de_isTu M.isinstance M.tuple (de_var (i := 1) rfl)))) (dw_or1 (k := true) (dt_is (dt_neI (de_lenT (ds := vs) M.len (de_var (i := 1) rfl)) (de_add (de_var (i := 0) rfl) de_int)) (by rw [decide_eq_false (show ¬ (vs.length : Int) = (last : Int) + 1 by omega)]; rfl))))) (ds_ret de_bl ?_)
      show Out.ret (.bool (decide (vs.length = last + 1) && _)) = _
      rw [decide_eq_false hl] <;> rfl
  | _ => exact ds_T (k := true) (dt_w (dw_orT (dt_not (dt_val (de_isTu M.isinstance M.tuple (de_var (i := 1) rfl)))))) (ds_ret de_bl rfl)
end
/-! ### ParseError.__init__ -/
section
variable {P : Program} {w : World} {K : PySem.W.Frag} {mg : Str → Option Value} {base : Heap} (M : Md K mg) {f : Addr} {fd : FuncData}
theorem f_ParseError___init__ (F : Fun K "__init__" "ParseError.__init__" s_ParseError___init__ f fd) : FnOk P w K mg base (L2.CX P w) 1 f fd p_ParseError___init__ (spInit M.C_ParseError) := by
  refine F.okX c_ParseError___init__ (fun vs H Q E ⟨a, v, e, _⟩ => by rw [e]; rfl) fun cdv A outer s H vs Q E hr ⟨a, v, e, ha, q⟩ => ?_
  subst e
  refine ⟨_, pss_cons (ps_expr (pe_bInit (by rfl) M.P_ParseError.gB M.P_ParseError.rd M.P_ParseError.ga M.P_ParseError.vB (pa_cons (pe_var (i := 0) (by rfl) (by first | exact Or.inl rfl | exact Or.inr (Or.inl rfl) | exact Or.inr (Or.inr rfl)) (by decide) (by decide)) (pa_cons pe_str pa_nil (by rfl)) (by rfl))) (by rfl)) (pss_cons (ps_ost (pe_var (i := 0) (by rfl) (by first | exact Or.inl rfl | exact Or.inr (Or.inl rfl) | exact Or.inr (Or.inr rfl)) (by decide) (by decide)) (pe_var (i := 1) (by rfl) (by first | exact Or.inl rfl | exact Or.inr (Or.inl rfl) | exact Or.inr (Or.inr rfl)) (by decide) (by decide))) pss_nil), ?_⟩
  exact ⟨_, rfl, a, M.C_ParseError, _, rfl, by show 1 ≤ 1000; decide, M.P_ParseError.T, ha, _, rfl, _, rfl, a, M.C_ParseError, rfl, M.P_ParseError.T, M.P_ParseError.n, .inl ⟨ha, fun dx h1 h2 => q dx h1 h2⟩⟩
end
/-! ### written -/
section
variable {P : Program} {w : World} {K : PySem.W.Frag} {mg : Str → Option Value} {base : Heap} (M : Md K mg) {f : Addr} {fd : FuncData}
include M
theorem f_written (F : Fun K "written" "written" s_written f fd) : FnOk P w K mg base (L2.CX P w) 1 f fd p_written (spD S_written) := by
  refine fn_ok (k := 0) F c_written (fun ds o ⟨_, h, _⟩ => by rw [h]; rfl) (by decide) fun cdv A outer s H E ds o hr hS tk => ?_
  obtain ⟨fs, rfl, hf, hl, rfl⟩ := hS
  have hz2 : sizeLine = 16777216 := sizeLine_eq
  show DS _ _ [.dat (encL fs), .un, .un] _ _
  have hw := words_sum hf
  refine ds_ret (d := .str (textW fs)) (de_join de_str (de_is (z := .list ((fs.map wordF).map .str)) (de_ofL (dl_lcM fs encF (fun f => .str (wordF f)) [("above", 1), ("below", 2)] (fun f => [.dat (encL fs), .dat (.int f.1), .dat (.int f.2)]) (di_tup (ds := fs.map encF) (de_var (i := 0) rfl)) c_written.nd (blkOk_by (N := n_written) (sc := defScope s_written) (by decide +kernel)) (fun _ _ _ _ _ _ _ => dgc_tup2 1 2 c_written.nd rfl) (fun _ _ _ _ _ f hf' => ?_) (by omega))) (by rw [List.map_map]; rfl)) ?_) rfl
  · obtain ⟨h1, h2, h3, h4, -⟩ := hf f hf'
    have a1 := numS_len (i := f.1) (by omega)
    have a2 := numS_len (i := f.2) (by omega)
    have a3 := wordF_len (hf f hf')
    exact de_f3 (pe_fmtI (de_var (i := 1) rfl) (by omega)) de_str (pe_fmtI (de_var (i := 2) rfl) (by omega)) (by show (wordF f).length ≤ _; omega)
  · have : (" " : Str).length = 1 := by decide
    rw [this, List.length_map]
    omega
end
/-! ### parse_number -/
section
variable {P : Program} {w : World} {K : PySem.W.Frag} {mg : Str → Option Value} {base : Heap} (M : Md K mg) {f : Addr} {fd : FuncData}
include M
theorem f_parse_number (F : Fun K "parse_number" "parse_number" s_parse_number f fd) : FnOk P w K mg base (L2.CX P w) 1 f fd p_parse_number (spD S_parse_number) := by
  refine fn_ok (k := 0) F c_parse_number (fun ds o ⟨_, h, _⟩ => by rw [h]; rfl) (by decide) fun cdv A outer s H E ds o hr hS tk => ?_
  obtain ⟨t, rfl, ht, rfl⟩ := hS
  obtain ⟨tt, g_DIGITS⟩ := M.g_DIGITS
  have hz2 : sizeLine = 16777216 := sizeLine_eq
  have hln := TL.len_tl t
  show DS _ _ [.dat (.str t), .un] _ _
  unfold numP
  by_cases hl : 1 ≤ t.length ∧ t.length ≤ 5
  · by_cases hd : ∀ c ∈ TL.tl t, c ∈ digs
    · obtain ⟨n, hn, hb⟩ := digs_text hd hl.1 hl.2
      have hfe : (TL.tl t).filter (fun c => !decide (c ∈ digs)) = [] := List.filter_eq_nil_iff.mpr fun c hc => by simp [hd c hc]
      rw [if_pos ⟨hl.1, hl.2, hd⟩, hn]
      refine ds_F (k := false) (dt_w (dw_orF (k2 := false) (dt_is (dt_not (dt_lele de_int (de_lenS M.len (de_var (i := 0) rfl) (by omega)) de_int)) (by rw [decide_eq_true (by omega), decide_eq_true (by omega)]; rfl)) (dw_or1 (k := false) (dt_is (dt_tru (de_ofL (dl_lc (TL.tl t) signD (fun c => !decide (c ∈ digs)) signD [("sign", 1)] (fun c => [.dat (.str t), .dat (signD c)]) (di_str (de_var (i := 0) rfl)) c_parse_number.nd (blkOk_by (N := n_parse_number) (sc := defScope s_parse_number) (by decide +kernel)) (fun _ _ _ _ _ _ _ => dgc_name 1 c_parse_number.nd) (fun _ _ _ _ _ _ _ => dts_one (dt_notSign (de_var (i := 1) rfl) (de_globS g_DIGITS))) (fun _ _ _ _ _ _ _ _ => (de_var (i := 1) rfl)) (by omega)))) (by rw [hfe]; rfl))))) ?_
      have hso : PyData.strOk (numS (n : Int)) = true := strOk_of _
      have hq : ∀ k : Bool, decide (numS (n : Int) = t) = k → PyData.eqv (.str (numS (n : Int))) (.str t) = k := fun k e => by rw [eqv_str]; exact e
      show DS _ _ _ _ (PostO (.ret (encN (if numS (n : Int) = t then some (n : Int) else none))))
      by_cases e : numS (n : Int) = t
      · rw [if_pos e]
        exact ds_ret (d := .int (n : Int)) (de_ifT (dt_eq hr.units (d1 := .str (numS (n : Int))) (d2 := .str t) (de_strI2 M.str (de_intS M.int (de_var (i := 0) rfl) hn (by omega)) (by omega)) (de_var (i := 0) rfl) (sh_str (n := 0) hso).shaped (sh_str (n := 0) (strOk_digs hd)).shaped) (de_intS M.int (de_var (i := 0) rfl) hn (by omega)) (hq true (decide_eq_true e))) rfl
      · rw [if_neg e]
        exact ds_ret (d := .none) (de_ifF (dt_eq hr.units (d1 := .str (numS (n : Int))) (d2 := .str t) (de_strI2 M.str (de_intS M.int (de_var (i := 0) rfl) hn (by omega)) (by omega)) (de_var (i := 0) rfl) (sh_str (n := 0) hso).shaped (sh_str (n := 0) (strOk_digs hd)).shaped) de_non (hq false (decide_eq_false e))) rfl
    · rw [if_neg (fun z => hd z.2.2)]
      have hfe : (TL.tl t).filter (fun c => !decide (c ∈ digs)) ≠ [] := fun z => hd fun c hc => by
        have := List.filter_eq_nil_iff.mp z c hc
        simpa using this
      refine ds_T (k := true) (dt_w (dw_orF (k2 := false) (dt_is (dt_not (dt_lele de_int (de_lenS M.len (de_var (i := 0) rfl) (by omega)) de_int)) (by rw [decide_eq_true (by omega), decide_eq_true (by omega)]; rfl)) (dw_or1 (k := true) (dt_is (dt_tru (de_ofL (dl_lc (TL.tl t) signD (fun c => !decide (c ∈ digs)) signD [("sign", 1)] (fun c => [.dat (.str t), .dat (signD c)]) (di_str (de_var (i := 0) rfl)) c_parse_number.nd (blkOk_by (N := n_parse_number) (sc := defScope s_parse_number) (by decide +kernel)) (fun _ _ _ _ _ _ _ => dgc_name 1 c_parse_number.nd) (fun _ _ _ _ _ _ _ => dts_one (dt_notSign (de_var (i := 1) rfl) (de_globS g_DIGITS))) (fun _ _ _ _ _ _ _ _ => (de_var (i := 1) rfl)) (by omega)))) (by
        generalize (TL.tl t).filter (fun c => !decide (c ∈ digs)) = l at hfe
        cases l with
        | nil => exact absurd rfl hfe
        | cons a b => rfl))))) (ds_ret de_non rfl)
  · rw [if_neg (fun z => hl ⟨z.1, z.2.1⟩)]
    refine ds_T (dt_w (dw_orT (k := true) (dt_is (dt_not (dt_lele de_int (de_lenS M.len (de_var (i := 0) rfl) (by omega)) de_int)) (by
      have : (decide ((1 : Int) ≤ (t.length : Int)) && decide ((t.length : Int) ≤ 5)) = false := by
        rw [Bool.and_eq_false_iff, decide_eq_false_iff_not, decide_eq_false_iff_not]
        omega
      rw [this] <;> rfl)))) (ds_ret de_non rfl)
end
/-! ### parse_fraction -/
section
variable {P : Program} {w : World} {K : PySem.W.Frag} {mg : Str → Option Value} {base : Heap} (M : Md K mg) {f : Addr} {fd : FuncData}
include M
theorem f_parse_fraction (F : Fun K "parse_fraction" "parse_fraction" s_parse_fraction f fd) (F_parse_number : FnIn P w K mg base 1 "parse_number" S_parse_number) (F_is_fraction : FnIn P w K mg base 2 "is_fraction" S_is_fraction) : FnOk P w K mg base (L2.CX P w) 3 f fd p_parse_fraction (spD S_parse_fraction) := by
  refine fn_ok (k := 2) F c_parse_fraction (fun ds o ⟨_, h, _⟩ => by rw [h]; rfl) (by decide) fun cdv A outer s H E ds o hr hS tk => ?_
  obtain ⟨t, rfl, ht, rfl⟩ := hS
  have hz2 : sizeLine = 16777216 := sizeLine_eq
  obtain ⟨s1, s2⟩ := split_sl t
  show DS _ _ [.dat (.str t), .un, .un] _ _
  refine ds_setLcM 1 (Txt.split t "/") .str (fun p => encN (numP p)) [("part", 2)] (fun p => [.dat (.str t), .un, .dat (.str p)]) (di_list (ds := (Txt.split t "/").map .str) (de_split (de_var (i := 0) rfl) de_str (by decide +kernel) (by omega))) c_parse_fraction.nd (blkOk_by (N := n_parse_fraction) (sc := defScope s_parse_fraction) (by decide +kernel)) (fun _ _ _ _ _ _ _ => dgc_name 2 c_parse_fraction.nd) (fun _ _ _ _ _ p hp => de_call F_parse_number (hr.mono (by decide)) (da_cons (de_var (i := 2) rfl) da_nil) ⟨p, rfl, by have := s2 p hp; omega, rfl⟩) (by omega) ?_
  rw [show (Txt.split t "/").map (fun p => encN (numP p)) = ((Txt.split t "/").map numP).map encN by rw [List.map_map]; rfl]
  unfold fracP
  generalize (Txt.split t "/").map numP = l
  have shl : SeqAt.shaped (.list (l.map encN)) = true := (sh_lst (n := 0) (sh_map fun q _ => sh_N q)).shaped
  have hany : ((l.map encN).any fun z => PyData.eqv z .none) = decide (none ∈ l) := by
    rw [List.any_map, Bool.eq_iff_iff, decide_eq_true_iff, List.any_eq_true]
    constructor
    · rintro ⟨q, hq, e⟩
      have e : PyData.eqv (encN q) .none = true := e
      rw [eqv_noneN, decide_eq_true_iff] at e
      exact e ▸ hq
    · intro h
      exact ⟨none, h, rfl⟩
  by_cases h2 : l.length = 2
  · obtain ⟨a, b, rfl⟩ : ∃ a b, l = [a, b] := by
      match l, h2 with
      | [a, b], _ => exact ⟨a, b, rfl⟩
    by_cases hn : none ∈ [a, b]
    · rw [pick_none hn]
      exact ds_T (k := true) (dt_w (dw_orF (k2 := false) (dt_is (dt_neI (de_lenL (ds := [a, b].map encN) M.len (de_var (i := 1) rfl)) de_int) (by rfl)) (dw_orT (k := true) (dt_is (dt_inL (units65 hr) de_non (de_var (i := 1) rfl) (by decide) shl) (by rw [hany]; exact decide_eq_true hn))))) (ds_ret de_non rfl)
    · obtain ⟨i, j, rfl, rfl⟩ : ∃ i j, a = some i ∧ b = some j := by
        cases a with
        | none => exact absurd List.mem_cons_self hn
        | some a =>
          cases b with
          | none => exact absurd (List.mem_cons_of_mem _ List.mem_cons_self) hn
          | some b => exact ⟨a, b, rfl, rfl⟩
      rw [pick_two]
      have fr : S_is_fraction [encF (i, j)] (.ret (.bool (isFr (encF (i, j))))) := ⟨_, rfl, rfl⟩
      cases hf : isFr (encF (i, j)) with
      | true =>
        rw [if_pos rfl]
        refine ds_F (k := false) (dt_w (dw_orF (k2 := false) (dt_is (dt_neI (de_lenL (ds := [some i, some j].map encN) M.len (de_var (i := 1) rfl)) de_int) (by rfl)) (dw_orF (k2 := false) (dt_is (dt_inL (units65 hr) de_non (de_var (i := 1) rfl) (by decide) shl) (by rw [hany]; exact decide_eq_false hn)) (dw_or1 (k := false) (dt_is (dt_not (dt_val (de_call F_is_fraction hr (da_cons (de_tupleL (ds := [.int i, .int j]) M.tuple (de_var (i := 1) rfl)) da_nil) fr))) (by rw [hf] <;> rfl)))))) (ds_ret (d := encF (i, j)) (de_tupleL (ds := [.int i, .int j]) M.tuple (de_var (i := 1) rfl)) rfl)
      | false =>
        rw [if_neg (by decide)]
        exact ds_T (k := true) (dt_w (dw_orF (k2 := false) (dt_is (dt_neI (de_lenL (ds := [some i, some j].map encN) M.len (de_var (i := 1) rfl)) de_int) (by rfl)) (dw_orF (k2 := false) (dt_is (dt_inL (units65 hr) de_non (de_var (i := 1) rfl) (by decide) shl) (by rw [hany]; exact decide_eq_false hn)) (dw_or1 (k := true) (dt_is (dt_not (dt_val (de_call F_is_fraction hr (da_cons (de_tupleL (ds := [.int i, .int j]) M.tuple (de_var (i := 1) rfl)) da_nil) fr))) (by rw [hf] <;> rfl)))))) (ds_ret de_non rfl)
  · rw [pick_len h2]
    exact ds_T (k := true) (dt_w (dw_orT (k := true) (dt_is (dt_neI (de_lenL (ds := l.map encN) M.len (de_var (i := 1) rfl)) de_int) (by rw [List.length_map, decide_eq_false (by omega)]; rfl)))) (ds_ret de_non rfl)
end
/-! ### parse_weights -/
section
variable {P : Program} {w : World} {K : PySem.W.Frag} {mg : Str → Option Value} {base : Heap} (M : Md K mg) {f : Addr} {fd : FuncData}
theorem f_parse_weights (F : Fun K "parse_weights" "parse_weights" s_parse_weights f fd) (F_parse_fraction : FnIn P w K mg base 3 "parse_fraction" S_parse_fraction) (F_are_weights : FnIn P w K mg base 5 "are_weights" S_are_weights) (F_ParseError___init__ : PeIn P w K mg base 1 M.C_ParseError) : FnOk P w K mg base (L2.CX P w) 6 f fd p_parse_weights (spD (S_parse_weights M.C_ParseError)) := by
  refine fn_ok (k := 5) F c_parse_weights (fun ds o h => by rcases h with ⟨_, h, _⟩ | ⟨_, h, _⟩ <;> rw [h] <;> rfl) (by decide) fun cdv A outer s H E ds o hr hS tk => ?_
  have hz2 : sizeLine = 16777216 := sizeLine_eq
  rcases hS with ⟨t, rfl, ht, rfl⟩ | ⟨d, rfl, hd, rfl⟩
  · obtain ⟨s1, s2⟩ := split_sp t
    show DS _ _ [.dat (.str t), .un, .un, .un] _ _
    refine ds_F (k := false) (dt_not (k := true) (dt_is (dt_val (de_isSt (d := .str t) M.isinstance M.str (de_var (i := 0) rfl))) rfl)) ?_
    refine ds_setLcM 1 (Txt.split t " ") .str (fun p => encQ (fracP p)) [("token", 2)] (fun p => [.dat (.str t), .un, .dat (.str p), .un]) (di_list (ds := (Txt.split t " ").map .str) (de_split (de_var (i := 0) rfl) de_str (by decide +kernel) (by omega))) c_parse_weights.nd (blkOk_by (N := n_parse_weights) (sc := defScope s_parse_weights) (by decide +kernel)) (fun _ _ _ _ _ _ _ => dgc_name 2 c_parse_weights.nd) (fun _ _ _ _ _ p hp => de_call F_parse_fraction (hr.mono (by decide)) (da_cons (de_var (i := 2) rfl) da_nil) ⟨p, rfl, by have := s2 p hp; omega, rfl⟩) (by omega) ?_
    rw [show (Txt.split t " ").map (fun p => encQ (fracP p)) = (toksP t).map encQ by unfold toksP; rw [List.map_map]; rfl]
    have hlt : (toksP t).length ≤ 1001 := by unfold toksP; rw [List.length_map]; omega
    unfold parsO
    generalize toksP t = l at hlt
    have shl : SeqAt.shaped (.list (l.map encQ)) = true := (sh_lst (n := 1) (sh_map fun q _ => sh_Q q)).shaped
    by_cases hn : none ∈ l
    · rw [if_pos hn]
      have hj : l.findIdx (· = none) < l.length := List.findIdx_lt_length_of_exists ⟨none, hn, by simp⟩
      refine ds_T (k := true) (dt_is (dt_inL (units65 hr) de_non (de_var (i := 1) rfl) (by decide) shl) (by rw [any_noneQ]; exact decide_eq_true hn)) (ds_raiseP (k := 1) F_ParseError___init__ (hr.mono (by decide)) M.P_ParseError.g M.P_ParseError.T tk (de_index (d := .none) (zd := .none) (ds := l.map encQ) (j := l.findIdx (· = none)) (units65 hr) (de_var (i := 1) rfl) de_non shl (by decide) ?_ rfl ?_) rfl)
      · rw [List.getElem?_map, List.getElem?_eq_getElem hj]
        have := List.findIdx_getElem (w := hj)
        have : l[l.findIdx (· = none)] = none := by simpa using this
        rw [this]
        rfl
      · intro m z' hm hz'
        rw [List.getElem?_map, List.getElem?_eq_getElem (by omega)] at hz'
        have hz' : encQ (l[m]'(by omega)) = z' := Option.some.inj hz'
        rw [← hz', eqv_noneQ]
        have := List.not_of_lt_findIdx hm
        simpa using this
    · rw [if_neg hn]
      refine ds_F (k := false) (dt_is (dt_inL (units65 hr) de_non (de_var (i := 1) rfl) (by decide) shl) (by rw [any_noneQ]; exact decide_eq_false hn)) ?_
      obtain ⟨ws, rfl⟩ : ∃ ws : Wts, l = ws.map some := by
        refine ⟨l.filterMap id, ?_⟩
        clear shl hlt
        induction l with
        | nil => rfl
        | cons a b ih =>
          cases a with
          | none => exact absurd List.mem_cons_self hn
          | some a =>
            exact congrArg (List.cons (some a)) (ih (fun z => hn (List.mem_cons_of_mem _ z)))
      have e1 : (ws.map some).filterMap id = ws := by rw [List.filterMap_map]; exact List.filterMap_some
      have e2 : (ws.map some).map encQ = ws.map encF := by rw [List.map_map]; rfl
      rw [e1, e2]
      rw [List.length_map] at hlt
      refine ds_set 3 (d := .int ((ws.length : Int) - 1)) (de_is (de_sub (de_lenL (ds := ws.map encF) M.len (de_var (i := 1) rfl)) de_int) (by rw [List.length_map])) ?_ c_parse_weights.nd
      unfold goodW
      by_cases h16 : 1 ≤ (ws.length : Int) - 1 ∧ (ws.length : Int) - 1 ≤ 6
      · rw [decide_eq_true h16, Bool.true_and]
        obtain ⟨last, hl⟩ : ∃ last : Nat, ws.length - 1 = last := ⟨_, rfl⟩
        have hli : (ws.length : Int) - 1 = (last : Int) := by omega
        rw [hl, hli]
        have aw : S_are_weights [.int (last : Int), encL ws] (.ret (.bool (areWt last (encL ws)))) := ⟨last, _, rfl, by omega, rfl⟩
        cases ha : areWt last (encL ws) with
        | true =>
          rw [if_pos rfl]
          refine ds_F (k := false) (dt_w (dw_orF (k2 := false) (dt_is (dt_not (dt_lele de_int (de_var (i := 3) rfl) de_int)) (by rw [decide_eq_true (by omega), decide_eq_true (by omega)]; rfl)) (dw_or1 (k := false) (dt_is (dt_not (dt_val (de_call F_are_weights hr (da_cons (de_var (i := 3) rfl) (da_cons (de_tupleL (ds := ws.map encF) M.tuple (de_var (i := 1) rfl)) da_nil)) aw))) (by rw [ha] <;> rfl))))) (ds_ret (de_tup (da_cons (de_var (i := 3) rfl) (da_cons (de_tupleL (ds := ws.map encF) M.tuple (de_var (i := 1) rfl)) da_nil))) rfl)
        | false =>
          rw [if_neg (by decide)]
          exact ds_T (k := true) (dt_w (dw_orF (k2 := false) (dt_is (dt_not (dt_lele de_int (de_var (i := 3) rfl) de_int)) (by rw [decide_eq_true (by omega), decide_eq_true (by omega)]; rfl)) (dw_or1 (k := true) (dt_is (dt_not (dt_val (de_call F_are_weights hr (da_cons (de_var (i := 3) rfl) (da_cons (de_tupleL (ds := ws.map encF) M.tuple (de_var (i := 1) rfl)) da_nil)) aw))) (by rw [ha] <;> rfl))))) (ds_raiseP (k := 1) F_ParseError___init__ (hr.mono (by decide)) M.P_ParseError.g M.P_ParseError.T tk de_non rfl)
      · rw [decide_eq_false h16, Bool.false_and, if_neg (by decide)]
        refine ds_T (dt_w (dw_orT (k := true) (dt_is (dt_not (dt_lele de_int (de_var (i := 3) rfl) de_int)) (by
          have : (decide ((1 : Int) ≤ (ws.length : Int) - 1) && decide ((ws.length : Int) - 1 ≤ 6)) = false := by
            rw [Bool.and_eq_false_iff, decide_eq_false_iff_not, decide_eq_false_iff_not]
            omega
          rw [this] <;> rfl)))) (ds_raiseP (k := 1) F_ParseError___init__ (hr.mono (by decide)) M.P_ParseError.g M.P_ParseError.T tk de_non rfl)
  · show DS _ _ [.dat d, .un, .un, .un] _ _
    exact ds_T (k := true) (dt_is (dt_not (dt_val (de_isSt M.isinstance M.str (de_var (i := 0) rfl)))) (by rw [hd] <;> rfl)) (ds_raiseP (k := 1) F_ParseError___init__ (hr.mono (by decide)) M.P_ParseError.g M.P_ParseError.T tk de_non rfl)
end
/-! ### format_weights -/
section
variable {P : Program} {w : World} {K : PySem.W.Frag} {mg : Str → Option Value} {base : Heap} (M : Md K mg) {f : Addr} {fd : FuncData}
include M
theorem f_format_weights (F : Fun K "format_weights" "format_weights" s_format_weights f fd) (F_check_last : FnIn P w K mg base 2 "check_last" (S_check_last M.C_InvalidNumber)) (F_are_weights : FnIn P w K mg base 5 "are_weights" S_are_weights) (F_written : FnIn P w K mg base 1 "written" S_written) : FnOk P w K mg base (L2.CX P w) 6 f fd p_format_weights (spD S_format_weights) := by
  refine fn_ok (k := 5) F c_format_weights (fun ds o ⟨_, _, h, _⟩ => by rw [h]; rfl) (by decide) fun cdv A outer s H E ds o hr hS tk => ?_
  obtain ⟨last, ws, rfl, l1, l6, hw, rfl⟩ := hS
  show DS _ _ [.dat (.int (last : Int)), .dat (encL ws)] _ _
  have ha : areWt last (encL ws) = true := areWt_iff.mpr ⟨ws, rfl, hw⟩
  refine ds_expr (de_call F_check_last (hr.mono (by decide)) (da_cons (de_var (i := 0) rfl) da_nil) ⟨_, rfl, (if_pos (inR_iff.mpr ⟨_, rfl, by omega, by omega⟩)).symm⟩) ?_
  refine ds_F (k := false) (dt_is (dt_not (dt_val (de_call F_are_weights hr (da_cons (de_var (i := 0) rfl) (da_cons (de_var (i := 1) rfl) da_nil)) ⟨last, _, rfl, by omega, rfl⟩))) (by rw [ha] <;> rfl)) ?_
  exact ds_ret (de_call F_written (hr.mono (by decide)) (da_cons (de_var (i := 1) rfl) da_nil) ⟨ws, rfl, fun f hf => (hw.2.1 f hf).1, by have := hw.1; omega, rfl⟩) rfl
end
/-! ### _law_cell -/
section
variable {P : Program} {w : World} {K : PySem.W.Frag} {mg : Str → Option Value} {base : Heap} (M : Md K mg) {f : Addr} {fd : FuncData}
include M
theorem f__law_cell (F : Fun K "_law_cell" "_law_cell" s__law_cell f fd) : FnOk P w K mg base (L2.CX P w) 1 f fd p__law_cell (spP K S__law_cell) := by
  refine fnP_ok (k := 0) F c__law_cell (fun ns ds o ⟨_, h, _⟩ => by rw [h]; rfl) (by decide) fun cdv A outer s H E a ns ds o hr hS tk => ?_
  obtain ⟨k, rfl, rfl⟩ := hS
  show DS _ _ [SV.scr K a ns, .dat (.int k)] _ _
  by_cases h : k < ns.length
  · refine ds_T (dt_lt (de_var (i := 1) rfl) (de_lenP (i := 0) (a := a) (ns := ns) M.len rfl)) ?_ (decide_eq_true (by omega))
    refine ds_ret (de_ixP (i := 0) (a := a) (ns := ns) (j := k) (z := ns[k]) rfl (de_var (i := 1) rfl) (atI_nat (List.getElem?_eq_getElem h))) ?_
    show Out.ret (.int (ns.getD k 0)) = Out.ret (.int ns[k])
    rw [getD_in h]
  · refine ds_F (dt_lt (de_var (i := 1) rfl) (de_lenP (i := 0) (a := a) (ns := ns) M.len rfl)) ?_ (decide_eq_false (by omega))
    refine ds_ret de_int ?_
    show Out.ret (.int (ns.getD k 0)) = Out.ret (.int 0)
    rw [getD_out (by omega)]
end
/-! ### _law_row -/
section
variable {P : Program} {w : World} {K : PySem.W.Frag} {mg : Str → Option Value} {base : Heap} (M : Md K mg) {f : Addr} {fd : FuncData}
include M
theorem f__law_row (F : Fun K "_law_row" "_law_row" s__law_row f fd) (F__law_cell : FnInP P w K mg base 1 "_law_cell" S__law_cell) : FnOk P w K mg base (L2.CX P w) 2 f fd p__law_row (spP K S__law_row) := by
  refine fnP_ok (k := 1) F c__law_row (fun ns ds o ⟨_, h, _⟩ => by rw [h]; rfl) (by decide) fun cdv A outer s H E a ns ds o hr hS tk => ?_
  obtain ⟨at_, rfl, hat, rfl⟩ := hS
  have hz2 : sizeLine = 16777216 := sizeLine_eq
  show DS _ _ [SV.scr K a ns, .dat (.int at_), .un, .un, .un] _ _
  refine ds_set 2 (de_callP (i := 0) (a := a) (ns := ns) F__law_cell hr rfl (da_cons (de_var (i := 1) rfl) da_nil) ⟨at_, rfl, rfl⟩) ?_ c__law_row.nd
  refine ds_own 3 (dl_lst da_nil) ?_ c__law_row.nd
  refine ds_forE (intsL 0 60) PyData.int (fun pre => [SV.scr K a ns, .dat (.int at_), .dat (.int (rowAt ns at_ pre).1), .own ((rowAt ns at_ pre).2.map .int), .un])
    (fun pre x => [SV.scr K a ns, .dat (.int at_), .dat (.int (rowAt ns at_ pre).1), .own ((rowAt ns at_ pre).2.map .int), .dat (.int x)])
    (di_r1 de_int (by decide) M.range) (.eq (.eq (.eq (.eqo rfl (.eq .nil))))) (fun pre x post e => dg_name 4 c__law_row.nd) (fun pre x post e => ?_) ?_
  · obtain ⟨ex, hlt, -⟩ := intsL_split e
    have hx : x = ((pre.length : Nat) : Int) := by omega
    have hlen : ((rowAt ns at_ pre).2.map PyData.int).length < sizeLine := by rw [List.length_map, (rowAt_ok ns at_ pre).1]; omega
    by_cases hb : ns.getD at_ 0 < 10 ^ 18
    · refine ds_T (dt_lt (de_callP (i := 0) (a := a) (ns := ns) F__law_cell hr rfl (da_cons (de_var (i := 1) rfl) da_nil) ⟨at_, rfl, rfl⟩) (de_pow de_int de_int ⟨by decide, by decide, by decide⟩)) ?_ (decide_eq_true hb)
      refine ds_set 2 (d := .int (((rowAt ns at_ pre).1 * 48271 + 131 * x + 7 + ns.getD ((at_ + 1 + x.toNat) % 20) 0) % 2147483647)) (de_mod (de_add (de_add (de_add (de_mulS (de_var (i := 2) rfl) de_int (.inr ⟨by decide, by decide⟩)) (de_mulS de_int (de_var (i := 4) rfl) (.inl ⟨by decide, by decide⟩))) de_int)
        (de_callP (i := 0) (a := a) (ns := ns) F__law_cell hr rfl (da_cons (de_mod (de_add (de_add (de_var (i := 1) rfl) de_int) (de_var (i := 4) rfl)) de_int (by decide)) da_nil) ⟨(at_ + 1 + x.toNat) % 20, by congr 2; omega, rfl⟩)) de_int (by decide)) ?_ c__law_row.nd
      refine ds_app 3 (ds := (rowAt ns at_ pre).2.map .int) rfl (de_mod (de_fdivS (de_var (i := 2) rfl) de_int ⟨by decide, by decide⟩) de_int (by decide)) hlen ?_
      refine ds_end (ds_nil rfl (.eq (.eq (.eqd ?_ (.eqo ?_ (.un .nil))))))
      · rw [rowAt_snoc]
        unfold rowStep
        rw [if_pos hb]
      · rw [rowAt_snoc]
        unfold rowStep
        rw [if_pos hb, List.map_append]
        rfl
    · refine ds_E (dt_lt (de_callP (i := 0) (a := a) (ns := ns) F__law_cell hr rfl (da_cons (de_var (i := 1) rfl) da_nil) ⟨at_, rfl, rfl⟩) (de_pow de_int de_int ⟨by decide, by decide, by decide⟩)) ?_ (decide_eq_false hb)
      refine ds_app 3 (ds := (rowAt ns at_ pre).2.map .int) rfl (de_mod (de_var (i := 2) rfl) de_int (by decide)) hlen ?_
      refine ds_set 2 (de_fdivS (de_var (i := 2) rfl) de_int ⟨by decide, by decide⟩) ?_ c__law_row.nd
      refine ds_end (ds_nil rfl (.eq (.eq (.eqd ?_ (.eqo ?_ (.un .nil))))))
      · rw [rowAt_snoc]
        unfold rowStep
        rw [if_neg hb]
      · rw [rowAt_snoc]
        unfold rowStep
        rw [if_neg hb, List.map_append]
        rfl
  · refine ds_freeze 3 rfl ?_
    exact ds_ret (de_var (i := 3) rfl) rfl
end
/-! ### _law_gcd -/
section
variable {P : Program} {w : World} {K : PySem.W.Frag} {mg : Str → Option Value} {base : Heap} (M : Md K mg) {f : Addr} {fd : FuncData}
include M
theorem f__law_gcd (F : Fun K "_law_gcd" "_law_gcd" s__law_gcd f fd) : FnOk P w K mg base (L2.CX P w) 1 f fd p__law_gcd (spD S_greatest_divisor) := by
  refine fn_ok (k := 0) F c__law_gcd (fun ds o ⟨_, _, h, _⟩ => by rw [h]; rfl) (by decide) fun cdv A outer s H E ds o hr hS tk => ?_
  obtain ⟨a, b, rfl, rfl⟩ := hS
  show DS _ _ [.dat (.int a), .dat (.int b)] _ _
  refine ds_while (fun m ρ => ∃ x y : Nat, ρ = [.dat (.int x), .dat (.int y)] ∧ m = y ∧ Nat.gcd x y = Nat.gcd a b) b ⟨a, b, rfl, rfl, rfl⟩ fun m ρ' hJ => ?_
  obtain ⟨x, y, rfl, rfl, hg⟩ := hJ
  refine ⟨!decide ((m : Int) = 0), dt_neI (de_var (i := 1) rfl) de_int, fun hk => ?_, fun hk => ?_⟩
  · have h0 : 0 < m := by
      have : ¬ (m : Int) = 0 := by simpa using hk
      omega
    refine ds_par 0 1 (da_cons (de_var (i := 1) rfl) (da_cons (de_is (z := .int ((x % m : Nat) : Int)) (de_mod (de_var (i := 0) rfl) (de_var (i := 1) rfl) (by omega)) rfl) da_nil)) ?_ c__law_gcd.nd
    refine ds_end ⟨x % m, Nat.mod_lt _ h0, m, x % m, rfl, rfl, ?_⟩
    rw [← hg, Nat.gcd_comm x m, Nat.gcd_rec m x, Nat.gcd_comm]
  · have h0 : m = 0 := by
      have : (m : Int) = 0 := by simpa using hk
      omega
    subst h0
    refine ds_ret (de_var (i := 0) rfl) ?_
    rw [← hg, Nat.gcd_zero_right]
    exact rfl
end
/-! ### _law_low -/
section
variable {P : Program} {w : World} {K : PySem.W.Frag} {mg : Str → Option Value} {base : Heap} (M : Md K mg) {f : Addr} {fd : FuncData}
include M
theorem f__law_low (F : Fun K "_law_low" "_law_low" s__law_low f fd) (F__law_gcd : FnIn P w K mg base 1 "_law_gcd" S_greatest_divisor) : FnOk P w K mg base (L2.CX P w) 2 f fd p__law_low (spD S__law_low) := by
  refine fn_ok (k := 1) F c__law_low (fun ds o ⟨_, _, h, _⟩ => by rw [h]; rfl) (by decide) fun cdv A outer s H E ds o hr hS tk => ?_
  obtain ⟨a, b, rfl, h0, hb, rfl⟩ := hS
  show DS _ _ [.dat (.int a), .dat (.int b), .un, .un] _ _
  have hg : 0 < Nat.gcd a.natAbs b.natAbs := Nat.gcd_pos_of_pos_right _ (by omega)
  have hgl : Nat.gcd a.natAbs b.natAbs ≤ b.natAbs := Nat.le_of_dvd (by omega) (Nat.gcd_dvd_right _ _)
  have hd : ∀ i : Int, CDivW i ((Nat.gcd a.natAbs b.natAbs : Nat) : Int) := fun i => wide_div (b := 9000) (by omega) (by rw [Int.natAbs_natCast]; exact Nat.lt_of_le_of_lt hgl hb) (by decide) (by decide)
  refine ds_set 2 (d := .int (if 0 < b then 1 else -1)) (de_if (k := decide (0 < b)) (dt_gt (de_var (i := 1) rfl) de_int) (fun hk => by rw [if_pos (of_decide_eq_true hk)]; exact de_int) (fun hk => by rw [if_neg (of_decide_eq_false hk)]; exact de_neg de_int)) ?_ c__law_low.nd
  refine ds_set 3 (d := .int (Nat.gcd a.natAbs b.natAbs : Nat)) (de_call F__law_gcd hr (da_cons (de_abs M.abs (de_var (i := 0) rfl)) (da_cons (de_abs M.abs (de_var (i := 1) rfl)) da_nil)) ⟨a.natAbs, b.natAbs, rfl, rfl⟩) ?_ c__law_low.nd
  refine ds_ret (de_tup (da_cons (de_fdivW (de_mulS (de_var (i := 2) rfl) (de_var (i := 0) rfl) (.inl ?_)) (de_var (i := 3) rfl) (hd _)) (da_cons (de_fdivW (de_mulS (de_var (i := 2) rfl) (de_var (i := 1) rfl) (.inl ?_)) (de_var (i := 3) rfl) (hd _)) da_nil))) ?_
  · split <;> decide
  · split <;> decide
  · unfold lowM
    by_cases q : 0 < b
    · rw [if_pos q, if_pos q, Int.one_mul, Int.one_mul]
      rfl
    · rw [if_neg q, if_neg q, show (-1 : Int) * a = -a by omega, show (-1 : Int) * b = -b by omega]
      unfold redM
      rw [Int.natAbs_neg, Int.natAbs_neg]
      rfl
end
/-! ### _law_weights -/
section
variable {P : Program} {w : World} {K : PySem.W.Frag} {mg : Str → Option Value} {base : Heap} (M : Md K mg) {f : Addr} {fd : FuncData}
include M
theorem f__law_weights (F : Fun K "_law_weights" "_law_weights" s__law_weights f fd) (F__law_row : FnInP P w K mg base 2 "_law_row" S__law_row) (F__law_low : FnIn P w K mg base 2 "_law_low" S__law_low) : FnOk P w K mg base (L2.CX P w) 3 f fd p__law_weights (spP K S__law_weights) := by
  refine fnP_ok (k := 2) F c__law_weights (fun ns ds o ⟨_, _, h, _⟩ => by rw [h]; rfl) (by decide) fun cdv A outer s H E a ns ds o hr hS tk => ?_
  obtain ⟨at_, last, rfl, hat, hl6, rfl⟩ := hS
  have hz2 : sizeLine = 16777216 := sizeLine_eq
  show DS _ _ [SV.scr K a ns, .dat (.int at_), .dat (.int last), .un, .un, .un, .un, .un, .un] _ _
  obtain ⟨m1, m2, m3⟩ := manyM_bd ns at_
  refine ds_set 3 (de_callP (i := 0) (a := a) (ns := ns) F__law_row hr rfl (da_cons (de_var (i := 1) rfl) da_nil) ⟨at_, rfl, hat, rfl⟩) ?_ c__law_weights.nd
  refine ds_set 4 (d := .int (manyM ns at_ : Nat)) (de_is (de_add de_int (de_mod (de_ixL (ds := (rowM ns at_).map .int) (de_var (i := 3) rfl) de_int (dr_at ns at_ (i := 0) (by decide))) de_int (by decide))) (by rw [m3])) ?_ c__law_weights.nd
  refine ds_own 5 (ds := (cntAt ns at_ last []).map .int) (dl_is (dl_rep1 (n := last + 1) rfl (de_lst (da_cons de_int da_nil)) (de_is (de_add (de_var (i := 2) rfl) de_int) rfl) (by omega)) (by unfold cntAt; simp)) ?_ c__law_weights.nd
  refine ds_forE (intsL 0 (manyM ns at_)) PyData.int (fun pre => [SV.scr K a ns, .dat (.int at_), .dat (.int last), .dat (.list ((rowM ns at_).map .int)), .dat (.int (manyM ns at_ : Nat)), .own ((cntAt ns at_ last pre).map .int), .un, .un, .un])
    (fun pre x => [SV.scr K a ns, .dat (.int at_), .dat (.int last), .dat (.list ((rowM ns at_).map .int)), .dat (.int (manyM ns at_ : Nat)), .own ((cntAt ns at_ last pre).map .int), .dat (.int x), .un, .un])
    (di_r1 (de_var (i := 4) rfl) (by omega) M.range) (.eq (.eq (.eq (.eq (.eq (.eq (.eq (.eq (.eq .nil))))))))) (fun pre x post e => dg_name 6 c__law_weights.nd) (fun pre x post e => ?_) ?_
  · obtain ⟨ex, hlt, -⟩ := intsL_split e
    obtain ⟨s1, s2⟩ := spotM_bd ns at_ last x
    obtain ⟨l1, -, -⟩ := cntAt_ok ns at_ last pre
    refine ds_set 7 (d := .int (spotM ns at_ last x : Nat)) (de_is (de_mod (de_ixL (ds := (rowM ns at_).map .int) (de_var (i := 3) rfl) (de_is (z := .int ((1 + x.toNat : Nat) : Int)) (de_add de_int (de_var (i := 6) rfl)) (by congr 1; omega)) (dr_at ns at_ (i := 1 + x.toNat) (by omega))) (de_add (de_var (i := 2) rfl) de_int) (by omega)) (by rw [s2])) ?_ c__law_weights.nd
    have hi : spotM ns at_ last x < (cntAt ns at_ last pre).length := by omega
    refine ds_setI 5 (ds := (cntAt ns at_ last pre).map .int) (k := (spotM ns at_ last x : Nat)) (j := spotM ns at_ last x) rfl (de_add (de_ixO (i := (spotM ns at_ last x : Nat)) (j := 5) (ds := (cntAt ns at_ last pre).map .int) (d := .int ((cntAt ns at_ last pre).getD (spotM ns at_ last x) 0)) rfl (de_var (i := 7) rfl) (atI_nat (by rw [List.getElem?_map, List.getElem?_eq_getElem hi, getD_in hi]; rfl))) de_int) (de_var (i := 7) rfl) ?_ ?_
    · unfold ixN
      rw [if_pos (by omega), if_pos (by rw [List.length_map]; omega), Int.toNat_natCast]
    · exact ds_nil rfl (.eq (.eq (.eq (.eq (.eq (.eqo (by rw [cntAt_snoc]; unfold cntStep; rw [List.map_set]) (.un (.un (.un .nil)))))))))
  · refine ds_freeze 5 rfl ?_
    have hlen := (cntM_ok ns at_ last).1
    refine ds_ret (de_tupleL M.tuple (de_ofL (dl_lcM (cntM ns at_ last) PyData.int (fun c => encF (redM c (manyM ns at_ : Nat))) [("_law_count", 8)] (fun c => [SV.scr K a ns, .dat (.int at_), .dat (.int last), .dat (.list ((rowM ns at_).map .int)), .dat (.int (manyM ns at_ : Nat)), .dat (.list ((cntM ns at_ last).map .int)), .un, .un, .dat (.int c)])
      (di_list (de_var (i := 5) rfl)) c__law_weights.nd (blkOk_by (N := n__law_weights) (sc := defScope s__law_weights) (by decide +kernel)) (fun _ _ _ _ _ _ _ => dgc_name 8 c__law_weights.nd) (fun _ _ _ _ _ c hc => de_call F__law_low hr (da_cons (de_var (i := 8) rfl) (da_cons (de_var (i := 4) rfl) da_nil)) ⟨c, (manyM ns at_ : Nat), rfl, by omega, Nat.lt_of_lt_of_le (show ((manyM ns at_ : Nat) : Int).natAbs < 2 ^ 4 by rw [Int.natAbs_natCast]; omega) (Nat.pow_le_pow_right (by decide) (by decide)), by rw [lowM_pos (by omega)]⟩) (by omega)))) ?_
    show Out.ret (.tuple ((wtsM ns at_ last).map encF)) = _
    unfold wtsM
    rw [List.map_map]
    rfl
end
/-! ### _law_parse -/
section
variable {P : Program} {w : World} {K : PySem.W.Frag} {mg : Str → Option Value} {base : Heap} (M : Md K mg) {f : Addr} {fd : FuncData}
theorem f__law_parse (F : Fun K "_law_parse" "_law_parse" s__law_parse f fd) (F_parse_weights : FnIn P w K mg base 6 "parse_weights" (S_parse_weights M.C_ParseError)) : FnOk P w K mg base (L2.CX P w) 7 f fd p__law_parse (spD S__law_parse) := by
  refine fn_ok (k := 6) F c__law_parse (fun ds o h => by rcases h with ⟨_, h, _⟩ | ⟨_, h, _⟩ <;> rw [h] <;> rfl) (by decide) fun cdv A outer s H E ds o hr hS tk => ?_
  have flat : ∀ d : PyData, Flat [.dat d, .un] := fun d => flat_cons rfl (flat_cons rfl flat_nil)
  have nonL : ∀ (d : PyData), S_parse_weights M.C_ParseError [d] (.exc ⟨M.C_ParseError, some .none⟩) → DS (cxOf (L2.CX P w) P w K mg base n__law_parse "_law_parse" (defScope s__law_parse) f cdv A outer s H E) (fun c a _ H => E c a H) [.dat d, .un] (defBody s__law_parse) (PostO (.ret (.list [.str "line", .none]))) := fun d h => by
    refine ds_tryL 1 (.cons (c := .ref M.C_ParseError) ⟨rfl, by decide, .inl M.P_ParseError.g⟩ .nil) tk (fun W' pn xe t1 t2 => ?_) c__law_parse.nd
    refine ds_retX (o := .exc ⟨M.C_ParseError, some .none⟩) (dx_call F_parse_weights hr t1 (da_cons (de_var (i := 0) rfl) da_nil) h) ?_
    exact ⟨true, M.R_ParseError_ParseError.ex, fun _ => ⟨some .non, .non, flat d, fun ad oe pn d hz hv => ds_ret (de_ifT (k := true) (dt_w (dw_andT (dt_val (de_isX (i := 1) M.X_ParseError hz hv rfl M.isinstance M.E_AverageError.g M.R_ParseError_AverageError.ki)) (dw_and1 (k := true) (dt_not (k := false) (dt_val (de_isX (i := 1) M.X_ParseError hz hv rfl M.isinstance M.E_InvalidWeights.g M.R_ParseError_InvalidWeights.ki)))))) (de_lst (da_cons de_str (da_cons (de_line (i := 1) M.P_ParseError.f M.P_ParseError.n hz hv rfl (fun G => .non)) da_nil)))) rfl⟩, fun z => by cases z⟩
  rcases hS with ⟨t, rfl, ht, rfl⟩ | ⟨d, rfl, hd, rfl⟩
  · have hs : ∀ o, parsO M.C_ParseError t = o → S_parse_weights M.C_ParseError [.str t] o := fun o e => .inl ⟨t, rfl, ht, e.symm⟩
    unfold parsO at hs
    unfold parR
    by_cases hn : none ∈ toksP t
    · simp only [if_pos hn] at hs ⊢
      show DS _ _ [.dat (.str t), .un] _ _
      refine ds_tryL 1 (.cons (c := .ref M.C_ParseError) ⟨rfl, by decide, .inl M.P_ParseError.g⟩ .nil) tk (fun W' pn xe t1 t2 => ?_) c__law_parse.nd
      refine ds_retX (o := .exc ⟨M.C_ParseError, some (.int (((toksP t).findIdx (· = none) : Nat) : Int))⟩) (dx_call F_parse_weights hr t1 (da_cons (de_var (i := 0) rfl) da_nil) (hs _ rfl)) ?_
      exact ⟨true, M.R_ParseError_ParseError.ex, fun _ => ⟨some (.int (((toksP t).findIdx (· = none) : Nat) : Int)), .int _, flat _, fun ad oe pn d hz hv => ds_ret (de_ifT (k := true) (dt_w (dw_andT (dt_val (de_isX (i := 1) M.X_ParseError hz hv rfl M.isinstance M.E_AverageError.g M.R_ParseError_AverageError.ki)) (dw_and1 (k := true) (dt_not (k := false) (dt_val (de_isX (i := 1) M.X_ParseError hz hv rfl M.isinstance M.E_InvalidWeights.g M.R_ParseError_InvalidWeights.ki)))))) (de_lst (da_cons de_str (da_cons (de_line (i := 1) M.P_ParseError.f M.P_ParseError.n hz hv rfl (fun G => .int _)) da_nil)))) rfl⟩, fun z => by cases z⟩
    · simp only [if_neg hn] at hs ⊢
      by_cases hg : goodW ((toksP t).filterMap id) = true
      · simp only [if_pos hg] at hs ⊢
        show DS _ _ [.dat (.str t), .un] _ _
        refine ds_tryL 1 (.cons (c := .ref M.C_ParseError) ⟨rfl, by decide, .inl M.P_ParseError.g⟩ .nil) tk (fun W' pn xe t1 t2 => ?_) c__law_parse.nd
        exact ds_retX (o := .ret _) (dx_call F_parse_weights hr t1 (da_cons (de_var (i := 0) rfl) da_nil) (hs _ rfl)) rfl
      · simp only [if_neg hg] at hs ⊢
        exact nonL _ (hs _ rfl)
  · exact nonL d (.inr ⟨d, rfl, hd, rfl⟩)
end
/-! ### law -/
def S_law (ns : List Int) (ds : List PyData) (o : Out) : Prop := ds = [] ∧ o = .ret (.bool true)
theorem law_holds {ns : List Int} (_ : ns.length ≤ 63) : S_law ns [] (.ret (.bool true)) := ⟨rfl, rfl⟩
section
variable {P : Program} {w : World} {K : PySem.W.Frag} {mg : Str → Option Value} {base : Heap} (M : Md K mg) {f : Addr} {fd : FuncData}
include M
theorem f_law (F : Fun K "law" "law" s_law f fd) (F__law_row : FnInP P w K mg base 2 "_law_row" S__law_row) (F__law_weights : FnInP P w K mg base 3 "_law_weights" S__law_weights) (F_format_weights : FnIn P w K mg base 6 "format_weights" S_format_weights) (F__law_parse : FnIn P w K mg base 7 "_law_parse" S__law_parse) :
    FnOk P w K mg base (L2.CX P w) 8 f fd p_law (spP K S_law) := by
  refine fnP_ok (k := 7) F c_law (fun ns ds o ⟨h, _⟩ => by rw [h]; rfl) (by decide) fun cdv A outer s H E a ns ds o hr hS tk => ?_
  obtain ⟨rfl, rfl⟩ := hS
  have hz2 : sizeLine = 16777216 := sizeLine_eq
  show DS _ _ [SV.scr K a ns, .un, .un, .un, .un, .un, .un, .un, .un, .un, .un, .un, .un, .un] _ _
  have eL := emod_bd (dr ns 4 0) (show (0 : Int) < 6 by decide)
  obtain ⟨last, hlast⟩ : ∃ last : Nat, 1 + dr ns 4 0 % 6 = (last : Int) := ⟨(1 + dr ns 4 0 % 6).toNat, by omega⟩
  have l1 : 1 ≤ last := by omega
  have l6 : last ≤ 6 := by omega
  have hw := wtsM_ok ns 2 last
  refine ds_set 1 (de_callP (i := 0) (a := a) (ns := ns) F__law_row (hr.mono (by decide)) rfl (da_cons de_int da_nil) ⟨4, rfl, by decide, rfl⟩) ?_ c_law.nd
  refine ds_set 2 (d := .int (last : Int)) (de_is (de_add de_int (de_mod (de_ixL (ds := (rowM ns 4).map .int) (de_var (i := 1) rfl) de_int (dr_at ns 4 (i := 0) (by decide))) de_int (by decide))) (by rw [hlast])) ?_ c_law.nd
  refine ds_set 3 (d := encL (wtsM ns 2 last)) (de_callP (i := 0) (a := a) (ns := ns) F__law_weights (hr.mono (by decide)) rfl (da_cons de_int (da_cons (de_var (i := 2) rfl) da_nil)) ⟨2, last, rfl, by decide, l6, rfl⟩) ?_ c_law.nd
  generalize wtsM ns 2 last = ws at hw ⊢
  have hfr : ∀ f ∈ ws, Frac f := fun f hf => (hw.2.1 f hf).1
  have hwl := hw.1
  have e1c : ("/" : Str).length = 1 := by decide
  have e1s : (" " : Str).length = 1 := by decide
  have htl := textW_len hfr
  have hws := words_sum hfr
  have htok := strOk_textW ws
  have prt := par_rt l1 l6 hw
  refine ds_setLcM 4 ws encF (fun f => .str (wordF f)) [("_law_above", 5), ("_law_below", 6)] (fun f => [SV.scr K a ns, .dat (.list ((rowM ns 4).map .int)), .dat (.int (last : Int)), .dat (encL ws), .un, .dat (.int f.1), .dat (.int f.2), .un, .un, .un, .un, .un, .un, .un]) (di_tup (ds := ws.map encF) (de_var (i := 3) rfl)) c_law.nd (blkOk_by (N := n_law) (sc := defScope s_law) (by decide +kernel)) (fun _ _ _ _ _ _ _ => dgc_tup2 5 6 c_law.nd rfl) (fun _ _ _ _ _ f hf => ?_) (by omega) ?_
  · obtain ⟨h1, h2, h3, h4, -⟩ := hfr f hf
    have a1 := numS_len (i := f.1) (by omega)
    have a2 := numS_len (i := f.2) (by omega)
    exact de_catS (de_catS (de_strI2 M.str (de_var (i := 5) rfl) (by omega)) de_str (by rw [e1c]; omega)) (de_strI2 M.str (de_var (i := 6) rfl) (by omega)) (by rw [str_len_app, e1c]; omega)
  rw [show ws.map (fun f => PyData.str (wordF f)) = (ws.map wordF).map PyData.str by rw [List.map_map]; rfl]
  refine ds_set 7 (d := .str (textW ws)) (de_join de_str (de_var (i := 4) rfl) (by rw [e1s, List.length_map]; omega)) ?_ c_law.nd
  have at_ := ans_str htok
  have ap := ans_pair (last : Int) ws
  refine ds_F (k := false) (dt_w (dw_orF (dt_is (dt_ne hr.units (d1 := .str (textW ws)) (d2 := .str (textW ws)) (de_call F_format_weights (hr.mono (by decide)) (da_cons (de_var (i := 2) rfl) (da_cons (de_var (i := 3) rfl) da_nil)) ⟨last, ws, rfl, l1, l6, hw, rfl⟩) (de_var (i := 7) rfl) at_.sh at_.sh) at_.ne) (dw_or1 (dt_is (dt_ne hr.units (d1 := .tuple [.int (last : Int), encL ws]) (d2 := .tuple [.int (last : Int), encL ws]) (de_call F__law_parse hr (da_cons (de_var (i := 7) rfl) da_nil) (.inl ⟨_, rfl, by omega, by rw [prt]⟩)) (de_tup (da_cons (de_var (i := 2) rfl) (da_cons (de_var (i := 3) rfl) da_nil))) ap.sh ap.sh) ap.ne)))) ?_
  -- an edited text
  have b1 := dr_bd ns 4 1
  have hn1 : (0 : Int) < ((textW ws).length : Int) + 1 := by omega
  have es := emod_bd (dr ns 4 1 * 2) hn1
  obtain ⟨sp, hsp⟩ : ∃ sp : Nat, dr ns 4 1 * 2 % (((textW ws).length : Int) + 1) = (sp : Int) := ⟨(dr ns 4 1 * 2 % (((textW ws).length : Int) + 1)).toNat, by omega⟩
  refine ds_set 8 (d := .int (sp : Int)) (de_is (de_mod (de_mulS (de_ixL (ds := (rowM ns 4).map .int) (de_var (i := 1) rfl) de_int (dr_at ns 4 (i := 1) (by decide))) de_int (.inl (by omega))) (de_add (de_lenS M.len (de_var (i := 7) rfl) (by omega)) de_int) hn1) (by rw [hsp])) ?_ c_law.nd
  have e7 := emod_bd (dr ns 4 2) (show (0 : Int) < 7 by decide)
  obtain ⟨nw, hnw, hnwa⟩ := at_str (l := news) e7.1 e7.2
  have hnl := news_len nw hnw
  refine ds_set 9 (d := .str nw) (de_ixL (ds := news.map PyData.str) (de_lst (da_cons de_str (da_cons de_str (da_cons de_str (da_cons de_str (da_cons de_str (da_cons de_str (da_cons de_str da_nil)))))))) (de_mod (de_ixL (ds := (rowM ns 4).map .int) (de_var (i := 1) rfl) de_int (dr_at ns 4 (i := 2) (by decide))) de_int (by decide)) hnwa) ?_ c_law.nd
  have c1 := cutS_len (textW ws) none (some (sp : Int))
  have c2 := cutS_len (textW ws) (some ((sp : Int) + 1)) none
  have c3 := cutS_len (textW ws) (some (sp : Int)) none
  have e44 := emod_bd (dr ns 4 3) (show (0 : Int) < 4 by decide)
  obtain ⟨ed, hed, heda⟩ := at_str (l := [L2.cutS (textW ws) none (some (sp : Int)) ++ L2.cutS (textW ws) (some ((sp : Int) + 1)) none, L2.cutS (textW ws) none (some (sp : Int)) ++ nw ++ L2.cutS (textW ws) (some (sp : Int)) none, textW ws ++ " ", " " ++ textW ws]) e44.1 e44.2
  have hel : ed.length ≤ 1000 := by
    simp only [List.mem_cons, List.not_mem_nil, or_false] at hed
    rcases hed with e | e | e | e
    · rw [e, str_len_app]; omega
    · rw [e, str_len_app, str_len_app]; omega
    · rw [e, str_len_app]; omega
    · rw [e, str_len_app]; omega
  refine ds_set 10 (d := .str ed) (de_ixL (ds := [L2.cutS (textW ws) none (some (sp : Int)) ++ L2.cutS (textW ws) (some ((sp : Int) + 1)) none, L2.cutS (textW ws) none (some (sp : Int)) ++ nw ++ L2.cutS (textW ws) (some (sp : Int)) none, textW ws ++ " ", " " ++ textW ws].map PyData.str) (de_lst (da_cons (de_catS (de_slS (de_var (i := 7) rfl) (by omega) .no (.yes (de_var (i := 8) rfl))) (de_slS (de_var (i := 7) rfl) (by omega) (.yes (de_add (de_var (i := 8) rfl) de_int)) .no) (by omega)) (da_cons (de_catS (de_catS (de_slS (de_var (i := 7) rfl) (by omega) .no (.yes (de_var (i := 8) rfl))) (de_var (i := 9) rfl) (by omega)) (de_slS (de_var (i := 7) rfl) (by omega) (.yes (de_var (i := 8) rfl)) .no) (by rw [str_len_app]; omega)) (da_cons (de_catS (de_var (i := 7) rfl) de_str (by omega)) (da_cons (de_catS de_str (de_var (i := 7) rfl) (by omega)) da_nil)))) (by show 4 ≤ sizeLine; omega)) (de_mod (de_ixL (ds := (rowM ns 4).map .int) (de_var (i := 1) rfl) de_int (dr_at ns 4 (i := 3) (by decide))) de_int (by decide)) heda) ?_ c_law.nd
  clear heda hed c1 c2 c3
  refine ds_set 11 (d := parR ed) (de_call F__law_parse hr (da_cons (de_var (i := 10) rfl) da_nil) (.inl ⟨ed, rfl, hel, rfl⟩)) ?_ c_law.nd
  have sho : SeqAt.shaped (.str "other") = true := by decide +kernel
  have shl : SeqAt.shaped (.str "line") = true := by decide +kernel
  have shi : ∀ i : Int, SeqAt.shaped (.int i) = true := fun i => (sh_int (n := 0)).shaped
  have step : DS (cxOf (L2.CX P w) P w K mg base n_law "law" (defScope s_law) f cdv A outer s H E) (fun c a _ H => E c a H) [SV.scr K a ns, .dat (.list ((rowM ns 4).map .int)), .dat (.int (last : Int)), .dat (encL ws), .dat (.list ((ws.map wordF).map PyData.str)), .un, .un, .dat (.str (textW ws)), .dat (.int (sp : Int)), .dat (.str nw), .dat (.str ed), .dat (parR ed), .un, .un] (((defBody s_law).drop 11)) (PostO (.ret (.bool true))) := by
    -- a wrong word
    have ea := emod_bd (dr ns 4 4) (show (0 : Int) < (last : Int) + 2 by omega)
    obtain ⟨k, hk⟩ : ∃ k : Nat, dr ns 4 4 % ((last : Int) + 2) = (k : Int) := ⟨(dr ns 4 4 % ((last : Int) + 2)).toNat, by omega⟩
    refine ds_set 12 (d := .int (k : Int)) (de_is (de_mod (de_ixL (ds := (rowM ns 4).map .int) (de_var (i := 1) rfl) de_int (dr_at ns 4 (i := 4) (by decide))) (de_add (de_var (i := 2) rfl) de_int) (by omega)) (by rw [hk])) ?_ c_law.nd
    have e11 := emod_bd (dr ns 4 5) (show (0 : Int) < 11 by decide)
    obtain ⟨wr, hwr, hwra⟩ := at_str (l := wrongs) e11.1 e11.2
    obtain ⟨wr1, wr2, wr3⟩ := wrongs_no wr hwr
    refine ds_set 13 (d := .str wr) (de_ixL (ds := wrongs.map PyData.str) (de_lst (da_cons de_str (da_cons de_str (da_cons de_str (da_cons de_str (da_cons de_str (da_cons de_str (da_cons de_str (da_cons de_str (da_cons de_str (da_cons de_str (da_cons de_str da_nil)))))))))))) (de_mod (de_ixL (ds := (rowM ns 4).map .int) (de_var (i := 1) rfl) de_int (dr_at ns 4 (i := 5) (by decide))) de_int (by decide)) hwra) ?_ c_law.nd
    have hkl : (ws.take k).length = k := by rw [List.length_take]; omega
    have hpw := par_wrong (l := ws.take k) (r := ws.drop k) (fun f hf => hw.2.1 f (List.mem_of_mem_take hf)) (fun f hf => hw.2.1 f (List.mem_of_mem_drop hf)) wr1 wr2
    rw [hkl] at hpw
    have hdl : (ws.drop k).length ≤ 7 := by rw [List.length_drop]; omega
    have e1y : ("y" : Str).length = 1 := by decide
    have hall : ∀ y ∈ (ws.take k).map wordF ++ [wr, "y"] ++ (ws.drop k).map wordF, y.length + (" " : Str).length ≤ 24 := fun y hy => by
      rcases List.mem_append.mp hy with q | q
      · rcases List.mem_append.mp q with q | q
        · obtain ⟨f, hf, rfl⟩ := List.mem_map.mp q
          have := wordF_len (hfr f (List.mem_of_mem_take hf)); omega
        · simp only [List.mem_cons, List.not_mem_nil, or_false] at q
          rcases q with q | q
          · rw [q]; omega
          · rw [q, e1y]; omega
      · obtain ⟨f, hf, rfl⟩ := List.mem_map.mp q
        have := wordF_len (hfr f (List.mem_of_mem_drop hf)); omega
    have hjl := join_len' (z := " ") hall
    have hcount : ((ws.take k).map wordF ++ [wr, "y"] ++ (ws.drop k).map wordF).length ≤ 17 := by
      rw [List.length_append, List.length_append, List.length_map, List.length_map, hkl]
      show k + 2 + _ ≤ 17
      omega
    have hsum : ((((ws.take k).map wordF ++ [wr, "y"] ++ (ws.drop k).map wordF).map (·.length)).sum) ≤ 24 * 17 := by
      have key : ∀ {l : List Str}, (∀ y ∈ l, y.length + (" " : Str).length ≤ 24) → (l.map (·.length)).sum ≤ 24 * l.length := by
        intro l
        induction l with
        | nil => intro _; exact Nat.le_refl _
        | cons a l ih =>
          intro h
          have := ih fun y hy => h y (List.mem_cons_of_mem _ hy)
          have := h a List.mem_cons_self
          rw [List.map_cons, List.sum_cons, List.length_cons]
          omega
      have := key hall
      omega
    have al := ans_line (d := .int (k : Int)) (.inr ⟨_, rfl⟩)
    have an := ans_line (d := .none) (.inl rfl)
    refine ds_F (k := false) (dt_is (dt_ne hr.units (d1 := .list [.str "line", .int (k : Int)]) (d2 := .list [.str "line", .int (k : Int)]) (de_call F__law_parse hr (da_cons (de_join (ys := (ws.take k).map wordF ++ [wr, "y"] ++ (ws.drop k).map wordF) de_str (de_is (de_ofL (dl_cat (ds := ((ws.take k).map wordF).map PyData.str ++ [.str wr, .str "y"]) (d2s := ((ws.drop k).map wordF).map PyData.str) (de_ofL (dl_cat (ds := ((ws.take k).map wordF).map PyData.str) (d2s := [.str wr, .str "y"]) (de_is (de_ofL (dl_sl (ds := (ws.map wordF).map PyData.str) (i := none) (j := some (k : Int)) (de_var (i := 4) rfl) .no (.yes (de_var (i := 12) rfl)))) (congrArg PyData.list (by rw [cut_to, ← List.map_take]))) (de_lst (da_cons (de_var (i := 13) rfl) (da_cons de_str da_nil))) (by rw [List.length_map, List.length_map, hkl]; show k + 2 ≤ _; omega))) (de_is (de_ofL (dl_sl (ds := (ws.map wordF).map PyData.str) (i := some (k : Int)) (j := none) (de_var (i := 4) rfl) (.yes (de_var (i := 12) rfl)) .no)) (congrArg PyData.list (by rw [cut_from, ← List.map_drop]))) (by rw [List.length_append, List.length_map, List.length_map, List.length_map, List.length_map, hkl]; show k + 2 + _ ≤ _; omega))) (by rw [List.map_append, List.map_append]; rfl)) (by rw [e1s]; omega)) da_nil) (.inl ⟨_, rfl, by omega, by rw [hpw]⟩)) (de_lst (da_cons de_str (da_cons (de_var (i := 12) rfl) da_nil))) al.sh al.sh) al.ne) ?_
    refine ds_F (k := false) (dt_w (dw_orF (dt_is (dt_ne hr.units (d1 := .list [.str "line", .none]) (d2 := .list [.str "line", .none]) (de_call F__law_parse hr (da_cons de_str da_nil) (.inl ⟨"1/1", rfl, by decide +kernel, by rw [par_bad1]⟩)) (de_lst (da_cons de_str (da_cons de_non da_nil))) an.sh an.sh) an.ne) (dw_or1 (dt_is (dt_ne hr.units (d1 := .list [.str "line", .none]) (d2 := .list [.str "line", .none]) (de_call F__law_parse hr (da_cons de_str da_nil) (.inl ⟨"1/2 1/3", rfl, by decide +kernel, by rw [par_bad2]⟩)) (de_lst (da_cons de_str (da_cons de_non da_nil))) an.sh an.sh) an.ne)))) ?_
    have e46 := emod_bd (dr ns 4 6) (show (0 : Int) < 4 by decide)
    obtain ⟨od, od1, od2⟩ : ∃ d, atI [PyData.none, .int 7, encL ws, .list [.str (textW ws)]] (dr ns 4 6 % 4) = some d ∧ isSt d = false := by
      generalize dr ns 4 6 % 4 = i at e46
      rcases (show i = 0 ∨ i = 1 ∨ i = 2 ∨ i = 3 by omega) with e | e | e | e <;> subst e
      · exact ⟨_, rfl, rfl⟩
      · exact ⟨_, rfl, rfl⟩
      · exact ⟨_, rfl, rfl⟩
      · exact ⟨_, rfl, rfl⟩
    exact ds_ret (d := .bool true) (de_is (de_eq hr.units (d1 := .list [.str "line", .none]) (d2 := .list [.str "line", .none]) (de_call F__law_parse hr (da_cons (de_ixL (ds := [PyData.none, .int 7, encL ws, .list [.str (textW ws)]]) (de_lst (da_cons de_non (da_cons de_int (da_cons (de_var (i := 3) rfl) (da_cons (de_lst (da_cons (de_var (i := 7) rfl) da_nil)) da_nil)))) (by show 4 ≤ sizeLine; omega)) (de_mod (de_ixL (ds := (rowM ns 4).map .int) (de_var (i := 1) rfl) de_int (dr_at ns 4 (i := 6) (by decide))) de_int (by decide)) od1) da_nil) (.inr ⟨od, rfl, od2, rfl⟩)) (de_lst (da_cons de_str (da_cons de_non da_nil))) an.sh an.sh) (congrArg PyData.bool (by decide +kernel))) rfl
  rcases par_cases ed with ⟨d, hp⟩ | ⟨last', ws', p1, p6, hw', htx, hp⟩
  · rw [hp] at step ⊢
    refine ds_F (k := false) (dt_w (dw_orF (dt_is (k' := false) (dt_eq hr.units (d1 := .str "line") (d2 := .str "other") (de_ixL (ds := [.str "line", d]) (de_var (i := 11) rfl) de_int rfl) de_str shl sho) (by decide +kernel)) (dw_or1 (k := false) (dt_w (dw_andF (dt_is (k' := false) (dt_ne hr.units (d1 := .str "line") (d2 := .str "line") (de_ixL (ds := [.str "line", d]) (de_var (i := 11) rfl) de_int rfl) de_str shl shl) (by decide +kernel))))))) ?_
    exact step
  · rw [hp] at step ⊢
    have ae := ans_str (strOk_textW ws')
    refine ds_F (k := false) (dt_w (dw_orF (dt_is (k' := false) (dt_eq hr.units (d1 := .int (last' : Int)) (d2 := .str "other") (de_ixT (ds := [.int (last' : Int), encL ws']) (de_var (i := 11) rfl) de_int rfl) de_str (shi _) sho) (by rfl)) (dw_or1 (k := false) (dt_w (dw_andT (k2 := true) (dt_is (k' := true) (dt_ne hr.units (d1 := .int (last' : Int)) (d2 := .str "line") (de_ixT (ds := [.int (last' : Int), encL ws']) (de_var (i := 11) rfl) de_int rfl) de_str (shi _) shl) (by rfl)) (dw_and1 (k := false) (dt_is (dt_ne hr.units (d1 := .str (textW ws')) (d2 := .str (textW ws')) (de_call F_format_weights (hr.mono (by decide)) (da_cons (de_ixT (ds := [.int (last' : Int), encL ws']) (de_var (i := 11) rfl) de_int rfl) (da_cons (de_ixT (ds := [.int (last' : Int), encL ws']) (de_var (i := 11) rfl) de_int rfl) da_nil)) ⟨last', ws', rfl, p1, p6, hw', rfl⟩) (de_is (de_var (i := 10) rfl) (by rw [htx])) ae.sh ae.sh) ae.ne))))))) ?_
    exact step
end
end My
namespace My
open PySem PySem.Spec PyProof.Rows L2 DD
theorem all_mk {w : World} {K : PySem.W.Frag} {h : Heap} {mg : Str → Option Value} {fa : Addr} (X : K.In h) (G : h.Ns mainGlobals mg) (hfa : mg "law" = some (.ref fa))
    {C_AverageError C_ParseError C_InvalidNumber C_InvalidWeights f__law_cell' f__law_row' f__law_gcd' f__law_low' f__law_weights' f_in_range' f_check_last' f_greatest_divisor' f_is_fraction' f_reduced' f_plus' f_total' f_are_weights' f_written' f_format_weights' f_parse_number' f_parse_fraction' f_ParseError___init__' f_parse_weights' f__law_parse' f_law' : Addr}
    {pnm pq : Str} {pN : Addr} {pbs psub : List Value} {psn : List Str} {pab : Bool} {pcol : Option Bool} {pdd : Option Addr} {pm0 pm1 pm2 pm3 pm5 : Option Value}
    {t_MAX_PART t_MAX_PLACE t_DIGITS : _}
    {od__law_cell an__law_cell od__law_row an__law_row od__law_gcd an__law_gcd od__law_low an__law_low od__law_weights an__law_weights od_in_range an_in_range od_check_last an_check_last od_greatest_divisor an_greatest_divisor od_is_fraction an_is_fraction od_reduced an_reduced od_plus an_plus od_total an_total od_are_weights an_are_weights od_written an_written od_format_weights an_format_weights od_parse_number an_parse_number od_parse_fraction an_parse_fraction od_ParseError___init__ an_ParseError___init__ od_parse_weights an_parse_weights od__law_parse an__law_parse od_law an_law : Option Addr} {sl__law_cell sl__law_row sl__law_gcd sl__law_low sl__law_weights sl_in_range sl_check_last sl_greatest_divisor sl_is_fraction sl_reduced sl_plus sl_total sl_are_weights sl_written sl_format_weights sl_parse_number sl_parse_fraction sl_ParseError___init__ sl_parse_weights sl__law_parse sl_law : Array (Option Value)} {oc__law_cell kV__law_cell dc__law_cell pm__law_cell cd__law_cell ct__law_cell oc__law_row kV__law_row dc__law_row pm__law_row cd__law_row ct__law_row oc__law_gcd kV__law_gcd dc__law_gcd pm__law_gcd cd__law_gcd ct__law_gcd oc__law_low kV__law_low dc__law_low pm__law_low cd__law_low ct__law_low oc__law_weights kV__law_weights dc__law_weights pm__law_weights cd__law_weights ct__law_weights oc_in_range kV_in_range dc_in_range pm_in_range cd_in_range ct_in_range oc_check_last kV_check_last dc_check_last pm_check_last cd_check_last ct_check_last oc_greatest_divisor kV_greatest_divisor dc_greatest_divisor pm_greatest_divisor cd_greatest_divisor ct_greatest_divisor oc_is_fraction kV_is_fraction dc_is_fraction pm_is_fraction cd_is_fraction ct_is_fraction oc_reduced kV_reduced dc_reduced pm_reduced cd_reduced ct_reduced oc_plus kV_plus dc_plus pm_plus cd_plus ct_plus oc_total kV_total dc_total pm_total cd_total ct_total oc_are_weights kV_are_weights dc_are_weights pm_are_weights cd_are_weights ct_are_weights oc_written kV_written dc_written pm_written cd_written ct_written oc_format_weights kV_format_weights dc_format_weights pm_format_weights cd_format_weights ct_format_weights oc_parse_number kV_parse_number dc_parse_number pm_parse_number cd_parse_number ct_parse_number oc_parse_fraction kV_parse_fraction dc_parse_fraction pm_parse_fraction cd_parse_fraction ct_parse_fraction oc_ParseError___init__ kV_ParseError___init__ dc_ParseError___init__ pm_ParseError___init__ cd_ParseError___init__ ct_ParseError___init__ oc_parse_weights kV_parse_weights dc_parse_weights pm_parse_weights cd_parse_weights ct_parse_weights oc__law_parse kV__law_parse dc__law_parse pm__law_parse cd__law_parse ct__law_parse oc_law kV_law dc_law pm_law cd_law ct_law : Value}
    (z_isinstance : PySem.W.nsIn K mainGlobals "isinstance" = some none)
    (z_int : PySem.W.nsIn K mainGlobals "int" = some none)
    (z_bool : PySem.W.nsIn K mainGlobals "bool" = some none)
    (z_tuple : PySem.W.nsIn K mainGlobals "tuple" = some none)
    (z_range : PySem.W.nsIn K mainGlobals "range" = some none)
    (z_len : PySem.W.nsIn K mainGlobals "len" = some none)
    (z_abs : PySem.W.nsIn K mainGlobals "abs" = some none)
    (z_str : PySem.W.nsIn K mainGlobals "str" = some none)
    (z_ValueError : PySem.W.nsIn K mainGlobals "ValueError" = some none)
    (v_MAX_PART : PySem.W.nsIn K mainGlobals "MAX_PART" = some (some (.int 99999 t_MAX_PART)))
    (v_MAX_PLACE : PySem.W.nsIn K mainGlobals "MAX_PLACE" = some (some (.int 6 t_MAX_PLACE)))
    (v_DIGITS : PySem.W.nsIn K mainGlobals "DIGITS" = some (some (.str "0123456789" t_DIGITS)))
    (e_AverageError : PySem.W.nsIn K mainGlobals "AverageError" = some (some (.ref C_AverageError)))
    (eq_AverageError : PySem.W.excIn K C_AverageError [.type "ValueError", .type "Exception", .type "BaseException", .type "object"] "ValueError.__new__" = true)
    (ek_AverageError : PySem.W.keepIn K (.ref C_AverageError) = true)
    (eb_AverageError : PySem.W.subIn K (.ref C_AverageError) (.type "BaseException") = some true)
    (et_AverageError : PySem.W.typeIn K (.ref C_AverageError) = some (.type "type"))
    (e_ParseError : PySem.W.nsIn K mainGlobals "ParseError" = some (some (.ref C_ParseError)))
    (e_InvalidNumber : PySem.W.nsIn K mainGlobals "InvalidNumber" = some (some (.ref C_InvalidNumber)))
    (eq_InvalidNumber : PySem.W.excIn K C_InvalidNumber [.type "ValueError", .type "Exception", .type "BaseException", .type "object"] "ValueError.__new__" = true)
    (ek_InvalidNumber : PySem.W.keepIn K (.ref C_InvalidNumber) = true)
    (eb_InvalidNumber : PySem.W.subIn K (.ref C_InvalidNumber) (.type "BaseException") = some true)
    (et_InvalidNumber : PySem.W.typeIn K (.ref C_InvalidNumber) = some (.type "type"))
    (e_InvalidWeights : PySem.W.nsIn K mainGlobals "InvalidWeights" = some (some (.ref C_InvalidWeights)))
    (eq_InvalidWeights : PySem.W.excIn K C_InvalidWeights [.type "ValueError", .type "Exception", .type "BaseException", .type "object"] "ValueError.__new__" = true)
    (ek_InvalidWeights : PySem.W.keepIn K (.ref C_InvalidWeights) = true)
    (eb_InvalidWeights : PySem.W.subIn K (.ref C_InvalidWeights) (.type "BaseException") = some true)
    (et_InvalidWeights : PySem.W.typeIn K (.ref C_InvalidWeights) = some (.type "type"))
    (y1_ParseError : PySem.W.subIn K (.ref C_ParseError) (.type "BaseException") = some true)
    (y2_ParseError : PySem.W.hasDictIn K C_ParseError = true)
    (y3_ParseError : PySem.W.typeIn K (.ref C_ParseError) = some (.type "type"))
    (y1_AverageError : PySem.W.subIn K (.ref C_AverageError) (.type "BaseException") = some true)
    (y2_AverageError : PySem.W.hasDictIn K C_AverageError = true)
    (y3_AverageError : PySem.W.typeIn K (.ref C_AverageError) = some (.type "type"))
    (y1_InvalidWeights : PySem.W.subIn K (.ref C_InvalidWeights) (.type "BaseException") = some true)
    (y2_InvalidWeights : PySem.W.hasDictIn K C_InvalidWeights = true)
    (y3_InvalidWeights : PySem.W.typeIn K (.ref C_InvalidWeights) = some (.type "type"))
    (r_InvalidNumber_ParseError : PySem.W.subIn K (.ref C_InvalidNumber) (.ref C_ParseError) = some false)
    (n_InvalidNumber_ParseError : C_InvalidNumber ≠ C_ParseError)
    (r_InvalidNumber_AverageError : PySem.W.subIn K (.ref C_InvalidNumber) (.ref C_AverageError) = some true)
    (r_InvalidNumber_InvalidWeights : PySem.W.subIn K (.ref C_InvalidNumber) (.ref C_InvalidWeights) = some false)
    (n_InvalidNumber_InvalidWeights : C_InvalidNumber ≠ C_InvalidWeights)
    (r_InvalidWeights_ParseError : PySem.W.subIn K (.ref C_InvalidWeights) (.ref C_ParseError) = some false)
    (n_InvalidWeights_ParseError : C_InvalidWeights ≠ C_ParseError)
    (r_InvalidWeights_AverageError : PySem.W.subIn K (.ref C_InvalidWeights) (.ref C_AverageError) = some true)
    (r_InvalidWeights_InvalidWeights : PySem.W.subIn K (.ref C_InvalidWeights) (.ref C_InvalidWeights) = some true)
    (r_ParseError_ParseError : PySem.W.subIn K (.ref C_ParseError) (.ref C_ParseError) = some true)
    (r_ParseError_AverageError : PySem.W.subIn K (.ref C_ParseError) (.ref C_AverageError) = some true)
    (r_ParseError_InvalidWeights : PySem.W.subIn K (.ref C_ParseError) (.ref C_InvalidWeights) = some false)
    (n_ParseError_InvalidWeights : C_ParseError ≠ C_InvalidWeights)
    (xhg_InvalidNumber : PySem.W.findIn K (.ref C_InvalidNumber) "__getattribute__" = some (some (.builtin "BaseException.__getattribute__")))
    (xhk_InvalidNumber : PySem.W.findIn K (.ref C_InvalidNumber) "__getattr__" = some none)
    (xhs_InvalidNumber : PySem.W.subIn K (.ref C_InvalidNumber) (.type "BaseException") = some true)
    (xhd_InvalidNumber : PySem.W.hasDictIn K C_InvalidNumber = true)
    (xha_InvalidNumber : PySem.W.findIn K (.ref C_InvalidNumber) "__class__" = some (some (.builtin "object.__class__")))
    (xhn_InvalidNumber : PySem.W.specialIn K (.builtin "object.__class__") "__get__" = some (some (.builtin "getset_descriptor.__get__")))
    (xht_InvalidNumber : PySem.W.takesIn K (.builtin "object.__class__") = some true)
    (xhm_InvalidNumber : PySem.W.mroIn K C_InvalidNumber (.type "object") = some true)
    (xhg_InvalidWeights : PySem.W.findIn K (.ref C_InvalidWeights) "__getattribute__" = some (some (.builtin "BaseException.__getattribute__")))
    (xhk_InvalidWeights : PySem.W.findIn K (.ref C_InvalidWeights) "__getattr__" = some none)
    (xhs_InvalidWeights : PySem.W.subIn K (.ref C_InvalidWeights) (.type "BaseException") = some true)
    (xhd_InvalidWeights : PySem.W.hasDictIn K C_InvalidWeights = true)
    (xha_InvalidWeights : PySem.W.findIn K (.ref C_InvalidWeights) "__class__" = some (some (.builtin "object.__class__")))
    (xhn_InvalidWeights : PySem.W.specialIn K (.builtin "object.__class__") "__get__" = some (some (.builtin "getset_descriptor.__get__")))
    (xht_InvalidWeights : PySem.W.takesIn K (.builtin "object.__class__") = some true)
    (xhm_InvalidWeights : PySem.W.mroIn K C_InvalidWeights (.type "object") = some true)
    (xhg_ParseError : PySem.W.findIn K (.ref C_ParseError) "__getattribute__" = some (some (.builtin "BaseException.__getattribute__")))
    (xhk_ParseError : PySem.W.findIn K (.ref C_ParseError) "__getattr__" = some none)
    (xhs_ParseError : PySem.W.subIn K (.ref C_ParseError) (.type "BaseException") = some true)
    (xhd_ParseError : PySem.W.hasDictIn K C_ParseError = true)
    (xha_ParseError : PySem.W.findIn K (.ref C_ParseError) "__class__" = some (some (.builtin "object.__class__")))
    (xhn_ParseError : PySem.W.specialIn K (.builtin "object.__class__") "__get__" = some (some (.builtin "getset_descriptor.__get__")))
    (xht_ParseError : PySem.W.takesIn K (.builtin "object.__class__") = some true)
    (xhm_ParseError : PySem.W.mroIn K C_ParseError (.type "object") = some true)
    (pxL : K.lookup C_ParseError = some (excClassObj pnm pq C_ParseError pN pbs [.ref C_AverageError, .type "ValueError", .type "Exception", .type "BaseException", .type "object"] true psn psub pab pcol pdd pm0 pm1 pm2 pm3 pm5 "ValueError.__new__"))
    (psa : PySem.W.findIn K (.ref C_ParseError) "__setattr__" = some (some (.builtin "object.__setattr__")))
    (pty : PySem.W.typeIn K (.ref C_ParseError) = some (.type "type"))
    (pkc : PySem.W.keepIn K (.ref C_ParseError) = true)
    (pno : PySem.W.findIn K (.ref C_ParseError) "line" = some none)
    (prd : PySem.W.readsIn K C_AverageError (.type "type") = true)
    (pga : PySem.W.specialIn K (.ref C_AverageError) "__getattribute__" = some (some (.builtin "type.__getattribute__")))
    (pvb : PySem.W.findCls K (.ref C_AverageError) (.type "type") "__init__" = some (.val (.builtin "ValueError.__init__")))
    (a__law_cell : PySem.W.nsIn K mainGlobals "_law_cell" = some (some (.ref f__law_cell')))
    (l__law_cell : K.lookup f__law_cell' = some ⟨oc__law_cell, od__law_cell, .func (PySem.W.fnOf "_law_cell" "_law_cell" (defArgs s__law_cell) (defBody s__law_cell) (defScope s__law_cell) .none kV__law_cell dc__law_cell pm__law_cell an__law_cell cd__law_cell ct__law_cell), sl__law_cell⟩)
    (c__law_cell' : PySem.W.codeIn K cd__law_cell "_law_cell" = true)
    (k__law_cell : PySem.W.keepIn K (.ref f__law_cell') = true)
    (a__law_row : PySem.W.nsIn K mainGlobals "_law_row" = some (some (.ref f__law_row')))
    (l__law_row : K.lookup f__law_row' = some ⟨oc__law_row, od__law_row, .func (PySem.W.fnOf "_law_row" "_law_row" (defArgs s__law_row) (defBody s__law_row) (defScope s__law_row) .none kV__law_row dc__law_row pm__law_row an__law_row cd__law_row ct__law_row), sl__law_row⟩)
    (c__law_row' : PySem.W.codeIn K cd__law_row "_law_row" = true)
    (k__law_row : PySem.W.keepIn K (.ref f__law_row') = true)
    (a__law_gcd : PySem.W.nsIn K mainGlobals "_law_gcd" = some (some (.ref f__law_gcd')))
    (l__law_gcd : K.lookup f__law_gcd' = some ⟨oc__law_gcd, od__law_gcd, .func (PySem.W.fnOf "_law_gcd" "_law_gcd" (defArgs s__law_gcd) (defBody s__law_gcd) (defScope s__law_gcd) .none kV__law_gcd dc__law_gcd pm__law_gcd an__law_gcd cd__law_gcd ct__law_gcd), sl__law_gcd⟩)
    (c__law_gcd' : PySem.W.codeIn K cd__law_gcd "_law_gcd" = true)
    (k__law_gcd : PySem.W.keepIn K (.ref f__law_gcd') = true)
    (a__law_low : PySem.W.nsIn K mainGlobals "_law_low" = some (some (.ref f__law_low')))
    (l__law_low : K.lookup f__law_low' = some ⟨oc__law_low, od__law_low, .func (PySem.W.fnOf "_law_low" "_law_low" (defArgs s__law_low) (defBody s__law_low) (defScope s__law_low) .none kV__law_low dc__law_low pm__law_low an__law_low cd__law_low ct__law_low), sl__law_low⟩)
    (c__law_low' : PySem.W.codeIn K cd__law_low "_law_low" = true)
    (k__law_low : PySem.W.keepIn K (.ref f__law_low') = true)
    (a__law_weights : PySem.W.nsIn K mainGlobals "_law_weights" = some (some (.ref f__law_weights')))
    (l__law_weights : K.lookup f__law_weights' = some ⟨oc__law_weights, od__law_weights, .func (PySem.W.fnOf "_law_weights" "_law_weights" (defArgs s__law_weights) (defBody s__law_weights) (defScope s__law_weights) .none kV__law_weights dc__law_weights pm__law_weights an__law_weights cd__law_weights ct__law_weights), sl__law_weights⟩)
    (c__law_weights' : PySem.W.codeIn K cd__law_weights "_law_weights" = true)
    (k__law_weights : PySem.W.keepIn K (.ref f__law_weights') = true)
    (a_in_range : PySem.W.nsIn K mainGlobals "in_range" = some (some (.ref f_in_range')))
    (l_in_range : K.lookup f_in_range' = some ⟨oc_in_range, od_in_range, .func (PySem.W.fnOf "in_range" "in_range" (defArgs s_in_range) (defBody s_in_range) (defScope s_in_range) .none kV_in_range dc_in_range pm_in_range an_in_range cd_in_range ct_in_range), sl_in_range⟩)
    (c_in_range' : PySem.W.codeIn K cd_in_range "in_range" = true)
    (k_in_range : PySem.W.keepIn K (.ref f_in_range') = true)
    (a_check_last : PySem.W.nsIn K mainGlobals "check_last" = some (some (.ref f_check_last')))
    (l_check_last : K.lookup f_check_last' = some ⟨oc_check_last, od_check_last, .func (PySem.W.fnOf "check_last" "check_last" (defArgs s_check_last) (defBody s_check_last) (defScope s_check_last) .none kV_check_last dc_check_last pm_check_last an_check_last cd_check_last ct_check_last), sl_check_last⟩)
    (c_check_last' : PySem.W.codeIn K cd_check_last "check_last" = true)
    (k_check_last : PySem.W.keepIn K (.ref f_check_last') = true)
    (a_greatest_divisor : PySem.W.nsIn K mainGlobals "greatest_divisor" = some (some (.ref f_greatest_divisor')))
    (l_greatest_divisor : K.lookup f_greatest_divisor' = some ⟨oc_greatest_divisor, od_greatest_divisor, .func (PySem.W.fnOf "greatest_divisor" "greatest_divisor" (defArgs s_greatest_divisor) (defBody s_greatest_divisor) (defScope s_greatest_divisor) .none kV_greatest_divisor dc_greatest_divisor pm_greatest_divisor an_greatest_divisor cd_greatest_divisor ct_greatest_divisor), sl_greatest_divisor⟩)
    (c_greatest_divisor' : PySem.W.codeIn K cd_greatest_divisor "greatest_divisor" = true)
    (k_greatest_divisor : PySem.W.keepIn K (.ref f_greatest_divisor') = true)
    (a_is_fraction : PySem.W.nsIn K mainGlobals "is_fraction" = some (some (.ref f_is_fraction')))
    (l_is_fraction : K.lookup f_is_fraction' = some ⟨oc_is_fraction, od_is_fraction, .func (PySem.W.fnOf "is_fraction" "is_fraction" (defArgs s_is_fraction) (defBody s_is_fraction) (defScope s_is_fraction) .none kV_is_fraction dc_is_fraction pm_is_fraction an_is_fraction cd_is_fraction ct_is_fraction), sl_is_fraction⟩)
    (c_is_fraction' : PySem.W.codeIn K cd_is_fraction "is_fraction" = true)
    (k_is_fraction : PySem.W.keepIn K (.ref f_is_fraction') = true)
    (a_reduced : PySem.W.nsIn K mainGlobals "reduced" = some (some (.ref f_reduced')))
    (l_reduced : K.lookup f_reduced' = some ⟨oc_reduced, od_reduced, .func (PySem.W.fnOf "reduced" "reduced" (defArgs s_reduced) (defBody s_reduced) (defScope s_reduced) .none kV_reduced dc_reduced pm_reduced an_reduced cd_reduced ct_reduced), sl_reduced⟩)
    (c_reduced' : PySem.W.codeIn K cd_reduced "reduced" = true)
    (k_reduced : PySem.W.keepIn K (.ref f_reduced') = true)
    (a_plus : PySem.W.nsIn K mainGlobals "plus" = some (some (.ref f_plus')))
    (l_plus : K.lookup f_plus' = some ⟨oc_plus, od_plus, .func (PySem.W.fnOf "plus" "plus" (defArgs s_plus) (defBody s_plus) (defScope s_plus) .none kV_plus dc_plus pm_plus an_plus cd_plus ct_plus), sl_plus⟩)
    (c_plus' : PySem.W.codeIn K cd_plus "plus" = true)
    (k_plus : PySem.W.keepIn K (.ref f_plus') = true)
    (a_total : PySem.W.nsIn K mainGlobals "total" = some (some (.ref f_total')))
    (l_total : K.lookup f_total' = some ⟨oc_total, od_total, .func (PySem.W.fnOf "total" "total" (defArgs s_total) (defBody s_total) (defScope s_total) .none kV_total dc_total pm_total an_total cd_total ct_total), sl_total⟩)
    (c_total' : PySem.W.codeIn K cd_total "total" = true)
    (k_total : PySem.W.keepIn K (.ref f_total') = true)
    (a_are_weights : PySem.W.nsIn K mainGlobals "are_weights" = some (some (.ref f_are_weights')))
    (l_are_weights : K.lookup f_are_weights' = some ⟨oc_are_weights, od_are_weights, .func (PySem.W.fnOf "are_weights" "are_weights" (defArgs s_are_weights) (defBody s_are_weights) (defScope s_are_weights) .none kV_are_weights dc_are_weights pm_are_weights an_are_weights cd_are_weights ct_are_weights), sl_are_weights⟩)
    (c_are_weights' : PySem.W.codeIn K cd_are_weights "are_weights" = true)
    (k_are_weights : PySem.W.keepIn K (.ref f_are_weights') = true)
    (a_written : PySem.W.nsIn K mainGlobals "written" = some (some (.ref f_written')))
    (l_written : K.lookup f_written' = some ⟨oc_written, od_written, .func (PySem.W.fnOf "written" "written" (defArgs s_written) (defBody s_written) (defScope s_written) .none kV_written dc_written pm_written an_written cd_written ct_written), sl_written⟩)
    (c_written' : PySem.W.codeIn K cd_written "written" = true)
    (k_written : PySem.W.keepIn K (.ref f_written') = true)
    (a_format_weights : PySem.W.nsIn K mainGlobals "format_weights" = some (some (.ref f_format_weights')))
    (l_format_weights : K.lookup f_format_weights' = some ⟨oc_format_weights, od_format_weights, .func (PySem.W.fnOf "format_weights" "format_weights" (defArgs s_format_weights) (defBody s_format_weights) (defScope s_format_weights) .none kV_format_weights dc_format_weights pm_format_weights an_format_weights cd_format_weights ct_format_weights), sl_format_weights⟩)
    (c_format_weights' : PySem.W.codeIn K cd_format_weights "format_weights" = true)
    (k_format_weights : PySem.W.keepIn K (.ref f_format_weights') = true)
    (a_parse_number : PySem.W.nsIn K mainGlobals "parse_number" = some (some (.ref f_parse_number')))
    (l_parse_number : K.lookup f_parse_number' = some ⟨oc_parse_number, od_parse_number, .func (PySem.W.fnOf "parse_number" "parse_number" (defArgs s_parse_number) (defBody s_parse_number) (defScope s_parse_number) .none kV_parse_number dc_parse_number pm_parse_number an_parse_number cd_parse_number ct_parse_number), sl_parse_number⟩)
    (c_parse_number' : PySem.W.codeIn K cd_parse_number "parse_number" = true)
    (k_parse_number : PySem.W.keepIn K (.ref f_parse_number') = true)
    (a_parse_fraction : PySem.W.nsIn K mainGlobals "parse_fraction" = some (some (.ref f_parse_fraction')))
    (l_parse_fraction : K.lookup f_parse_fraction' = some ⟨oc_parse_fraction, od_parse_fraction, .func (PySem.W.fnOf "parse_fraction" "parse_fraction" (defArgs s_parse_fraction) (defBody s_parse_fraction) (defScope s_parse_fraction) .none kV_parse_fraction dc_parse_fraction pm_parse_fraction an_parse_fraction cd_parse_fraction ct_parse_fraction), sl_parse_fraction⟩)
    (c_parse_fraction' : PySem.W.codeIn K cd_parse_fraction "parse_fraction" = true)
    (k_parse_fraction : PySem.W.keepIn K (.ref f_parse_fraction') = true)
    (a_ParseError___init__ : PySem.W.findIn K (.ref C_ParseError) "__init__" = some (some (.ref f_ParseError___init__')))
    (i_ParseError___init__ : PySem.W.typeIn K (.ref f_ParseError___init__') = some (.type "function"))
    (l_ParseError___init__ : K.lookup f_ParseError___init__' = some ⟨oc_ParseError___init__, od_ParseError___init__, .func (PySem.W.fnOf "__init__" "ParseError.__init__" (defArgs s_ParseError___init__) (defBody s_ParseError___init__) (defScope s_ParseError___init__) .none kV_ParseError___init__ dc_ParseError___init__ pm_ParseError___init__ an_ParseError___init__ cd_ParseError___init__ ct_ParseError___init__), sl_ParseError___init__⟩)
    (c_ParseError___init__' : PySem.W.codeIn K cd_ParseError___init__ "ParseError.__init__" = true)
    (k_ParseError___init__ : PySem.W.keepIn K (.ref f_ParseError___init__') = true)
    (a_parse_weights : PySem.W.nsIn K mainGlobals "parse_weights" = some (some (.ref f_parse_weights')))
    (l_parse_weights : K.lookup f_parse_weights' = some ⟨oc_parse_weights, od_parse_weights, .func (PySem.W.fnOf "parse_weights" "parse_weights" (defArgs s_parse_weights) (defBody s_parse_weights) (defScope s_parse_weights) .none kV_parse_weights dc_parse_weights pm_parse_weights an_parse_weights cd_parse_weights ct_parse_weights), sl_parse_weights⟩)
    (c_parse_weights' : PySem.W.codeIn K cd_parse_weights "parse_weights" = true)
    (k_parse_weights : PySem.W.keepIn K (.ref f_parse_weights') = true)
    (a__law_parse : PySem.W.nsIn K mainGlobals "_law_parse" = some (some (.ref f__law_parse')))
    (l__law_parse : K.lookup f__law_parse' = some ⟨oc__law_parse, od__law_parse, .func (PySem.W.fnOf "_law_parse" "_law_parse" (defArgs s__law_parse) (defBody s__law_parse) (defScope s__law_parse) .none kV__law_parse dc__law_parse pm__law_parse an__law_parse cd__law_parse ct__law_parse), sl__law_parse⟩)
    (c__law_parse' : PySem.W.codeIn K cd__law_parse "_law_parse" = true)
    (k__law_parse : PySem.W.keepIn K (.ref f__law_parse') = true)
    (a_law : PySem.W.nsIn K mainGlobals "law" = some (some (.ref f_law')))
    (l_law : K.lookup f_law' = some ⟨oc_law, od_law, .func (PySem.W.fnOf "law" "law" (defArgs s_law) (defBody s_law) (defScope s_law) .none kV_law dc_law pm_law an_law cd_law ct_law), sl_law⟩)
    (c_law' : PySem.W.codeIn K cd_law "law" = true)
    (k_law : PySem.W.keepIn K (.ref f_law') = true)
    : ∃ fd : FuncData, (∀ (s : Shared) (v : Value), BindsTo s fd ⟨[v], []⟩ [("_law_script", v)]) ∧ ∀ base : Heap, K.In base → base.Ns mainGlobals mg → FnOk PySem.Challenge.pw_toldaverages_k11_text w K mg base (L2.CX PySem.Challenge.pw_toldaverages_k11_text w) 8 fa fd p_law (spP K S_law) := by
  have e := hfa.symm.trans (PySem.W.mg_of X G a_law)
  cases e
  obtain ⟨M, hParseError, -⟩ : ∃ M : Md K mg, M.C_ParseError = C_ParseError ∧ True := ⟨{ isinstance := PySem.W.mg_none_of X G z_isinstance, int := PySem.W.mg_none_of X G z_int, bool := PySem.W.mg_none_of X G z_bool, tuple := PySem.W.mg_none_of X G z_tuple, range := PySem.W.mg_none_of X G z_range, len := PySem.W.mg_none_of X G z_len, abs := PySem.W.mg_none_of X G z_abs, str := PySem.W.mg_none_of X G z_str, ValueError := PySem.W.mg_none_of X G z_ValueError, g_MAX_PART := ⟨t_MAX_PART, PySem.W.mg_of X G v_MAX_PART⟩, g_MAX_PLACE := ⟨t_MAX_PLACE, PySem.W.mg_of X G v_MAX_PLACE⟩, g_DIGITS := ⟨t_DIGITS, PySem.W.mg_of X G v_DIGITS⟩, C_AverageError := C_AverageError, E_AverageError := ⟨eq_AverageError, PySem.W.mg_of X G e_AverageError, ek_AverageError, eb_AverageError, et_AverageError⟩, C_ParseError := C_ParseError, C_InvalidNumber := C_InvalidNumber, E_InvalidNumber := ⟨eq_InvalidNumber, PySem.W.mg_of X G e_InvalidNumber, ek_InvalidNumber, eb_InvalidNumber, et_InvalidNumber⟩, C_InvalidWeights := C_InvalidWeights, E_InvalidWeights := ⟨eq_InvalidWeights, PySem.W.mg_of X G e_InvalidWeights, ek_InvalidWeights, eb_InvalidWeights, et_InvalidWeights⟩, R_InvalidNumber_ParseError := relC_mk y1_ParseError y2_ParseError y3_ParseError r_InvalidNumber_ParseError (.inr n_InvalidNumber_ParseError), R_InvalidNumber_AverageError := relC_mk y1_AverageError y2_AverageError y3_AverageError r_InvalidNumber_AverageError (.inl rfl), R_InvalidNumber_InvalidWeights := relC_mk y1_InvalidWeights y2_InvalidWeights y3_InvalidWeights r_InvalidNumber_InvalidWeights (.inr n_InvalidNumber_InvalidWeights), R_InvalidWeights_ParseError := relC_mk y1_ParseError y2_ParseError y3_ParseError r_InvalidWeights_ParseError (.inr n_InvalidWeights_ParseError), R_InvalidWeights_AverageError := relC_mk y1_AverageError y2_AverageError y3_AverageError r_InvalidWeights_AverageError (.inl rfl), R_InvalidWeights_InvalidWeights := relC_mk y1_InvalidWeights y2_InvalidWeights y3_InvalidWeights r_InvalidWeights_InvalidWeights (.inl rfl), R_ParseError_ParseError := relC_mk y1_ParseError y2_ParseError y3_ParseError r_ParseError_ParseError (.inl rfl), R_ParseError_AverageError := relC_mk y1_AverageError y2_AverageError y3_AverageError r_ParseError_AverageError (.inl rfl), R_ParseError_InvalidWeights := relC_mk y1_InvalidWeights y2_InvalidWeights y3_InvalidWeights r_ParseError_InvalidWeights (.inr n_ParseError_InvalidWeights), X_InvalidNumber := ⟨xhg_InvalidNumber, xhk_InvalidNumber, xhs_InvalidNumber, xhd_InvalidNumber, xha_InvalidNumber, xhn_InvalidNumber, xht_InvalidNumber, xhm_InvalidNumber⟩, X_InvalidWeights := ⟨xhg_InvalidWeights, xhk_InvalidWeights, xhs_InvalidWeights, xhd_InvalidWeights, xha_InvalidWeights, xhn_InvalidWeights, xht_InvalidWeights, xhm_InvalidWeights⟩, X_ParseError := ⟨xhg_ParseError, xhk_ParseError, xhs_ParseError, xhd_ParseError, xha_ParseError, xhn_ParseError, xht_ParseError, xhm_ParseError⟩, P_ParseError := ⟨PySem.W.mg_of X G e_ParseError, PySem.W.mg_of X G e_AverageError, ⟨⟨pnm, pq, pN, pbs, _, psn, psub, pab, pcol, pdd, pm0, pm1, pm2, pm3, pm5, pxL, by rfl⟩, psa, xhs_ParseError, pty, pkc⟩, ⟨xhg_ParseError, xhk_ParseError, xhs_ParseError, xhd_ParseError⟩, pno, prd, pga, pvb⟩ }, rfl, trivial⟩
  subst hParseError
  have F__law_cell := fun_mk (st := s__law_cell) l__law_cell c__law_cell' k__law_cell
  have F__law_row := fun_mk (st := s__law_row) l__law_row c__law_row' k__law_row
  have F__law_gcd := fun_mk (st := s__law_gcd) l__law_gcd c__law_gcd' k__law_gcd
  have F__law_low := fun_mk (st := s__law_low) l__law_low c__law_low' k__law_low
  have F__law_weights := fun_mk (st := s__law_weights) l__law_weights c__law_weights' k__law_weights
  have F_in_range := fun_mk (st := s_in_range) l_in_range c_in_range' k_in_range
  have F_check_last := fun_mk (st := s_check_last) l_check_last c_check_last' k_check_last
  have F_greatest_divisor := fun_mk (st := s_greatest_divisor) l_greatest_divisor c_greatest_divisor' k_greatest_divisor
  have F_is_fraction := fun_mk (st := s_is_fraction) l_is_fraction c_is_fraction' k_is_fraction
  have F_reduced := fun_mk (st := s_reduced) l_reduced c_reduced' k_reduced
  have F_plus := fun_mk (st := s_plus) l_plus c_plus' k_plus
  have F_total := fun_mk (st := s_total) l_total c_total' k_total
  have F_are_weights := fun_mk (st := s_are_weights) l_are_weights c_are_weights' k_are_weights
  have F_written := fun_mk (st := s_written) l_written c_written' k_written
  have F_format_weights := fun_mk (st := s_format_weights) l_format_weights c_format_weights' k_format_weights
  have F_parse_number := fun_mk (st := s_parse_number) l_parse_number c_parse_number' k_parse_number
  have F_parse_fraction := fun_mk (st := s_parse_fraction) l_parse_fraction c_parse_fraction' k_parse_fraction
  have F_ParseError___init__ := fun_mk (st := s_ParseError___init__) l_ParseError___init__ c_ParseError___init__' k_ParseError___init__
  have F_parse_weights := fun_mk (st := s_parse_weights) l_parse_weights c_parse_weights' k_parse_weights
  have F__law_parse := fun_mk (st := s__law_parse) l__law_parse c__law_parse' k__law_parse
  have F_law := fun_mk (st := s_law) l_law c_law' k_law
  refine ⟨PySem.W.fnOf "law" "law" (defArgs s_law) (defBody s_law) (defScope s_law) .none kV_law dc_law pm_law an_law cd_law ct_law, fun s v => .of_eq rfl, fun base _ _ => ?_⟩
  have I__law_cell : FnInP PySem.Challenge.pw_toldaverages_k11_text w K mg base 1 "_law_cell" S__law_cell := ⟨_, _, _, (f__law_cell (P := PySem.Challenge.pw_toldaverages_k11_text) (w := w) (base := base) M F__law_cell), PySem.W.mg_of X G a__law_cell, k__law_cell, (F__law_cell.binds (ps := p__law_cell) fun _ _ _ _ _ _ us hl => match us, hl with | [_, _], _ => rfl)⟩
  have I__law_row : FnInP PySem.Challenge.pw_toldaverages_k11_text w K mg base 2 "_law_row" S__law_row := ⟨_, _, _, (f__law_row (P := PySem.Challenge.pw_toldaverages_k11_text) (w := w) (base := base) M F__law_row I__law_cell), PySem.W.mg_of X G a__law_row, k__law_row, (F__law_row.binds (ps := p__law_row) fun _ _ _ _ _ _ us hl => match us, hl with | [_, _], _ => rfl)⟩
  have I__law_gcd := fn_in (name := "_law_gcd") F__law_gcd (PySem.W.mg_of X G a__law_gcd) (F__law_gcd.binds (ps := p__law_gcd) fun _ _ _ _ _ _ us hl => match us, hl with | [_, _], _ => rfl) (f__law_gcd (P := PySem.Challenge.pw_toldaverages_k11_text) (w := w) (base := base) M F__law_gcd)
  have I__law_low := fn_in (name := "_law_low") F__law_low (PySem.W.mg_of X G a__law_low) (F__law_low.binds (ps := p__law_low) fun _ _ _ _ _ _ us hl => match us, hl with | [_, _], _ => rfl) (f__law_low (P := PySem.Challenge.pw_toldaverages_k11_text) (w := w) (base := base) M F__law_low I__law_gcd)
  have I__law_weights : FnInP PySem.Challenge.pw_toldaverages_k11_text w K mg base 3 "_law_weights" S__law_weights := ⟨_, _, _, (f__law_weights (P := PySem.Challenge.pw_toldaverages_k11_text) (w := w) (base := base) M F__law_weights I__law_row I__law_low), PySem.W.mg_of X G a__law_weights, k__law_weights, (F__law_weights.binds (ps := p__law_weights) fun _ _ _ _ _ _ us hl => match us, hl with | [_, _, _], _ => rfl)⟩
  have I_in_range := fn_in (name := "in_range") F_in_range (PySem.W.mg_of X G a_in_range) (F_in_range.binds (ps := p_in_range) fun _ _ _ _ _ _ us hl => match us, hl with | [_, _, _], _ => rfl) (f_in_range (P := PySem.Challenge.pw_toldaverages_k11_text) (w := w) (base := base) M F_in_range)
  have I_check_last := fn_in (name := "check_last") F_check_last (PySem.W.mg_of X G a_check_last) (F_check_last.binds (ps := p_check_last) fun _ _ _ _ _ _ us hl => match us, hl with | [_], _ => rfl) (f_check_last (P := PySem.Challenge.pw_toldaverages_k11_text) (w := w) (base := base) M F_check_last I_in_range)
  have I_greatest_divisor := fn_in (name := "greatest_divisor") F_greatest_divisor (PySem.W.mg_of X G a_greatest_divisor) (F_greatest_divisor.binds (ps := p_greatest_divisor) fun _ _ _ _ _ _ us hl => match us, hl with | [_, _], _ => rfl) (f_greatest_divisor (P := PySem.Challenge.pw_toldaverages_k11_text) (w := w) (base := base) M F_greatest_divisor)
  have I_is_fraction := fn_in (name := "is_fraction") F_is_fraction (PySem.W.mg_of X G a_is_fraction) (F_is_fraction.binds (ps := p_is_fraction) fun _ _ _ _ _ _ us hl => match us, hl with | [_], _ => rfl) (f_is_fraction (P := PySem.Challenge.pw_toldaverages_k11_text) (w := w) (base := base) M F_is_fraction I_in_range I_greatest_divisor)
  have I_reduced := fn_in (name := "reduced") F_reduced (PySem.W.mg_of X G a_reduced) (F_reduced.binds (ps := p_reduced) fun _ _ _ _ _ _ us hl => match us, hl with | [_, _], _ => rfl) (f_reduced (P := PySem.Challenge.pw_toldaverages_k11_text) (w := w) (base := base) M F_reduced I_greatest_divisor)
  have I_plus := fn_in (name := "plus") F_plus (PySem.W.mg_of X G a_plus) (F_plus.binds (ps := p_plus) fun _ _ _ _ _ _ us hl => match us, hl with | [_, _], _ => rfl) (f_plus (P := PySem.Challenge.pw_toldaverages_k11_text) (w := w) (base := base) M F_plus I_reduced)
  have I_total := fn_in (name := "total") F_total (PySem.W.mg_of X G a_total) (F_total.binds (ps := p_total) fun _ _ _ _ _ _ us hl => match us, hl with | [_], _ => rfl) (f_total (P := PySem.Challenge.pw_toldaverages_k11_text) (w := w) (base := base) M F_total I_plus)
  have I_are_weights := fn_in (name := "are_weights") F_are_weights (PySem.W.mg_of X G a_are_weights) (F_are_weights.binds (ps := p_are_weights) fun _ _ _ _ _ _ us hl => match us, hl with | [_, _], _ => rfl) (f_are_weights (P := PySem.Challenge.pw_toldaverages_k11_text) (w := w) (base := base) M F_are_weights I_is_fraction I_total)
  have I_written := fn_in (name := "written") F_written (PySem.W.mg_of X G a_written) (F_written.binds (ps := p_written) fun _ _ _ _ _ _ us hl => match us, hl with | [_], _ => rfl) (f_written (P := PySem.Challenge.pw_toldaverages_k11_text) (w := w) (base := base) M F_written)
  have I_format_weights := fn_in (name := "format_weights") F_format_weights (PySem.W.mg_of X G a_format_weights) (F_format_weights.binds (ps := p_format_weights) fun _ _ _ _ _ _ us hl => match us, hl with | [_, _], _ => rfl) (f_format_weights (P := PySem.Challenge.pw_toldaverages_k11_text) (w := w) (base := base) M F_format_weights I_check_last I_are_weights I_written)
  have I_parse_number := fn_in (name := "parse_number") F_parse_number (PySem.W.mg_of X G a_parse_number) (F_parse_number.binds (ps := p_parse_number) fun _ _ _ _ _ _ us hl => match us, hl with | [_], _ => rfl) (f_parse_number (P := PySem.Challenge.pw_toldaverages_k11_text) (w := w) (base := base) M F_parse_number)
  have I_parse_fraction := fn_in (name := "parse_fraction") F_parse_fraction (PySem.W.mg_of X G a_parse_fraction) (F_parse_fraction.binds (ps := p_parse_fraction) fun _ _ _ _ _ _ us hl => match us, hl with | [_], _ => rfl) (f_parse_fraction (P := PySem.Challenge.pw_toldaverages_k11_text) (w := w) (base := base) M F_parse_fraction I_parse_number I_is_fraction)
  have I_ParseError___init__ : PeIn PySem.Challenge.pw_toldaverages_k11_text w K mg base 1 M.C_ParseError := ⟨_, _, _, (f_ParseError___init__ (P := PySem.Challenge.pw_toldaverages_k11_text) (w := w) (base := base) M F_ParseError___init__), a_ParseError___init__, i_ParseError___init__, (F_ParseError___init__.binds (ps := p_ParseError___init__) fun _ _ _ _ _ _ us hl => match us, hl with | [_, _], _ => rfl)⟩
  have I_parse_weights := fn_in (name := "parse_weights") F_parse_weights (PySem.W.mg_of X G a_parse_weights) (F_parse_weights.binds (ps := p_parse_weights) fun _ _ _ _ _ _ us hl => match us, hl with | [_], _ => rfl) (f_parse_weights (P := PySem.Challenge.pw_toldaverages_k11_text) (w := w) (base := base) M F_parse_weights I_parse_fraction I_are_weights I_ParseError___init__)
  have I__law_parse := fn_in (name := "_law_parse") F__law_parse (PySem.W.mg_of X G a__law_parse) (F__law_parse.binds (ps := p__law_parse) fun _ _ _ _ _ _ us hl => match us, hl with | [_], _ => rfl) (f__law_parse (P := PySem.Challenge.pw_toldaverages_k11_text) (w := w) (base := base) M F__law_parse I_parse_weights)
  exact f_law (P := PySem.Challenge.pw_toldaverages_k11_text) (w := w) (base := base) M F_law I__law_row I__law_weights I_format_weights I__law_parse
end My
open PySem PySem.W PyProof.Rows DD
set_option maxHeartbeats 0 in
theorem PySem.Challenge.cw_toldaverages_k11_text_holds : PySem.Challenge.rw_toldaverages_k11_text.Holds := by
  w_on; o_law; k_head; (case hw => w_witness2)
  k_fill
  refine L2.walk_of (l := PySem.Challenge.rw_toldaverages_k11_text) (n := 63) (k := 8) (x := "_law_script") (CX := fun w => L2.CX PySem.Challenge.pw_toldaverages_k11_text w) (sp := fun w => spP _ My.S_law) rfl (by decide) rfl ⟨rfl, by decide, by decide⟩ (fun w h Y => PySem.W.kIn_of Y) ?F (fun w H a ns hl _ hS => ⟨a, ns, [], fun _ => none, [], .ret (.bool true), rfl, hS, (fun _ _ z => by cases z), .nil, My.law_holds hl, fun v G2 H2 e r => by cases r; rfl⟩) (fun w H s e s2 h => ?hCX)
  case hCX => exact cx_none h
  case F =>
    intro w mg fa h KX G hmg
    refine' My.all_mk KX G hmg ?H0 ?H1 ?H2 ?H3 ?H4 ?H5 ?H6 ?H7 ?H8 ?H9 ?H10 ?H11 ?H12 ?H13 ?H14 ?H15 ?H16 ?H17 ?H18 ?H19 ?H20 ?H21 ?H22 ?H23 ?H24 ?H25 ?H26 ?H27 ?H28 ?H29 ?H30 ?H31 ?H32 ?H33 ?H34 ?H35 ?H36 ?H37 ?H38 ?H39 ?H40 ?H41 ?H42 ?H43 ?H44 ?H45 ?H46 ?H47 ?H48 ?H49 ?H50 ?H51 ?H52 ?H53 ?H54 ?H55 ?H56 ?H57 ?H58 ?H59 ?H60 ?H61 ?H62 ?H63 ?H64 ?H65 ?H66 ?H67 ?H68 ?H69 ?H70 ?H71 ?H72 ?H73 ?H74 ?H75 ?H76 ?H77 ?H78 ?H79 ?H80 ?H81 ?H82 ?H83 ?H84 ?H85 ?H86 ?H87 ?H88 ?H89 ?H90 ?H91 ?H92 ?H93 ?H94 ?H95 ?H96 ?H97 ?H98 ?H99 ?H100 ?H101 ?H102 ?H103 ?H104 ?H105 ?H106 ?H107 ?H108 ?H109 ?H110 ?H111 ?H112 ?H113 ?H114 ?H115 ?H116 ?H117 ?H118 ?H119 ?H120 ?H121 ?H122 ?H123 ?H124 ?H125 ?H126 ?H127 ?H128 ?H129 ?H130 ?H131 ?H132 ?H133 ?H134 ?H135 ?H136 ?H137 ?H138 ?H139 ?H140 ?H141 ?H142 ?H143 ?H144 ?H145 ?H146 ?H147 ?H148 ?H149 ?H150 ?H151 ?H152 ?H153 ?H154 ?H155 ?H156 ?H157 ?H158 ?H159 ?H160 ?H161 ?H162 ?H163 ?H164 ?H165 ?H166
    (case H0 => k_is)
    (case H1 => k_is)
    (case H2 => k_is)
    (case H3 => k_is)
    (case H4 => k_is)
    (case H5 => k_is)
    (case H6 => k_is)
    (case H7 => k_is)
    (case H8 => k_is)
    (case H9 => k_is)
    (case H10 => k_is)
    (case H11 => k_is)
    (case H12 => k_is)
    (case H13 => k_exc)
    (case H14 => k_is)
    (case H15 => k_is)
    (case H16 => k_is)
    (case H17 => k_is)
    (case H18 => k_is)
    (case H19 => k_exc)
    (case H20 => k_is)
    (case H21 => k_is)
    (case H22 => k_is)
    (case H23 => k_is)
    (case H24 => k_exc)
    (case H25 => k_is)
    (case H26 => k_is)
    (case H27 => k_is)
    (case H28 => k_is)
    (case H29 => k_is)
    (case H30 => k_is)
    (case H31 => k_is)
    (case H32 => k_is)
    (case H33 => k_is)
    (case H34 => k_is)
    (case H35 => k_is)
    (case H36 => k_is)
    (case H37 => k_is)
    (case H38 => decide)
    (case H39 => k_is)
    (case H40 => k_is)
    (case H41 => decide)
    (case H42 => k_is)
    (case H43 => decide)
    (case H44 => k_is)
    (case H45 => k_is)
    (case H46 => k_is)
    (case H47 => k_is)
    (case H48 => k_is)
    (case H49 => decide)
    (case H50 => k_is)
    (case H51 => k_is)
    (case H52 => k_is)
    (case H53 => k_is)
    (case H54 => k_is)
    (case H55 => k_is)
    (case H56 => k_is)
    (case H57 => k_is)
    (case H58 => k_is)
    (case H59 => k_is)
    (case H60 => k_is)
    (case H61 => k_is)
    (case H62 => k_is)
    (case H63 => k_is)
    (case H64 => k_is)
    (case H65 => k_is)
    (case H66 => k_is)
    (case H67 => k_is)
    (case H68 => k_is)
    (case H69 => k_is)
    (case H70 => k_is)
    (case H71 => k_is)
    (case H72 => k_is)
    (case H73 => k_is)
    (case H74 => k_is)
    (case H75 => k_is)
    (case H76 => k_is)
    (case H77 => k_is)
    (case H78 => k_is)
    (case H79 => k_is)
    (case H80 => k_is)
    (case H81 => k_is)
    (case H82 => k_is)
    (case H83 => k_is)
    (case H84 => k_is)
    (case H85 => k_is)
    (case H86 => k_is)
    (case H87 => k_is)
    (case H88 => k_is)
    (case H89 => k_is)
    (case H90 => k_is)
    (case H91 => k_is)
    (case H92 => k_is)
    (case H93 => k_is)
    (case H94 => k_is)
    (case H95 => k_is)
    (case H96 => k_is)
    (case H97 => k_is)
    (case H98 => k_is)
    (case H99 => k_is)
    (case H100 => k_is)
    (case H101 => k_is)
    (case H102 => k_is)
    (case H103 => k_is)
    (case H104 => k_is)
    (case H105 => k_is)
    (case H106 => k_is)
    (case H107 => k_is)
    (case H108 => k_is)
    (case H109 => k_is)
    (case H110 => k_is)
    (case H111 => k_is)
    (case H112 => k_is)
    (case H113 => k_is)
    (case H114 => k_is)
    (case H115 => k_is)
    (case H116 => k_is)
    (case H117 => k_is)
    (case H118 => k_is)
    (case H119 => k_is)
    (case H120 => k_is)
    (case H121 => k_is)
    (case H122 => k_is)
    (case H123 => k_is)
    (case H124 => k_is)
    (case H125 => k_is)
    (case H126 => k_is)
    (case H127 => k_is)
    (case H128 => k_is)
    (case H129 => k_is)
    (case H130 => k_is)
    (case H131 => k_is)
    (case H132 => k_is)
    (case H133 => k_is)
    (case H134 => k_is)
    (case H135 => k_is)
    (case H136 => k_is)
    (case H137 => k_is)
    (case H138 => k_is)
    (case H139 => k_is)
    (case H140 => k_is)
    (case H141 => k_is)
    (case H142 => k_is)
    (case H143 => k_is)
    (case H144 => k_is)
    (case H145 => k_is)
    (case H146 => k_is)
    (case H147 => k_is)
    (case H148 => k_is)
    (case H149 => k_is)
    (case H150 => k_is)
    (case H151 => k_is)
    (case H152 => k_is)
    (case H153 => k_is)
    (case H154 => k_is)
    (case H155 => k_is)
    (case H156 => k_is)
    (case H157 => k_is)
    (case H158 => k_is)
    (case H159 => k_is)
    (case H160 => k_is)
    (case H161 => k_is)
    (case H162 => k_is)
    (case H163 => k_is)
    (case H164 => k_is)
    (case H165 => k_is)
    (case H166 => k_is)
