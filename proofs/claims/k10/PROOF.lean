import PyProof.Rows.All
import Wide.All
import OpenK.AllK
import Wide.FinOn
import PyProof.EqAt
import PyProof.EqKinds
import PyProof.TupleCall
import HandS.ForMost
import HandS.ForExc
import HandS.Zip
import HandS.Wide
import HandS.IsInst
import HandS.TupAny
import HandS.TupMul
import HandS.Conv
import HandS.Deep
import HandS.SetFor
import HandS.Style
import HandS.StrMore
import HandS.FStr
import HandS.ExcIs
import HandS.TryMany
import PySem.Challenge.RW_toldaverages_k10_whole_candidates
set_option Elab.async false
set_option linter.all false
set_option maxRecDepth 100000
set_option maxHeartbeats 4000000
namespace DD
open PySem PySem.Spec PyProof.Rows L2

/-! data of a value in a heap that grows only -/
mutual
inductive Rp (G : Hp) : V → PyData → Prop
  | non : Rp G .non .none
  | bl (b : Bool) : Rp G (.bl b) (.bool b)
  | int (i : Int) : Rp G (.int i) (.int i)
  | str (x : Str) : Rp G (.str x) (.str x)
  | lst {a : Addr} {xs : List V} {ds : List PyData} : G a = some (.lst xs) → RpA G xs ds → Rp G (.ref a) (.list ds)
  | tup {a : Addr} {xs : List V} {ds : List PyData} : G a = some (.tup xs) → RpA G xs ds → Rp G (.ref a) (.tuple ds)
inductive RpA (G : Hp) : List V → List PyData → Prop
  | nil : RpA G [] []
  | cons {v : V} {vs : List V} {d : PyData} {ds : List PyData} : Rp G v d → RpA G vs ds → RpA G (v :: vs) (d :: ds)
end

def Sub (G H : Hp) : Prop := ∀ a o, G a = some o → H a = some o
theorem Sub.refl (G : Hp) : Sub G G := fun _ _ h => h
theorem Sub.trans {A B C : Hp} (x : Sub A B) (y : Sub B C) : Sub A C := fun a o h => y a o (x a o h)

mutual
theorem Rp.up {G G' : Hp} (s : Sub G G') : ∀ {v : V} {d : PyData}, Rp G v d → Rp G' v d
  | _, _, .non => .non
  | _, _, .bl b => .bl b
  | _, _, .int i => .int i
  | _, _, .str x => .str x
  | _, _, .lst h a => .lst (s _ _ h) (RpA.up s a)
  | _, _, .tup h a => .tup (s _ _ h) (RpA.up s a)
theorem RpA.up {G G' : Hp} (s : Sub G G') : ∀ {v : List V} {d : List PyData}, RpA G v d → RpA G' v d
  | _, _, .nil => .nil
  | _, _, .cons h t => .cons (Rp.up s h) (RpA.up s t)
end
mutual
theorem Rp.dp {K : PySem.W.Frag} {G : Hp} : ∀ {v : V} {d : PyData}, Rp G v d → Dp K G v d
  | _, _, .non => .non
  | _, _, .bl b => .bl b
  | _, _, .int i => .int i
  | _, _, .str x => .str x
  | _, _, .lst h a => .lst (.of h) (RpA.dp a)
  | _, _, .tup h a => .tup (.of h) (RpA.dp a)
theorem RpA.dp {K : PySem.W.Frag} {G : Hp} : ∀ {v : List V} {d : List PyData}, RpA G v d → DpAll K G v d
  | _, _, .nil => .nil
  | _, _, .cons h t => .cons (Rp.dp h) (RpA.dp t)
end
theorem RpA.length {G : Hp} : ∀ {vs : List V} {ds : List PyData}, RpA G vs ds → vs.length = ds.length
  | _, _, .nil => rfl
  | _, _, .cons _ t => by rw [List.length_cons, List.length_cons, t.length]
theorem RpA.append {G : Hp} : ∀ {vs ws : List V} {ds es : List PyData}, RpA G vs ds → RpA G ws es → RpA G (vs ++ ws) (ds ++ es)
  | _, _, _, _, .nil, s => s
  | _, _, _, _, .cons r t, s => .cons r (t.append s)
theorem RpA.get {G : Hp} : ∀ {vs : List V} {ds : List PyData} {i : Nat} {d : PyData}, RpA G vs ds → ds[i]? = some d → ∃ v, vs[i]? = some v ∧ Rp G v d
  | _, _, _, _, .nil, e => by simp at e
  | _, _, 0, _, .cons r _, e => by simp at e; subst e; exact ⟨_, rfl, r⟩
  | _, _, i + 1, d, .cons _ t, e => by
    obtain ⟨u, h1, h2⟩ := RpA.get (i := i) (d := d) t (by simpa using e)
    exact ⟨u, by simpa using h1, h2⟩
theorem RpA.gets {G : Hp} : ∀ {vs : List V} {ds : List PyData} {i : Nat} {v : V}, RpA G vs ds → vs[i]? = some v → ∃ d, ds[i]? = some d ∧ Rp G v d
  | _, _, _, _, .nil, e => by simp at e
  | _, _, 0, _, .cons r _, e => by simp at e; subst e; exact ⟨_, rfl, r⟩
  | _, _, i + 1, d, .cons _ t, e => by
    obtain ⟨u, h1, h2⟩ := RpA.gets (i := i) (v := d) t (by simpa using e)
    exact ⟨u, by simpa using h1, h2⟩
theorem RpA.take {G : Hp} : ∀ {vs : List V} {ds : List PyData} (n : Nat), RpA G vs ds → RpA G (vs.take n) (ds.take n)
  | _, _, 0, _ => .nil
  | _, _, _ + 1, .nil => .nil
  | _, _, n + 1, .cons r t => .cons r (RpA.take n t)
theorem RpA.drop {G : Hp} : ∀ {vs : List V} {ds : List PyData} (n : Nat), RpA G vs ds → RpA G (vs.drop n) (ds.drop n)
  | _, _, 0, r => r
  | _, _, _ + 1, .nil => .nil
  | _, _, n + 1, .cons _ t => RpA.drop n t
theorem RpA.set {G : Hp} {x : V} {u : PyData} (r : Rp G x u) : ∀ {xs : List V} {us : List PyData} (i : Nat), RpA G xs us → RpA G (xs.set i x) (us.set i u)
  | _, _, _, .nil => .nil
  | _, _, 0, .cons _ t => .cons r t
  | _, _, i + 1, .cons q t => .cons q (RpA.set r i t)
theorem RpA.rep {G : Hp} {xs : List V} {us : List PyData} (h : RpA G xs us) : ∀ k : Nat, RpA G (List.replicate k xs).flatten (List.replicate k us).flatten
  | 0 => .nil
  | k + 1 => h.append (RpA.rep h k)
theorem RpA.reverse {G : Hp} : ∀ {vs : List V} {ds : List PyData}, RpA G vs ds → RpA G vs.reverse ds.reverse
  | _, _, .nil => .nil
  | _, _, .cons r t => by
    rw [List.reverse_cons, List.reverse_cons]
    exact t.reverse.append (.cons r .nil)

/-- the heaps behind: G holds data, H all; what is new in G is new -/
structure Ext (G H G' H' : Hp) : Prop where
  gg : Sub G G'
  hh : Sub H H'
  gh : Sub G' H'
  nw : ∀ a o, G' a = some o → G a = some o ∨ H a = none
theorem Ext.refl {G H : Hp} (s : Sub G H) : Ext G H G H := ⟨.refl _, .refl _, s, fun _ _ h => .inl h⟩
theorem free_back {H H' : Hp} {a : Addr} (s : Sub H H') (h : H' a = none) : H a = none := by
  cases q : H a with
  | none => rfl
  | some o => rw [s a o q] at h; cases h
theorem Ext.trans {G H G1 H1 G2 H2 : Hp} (x : Ext G H G1 H1) (y : Ext G1 H1 G2 H2) : Ext G H G2 H2 :=
  ⟨x.gg.trans y.gg, x.hh.trans y.hh, y.gh, fun a o h => by
    rcases y.nw a o h with h | h
    · exact x.nw a o h
    · exact .inr (free_back x.hh h)⟩
/-- a new object that holds data -/
theorem Ext.new {G H : Hp} {p : Addr} {o : HO} (s : Sub G H) (hp : H p = none) : Ext G H (upd G p o) (upd H p o) := by
  have e : Sub H (upd H p o) := fun a u h => by
    rw [upd_ne (ne_of_none h hp)]; exact h
  have g : G p = none := free_back s hp
  refine ⟨fun a u h => ?_, e, fun a u h => ?_, fun a u h => ?_⟩
  · rw [upd_ne (ne_of_none h g)]; exact h
  · by_cases q : a = p
    · subst q; rw [upd_same] at h ⊢; exact h
    · rw [upd_ne q] at h ⊢; exact s a u h
  · by_cases q : a = p
    · subst q; exact .inr hp
    · rw [upd_ne q] at h; exact .inl h

/-! ### what stands in the slots -/
inductive SV where
  | un
  | dat (d : PyData)
  | own (ds : List PyData)
  | raw (v : V)
  | pin (v : V) (φ : Hp → Prop) (m : ∀ H H', Sub H H' → φ H → φ H')
abbrev En := List SV

def SlotOk (H₀ G H : Hp) (x : Option (Option V)) : SV → Prop
  | .un => True
  | .dat d => ∃ v, x = some (some v) ∧ Rp G v d
  | .own ds => ∃ p vs, x = some (some (.ref p)) ∧ H₀ p = none ∧ G p = none ∧ H p = some (.lst vs) ∧ RpA G vs ds
  | .raw v => x = some (some v)
  | .pin v φ _ => x = some (some v) ∧ φ H₀
def SV.isOwn : SV → Bool
  | .own _ => true
  | _ => false
structure Sat (H₀ G H : Hp) (σ : L2.St) (ρ : En) : Prop where
  sub : Sub G H
  len : σ.length = ρ.length
  slot : ∀ (i : Nat) (s : SV), ρ[i]? = some s → SlotOk H₀ G H σ[i]? s
  apart : ∀ (i j : Nat) (s t : SV) (p : Addr), i ≠ j → ρ[i]? = some s → ρ[j]? = some t → s.isOwn = true → t.isOwn = true → σ[i]? = some (some (.ref p)) → σ[j]? ≠ some (some (.ref p))
  old : Sub H₀ H

theorem SlotOk.up {H₀ G H G' H' : Hp} {x : Option (Option V)} {s : SV} (e : Ext G H G' H') (h : SlotOk H₀ G H x s) : SlotOk H₀ G' H' x s := by
  cases s with
  | un => trivial
  | dat d => obtain ⟨v, e1, r⟩ := h; exact ⟨v, e1, r.up e.gg⟩
  | raw v => exact h
  | pin v φ m => exact h
  | own ds =>
    obtain ⟨p, vs, e1, h0, hg, hh, r⟩ := h
    refine ⟨p, vs, e1, h0, ?_, e.hh _ _ hh, r.up e.gg⟩
    cases q : G' p with
    | none => rfl
    | some o =>
      rcases e.nw p o q with z | z
      · rw [hg] at z; cases z
      · rw [hh] at z; cases z
theorem Sat.up {H₀ G H G' H' : Hp} {σ : L2.St} {ρ : En} (h : Sat H₀ G H σ ρ) (e : Ext G H G' H') : Sat H₀ G' H' σ ρ :=
  ⟨e.gh, h.len, fun i s q => (h.slot i s q).up e, h.apart, h.old.trans e.hh⟩
/-- a slot is stored with data (or forgotten) -/
theorem Sat.set {H₀ G H : Hp} {σ : L2.St} {ρ : En} {i : Nat} {v : V} {s : SV} (h : Sat H₀ G H σ ρ) (hs : SlotOk H₀ G H (some (some v)) s)
    (ho : s.isOwn = true → ∀ j t, j ≠ i → ρ[j]? = some t → t.isOwn = true → σ[j]? ≠ some (some v)) : Sat H₀ G H (σ.set i (some v)) (ρ.set i s) := by
  refine ⟨h.sub, by rw [List.length_set, List.length_set, h.len], fun j t q => ?_, fun a b s1 t1 p hab q1 q2 o1 o2 r1 => ?_, h.old⟩
  · by_cases e : i = j
    · subst e
      by_cases hl : i < ρ.length
      · rw [List.getElem?_set_self hl] at q; cases q
        rw [List.getElem?_set_self (by rw [h.len]; exact hl)]; exact hs
      · rw [List.getElem?_eq_none (by rw [List.length_set]; omega)] at q; cases q
    · rw [List.getElem?_set_ne e] at q ⊢; exact h.slot j t q
  · have key : ∀ {a : Nat} {s1 : SV}, (ρ.set i s)[a]? = some s1 → s1.isOwn = true → (a = i ∧ s1 = s ∧ (σ.set i (some v))[a]? = some (some v)) ∨ (a ≠ i ∧ ρ[a]? = some s1 ∧ (σ.set i (some v))[a]? = σ[a]?) := by
      intro a s1 q o
      by_cases e : i = a
      · subst e
        by_cases hl : i < ρ.length
        · rw [List.getElem?_set_self hl] at q; cases q
          exact .inl ⟨rfl, rfl, List.getElem?_set_self (by rw [h.len]; exact hl)⟩
        · rw [List.getElem?_eq_none (by rw [List.length_set]; omega)] at q; cases q
      · rw [List.getElem?_set_ne e] at q
        exact .inr ⟨Ne.symm e, q, List.getElem?_set_ne e⟩
    rcases key q1 o1 with ⟨ea, es, ev⟩ | ⟨ea, eρ, ev⟩
    · rcases key q2 o2 with ⟨eb, et, ew⟩ | ⟨eb, eρb, ew⟩
      · exact absurd (ea.trans eb.symm) hab
      · rw [ew]
        rw [ev] at r1
        have : v = .ref p := by injection r1 with z; injection z
        subst this
        subst es
        exact ho o1 b t1 eb eρb o2
    · rcases key q2 o2 with ⟨eb, et, ew⟩ | ⟨eb, eρb, ew⟩
      · rw [ew]
        rw [ev] at r1
        intro z
        have : v = .ref p := by injection z with z; injection z
        subst this
        subst et
        exact ho o2 a s1 ea eρ o1 r1
      · rw [ew]
        rw [ev] at r1
        exact h.apart a b s1 t1 p hab eρ eρb o1 o2 r1
/-- weaker slots -/
inductive Weak : En → En → Prop
  | nil : Weak [] []
  | eq {s : SV} {ρ ρ' : En} : Weak ρ ρ' → Weak (s :: ρ) (s :: ρ')
  | un {s : SV} {ρ ρ' : En} : Weak ρ ρ' → Weak (s :: ρ) (.un :: ρ')
theorem Weak.refl : ∀ ρ : En, Weak ρ ρ
  | [] => .nil
  | _ :: ρ => .eq (Weak.refl ρ)
theorem Weak.length : ∀ {ρ ρ' : En}, Weak ρ ρ' → ρ.length = ρ'.length
  | _, _, .nil => rfl
  | _, _, .eq h => by rw [List.length_cons, List.length_cons, h.length]
  | _, _, .un h => by rw [List.length_cons, List.length_cons, h.length]
theorem Weak.at_ : ∀ {ρ ρ' : En} {i : Nat} {s : SV}, Weak ρ ρ' → ρ'[i]? = some s → ρ[i]? = some s ∨ s = .un
  | _, _, _, _, .nil, e => by simp at e
  | _, _, 0, _, .eq _, e => .inl e
  | _, _, 0, _, .un _, e => by simp at e; exact .inr e.symm
  | _, _, i + 1, s, .eq h, e => Weak.at_ (i := i) h (by simpa using e)
  | _, _, i + 1, s, .un h, e => Weak.at_ (i := i) h (by simpa using e)
theorem Sat.weak {H₀ G H : Hp} {σ : L2.St} {ρ ρ' : En} (h : Sat H₀ G H σ ρ) (w : Weak ρ ρ') : Sat H₀ G H σ ρ' := by
  refine ⟨h.sub, h.len.trans w.length, fun i s q => ?_, fun i j s t p hij q1 q2 o1 o2 r1 => ?_, h.old⟩
  · rcases w.at_ q with z | z
    · exact h.slot i s z
    · subst z; trivial
  · rcases w.at_ q1 with z | z
    · rcases w.at_ q2 with z2 | z2
      · exact h.apart i j s t p hij z z2 o1 o2 r1
      · subst z2; cases o2
    · subst z; cases o1
/-- an own list's list is data from now on -/
theorem Sat.freeze {H₀ G H : Hp} {σ : L2.St} {ρ : En} {i : Nat} {ds : List PyData} (h : Sat H₀ G H σ ρ) (hi : ρ[i]? = some (.own ds)) :
    ∃ G', Sub G G' ∧ Sub G' H ∧ (∀ a o, G' a = some o → G a = some o ∨ H₀ a = none) ∧ Sat H₀ G' H σ (ρ.set i (.dat (.list ds))) := by
  obtain ⟨p, vs, e1, h0, hg, hh, r⟩ := h.slot i _ hi
  have gg : Sub G (upd G p (.lst vs)) := fun a u q => by rw [upd_ne (ne_of_none q hg)]; exact q
  have gh : Sub (upd G p (.lst vs)) H := fun a u q => by
    by_cases z : a = p
    · subst z; rw [upd_same] at q; cases q; exact hh
    · rw [upd_ne z] at q; exact h.sub a u q
  refine ⟨upd G p (.lst vs), gg, gh, fun a o q => ?_, gh, by rw [List.length_set, h.len], fun j t q => ?_, fun a b s t pp hab q1 q2 o1 o2 r1 => ?_, h.old⟩
  · by_cases z : a = p
    · subst z; exact .inr h0
    · rw [upd_ne z] at q; exact .inl q
  · by_cases e : i = j
    · subst e
      have hl : i < ρ.length := (List.getElem?_eq_some_iff.mp hi).1
      rw [List.getElem?_set_self hl] at q; cases q
      exact ⟨.ref p, e1, .lst upd_same (r.up gg)⟩
    · rw [List.getElem?_set_ne e] at q
      have x := h.slot j t q
      cases t with
      | un => trivial
      | dat d => obtain ⟨v, e2, r2⟩ := x; exact ⟨v, e2, r2.up gg⟩
      | raw v => exact x
      | pin v φ m => exact x
      | own es =>
        obtain ⟨p2, ws, e2, h02, hg2, hh2, r2⟩ := x
        have ne : p2 ≠ p := fun z => h.apart i j _ _ p e hi q rfl rfl e1 (by rw [e2, z])
        exact ⟨p2, ws, e2, h02, by rw [upd_ne ne]; exact hg2, hh2, r2.up gg⟩
  · have back : ∀ {a : Nat} {s : SV}, (ρ.set i (.dat (.list ds)))[a]? = some s → s.isOwn = true → ρ[a]? = some s := by
      intro a s q o
      by_cases e : i = a
      · subst e
        have hl : i < ρ.length := (List.getElem?_eq_some_iff.mp hi).1
        rw [List.getElem?_set_self hl] at q; cases q; cases o
      · rw [List.getElem?_set_ne e] at q; exact q
    exact h.apart a b s t pp hab (back q1 o1) (back q2 o2) o1 o2 r1
end DD
namespace DD
open PySem PySem.Spec PyProof.Rows L2

/-! ### outcomes -/
structure Exn where
  cls : Addr
  line : Option PyData := none
inductive Out where
  | ret (d : PyData)
  | exc (x : Exn)
def ExcAt (G H : Hp) (x : Exn) (c : Value) (a : Option Addr) : Prop :=
  c = .ref x.cls ∧ match x.line with
    | none => a = none
    | some l => ∃ dx v, a = some dx ∧ H dx = some (.xd [(("line" : Str), v)]) ∧ Rp G v l
/-- what is wanted of a value that is data -/
def Res (G H : Hp) (d : PyData) (Q : VK) : Prop := ∀ v G' H', Ext G H G' H' → Rp G' v d → Q v H'
def OutK (W : WX) (σ : L2.St) (G H : Hp) (o : Out) (Q : VK) : Prop :=
  match o with
  | .ret d => Res G H d Q
  | .exc x => ∀ c a G' H', Ext G H G' H' → ExcAt G' H' x c a → W c a σ H'
theorem Res.back {G H G1 H1 : Hp} {d : PyData} {Q : VK} (q : Res G H d Q) (e : Ext G H G1 H1) : Res G1 H1 d Q := fun v G' H' e' r => q v G' H' (e.trans e') r
theorem OutK.back {W : WX} {σ : L2.St} {G H G1 H1 : Hp} {o : Out} {Q : VK} (q : OutK W σ G H o Q) (e : Ext G H G1 H1) : OutK W σ G1 H1 o Q := by
  cases o with
  | ret d => exact Res.back q e
  | exc x => exact fun c a G' H' e' r => q c a G' H' (e.trans e') r
theorem Res.of {G H : Hp} {d : PyData} {Q : VK} {v : V} (q : Res G H d Q) (s : Sub G H) (r : Rp G v d) : Q v H := q v G H (.refl s) r

/-! ### readings by what they mean -/
def tD (X : Cx) (e : Expr) : TE := fun σ H Q => ∀ (pins : List (Addr × Obj)) (s : Shared), Inv X pins σ H s → wpAny (model X.prog X.w) X.A (eval e X.env) (EP X pins σ Q) X.xe s
theorem pe_D {X : Cx} {e : Expr} : PE X e (tD X e) := ⟨fun pins s _ _ _ I h => h pins s I⟩
def tT (X : Cx) (e : Expr) : TT := fun σ H Q => ∀ (pins : List (Addr × Obj)) (s : Shared), Inv X pins σ H s → wpAny (model X.prog X.w) X.A (isTrue e X.env (eval e X.env)) (TP X pins σ Q) X.xe s
theorem pt_T {X : Cx} {e : Expr} : PT X e (tT X e) := ⟨fun pins s _ _ _ I h => h pins s I⟩
def tW (X : Cx) (e : Expr) : TT := fun σ H Q => ∀ (whole : Sem Value) (pins : List (Addr × Obj)) (s : Shared), Inv X pins σ H s → wpAny (model X.prog X.w) X.A (isTrue e X.env whole) (TP X pins σ Q) X.xe s
theorem pw_W {X : Cx} {e : Expr} : PW X e (tW X e) := ⟨fun wh pins s _ _ _ I h => h wh pins s I⟩
def tA (X : Cx) (es : List Expr) : TA := fun σ H Q => ∀ (pos : Pos) (pins : List (Addr × Obj)) (s : Shared), Inv X pins σ H s → wpAny (model X.prog X.w) X.A (spliced (backTo pos (starEach es X.env))) (AP X pins σ Q) X.xe s
theorem pa_A {X : Cx} {es : List Expr} : PA X es (tA X es) := ⟨fun pos pins s _ _ _ I h => h pos pins s I⟩
def tO (X : Cx) (e : Option Expr) : TO := fun σ H Q => ∀ t : TO, PO X e t → t σ H Q → True

/-! ### the judgements -/
def DE (X : Cx) (ρ : En) (e : Expr) (d : PyData) : Prop := ∀ H₀ G H σ Q, Sat H₀ G H σ ρ → Res G H d Q → tD X e σ H Q
def DX (X : Cx) (W : WX) (ρ : En) (e : Expr) (o : Out) : Prop := ∀ H₀ G H σ Q, Sat H₀ G H σ ρ → OutK W σ G H o Q → tD X e σ H Q
/-- a new list -/
def DL (X : Cx) (ρ : En) (e : Expr) (ds : List PyData) : Prop := ∀ H₀ G H σ Q, Sat H₀ G H σ ρ →
  (∀ p vs G' H', Ext G H G' H' → H p = none → G' p = none → H' p = some (.lst vs) → RpA G' vs ds → Q (.ref p) H') → tD X e σ H Q
def DT (X : Cx) (ρ : En) (e : Expr) (b : Bool) : Prop := ∀ H₀ G H σ Q, Sat H₀ G H σ ρ → (∀ G' H', Ext G H G' H' → Q b H') → tT X e σ H Q
def DW (X : Cx) (ρ : En) (e : Expr) (b : Bool) : Prop := ∀ H₀ G H σ Q, Sat H₀ G H σ ρ → (∀ G' H', Ext G H G' H' → Q b H') → tW X e σ H Q
def DA (X : Cx) (ρ : En) (es : List Expr) (ds : List PyData) : Prop := ∀ H₀ G H σ Q, Sat H₀ G H σ ρ → (∀ vs G' H', Ext G H G' H' → RpA G' vs ds → Q vs H') → tA X es σ H Q
/-- a raw value (an object's address) -/
def DV (X : Cx) (ρ : En) (e : Expr) (v : V) : Prop := ∀ H₀ G H σ Q, Sat H₀ G H σ ρ → (∀ G' H', Ext G H G' H' → Q v H') → tD X e σ H Q

section
variable {X : Cx} {W : WX} {ρ : En} {e a b c : Expr} {es : List Expr} {d d1 d2 z : PyData} {o : Out} {pos : Pos}

theorem de_of {t : TE} (h : PE X e t) (hr : ∀ H₀ G H σ Q, Sat H₀ G H σ ρ → Res G H d Q → t σ H Q) : DE X ρ e d :=
  fun H₀ G H σ Q S q pins s I => h.run pins s σ H Q I (hr H₀ G H σ Q S q)
theorem dx_of {t : TE} (h : PE X e t) (hr : ∀ H₀ G H σ Q, Sat H₀ G H σ ρ → OutK W σ G H o Q → t σ H Q) : DX X W ρ e o :=
  fun H₀ G H σ Q S q pins s I => h.run pins s σ H Q I (hr H₀ G H σ Q S q)
theorem dt_of {t : TT} {k : Bool} (h : PT X e t) (hr : ∀ H₀ G H σ Q, Sat H₀ G H σ ρ → (∀ G' H', Ext G H G' H' → Q k H') → t σ H Q) : DT X ρ e k :=
  fun H₀ G H σ Q S q pins s I => h.run pins s σ H Q I (hr H₀ G H σ Q S q)
theorem dx_ret (h : DE X ρ e d) : DX X W ρ e (.ret d) := fun H₀ G H σ Q S q => h H₀ G H σ Q S q
theorem de_is (h : DE X ρ e d) (q : d = z) : DE X ρ e z := q ▸ h
theorem dt_is {k k' : Bool} (h : DT X ρ e k) (q : k = k') : DT X ρ e k' := q ▸ h
theorem de_ofL {ds : List PyData} (h : DL X ρ e ds) : DE X ρ e (.list ds) := fun H₀ G H σ Q S q => h H₀ G H σ Q S fun p vs G' H' e' hp gp hh r => by
  have gg : Sub G' (upd G' p (.lst vs)) := fun a u k => by rw [upd_ne (ne_of_none k gp)]; exact k
  refine q _ (upd G' p (.lst vs)) H' ⟨e'.gg.trans gg, e'.hh, fun a u k => ?_, fun a u k => ?_⟩ (.lst upd_same (r.up gg))
  · by_cases z : a = p
    · subst z; rw [upd_same] at k; cases k; exact hh
    · rw [upd_ne z] at k; exact e'.gh a u k
  · by_cases z : a = p
    · subst z; exact .inr hp
    · rw [upd_ne z] at k; exact e'.nw a u k

/-! names, constants -/
theorem de_var {i : Nat} {x : Str} (hρ : ρ[i]? = some (.dat d)) (hN : X.N[i]? = some x := by rfl) (hv : Vis X.env.scope x := by first | exact Or.inl rfl | exact Or.inr (Or.inl rfl) | exact Or.inr (Or.inr rfl))
    (hd : (x == ("__debug__" : Str)) = false := by decide) (hcd : (x == ("__classdict__" : Str)) = false := by decide) : DE X ρ (.Name x pos) d :=
  de_of (pe_var hN hv hd hcd) fun H₀ G H σ Q S q => by
    obtain ⟨v, e1, r⟩ := S.slot i _ hρ
    exact ⟨v, e1, q.of S.sub r⟩
theorem dv_var {i : Nat} {x : Str} {v : V} (hρ : ρ[i]? = some (.raw v)) (hN : X.N[i]? = some x := by rfl) (hv : Vis X.env.scope x := by first | exact Or.inl rfl | exact Or.inr (Or.inl rfl) | exact Or.inr (Or.inr rfl))
    (hd : (x == ("__debug__" : Str)) = false := by decide) (hcd : (x == ("__classdict__" : Str)) = false := by decide) : DV X ρ (.Name x pos) v :=
  fun H₀ G H σ Q S q pins s I => (pe_var (X := X) (pos := pos) hN hv hd hcd).run pins s σ H Q I ⟨v, S.slot i _ hρ, q G H (.refl S.sub)⟩
theorem de_int {j : Int} {k} : DE X ρ (.Constant (.int j) k pos) (.int j) := de_of pe_int fun H₀ G H σ Q S q => q.of S.sub (.int j)
theorem de_bl {j : Bool} {k} : DE X ρ (.Constant (.bool j) k pos) (.bool j) := de_of pe_bl fun H₀ G H σ Q S q => q.of S.sub (.bl j)
theorem de_non {k} : DE X ρ (.Constant .none k pos) .none := de_of pe_non fun H₀ G H σ Q S q => q.of S.sub .non
theorem de_str {x : Str} {k} : DE X ρ (.Constant (.str x) k pos) (.str x) := de_of pe_str fun H₀ G H σ Q S q => q.of S.sub (.str x)
/-- a module's constant: an int, a text -/
theorem de_globI {x : Str} {j : Int} {t : Tok} (hm : X.mg x = some (.int j t)) (hg : Gl X x := by rfl) (hd : (x == ("__debug__" : Str)) = false := by decide) : DE X ρ (.Name x pos) (.int j) :=
  de_of (pe_glob hg hm (v := .int j) ⟨t, rfl⟩ hd) fun H₀ G H σ Q S q => q.of S.sub (.int j)
theorem de_globS {x y : Str} {t : Tok} (hm : X.mg x = some (.str y t)) (hg : Gl X x := by rfl) (hd : (x == ("__debug__" : Str)) = false := by decide) : DE X ρ (.Name x pos) (.str y) :=
  de_of (pe_glob hg hm (v := .str y) ⟨t, rfl⟩ hd) fun H₀ G H σ Q S q => q.of S.sub (.str y)

/-! two-place operations by their readings on data -/
def R2D (r : R2) (d1 d2 z : PyData) : Prop := ∀ G H x y Q, Sub G H → Rp G x d1 → Rp G y d2 → Res G H z Q → r x y H Q
theorem de_op {op : Operator} {r : R2} (ho : OpR X (binaryOp op) r) (hr : R2D r d1 d2 z) (ha : DE X ρ a d1) (hb : DE X ρ b d2) : DE X ρ (.BinOp a op b pos) z :=
  de_of (pe_op ho pe_D pe_D) fun H₀ G H σ Q S q => ha H₀ G H σ _ S fun v G1 H1 e1 r1 => hb H₀ G1 H1 σ _ (S.up e1) fun u G2 H2 e2 r2 => hr G2 H2 v u Q e2.gh (r1.up e2.gg) r2 (q.back (e1.trans e2))
theorem de_cmp {op : CmpOp} {r : R2} (ho : OpR X (compareOp op) r) (hr : R2D r d1 d2 z) (hm : behindInMarks op b = false) (ha : DE X ρ a d1) (hb : DE X ρ b d2) : DE X ρ (.Compare a [op] [b] pos) z :=
  de_of (pe_cmpR ho pe_D pe_D hm) fun H₀ G H σ Q S q => ha H₀ G H σ _ S fun v G1 H1 e1 r1 => hb H₀ G1 H1 σ _ (S.up e1) fun u G2 H2 e2 r2 => hr G2 H2 v u Q e2.gh (r1.up e2.gg) r2 (q.back (e1.trans e2))
theorem dt_cmp {op : CmpOp} {r : R2} {k : Bool} (ho : OpR X (compareOp op) r) (hr : R2D r d1 d2 (.bool k)) (hm : behindInMarks op b = false) (ha : DE X ρ a d1) (hb : DE X ρ b d2) : DT X ρ (.Compare a [op] [b] pos) k :=
  dt_of (pt_cmpR ho pe_D pe_D hm) fun H₀ G H σ Q S q => ha H₀ G H σ _ S fun v G1 H1 e1 r1 => hb H₀ G1 H1 σ _ (S.up e1) fun u G2 H2 e2 r2 => hr G2 H2 v u _ e2.gh (r1.up e2.gg) r2 fun w G3 H3 e3 r3 => by
    cases r3
    exact ⟨k, rfl, q G3 H3 ((e1.trans e2).trans e3)⟩
theorem r2_I {C : Int → Int → Prop} {g : Int → Int → Int} {i j : Int} (hc : C i j) : R2D (rI C fun i j => .int (g i j)) (.int i) (.int j) (.int (g i j)) := fun G H x y Q s r1 r2 q => by
  cases r1; cases r2
  exact ⟨i, j, rfl, rfl, hc, q.of s (.int _)⟩
theorem r2_I0 {g : Int → Int → Int} {i j : Int} : R2D (rI0 fun i j => .int (g i j)) (.int i) (.int j) (.int (g i j)) := fun G H x y Q s r1 r2 q => by
  cases r1; cases r2
  exact ⟨i, j, rfl, rfl, q.of s (.int _)⟩
theorem r2_B0 {g : Int → Int → Bool} {i j : Int} : R2D (rI0 fun i j => .bl (g i j)) (.int i) (.int j) (.bool (g i j)) := fun G H x y Q s r1 r2 q => by
  cases r1; cases r2
  exact ⟨i, j, rfl, rfl, q.of s (.bl _)⟩
theorem de_add {i j : Int} (ha : DE X ρ a (.int i)) (hb : DE X ρ b (.int j)) : DE X ρ (.BinOp a .Add b pos) (.int (i + j)) := de_op op_add r2_I0 ha hb
theorem de_sub {i j : Int} (ha : DE X ρ a (.int i)) (hb : DE X ρ b (.int j)) : DE X ρ (.BinOp a .Sub b pos) (.int (i - j)) := de_op op_sub r2_I0 ha hb
theorem de_modN {i j : Int} (ha : DE X ρ a (.int i)) (hb : DE X ρ b (.int j)) (h : j ≠ 0) : DE X ρ (.BinOp a .Mod b pos) (.int (i.fmod j)) := de_op op_modN (r2_I h) ha hb
theorem de_mod {i j : Int} (ha : DE X ρ a (.int i)) (hb : DE X ρ b (.int j)) (h : 0 < j) : DE X ρ (.BinOp a .Mod b pos) (.int (i % j)) := de_op op_mod (r2_I h) ha hb
theorem de_fdivS {i j : Int} (ha : DE X ρ a (.int i)) (hb : DE X ρ b (.int j)) (h : CDiv i j) : DE X ρ (.BinOp a .FloorDiv b pos) (.int (i / j)) := de_op op_fdiv (r2_I h) ha hb
theorem de_mulS {i j : Int} (ha : DE X ρ a (.int i)) (hb : DE X ρ b (.int j)) (h : CMul i j) : DE X ρ (.BinOp a .Mult b pos) (.int (i * j)) := de_op op_mul (r2_I h) ha hb
theorem de_pow {i j : Int} (ha : DE X ρ a (.int i)) (hb : DE X ρ b (.int j)) (h : CPow i j) : DE X ρ (.BinOp a .Pow b pos) (.int (i ^ j.toNat)) := de_op op_pow (r2_I h) ha hb
theorem de_neg {i : Int} (ha : DE X ρ a (.int i)) : DE X ρ (.UnaryOp .USub a pos) (.int (-i)) :=
  de_of (pe_un un_neg pe_D) fun H₀ G H σ Q S q => ha H₀ G H σ _ S fun v G1 H1 e1 r1 => by
    cases r1
    exact ⟨i, rfl, (q.back e1).of e1.gh (.int _)⟩
theorem de_lt {i j : Int} (ha : DE X ρ a (.int i)) (hb : DE X ρ b (.int j)) : DE X ρ (.Compare a [.Lt] [b] pos) (.bool (decide (i < j))) := de_cmp op_lt r2_B0 (nomark _) ha hb
theorem de_le {i j : Int} (ha : DE X ρ a (.int i)) (hb : DE X ρ b (.int j)) : DE X ρ (.Compare a [.LtE] [b] pos) (.bool (decide (i ≤ j))) := de_cmp op_le r2_B0 (nomark _) ha hb
theorem de_gt {i j : Int} (ha : DE X ρ a (.int i)) (hb : DE X ρ b (.int j)) : DE X ρ (.Compare a [.Gt] [b] pos) (.bool (decide (j < i))) := de_cmp op_gt r2_B0 (nomark _) ha hb
theorem de_ge {i j : Int} (ha : DE X ρ a (.int i)) (hb : DE X ρ b (.int j)) : DE X ρ (.Compare a [.GtE] [b] pos) (.bool (decide (j ≤ i))) := de_cmp op_ge r2_B0 (nomark _) ha hb
theorem dt_lt {i j : Int} (ha : DE X ρ a (.int i)) (hb : DE X ρ b (.int j)) : DT X ρ (.Compare a [.Lt] [b] pos) (decide (i < j)) := dt_cmp op_lt r2_B0 (nomark _) ha hb
theorem dt_le {i j : Int} (ha : DE X ρ a (.int i)) (hb : DE X ρ b (.int j)) : DT X ρ (.Compare a [.LtE] [b] pos) (decide (i ≤ j)) := dt_cmp op_le r2_B0 (nomark _) ha hb
theorem dt_gt {i j : Int} (ha : DE X ρ a (.int i)) (hb : DE X ρ b (.int j)) : DT X ρ (.Compare a [.Gt] [b] pos) (decide (j < i)) := dt_cmp op_gt r2_B0 (nomark _) ha hb
theorem dt_ge {i j : Int} (ha : DE X ρ a (.int i)) (hb : DE X ρ b (.int j)) : DT X ρ (.Compare a [.GtE] [b] pos) (decide (j ≤ i)) := dt_cmp op_ge r2_B0 (nomark _) ha hb
theorem r2_eq (h1 : SeqAt.shaped d1 = true) (h2 : SeqAt.shaped d2 = true) {K : PySem.W.Frag} : R2D (rEqD K) d1 d2 (.bool (PyData.eqv d1 d2)) := fun G H x y Q s r1 r2 q =>
  ⟨d1, d2, (r1.up s).dp, (r2.up s).dp, h1, h2, q.of s (.bl _)⟩
theorem r2_ne (h1 : SeqAt.shaped d1 = true) (h2 : SeqAt.shaped d2 = true) {K : PySem.W.Frag} : R2D (rNeD K) d1 d2 (.bool (!PyData.eqv d1 d2)) := fun G H x y Q s r1 r2 q =>
  ⟨d1, d2, (r1.up s).dp, (r2.up s).dp, h1, h2, q.of s (.bl _)⟩
theorem de_eq (hu : X.A.units + 64 < cLine) (ha : DE X ρ a d1) (hb : DE X ρ b d2) (h1 : SeqAt.shaped d1 = true) (h2 : SeqAt.shaped d2 = true) : DE X ρ (.Compare a [.Eq] [b] pos) (.bool (PyData.eqv d1 d2)) := de_cmp (op_eqD hu) (r2_eq h1 h2) (nomark _) ha hb
theorem de_ne (hu : X.A.units + 64 < cLine) (ha : DE X ρ a d1) (hb : DE X ρ b d2) (h1 : SeqAt.shaped d1 = true) (h2 : SeqAt.shaped d2 = true) : DE X ρ (.Compare a [.NotEq] [b] pos) (.bool (!PyData.eqv d1 d2)) := de_cmp (op_neD hu) (r2_ne h1 h2) (nomark _) ha hb
theorem dt_eq (hu : X.A.units + 64 < cLine) (ha : DE X ρ a d1) (hb : DE X ρ b d2) (h1 : SeqAt.shaped d1 = true) (h2 : SeqAt.shaped d2 = true) : DT X ρ (.Compare a [.Eq] [b] pos) (PyData.eqv d1 d2) := dt_cmp (op_eqD hu) (r2_eq h1 h2) (nomark _) ha hb
theorem dt_ne (hu : X.A.units + 64 < cLine) (ha : DE X ρ a d1) (hb : DE X ρ b d2) (h1 : SeqAt.shaped d1 = true) (h2 : SeqAt.shaped d2 = true) : DT X ρ (.Compare a [.NotEq] [b] pos) (!PyData.eqv d1 d2) := dt_cmp (op_neD hu) (r2_ne h1 h2) (nomark _) ha hb
theorem dt_eqI {i j : Int} (ha : DE X ρ a (.int i)) (hb : DE X ρ b (.int j)) : DT X ρ (.Compare a [.Eq] [b] pos) (decide (i = j)) := dt_cmp op_eq (fun G H x y Q s r1 r2 q => by
  cases r1; cases r2
  refine ⟨rfl, ?_⟩
  rw [show decide (V.int i = V.int j) = decide (i = j) by simp]
  exact q.of s (.bl _)) (nomark _) ha hb
theorem dt_neI {i j : Int} (ha : DE X ρ a (.int i)) (hb : DE X ρ b (.int j)) : DT X ρ (.Compare a [.NotEq] [b] pos) (!decide (i = j)) := dt_cmp op_ne (fun G H x y Q s r1 r2 q => by
  cases r1; cases r2
  refine ⟨rfl, ?_⟩
  rw [show decide (V.int i = V.int j) = decide (i = j) by simp]
  exact q.of s (.bl _)) (nomark _) ha hb
theorem de_eqI {i j : Int} (ha : DE X ρ a (.int i)) (hb : DE X ρ b (.int j)) : DE X ρ (.Compare a [.Eq] [b] pos) (.bool (decide (i = j))) := de_cmp op_eq (fun G H x y Q s r1 r2 q => by
  cases r1; cases r2
  refine ⟨rfl, ?_⟩
  rw [show decide (V.int i = V.int j) = decide (i = j) by simp]
  exact q.of s (.bl _)) (nomark _) ha hb
theorem de_neI {i j : Int} (ha : DE X ρ a (.int i)) (hb : DE X ρ b (.int j)) : DE X ρ (.Compare a [.NotEq] [b] pos) (.bool (!decide (i = j))) := de_cmp op_ne (fun G H x y Q s r1 r2 q => by
  cases r1; cases r2
  refine ⟨rfl, ?_⟩
  rw [show decide (V.int i = V.int j) = decide (i = j) by simp]
  exact q.of s (.bl _)) (nomark _) ha hb
/-- is None -/
def isNone : PyData → Bool
  | .none => true
  | _ => false
theorem rp_non {G : Hp} {v : V} (r : Rp G v d) : decide (v = .non) = isNone d := by cases r <;> rfl
theorem dt_isN (ha : DE X ρ a d) {k} {p2 : Pos} : DT X ρ (.Compare a [.Is] [.Constant .none k p2] pos) (isNone d) := dt_cmp (d2 := .none) op_isN (fun G H x y Q s r1 r2 q => by
  cases r2
  refine ⟨rfl, ?_⟩
  rw [rp_non r1]
  exact q.of s (.bl _)) (nomark _) ha de_non
theorem dt_notN (ha : DE X ρ a d) {k} {p2 : Pos} : DT X ρ (.Compare a [.IsNot] [.Constant .none k p2] pos) (!isNone d) := dt_cmp (d2 := .none) op_notN (fun G H x y Q s r1 r2 q => by
  cases r2
  refine ⟨rfl, ?_⟩
  rw [rp_non r1]
  exact q.of s (.bl _)) (nomark _) ha de_non
theorem de_isN (ha : DE X ρ a d) {k} {p2 : Pos} : DE X ρ (.Compare a [.Is] [.Constant .none k p2] pos) (.bool (isNone d)) := de_cmp (d2 := .none) op_isN (fun G H x y Q s r1 r2 q => by
  cases r2
  refine ⟨rfl, ?_⟩
  rw [rp_non r1]
  exact q.of s (.bl _)) (nomark _) ha de_non
/-- chains of two -/
theorem de_chain {op op' : CmpOp} {r r' : R2} {k k' : Bool} {d3 : PyData} (ho : OpR X (compareOp op) r) (ho' : OpR X (compareOp op') r') (h1 : R2D r d1 d2 (.bool k)) (h2 : R2D r' d2 d3 (.bool k'))
    (ha : DE X ρ a d1) (hb : DE X ρ b d2) (hc : DE X ρ c d3) (hm : lastMarks [op, op'] [b, c] = false := by with_unfolding_all rfl) : DE X ρ (.Compare a [op, op'] [b, c] pos) (.bool (k && k')) :=
  de_of (pe_chain ho ho' pe_D pe_D pe_D hm) fun H₀ G H σ Q S q => ha H₀ G H σ _ S fun x G1 H1 e1 r1 => hb H₀ G1 H1 σ _ (S.up e1) fun y G2 H2 e2 r2 => h1 G2 H2 x y _ e2.gh (r1.up e2.gg) r2 fun w G3 H3 e3 r3 => by
    cases r3
    refine ⟨k, rfl, ?_⟩
    have e13 := (e1.trans e2).trans e3
    cases k with
    | false => exact (q.back e13).of e3.gh (.bl _)
    | true => exact hc H₀ G3 H3 σ _ (S.up e13) fun z G4 H4 e4 r4 => h2 G4 H4 y z Q e4.gh (r2.up (e3.gg.trans e4.gg)) r4 (q.back (e13.trans e4))
theorem dt_chain {op op' : CmpOp} {r r' : R2} {k k' : Bool} {d3 : PyData} (ho : OpR X (compareOp op) r) (ho' : OpR X (compareOp op') r') (h1 : R2D r d1 d2 (.bool k)) (h2 : R2D r' d2 d3 (.bool k'))
    (ha : DE X ρ a d1) (hb : DE X ρ b d2) (hc : DE X ρ c d3) (hm : lastMarks [op, op'] [b, c] = false := by with_unfolding_all rfl) : DT X ρ (.Compare a [op, op'] [b, c] pos) (k && k') :=
  dt_of (pt_chain ho ho' pe_D pe_D pe_D hm) fun H₀ G H σ Q S q => by
    refine ha H₀ G H σ _ S fun x G1 H1 e1 r1 => ?_
    refine hb H₀ G1 H1 σ _ (S.up e1) fun y G2 H2 e2 r2 => ?_
    refine h1 G2 H2 x y _ e2.gh (r1.up e2.gg) r2 fun w G3 H3 e3 r3 => ?_
    cases r3
    refine ⟨k, rfl, ?_⟩
    have e13 := (e1.trans e2).trans e3
    cases k with
    | false => exact ⟨false, rfl, q _ _ e13⟩
    | true =>
      refine hc H₀ G3 H3 σ _ (S.up e13) fun z G4 H4 e4 r4 => ?_
      refine h2 G4 H4 y z _ e4.gh (r2.up (e3.gg.trans e4.gg)) r4 fun w G5 H5 e5 r5 => ?_
      cases r5
      exact ⟨k', rfl, q _ _ ((e13.trans e4).trans e5)⟩
theorem de_lele {i j k : Int} (ha : DE X ρ a (.int i)) (hb : DE X ρ b (.int j)) (hc : DE X ρ c (.int k)) (hm : lastMarks [.LtE, .LtE] [b, c] = false := by with_unfolding_all rfl) :
    DE X ρ (.Compare a [.LtE, .LtE] [b, c] pos) (.bool (decide (i ≤ j) && decide (j ≤ k))) := de_chain op_le op_le r2_B0 r2_B0 ha hb hc hm
theorem dt_lele {i j k : Int} (ha : DE X ρ a (.int i)) (hb : DE X ρ b (.int j)) (hc : DE X ρ c (.int k)) (hm : lastMarks [.LtE, .LtE] [b, c] = false := by with_unfolding_all rfl) :
    DT X ρ (.Compare a [.LtE, .LtE] [b, c] pos) (decide (i ≤ j) && decide (j ≤ k)) := dt_chain op_le op_le r2_B0 r2_B0 ha hb hc hm

/-! tests -/
theorem dt_val {k : Bool} (h : DE X ρ e (.bool k)) (he : ∀ whole, isTrue e X.env whole = (do let v ← whole; standAt e.pos; holding [v] (truthy v)) := by intro _; rfl) : DT X ρ e k :=
  dt_of (pt_val pe_D he) fun H₀ G H σ Q S q => h H₀ G H σ _ S fun v G1 H1 e1 r1 => by
    cases r1
    exact ⟨k, rfl, q _ _ e1⟩
/-- truth of data -/
def truD : PyData → Bool
  | .none => false
  | .bool b => b
  | .int i => i != 0
  | .str s => (s.length : Int) != 0
  | .list xs => !xs.isEmpty
  | .tuple xs => !xs.isEmpty
  | .dict _ => false
theorem isEmpty_rp {G : Hp} {vs : List V} {ds : List PyData} (h : RpA G vs ds) : vs.isEmpty = ds.isEmpty := by cases h <;> rfl
theorem dt_tru (h : DE X ρ e d) (hs : ∀ s, d = .str s → s.length ≤ sizeLine := by intro s h; cases h) (he : ∀ whole, isTrue e X.env whole = (do let v ← whole; standAt e.pos; holding [v] (truthy v)) := by intro _; rfl) : DT X ρ e (truD d) :=
  dt_of (pt_truth pe_D he) fun H₀ G H σ Q S q => h H₀ G H σ _ S fun v G1 H1 e1 r1 => by
    refine ⟨truD d, ?_, q _ _ e1⟩
    cases r1 with
    | non => exact rfl
    | bl b => exact rfl
    | int i => exact rfl
    | str s => exact ⟨hs s rfl, rfl⟩
    | lst h1 h2 => exact .inl ⟨_, .of (e1.gh _ _ h1), by rw [isEmpty_rp h2]; rfl⟩
    | tup h1 h2 => exact .inr (.inl ⟨_, .of (e1.gh _ _ h1), by rw [isEmpty_rp h2]; rfl⟩)
theorem dt_not {k : Bool} (h : DT X ρ a k) : DT X ρ (.UnaryOp .Not a pos) (!k) :=
  dt_of (pt_not pt_T) fun H₀ G H σ Q S q => h H₀ G H σ _ S fun G1 H1 e1 => q _ _ e1
theorem dw_and1 {k : Bool} (h : DT X ρ a k) : DW X ρ (.BoolOp .And [a] pos) k := fun H₀ G H σ Q S q wh pins s I => (pw_and1 pt_T).run wh pins s σ H Q I (h H₀ G H σ Q S q)
theorem dw_or1 {k : Bool} (h : DT X ρ a k) : DW X ρ (.BoolOp .Or [a] pos) k := fun H₀ G H σ Q S q wh pins s I => (pw_or1 pt_T).run wh pins s σ H Q I (h H₀ G H σ Q S q)
theorem dw_and {k k' : Bool} (h : DT X ρ a k) (h2 : k = true → DW X ρ (.BoolOp .And (b :: es) pos) k') : DW X ρ (.BoolOp .And (a :: b :: es) pos) (k && k') := fun H₀ G H σ Q S q wh pins s I =>
  (pw_and pt_T pw_W).run wh pins s σ H Q I (h H₀ G H σ _ S fun G1 H1 e1 => by
    cases k with
    | false => exact q _ _ e1
    | true => exact h2 rfl H₀ G1 H1 σ Q (S.up e1) fun G2 H2 e2 => q _ _ (e1.trans e2))
theorem dw_or {k k' : Bool} (h : DT X ρ a k) (h2 : k = false → DW X ρ (.BoolOp .Or (b :: es) pos) k') : DW X ρ (.BoolOp .Or (a :: b :: es) pos) (k || k') := fun H₀ G H σ Q S q wh pins s I =>
  (pw_or pt_T pw_W).run wh pins s σ H Q I (h H₀ G H σ _ S fun G1 H1 e1 => by
    cases k with
    | true => exact q _ _ e1
    | false => exact h2 rfl H₀ G1 H1 σ Q (S.up e1) fun G2 H2 e2 => q _ _ (e1.trans e2))
theorem dt_w {k : Bool} (h : DW X ρ e k) : DT X ρ e k := dt_of pw_W.pt h
theorem de_one {op} (h : DE X ρ a d) : DE X ρ (.BoolOp op [a] pos) d := de_of (pe_one pe_D) fun H₀ G H σ Q S q => h H₀ G H σ Q S q
theorem de_and {k : Bool} (h : DE X ρ a (.bool k)) (h2 : k = true → DE X ρ (.BoolOp .And (b :: es) pos) d) (h3 : k = false → d = .bool false) : DE X ρ (.BoolOp .And (a :: b :: es) pos) d :=
  de_of (pe_and pe_D pe_D) fun H₀ G H σ Q S q => h H₀ G H σ _ S fun v G1 H1 e1 r1 => by
    cases r1
    refine ⟨k, rfl, ?_⟩
    cases k with
    | true => exact h2 rfl H₀ G1 H1 σ Q (S.up e1) (q.back e1)
    | false => rw [h3 rfl] at q; exact (q.back e1).of e1.gh (.bl _)
theorem de_or {k : Bool} (h : DE X ρ a (.bool k)) (h2 : k = false → DE X ρ (.BoolOp .Or (b :: es) pos) d) (h3 : k = true → d = .bool true) : DE X ρ (.BoolOp .Or (a :: b :: es) pos) d :=
  de_of (pe_or pe_D pe_D) fun H₀ G H σ Q S q => h H₀ G H σ _ S fun v G1 H1 e1 r1 => by
    cases r1
    refine ⟨k, rfl, ?_⟩
    cases k with
    | false => exact h2 rfl H₀ G1 H1 σ Q (S.up e1) (q.back e1)
    | true => rw [h3 rfl] at q; exact (q.back e1).of e1.gh (.bl _)
theorem de_andB {k k' : Bool} (h : DE X ρ a (.bool k)) (h2 : k = true → DE X ρ (.BoolOp .And (b :: es) pos) (.bool k')) : DE X ρ (.BoolOp .And (a :: b :: es) pos) (.bool (k && k')) :=
  de_and h (fun e => by subst e; exact h2 rfl) (fun e => by subst e; rfl)
theorem de_orB {k k' : Bool} (h : DE X ρ a (.bool k)) (h2 : k = false → DE X ρ (.BoolOp .Or (b :: es) pos) (.bool k')) : DE X ρ (.BoolOp .Or (a :: b :: es) pos) (.bool (k || k')) :=
  de_or h (fun e => by subst e; exact h2 rfl) (fun e => by subst e; rfl)
theorem de_notB {k : Bool} (h : DE X ρ a (.bool k)) : DE X ρ (.UnaryOp .Not a pos) (.bool (!k)) :=
  de_of (pe_not pe_D) fun H₀ G H σ Q S q => h H₀ G H σ _ S fun v G1 H1 e1 r1 => by
    cases r1
    exact ⟨k, rfl, (q.back e1).of e1.gh (.bl _)⟩
theorem dx_if {k : Bool} (h : DT X ρ c k) (h1 : k = true → DX X W ρ a o) (h2 : k = false → DX X W ρ b o) : DX X W ρ (.IfExp c a b pos) o :=
  dx_of (pe_ifExp pt_T pe_D pe_D) fun H₀ G H σ Q S q => h H₀ G H σ _ S fun G1 H1 e1 => by
    cases k with
    | true => exact h1 rfl H₀ G1 H1 σ Q (S.up e1) (q.back e1)
    | false => exact h2 rfl H₀ G1 H1 σ Q (S.up e1) (q.back e1)
theorem de_if {k : Bool} (h : DT X ρ c k) (h1 : k = true → DE X ρ a d) (h2 : k = false → DE X ρ b d) : DE X ρ (.IfExp c a b pos) d :=
  fun H₀ G H σ Q S q => dx_if (W := fun _ _ _ _ => False) (o := .ret d) h (fun e => dx_ret (h1 e)) (fun e => dx_ret (h2 e)) H₀ G H σ Q S q

/-! arguments, displays -/
theorem da_nil : DA X ρ [] [] := fun H₀ G H σ Q S q pos pins s I => pa_nil.run pos pins s σ H Q I (q [] G H (.refl S.sub) .nil)
theorem da_cons {ds : List PyData} (h : DE X ρ e d) (hs : DA X ρ es ds) (hst : starEach (e :: es) X.env = (false, eval e X.env) :: starEach es X.env := by rfl) : DA X ρ (e :: es) (d :: ds) := fun H₀ G H σ Q S q pos pins s I =>
  (pa_cons pe_D pa_A hst).run pos pins s σ H Q I (h H₀ G H σ _ S fun v G1 H1 e1 r1 => hs H₀ G1 H1 σ _ (S.up e1) fun vs G2 H2 e2 r2 => q _ _ _ (e1.trans e2) (.cons (r1.up e2.gg) r2))
theorem de_tup {ds : List PyData} {x1} (h : DA X ρ es ds) (hl : ds.length ≤ sizeLine := by first | decide | (simp; decide)) : DE X ρ (.Tuple es x1 pos) (.tuple ds) :=
  de_of (pe_tup pa_A) fun H₀ G H σ Q S q => h H₀ G H σ _ S fun vs G1 H1 e1 r1 => ⟨by rw [r1.length]; exact hl, fun p hp => by
    have e2 := Ext.new (o := .tup vs) e1.gh hp
    exact q _ _ _ (e1.trans e2) (.tup upd_same (r1.up e2.gg))⟩
theorem dl_lst {ds : List PyData} (h : DA X ρ es ds) (hl : ds.length ≤ sizeLine := by first | decide | (simp; decide)) : DL X ρ (.List es pos) ds := fun H₀ G H σ Q S q pins s I =>
  (pe_lst pa_A).run pins s σ H Q I (h H₀ G H σ _ S fun vs G1 H1 e1 r1 => ⟨by rw [r1.length]; exact hl, fun p hp => by
    have e2 := Ext.new (o := .lst vs) e1.gh hp
    exact q p vs G1 _ ⟨e1.gg, e1.hh.trans e2.hh, e1.gh.trans e2.hh, e1.nw⟩ (free_back e1.hh hp) (free_back e1.gh hp) upd_same r1⟩)
theorem de_lst {ds : List PyData} (h : DA X ρ es ds) (hl : ds.length ≤ sizeLine := by first | decide | (simp; decide)) : DE X ρ (.List es pos) (.list ds) := de_ofL (dl_lst h hl)

/-! subscripts -/
theorem ixN_map {α β : Type} {xs : List α} {ys : List β} (h : xs.length = ys.length) (i : Int) : ixN xs.length i = ixN ys.length i := by rw [h]
theorem atI_rp {G : Hp} {vs : List V} {ds : List PyData} {i : Int} (h : RpA G vs ds) (ha : atI ds i = some d) : ∃ v, atI vs i = some v ∧ Rp G v d := by
  unfold atI at ha ⊢
  rw [h.length]
  cases q : ixN ds.length i with
  | none => rw [q] at ha; cases ha
  | some j =>
    rw [q] at ha
    exact h.get ha
theorem de_ixT {ds : List PyData} {i : Int} (ha : DE X ρ a (.tuple ds)) (hb : DE X ρ b (.int i)) (h : atI ds i = some d) (hs : PlainIx b := by exact fun _ _ => rfl) : DE X ρ (.Subscript a b pos) d :=
  de_of (pe_ix ix_tup pe_D pe_D hs) fun H₀ G H σ Q S q => ha H₀ G H σ _ S fun v G1 H1 e1 r1 => hb H₀ G1 H1 σ _ (S.up e1) fun u G2 H2 e2 r2 => by
    cases r2
    cases r1 with
    | tup h1 h2 =>
      obtain ⟨w, hw, rw'⟩ := atI_rp h2 h
      exact ⟨_, _, i, w, rfl, rfl, .of (e2.gh _ _ (e2.gg _ _ h1)), hw, (q.back (e1.trans e2)).of e2.gh (rw'.up e2.gg)⟩
theorem de_ixL {ds : List PyData} {i : Int} (ha : DE X ρ a (.list ds)) (hb : DE X ρ b (.int i)) (h : atI ds i = some d) (hs : PlainIx b := by exact fun _ _ => rfl) : DE X ρ (.Subscript a b pos) d :=
  de_of (pe_ix ix_list pe_D pe_D hs) fun H₀ G H σ Q S q => ha H₀ G H σ _ S fun v G1 H1 e1 r1 => hb H₀ G1 H1 σ _ (S.up e1) fun u G2 H2 e2 r2 => by
    cases r2
    cases r1 with
    | lst h1 h2 =>
      obtain ⟨w, hw, rw'⟩ := atI_rp h2 h
      exact ⟨_, _, i, w, rfl, rfl, .of (e2.gh _ _ (e2.gg _ _ h1)), hw, (q.back (e1.trans e2)).of e2.gh (rw'.up e2.gg)⟩
/-- of an own list -/
theorem de_ixO {ds : List PyData} {i : Int} {j : Nat} {x : Str} {px : Pos} (hρ : ρ[j]? = some (.own ds)) (hb : DE X ρ b (.int i)) (h : atI ds i = some d) (hN : X.N[j]? = some x := by rfl)
    (hv : Vis X.env.scope x := by first | exact Or.inl rfl | exact Or.inr (Or.inl rfl) | exact Or.inr (Or.inr rfl)) (hs : PlainIx b := by exact fun _ _ => rfl)
    (hd : (x == ("__debug__" : Str)) = false := by decide) (hcd : (x == ("__classdict__" : Str)) = false := by decide) : DE X ρ (.Subscript (.Name x px) b pos) d :=
  de_of (pe_ix ix_list (pe_var hN hv hd hcd) pe_D hs) fun H₀ G H σ Q S q => by
    obtain ⟨p, vs, e1, h0, hg, hh, r⟩ := S.slot j _ hρ
    refine ⟨_, e1, hb H₀ G H σ _ S fun u G2 H2 e2 r2 => ?_⟩
    cases r2
    obtain ⟨w, hw, rw'⟩ := atI_rp r h
    exact ⟨_, _, i, w, rfl, rfl, .of (e2.hh _ _ hh), hw, (q.back e2).of e2.gh (rw'.up e2.gg)⟩
/-- one sign of a text -/
theorem de_ixS {z : Str} {i : Int} {k : Nat} (ha : DE X ρ a (.str z)) (hb : DE X ρ b (.int i)) (hz : z.length ≤ sizeLine) (h : atI z.cps.toList i = some k) (hs : PlainIx b := by exact fun _ _ => rfl) : DE X ρ (.Subscript a b pos) (.str ⟨#[k]⟩) :=
  de_of (pe_ix ix_str pe_D pe_D hs) fun H₀ G H σ Q S q => ha H₀ G H σ _ S fun v G1 H1 e1 r1 => hb H₀ G1 H1 σ _ (S.up e1) fun u G2 H2 e2 r2 => by
    cases r2
    cases r1
    exact ⟨z, i, k, rfl, rfl, hz, h, (q.back (e1.trans e2)).of e2.gh (.str _)⟩
end
end DD
namespace DD
open PySem PySem.Spec PyProof.Rows L2

/-! ### statements -/
structure Post where
  nx : En → Prop
  rt : PyData → Prop
  bk : En → Prop := fun _ => False
  ct : En → Prop := fun _ => False
  ex : Exn → En → Prop := fun _ _ => False
structure PostOk (W : WX) (H₀ G₀ : Hp) (P : Post) (D : Ends) : Prop where
  nx : ∀ ρ σ G H, P.nx ρ → Ext G₀ H₀ G H → Sat H₀ G H σ ρ → D.nx σ H
  rt : ∀ d v G H, P.rt d → Ext G₀ H₀ G H → Rp G v d → D.rt v H
  bk : ∀ ρ σ G H, P.bk ρ → Ext G₀ H₀ G H → Sat H₀ G H σ ρ → D.bk σ H
  ct : ∀ ρ σ G H, P.ct ρ → Ext G₀ H₀ G H → Sat H₀ G H σ ρ → D.ct σ H
  ex : ∀ x ρ σ G H c a, P.ex x ρ → Ext G₀ H₀ G H → Sat H₀ G H σ ρ → ExcAt G H x c a → W c a σ H
def tS (X : Cx) (ss : List Stmt) : TS := fun D σ H => ∀ (pins : List (Addr × Obj)) (s : Shared), Inv X pins σ H s → wpAny (model X.prog X.w) X.A (execs ss X.env) (SP X pins D) X.xe s
theorem pss_S {X : Cx} {ss : List Stmt} : PSs X ss (tS X ss) := ⟨fun pins s _ _ _ I h => h pins s I⟩
def DS (X : Cx) (W : WX) (ρ : En) (ss : List Stmt) (P : Post) : Prop :=
  ∀ H₀ G₀ G H σ D, Ext G₀ H₀ G H → Sat H₀ G H σ ρ → PostOk W H₀ G₀ P D → tS X ss D σ H

theorem Ext.step {G₀ H₀ G H G' H' : Hp} (a : Ext G₀ H₀ G H) (b : Ext G H G' H') : Ext G₀ H₀ G' H' := a.trans b
/-- an own list is changed -/
theorem Sat.mut {H₀ G H : Hp} {σ : L2.St} {ρ : En} {i : Nat} {p : Addr} {vs ws : List V} {ds es : List PyData} (h : Sat H₀ G H σ ρ) (hi : ρ[i]? = some (.own ds)) (hp : σ[i]? = some (some (.ref p)))
    (r : RpA G ws es) : Sat H₀ G (upd H p (.lst ws)) σ (ρ.set i (.own es)) ∧ H₀ p = none ∧ G p = none := by
  obtain ⟨p', vs', e1, h0, hg, hh, r0⟩ := h.slot i _ hi
  have ep : p' = p := by
    rw [hp] at e1
    injection e1 with e1; injection e1 with e1; injection e1 with e1
    exact e1.symm
  subst ep
  refine ⟨⟨fun a u q => ?_, by rw [List.length_set, h.len], fun j t q => ?_, fun a b s t pp hab q1 q2 o1 o2 r1 => ?_, fun a u q => by rw [upd_ne (ne_of_none q h0)]; exact h.old a u q⟩, h0, hg⟩
  · rw [upd_ne (ne_of_none q hg)]; exact h.sub a u q
  · by_cases e : i = j
    · subst e
      have hl : i < ρ.length := (List.getElem?_eq_some_iff.mp hi).1
      rw [List.getElem?_set_self hl] at q; cases q
      exact ⟨p', ws, e1, h0, hg, upd_same, r⟩
    · rw [List.getElem?_set_ne e] at q
      have x := h.slot j t q
      cases t with
      | un => trivial
      | dat d => exact x
      | raw v => exact x
      | pin v φ m => exact x
      | own fs =>
        obtain ⟨p2, us, e2, h02, hg2, hh2, r2⟩ := x
        have ne : p2 ≠ p' := fun z => h.apart i j _ _ p' e hi q rfl rfl e1 (by rw [e2, z])
        exact ⟨p2, us, e2, h02, hg2, by rw [upd_ne ne]; exact hh2, r2⟩
  · have back : ∀ {a : Nat} {s : SV}, (ρ.set i (.own es))[a]? = some s → s.isOwn = true → ∃ s', ρ[a]? = some s' ∧ s'.isOwn = true := by
      intro a s q o
      by_cases e : i = a
      · subst e; exact ⟨_, hi, rfl⟩
      · rw [List.getElem?_set_ne e] at q; exact ⟨s, q, o⟩
    obtain ⟨s', q1', o1'⟩ := back q1 o1
    obtain ⟨t', q2', o2'⟩ := back q2 o2
    exact h.apart a b s' t' pp hab q1' q2' o1' o2' r1
theorem Ext.mut {G₀ H₀ G H : Hp} {p : Addr} {o : HO} (e : Ext G₀ H₀ G H) (h0 : H₀ p = none) (hg : G p = none) : Ext G₀ H₀ G (upd H p o) :=
  ⟨e.gg, fun a u q => by rw [upd_ne (ne_of_none q h0)]; exact e.hh a u q, fun a u q => by rw [upd_ne (ne_of_none q hg)]; exact e.gh a u q, e.nw⟩

section
variable {X : Cx} {W : WX} {ρ ρ' : En} {e a b c : Expr} {es : List Expr} {d : PyData} {o : Out} {pos : Pos} {P : Post} {ss rest body orelse : List Stmt}

theorem ds_of {t : TS} (h : PSs X ss t) (hr : ∀ H₀ G₀ G H σ D, Ext G₀ H₀ G H → Sat H₀ G H σ ρ → PostOk W H₀ G₀ P D → t D σ H) : DS X W ρ ss P :=
  fun H₀ G₀ G H σ D E S p pins s I => h.run pins s σ H D I (hr H₀ G₀ G H σ D E S p)
theorem ds_nil (h : P.nx ρ') (w : Weak ρ ρ') : DS X W ρ [] P := ds_of pss_nil fun H₀ G₀ G H σ D E S p => p.nx ρ' σ G H h E (S.weak w)
theorem ds_end (h : P.nx ρ) : DS X W ρ [] P := ds_nil h (Weak.refl _)
theorem ds_weak (h : DS X W ρ' ss P) (w : Weak ρ ρ') : DS X W ρ ss P := fun H₀ G₀ G H σ D E S p => h H₀ G₀ G H σ D E (S.weak w) p
theorem ds_freeze (i : Nat) {ds : List PyData} (hi : ρ[i]? = some (.own ds)) (h : DS X W (ρ.set i (.dat (.list ds))) ss P) : DS X W ρ ss P := fun H₀ G₀ G H σ D E S p => by
  obtain ⟨G', g1, g2, g3, S'⟩ := S.freeze hi
  exact h H₀ G₀ G' H σ D ⟨E.gg.trans g1, E.hh, g2, fun a o q => (g3 a o q).elim (E.nw a o) .inr⟩ S' p
/-- one statement, then the rest -/
theorem ds_cons {st : Stmt} {t : TS} (h : PS X st t) (hr : ∀ H₀ G₀ G H σ D, Ext G₀ H₀ G H → Sat H₀ G H σ ρ → PostOk W H₀ G₀ P D → t { D with nx := tS X rest D } σ H) : DS X W ρ (st :: rest) P :=
  ds_of (pss_cons h pss_S) hr
theorem PostOk.seq {H₀ G₀ : Hp} {D : Ends} (p : PostOk W H₀ G₀ P D) {Pn : En → Prop} (h : ∀ ρ, Pn ρ → DS X W ρ rest P) : PostOk W H₀ G₀ { P with nx := Pn } { D with nx := tS X rest D } :=
  ⟨fun ρ σ G H q E S => h ρ q H₀ G₀ G H σ D E S p, p.rt, p.bk, p.ct, p.ex⟩

theorem ds_set (i : Nat) {x : Str} {p2 : Pos} (he : DE X ρ e d) (h : DS X W (ρ.set i (.dat d)) rest P) (hN : X.N.Nodup) (hi : X.N[i]? = some x := by rfl) (hx : Loc X.env.scope x := by first | exact Or.inl rfl | exact Or.inr rfl)
    (hs : swapsWith e (some (.Name x p2)) pos.line X.env = pure false := by rfl) (hf : X.fn x = true ∨ X.env.scope.names.lookup x = some .local := by first | exact .inl rfl | exact .inr rfl) :
    DS X W ρ (.Assign [.Name x p2] e pos :: rest) P :=
  ds_cons (ps_set hN hi hx pe_D hs hf) fun H₀ G₀ G H σ D E S p => he H₀ G H σ _ S fun v G1 H1 e1 r1 =>
    h H₀ G₀ G1 H1 _ D (E.step e1) ((S.up e1).set ⟨v, rfl, r1⟩ (fun z => by cases z)) p
theorem ds_own (i : Nat) {x : Str} {p2 : Pos} {ds : List PyData} (he : DL X ρ e ds) (h : DS X W (ρ.set i (.own ds)) rest P) (hN : X.N.Nodup) (hi : X.N[i]? = some x := by rfl) (hx : Loc X.env.scope x := by first | exact Or.inl rfl | exact Or.inr rfl)
    (hs : swapsWith e (some (.Name x p2)) pos.line X.env = pure false := by rfl) (hf : X.fn x = true ∨ X.env.scope.names.lookup x = some .local := by first | exact .inl rfl | exact .inr rfl) :
    DS X W ρ (.Assign [.Name x p2] e pos :: rest) P :=
  ds_cons (ps_set hN hi hx pe_D hs hf) fun H₀ G₀ G H σ D E S p => he H₀ G H σ _ S fun q vs G1 H1 e1 hp gp hh r1 =>
    h H₀ G₀ G1 H1 _ D (E.step e1) ((S.up e1).set ⟨q, vs, rfl, free_back E.hh hp, gp, hh, r1⟩ (fun _ j t hj ht ho hq => by
      cases t with
      | own es =>
        obtain ⟨p', vs', e', _, _, hh', _⟩ := S.slot j _ ht
        rw [hq] at e'
        injection e' with e'; injection e' with e'; injection e' with e'
        subst e'
        rw [hp] at hh'; cases hh'
      | _ => cases ho)) p
/-- x = a call that raises -/
theorem ds_setX (i : Nat) {x : Str} {p2 : Pos} {ex : Exn} (he : DX X W ρ e (.exc ex)) (h : P.ex ex ρ) (hN : X.N.Nodup) (hi : X.N[i]? = some x := by rfl) (hx : Loc X.env.scope x := by first | exact Or.inl rfl | exact Or.inr rfl)
    (hs : swapsWith e (some (.Name x p2)) pos.line X.env = pure false := by rfl) (hf : X.fn x = true ∨ X.env.scope.names.lookup x = some .local := by first | exact .inl rfl | exact .inr rfl) :
    DS X W ρ (.Assign [.Name x p2] e pos :: rest) P :=
  ds_cons (ps_set hN hi hx pe_D hs hf) fun H₀ G₀ G H σ D E S p => he H₀ G H σ _ S fun c a G1 H1 e1 r1 => p.ex ex ρ σ G1 H1 c a h (E.step e1) (S.up e1) r1
theorem ds_ret (he : DE X ρ e d) (h : P.rt d) : DS X W ρ (.Return (some e) pos :: rest) P :=
  ds_cons (ps_ret pe_D) fun H₀ G₀ G H σ D E S p => he H₀ G H σ _ S fun v G1 H1 e1 r1 => p.rt d v G1 H1 h (E.step e1) r1
theorem ds_retX (he : DX X W ρ e o) (h : match o with | .ret d => P.rt d | .exc x => P.ex x ρ) : DS X W ρ (.Return (some e) pos :: rest) P :=
  ds_cons (ps_ret pe_D) fun H₀ G₀ G H σ D E S p => he H₀ G H σ _ S (by
    cases o with
    | ret d => exact fun v G1 H1 e1 r1 => p.rt d v G1 H1 h (E.step e1) r1
    | exc x => exact fun c a G1 H1 e1 r1 => p.ex x ρ σ G1 H1 c a h (E.step e1) (S.up e1) r1)
theorem ds_retN (h : P.rt .none) : DS X W ρ (.Return none pos :: rest) P :=
  ds_cons ps_retN fun H₀ G₀ G H σ D E S p => p.rt .none .non G H h E .non
theorem ds_expr (he : DE X ρ e d) (h : DS X W ρ rest P) (hs : swapsWith e none pos.line X.env = pure false := by rfl) : DS X W ρ (.Expr e pos :: rest) P :=
  ds_cons (ps_expr pe_D hs) fun H₀ G₀ G H σ D E S p => he H₀ G H σ _ S fun v G1 H1 e1 r1 => h H₀ G₀ G1 H1 σ D (E.step e1) (S.up e1) p
theorem ds_exprX (he : DX X W ρ e o) (h : match o with | .ret _ => DS X W ρ rest P | .exc x => P.ex x ρ) (hs : swapsWith e none pos.line X.env = pure false := by rfl) : DS X W ρ (.Expr e pos :: rest) P :=
  ds_cons (ps_expr pe_D hs) fun H₀ G₀ G H σ D E S p => he H₀ G H σ _ S (by
    cases o with
    | ret d => exact fun v G1 H1 e1 r1 => h H₀ G₀ G1 H1 σ D (E.step e1) (S.up e1) p
    | exc x => exact fun c a G1 H1 e1 r1 => p.ex x ρ σ G1 H1 c a h (E.step e1) (S.up e1) r1)
theorem ds_pass (h : DS X W ρ rest P) : DS X W ρ (.Pass pos :: rest) P := ds_cons ps_pass fun H₀ G₀ G H σ D E S p => h H₀ G₀ G H σ D E S p
theorem ds_if (k : Bool) (hc : DT X ρ c k) (h1 : k = true → DS X W ρ body { P with nx := fun ρ => DS X W ρ rest P }) (h2 : k = false → DS X W ρ orelse { P with nx := fun ρ => DS X W ρ rest P }) : DS X W ρ (.If c body orelse pos :: rest) P :=
  ds_cons (ps_if pt_T pss_S pss_S) fun H₀ G₀ G H σ D E S p => hc H₀ G H σ _ S fun G1 H1 e1 => by
    cases k with
    | true => exact h1 rfl H₀ G₀ G1 H1 σ _ (E.step e1) (S.up e1) (p.seq fun _ h => h)
    | false => exact h2 rfl H₀ G₀ G1 H1 σ _ (E.step e1) (S.up e1) (p.seq fun _ h => h)
theorem ds_ifT (hc : DT X ρ c true) (h1 : DS X W ρ body { P with nx := fun ρ => DS X W ρ rest P }) : DS X W ρ (.If c body orelse pos :: rest) P := ds_if true hc (fun _ => h1) (fun z => by cases z)
/-- no else, the test is false -/
theorem ds_ifF (hc : DT X ρ c false) (h2 : DS X W ρ rest P) : DS X W ρ (.If c body [] pos :: rest) P := ds_if false hc (fun z => by cases z) (fun _ => ds_end h2)
theorem ds_ifE (hc : DT X ρ c false) (h2 : DS X W ρ orelse { P with nx := fun ρ => DS X W ρ rest P }) : DS X W ρ (.If c body orelse pos :: rest) P := ds_if false hc (fun z => by cases z) (fun _ => h2)
/-- x op= e on whole numbers -/
theorem ip_mul : PIp X .Mult (rI CMul fun i j => .int (i * j)) := fun pins s σ H x y v u Q I rx ry q => iop_mul pins s σ H x y v u Q I rx ry q
theorem ds_augI (i : Nat) {x : Str} {p2 : Pos} {op : Operator} {r : R2} {d2 d3 : PyData} (hρ : ρ[i]? = some (.dat d2)) (ho : PIp X op r) (hr : R2D r d2 d d3) (he : DE X ρ e d) (h : DS X W (ρ.set i (.dat d3)) rest P) (hN : X.N.Nodup) (hi : X.N[i]? = some x := by rfl)
    (hx : Loc X.env.scope x := by first | exact Or.inl rfl | exact Or.inr rfl) (hf : X.fn x = true ∨ X.env.scope.names.lookup x = some .local := by first | exact .inl rfl | exact .inr rfl) : DS X W ρ (.AugAssign (.Name x p2) op e pos :: rest) P :=
  ds_cons (ps_aug hN hi hx pe_D ho hf) fun H₀ G₀ G H σ D E S p => by
    obtain ⟨v, ev, rv⟩ := S.slot i _ hρ
    refine ⟨v, ev, he H₀ G H σ _ S fun u G1 H1 e1 r1 => hr G1 H1 v u _ e1.gh (rv.up e1.gg) r1 fun z G2 H2 e2 r2 => ?_⟩
    have e12 := e1.trans e2
    exact h H₀ G₀ G2 H2 _ D (E.step e12) ((S.up e12).set ⟨z, rfl, r2⟩ (fun q => by cases q)) p
theorem ds_augMul (i : Nat) {x : Str} {p2 : Pos} {m n : Int} (hρ : ρ[i]? = some (.dat (.int m))) (he : DE X ρ e (.int n)) (hc : CMul m n) (h : DS X W (ρ.set i (.dat (.int (m * n)))) rest P) (hN : X.N.Nodup) (hi : X.N[i]? = some x := by rfl)
    (hx : Loc X.env.scope x := by first | exact Or.inl rfl | exact Or.inr rfl) (hf : X.fn x = true ∨ X.env.scope.names.lookup x = some .local := by first | exact .inl rfl | exact .inr rfl) : DS X W ρ (.AugAssign (.Name x p2) .Mult e pos :: rest) P :=
  ds_augI i hρ ip_mul (r2_I hc) he h hN hi hx hf

/-! own lists changed -/
theorem ds_app (i : Nat) {ds : List PyData} {x : Str} {p2 p3 p4 : Pos} (hρ : ρ[i]? = some (.own ds)) (he : DE X ρ e d) (hz : ds.length < sizeLine) (h : DS X W (ρ.set i (.own (ds ++ [d]))) rest P) (hN : X.N[i]? = some x := by rfl)
    (hv : Vis X.env.scope x := by first | exact Or.inl rfl | exact Or.inr (Or.inl rfl) | exact Or.inr (Or.inr rfl)) (hd : (x == ("__debug__" : Str)) = false := by decide) (hcd : (x == ("__classdict__" : Str)) = false := by decide)
    (hst : starEach [e] X.env = (false, eval e X.env) :: starEach [] X.env := by rfl) (hbase : attributeBase (.Name x p2) "append" X.env (eval (.Name x p2) X.env) = eval (.Name x p2) X.env := by rfl)
    (hfew : ((backTo p4 (starEach [e] X.env)).all (fun x => !x.1) && (backToKw p4 (keywordEach [] X.env)).all (fun x => x.1.isSome) && decide ([e].length + ([] : List Keyword).length + (if ([] : List Keyword).isEmpty then 0 else 1) < 30)) = true := by rfl)
    (hline : (p3.endLine == p4.line) = true := by rfl) (hpl : (backTo p4 (starEach ([] : List Expr) X.env)).any (·.1) = false := by rfl) (hs : swapsWith (.Call (.Attribute (.Name x p2) "append" p3) [e] [] p4) none pos.line X.env = pure false := by rfl) :
    DS X W ρ (.Expr (.Call (.Attribute (.Name x p2) "append" p3) [e] [] p4) pos :: rest) P :=
  ds_cons (ps_expr (pe_bm PySem.F.plainAttrs_list PySem.F.slot_list_append PySem.F.type_list_append mt_append (pe_var hN hv hd hcd) (pa_cons pe_D pa_nil hst) hbase hfew hline hst hpl) hs) fun H₀ G₀ G H σ D E S p => by
    obtain ⟨q, vs, e1, h0, hg, hh, r⟩ := S.slot i _ hρ
    refine ⟨_, e1, .inl ⟨rfl, _, .of hh⟩, he H₀ G H σ _ S fun v G1 H1 ex r1 => ?_⟩
    refine ⟨q, vs, v, rfl, rfl, ex.hh _ _ hh, by rw [r.length]; exact hz, ?_⟩
    have S1 := S.up ex
    obtain ⟨S2, k0, kg⟩ := S1.mut hρ e1 ((r.up ex.gg).append (.cons r1 .nil)) (vs := vs)
    exact h H₀ G₀ G1 _ σ D ((E.step ex).mut k0 kg) S2 p
theorem ds_ext (i : Nat) {ds es' : List PyData} {x : Str} {p2 p3 p4 : Pos} (hρ : ρ[i]? = some (.own ds)) (he : DL X ρ e es') (hz : ds.length + es'.length ≤ sizeLine) (h : DS X W (ρ.set i (.own (ds ++ es'))) rest P) (hN : X.N[i]? = some x := by rfl)
    (hv : Vis X.env.scope x := by first | exact Or.inl rfl | exact Or.inr (Or.inl rfl) | exact Or.inr (Or.inr rfl)) (hd : (x == ("__debug__" : Str)) = false := by decide) (hcd : (x == ("__classdict__" : Str)) = false := by decide)
    (hst : starEach [e] X.env = (false, eval e X.env) :: starEach [] X.env := by rfl) (hbase : attributeBase (.Name x p2) "extend" X.env (eval (.Name x p2) X.env) = eval (.Name x p2) X.env := by rfl)
    (hfew : ((backTo p4 (starEach [e] X.env)).all (fun x => !x.1) && (backToKw p4 (keywordEach [] X.env)).all (fun x => x.1.isSome) && decide ([e].length + ([] : List Keyword).length + (if ([] : List Keyword).isEmpty then 0 else 1) < 30)) = true := by rfl)
    (hline : (p3.endLine == p4.line) = true := by rfl) (hpl : (backTo p4 (starEach ([] : List Expr) X.env)).any (·.1) = false := by rfl) (hs : swapsWith (.Call (.Attribute (.Name x p2) "extend" p3) [e] [] p4) none pos.line X.env = pure false := by rfl) :
    DS X W ρ (.Expr (.Call (.Attribute (.Name x p2) "extend" p3) [e] [] p4) pos :: rest) P :=
  ds_cons (ps_expr (pe_bm PySem.F.plainAttrs_list PySem.F.slot_list_extend PySem.F.type_list_extend mt_extend (pe_var hN hv hd hcd) (pa_cons pe_D pa_nil hst) hbase hfew hline hst hpl) hs) fun H₀ G₀ G H σ D E S p => by
    obtain ⟨q, vs, e1, h0, hg, hh, r⟩ := S.slot i _ hρ
    refine ⟨_, e1, .inl ⟨rfl, _, .of hh⟩, he H₀ G H σ _ S fun p' ws G1 H1 ex hp gp hb r1 => ?_⟩
    refine ⟨q, p', vs, ws, rfl, rfl, ex.hh _ _ hh, hb, by rw [r.length, r1.length]; exact hz, ?_⟩
    have S1 := S.up ex
    obtain ⟨S2, k0, kg⟩ := S1.mut hρ e1 ((r.up ex.gg).append r1) (vs := vs)
    exact h H₀ G₀ G1 _ σ D ((E.step ex).mut k0 kg) S2 p
theorem ds_setI (i : Nat) {ds : List PyData} {x : Str} {p2 p3 : Pos} {k : Int} {j : Nat} (hρ : ρ[i]? = some (.own ds)) (he : DE X ρ e d) (hi : DE X ρ a (.int k)) (hk : ixN ds.length k = some j) (h : DS X W (ρ.set i (.own (ds.set j d))) rest P) (hN : X.N[i]? = some x := by rfl)
    (hv : Vis X.env.scope x := by first | exact Or.inl rfl | exact Or.inr (Or.inl rfl) | exact Or.inr (Or.inr rfl)) (hd : (x == ("__debug__" : Str)) = false := by decide) (hcd : (x == ("__classdict__" : Str)) = false := by decide)
    (ha : ∀ v, assign (.Subscript (.Name x p2) a p3) X.env v = (do
      let ov ← holding [v] (eval (.Name x p2) X.env)
      let iv ← holding [v, ov] (eval a X.env)
      standAt p3
      holding [v, ov, iv] (setItem ov iv v)
      release [v, ov, iv] []) := by intro _; rfl)
    (hs : swapsWithSole [.Subscript (.Name x p2) a p3] e pos.line X.env = pure false := by rfl) (hw : swappedStores [.Subscript (.Name x p2) a p3] e X.env = pure none := by rfl)
    (h1 : (assignEach [.Subscript (.Name x p2) a p3] X.env).map (·.2) = [assign (.Subscript (.Name x p2) a p3) X.env] := by rfl) : DS X W ρ (.Assign [.Subscript (.Name x p2) a p3] e pos :: rest) P :=
  ds_cons (ps_asg pe_D (pg_sub (pe_var hN hv hd hcd) pe_D set_list ha) hs hw h1) fun H₀ G₀ G H σ D E S p => by
    obtain ⟨q, vs, e1, h0, hg, hh, r⟩ := S.slot i _ hρ
    refine he H₀ G H σ _ S fun v G1 H1 ex r1 => ⟨_, e1, hi H₀ G1 H1 σ _ (S.up ex) fun u G2 H2 ex2 r2 => ?_⟩
    cases r2
    have e12 := ex.trans ex2
    refine ⟨q, vs, k, j, rfl, rfl, e12.hh _ _ hh, by rw [r.length]; exact hk, ?_⟩
    obtain ⟨S2, k0, kg⟩ := (S.up e12).mut hρ e1 (RpA.set (r1.up ex2.gg) j (r.up e12.gg)) (vs := vs)
    exact h H₀ G₀ G2 _ σ D ((E.step e12).mut k0 kg) S2 p

/-! ### what is walked -/
structure SrcOk (J : It) (G : Hp) (ds : List PyData) : Prop where
  go : ∀ i G' H', Sub G G' → Sub G' H' → i < ds.length → J.go i H'
  yld : ∀ i G' H' x H'' d, Sub G G' → Sub G' H' → ds[i]? = some d → J.yld i H' x H'' → ∃ G'', Ext G' H' G'' H'' ∧ Rp G'' x d
  stop : ∀ i G' H', Sub G G' → Sub G' H' → ds.length ≤ i → J.stop i H'
def tI (X : Cx) (tg iter : Expr) : TI := fun σ H R => ∀ (pins : List (Addr × Obj)) (s : Shared), Inv X pins σ H s →
  wpAny (model X.prog X.w) X.A (eval iter X.env) (fun v s1 => wpAny (model X.prog X.w) X.A (pyIter v) (PIE X pins σ tg R) X.xe s1) X.xe s
theorem pi_I {tg iter : Expr} : PI X tg iter (tI X tg iter) := ⟨fun pins s _ _ _ I h => h pins s I⟩
def DI (X : Cx) (ρ : En) (tg iter : Expr) (ds : List PyData) : Prop := ∀ H₀ G H σ R, Sat H₀ G H σ ρ → (∀ J G' H', Ext G H G' H' → SrcOk J G' ds → R J H') → tI X tg iter σ H R
theorem di_of {tg iter : Expr} {wi : TI} {ds : List PyData} (h : PI X tg iter wi) (hr : ∀ H₀ G H σ R, Sat H₀ G H σ ρ → (∀ J G' H', Ext G H G' H' → SrcOk J G' ds → R J H') → wi σ H R) : DI X ρ tg iter ds :=
  fun H₀ G H σ R S q pins s I => h.run pins s σ H R I (hr H₀ G H σ R S q)
theorem lst_inj {K : PySem.W.Frag} {H : Hp} {q : Addr} {vs ws : List V} (h : H q = some (.lst vs)) (hs : SqL K H q ws) (hK : K.lookup q = none) : ws = vs := by
  rcases hs with (z | ⟨o, z⟩) | ⟨o, its, n, z, _⟩
  · rw [h] at z; cases z; rfl
  · rw [h] at z; cases z
  · rw [hK] at z; cases z
theorem src_list {K : PySem.W.Frag} {G : Hp} {p : Addr} {vs : List V} {ds : List PyData} (h : G p = some (.lst vs)) (r : RpA G vs ds) : SrcOk (Itl K p) G ds where
  go := fun i G' H' s1 s2 hi => by
    have hl := r.length
    exact ⟨vs, vs[i]'(by omega), .of (s2 _ _ (s1 _ _ h)), List.getElem?_eq_getElem (by omega)⟩
  yld := fun i G' H' x H'' d s1 s2 hd y => by
    obtain ⟨e, f⟩ := y
    subst e
    obtain ⟨v, hv, rv⟩ := r.get hd
    have e : x = v := Option.some.inj ((f _ (.of (s2 _ _ (s1 _ _ h)))).symm.trans hv)
    subst e
    exact ⟨G', .refl s2, rv.up s1⟩
  stop := fun i G' H' s1 s2 hi => ⟨vs, .of (s2 _ _ (s1 _ _ h)), by rw [r.length]; exact hi⟩
theorem src_tup {K : PySem.W.Frag} {G : Hp} {p : Addr} {vs : List V} {ds : List PyData} (h : G p = some (.tup vs)) (r : RpA G vs ds) : SrcOk (Itt K p) G ds where
  go := fun i G' H' s1 s2 hi => by
    have hl := r.length
    exact ⟨vs, vs[i]'(by omega), .of (s2 _ _ (s1 _ _ h)), List.getElem?_eq_getElem (by omega)⟩
  yld := fun i G' H' x H'' d s1 s2 hd y => by
    obtain ⟨e, f⟩ := y
    subst e
    obtain ⟨v, hv, rv⟩ := r.get hd
    have e : x = v := Option.some.inj ((f _ (.of (s2 _ _ (s1 _ _ h)))).symm.trans hv)
    subst e
    exact ⟨G', .refl s2, rv.up s1⟩
  stop := fun i G' H' s1 s2 hi => ⟨vs, .of (s2 _ _ (s1 _ _ h)), by rw [r.length]; exact hi⟩
theorem di_list {tg iter : Expr} {ds : List PyData} (he : DE X ρ iter (.list ds)) : DI X ρ tg iter ds :=
  di_of (pi_list pe_D) fun H₀ G H σ R S q => he H₀ G H σ _ S fun v G1 H1 e1 r1 => by
    cases r1 with
    | lst h1 h2 => exact ⟨_, rfl, ⟨_, .of (e1.gh _ _ h1)⟩, q _ _ _ e1 (src_list h1 h2)⟩
theorem di_tup {tg iter : Expr} {ds : List PyData} (he : DE X ρ iter (.tuple ds)) : DI X ρ tg iter ds :=
  di_of (pi_tup pe_D) fun H₀ G H σ R S q => he H₀ G H σ _ S fun v G1 H1 e1 r1 => by
    cases r1 with
    | tup h1 h2 => exact ⟨_, rfl, ⟨_, .of (e1.gh _ _ h1)⟩, q _ _ _ e1 (src_tup h1 h2)⟩
/-- the whole numbers lo, lo + 1, .. -/
def intsL (lo : Int) (n : Nat) : List Int := (List.range n).map fun (i : Nat) => lo + (i : Int)
theorem intsL_len (lo : Int) (n : Nat) : (intsL lo n).length = n := by unfold intsL; rw [List.length_map, List.length_range]
theorem intsL_at {lo : Int} {n i : Nat} {z : Int} (h : (intsL lo n)[i]? = some z) : i < n ∧ z = lo + i := by
  have hl : i < (intsL lo n).length := (List.getElem?_eq_some_iff.mp h).1
  rw [intsL_len] at hl
  unfold intsL at h
  rw [List.getElem?_map, List.getElem?_range hl] at h
  exact ⟨hl, (Option.some.inj h).symm⟩
theorem src_range {G : Hp} {lo : Int} {n : Nat} : SrcOk (Itr lo n) G ((intsL lo n).map PyData.int) where
  go := fun i G' H' s1 s2 hi => by rw [List.length_map, intsL_len] at hi; exact hi
  yld := fun i G' H' x H'' d s1 s2 hd y => by
    obtain ⟨e, f⟩ := y
    subst e f
    rw [List.getElem?_map] at hd
    cases q : (intsL lo n)[i]? with
    | none => rw [q] at hd; cases hd
    | some z =>
      rw [q] at hd
      obtain ⟨_, ez⟩ := intsL_at q
      have : d = .int (lo + i) := by rw [← ez]; exact (Option.some.inj hd).symm
      subst this
      exact ⟨G', .refl s2, .int _⟩
  stop := fun i G' H' s1 s2 hi => by rw [List.length_map, intsL_len] at hi; exact hi
theorem di_range1 {tg : Expr} {p : Pos} {n : Int} (he : DE X ρ a (.int n)) (hn : -(2 ^ 62) ≤ n ∧ n < 2 ^ 62) (hm : X.mg "range" = none) (hg : Gl X "range" := by rfl) (hs : starEach [a] X.env = [(false, eval a X.env)] := by rfl) :
    DI X ρ tg (.Call (.Name "range" p) [a] [] pos) ((intsL 0 n.toNat).map PyData.int) :=
  di_of (pi_range1 hg hm pa_A hs) fun H₀ G H σ R S q => da_cons he da_nil (by rw [hs]; rfl) H₀ G H σ _ S fun vs G1 H1 e1 r1 => by
    cases r1 with
    | cons r rr =>
      cases rr; cases r
      exact ⟨n, rfl, hn.1, hn.2, q _ _ _ e1 src_range⟩
theorem di_range2 {tg : Expr} {p : Pos} {m n : Int} (he : DE X ρ a (.int m)) (hb : DE X ρ b (.int n)) (hn : -(2 ^ 62) ≤ m ∧ m < 2 ^ 62 ∧ -(2 ^ 62) ≤ n ∧ n < 2 ^ 62) (hm : X.mg "range" = none) (hg : Gl X "range" := by rfl)
    (hs : starEach [a, b] X.env = [(false, eval a X.env), (false, eval b X.env)] := by rfl) (hs2 : starEach [b] X.env = [(false, eval b X.env)] := by rfl) :
    DI X ρ tg (.Call (.Name "range" p) [a, b] [] pos) ((intsL m (n - m).toNat).map PyData.int) :=
  di_of (pi_range2 hg hm pa_A hs hs2) fun H₀ G H σ R S q => da_cons he (da_cons hb da_nil (by rw [hs2]; rfl)) (by rw [hs, hs2]) H₀ G H σ _ S fun vs G1 H1 e1 r1 => by
    cases r1 with
    | cons r rr =>
      cases rr with
      | cons r' rr =>
        cases rr; cases r; cases r'
        exact ⟨m, n, rfl, hn, q _ _ _ e1 src_range⟩

/-! targets -/
def tG (X : Cx) (tg : Expr) : TG := fun v σ H Q => ∀ (pins : List (Addr × Obj)) (s : Shared) (u : Value), Inv X pins σ H s → RelV v u →
  wpAny (model X.prog X.w) X.A (assign tg X.env u) (fun _ s' => ∃ σ' H', Inv X pins σ' H' s' ∧ Q σ' H') X.xe s
theorem pg_G {tg : Expr} : PG X tg (tG X tg) := ⟨fun pins s _ _ _ u _ I r h => h pins s u I r⟩
/-- the target given data makes the slots ρ' -/
def DG (X : Cx) (tg : Expr) (d : PyData) (ρ ρ' : En) : Prop := ∀ H₀ G H σ v Q, Sat H₀ G H σ ρ → Rp G v d → (∀ σ', Sat H₀ G H σ' ρ' → Q σ' H) → tG X tg v σ H Q
theorem dg_name (i : Nat) {x : Str} (hN : X.N.Nodup) (hi : X.N[i]? = some x := by rfl) (hx : Loc X.env.scope x := by first | exact Or.inl rfl | exact Or.inr rfl) (hf : X.fn x = true ∨ X.env.scope.names.lookup x = some .local := by first | exact .inl rfl | exact .inr rfl) :
    DG X (.Name x pos) d ρ (ρ.set i (.dat d)) := fun H₀ G H σ v Q S r q pins s u I ru =>
  (pg_name hN hi hx hf).run pins s σ H v u Q I ru (q _ (S.set ⟨v, rfl, r⟩ (fun z => by cases z)))
theorem dg_tup2 (i j : Nat) {x y : Str} {k : Nat} {p1 p2 : Pos} {d1 d2 : PyData} (hN : X.N.Nodup) (hc : X.calm = true) (hi : X.N[i]? = some x := by rfl) (hx : Loc X.env.scope x := by first | exact Or.inl rfl | exact Or.inr rfl) (hf : X.fn x = true ∨ X.env.scope.names.lookup x = some .local := by first | exact .inl rfl | exact .inr rfl)
    (hj : X.N[j]? = some y := by rfl) (hy : Loc X.env.scope y := by first | exact Or.inl rfl | exact Or.inr rfl) (hfy : X.fn y = true ∨ X.env.scope.names.lookup y = some .local := by first | exact .inl rfl | exact .inr rfl)
    (hn : (assignEach [.Name x p1, .Name y p2] X.env).length = 2 := by rfl) (hst : (assignEach [.Name x p1, .Name y p2] X.env).findIdx? (·.1) = none := by rfl)
    (hs1 : (assignEach [.Name x p1, .Name y p2] X.env).map (·.2) = assign (.Name x p1) X.env :: (assignEach [.Name y p2] X.env).map (·.2) := by rfl) (hs2 : (assignEach [.Name y p2] X.env).map (·.2) = assign (.Name y p2) X.env :: (assignEach [] X.env).map (·.2) := by rfl) :
    DG X (.Tuple [.Name x p1, .Name y p2] k pos) (.tuple [d1, d2]) ρ ((ρ.set i (.dat d1)).set j (.dat d2)) := fun H₀ G H σ v Q S r q pins s u I ru => by
  refine (pg_tup (pos := pos) (k := k) hc (pgs_cons (pg_name hN hi hx hf) (pgs_cons (pg_name hN hj hy hfy) pgs_nil hs2) hs1) hn hst).run pins s σ H v u Q I ru ?_
  cases r with
  | tup h1 h2 =>
    cases h2 with
    | cons r1 h2 =>
      cases h2 with
      | cons r2 h2 =>
        cases h2
        refine ⟨_, _, rfl, .of (S.sub _ _ h1), rfl, _, _, rfl, _, _, rfl, rfl, ?_⟩
        exact q _ ((S.set (s := .dat d1) ⟨_, rfl, r1⟩ (fun z => by cases z)).set (s := .dat d2) ⟨_, rfl, r2⟩ (fun z => by cases z))

/-! for: J i what holds of the slots ahead of turn i -/
theorem ds_for {tg iter : Expr} {ds : List PyData} (J : Nat → En → Prop) (hi : DI X ρ tg iter ds) (h0 : J 0 ρ) (tgt : ∀ i d ρ', ds[i]? = some d → J i ρ' → ∃ ρ2, DG X tg d ρ' ρ2 ∧ DS X W ρ2 body { P with nx := J (i + 1), ct := J (i + 1), bk := fun ρ => DS X W ρ rest P })
    (hd : ∀ ρ', J ds.length ρ' → DS X W ρ' rest P) (hc : X.calm = true := by rfl) (hp : PassesOwn (model X.prog X.w) X.A X.env X.xe := by first | exact PassesOwn.never | exact passes_of rfl)
    (hs : ∀ x, foldedSetIterable iter X.env x = pure x := by intro _; rfl) : DS X W ρ (.For tg iter body [] pos :: rest) P :=
  ds_cons (ps_for hp hc pi_I pg_G pss_S hs) fun H₀ G₀ G H σ D E S p => by
    refine hi H₀ G H σ _ S fun J' G1 H1 e1 src => ?_
    refine ⟨fun i m σ' H' => m = ds.length - i ∧ i ≤ ds.length ∧ ∃ G' ρ', Sub G1 G' ∧ Ext G₀ H₀ G' H' ∧ Sat H₀ G' H' σ' ρ' ∧ J i ρ', ⟨ds.length, by simp, Nat.zero_le _, G1, ρ, .refl _, E.step e1, S.up e1, h0⟩, ?_⟩
    rintro i m σ' H' ⟨rfl, hil, G', ρ', gg, E', S', hJ⟩
    by_cases hlt : i < ds.length
    · refine .inr ⟨src.go i G' H' gg S'.sub hlt, fun σ2 H2 => ∃ G2 ρ2, Sub G1 G2 ∧ Ext G₀ H₀ G2 H2 ∧ Sat H₀ G2 H2 σ2 ρ2 ∧ J (i + 1) ρ2, fun σ2 H2 ⟨G2, ρ2, a1, a2, a3, a4⟩ => ⟨ds.length - (i + 1), by omega, rfl, hlt, G2, ρ2, a1, a2, a3, a4⟩, fun x H2 y => ?_⟩
      have hd' : ds[i]? = some ds[i] := List.getElem?_eq_getElem hlt
      obtain ⟨G2, e2, r2⟩ := src.yld i G' H' x H2 _ gg S'.sub hd' y
      obtain ⟨ρ2, hg, hb⟩ := tgt i _ ρ' hd' hJ
      refine hg H₀ G2 H2 σ' x _ (S'.up e2) r2 fun σ3 S3 => ?_
      have gg2 : Sub G1 G2 := gg.trans e2.gg
      -- relative to G2 as the base of data, H₀ as the entry
      have E2 : Ext G2 H₀ G2 H2 := ⟨.refl _, (E'.step e2).hh, e2.gh, fun a o h => .inl h⟩
      refine hb H₀ G2 G2 H2 σ3 _ E2 S3 ⟨fun ρ5 σ5 G5 H5 q E5 S5 => ?_, fun d v G5 H5 q E5 r5 => ?_, fun ρ5 σ5 G5 H5 q E5 S5 => ?_, fun ρ5 σ5 G5 H5 q E5 S5 => ?_, fun x5 ρ5 σ5 G5 H5 c5 a5 q E5 S5 x6 => ?_⟩
      · exact ⟨G5, ρ5, gg2.trans E5.gg, ⟨(E'.step e2).gg.trans E5.gg, E5.hh, E5.gh, fun a o h => (E5.nw a o h).elim ((E'.step e2).nw a o) .inr⟩, S5, q⟩
      · exact p.rt d v G5 H5 q ⟨(E'.step e2).gg.trans E5.gg, E5.hh, E5.gh, fun a o h => (E5.nw a o h).elim ((E'.step e2).nw a o) .inr⟩ r5
      · exact q H₀ G₀ G5 H5 σ5 D ⟨(E'.step e2).gg.trans E5.gg, E5.hh, E5.gh, fun a o h => (E5.nw a o h).elim ((E'.step e2).nw a o) .inr⟩ S5 p
      · exact ⟨G5, ρ5, gg2.trans E5.gg, ⟨(E'.step e2).gg.trans E5.gg, E5.hh, E5.gh, fun a o h => (E5.nw a o h).elim ((E'.step e2).nw a o) .inr⟩, S5, q⟩
      · exact p.ex x5 ρ5 σ5 G5 H5 c5 a5 q ⟨(E'.step e2).gg.trans E5.gg, E5.hh, E5.gh, fun a o h => (E5.nw a o h).elim ((E'.step e2).nw a o) .inr⟩ S5 x6
    · have ei : i = ds.length := by omega
      subst ei
      exact .inl ⟨src.stop _ G' H' gg S'.sub (Nat.le_refl _), hd ρ' hJ H₀ G₀ G' H' σ' D E' S' p⟩
theorem ds_while {c : Expr} (J : Nat → En → Prop) (m0 : Nat) (h0 : J m0 ρ) (turn : ∀ m ρ', J m ρ' → ∃ k, DT X ρ' c k ∧ (k = true → DS X W ρ' body { P with nx := fun ρ => ∃ m', m' < m ∧ J m' ρ, ct := fun ρ => ∃ m', m' < m ∧ J m' ρ, bk := fun ρ => DS X W ρ rest P }) ∧ (k = false → DS X W ρ' rest P))
    (hp : PassesOwn (model X.prog X.w) X.A X.env X.xe := by first | exact PassesOwn.never | exact passes_of rfl) : DS X W ρ (.While c body [] pos :: rest) P :=
  ds_cons (ps_while hp pt_T pss_S) fun H₀ G₀ G H σ D E S p => by
    refine ⟨fun m σ' H' => ∃ G' ρ', Ext G₀ H₀ G' H' ∧ Sat H₀ G' H' σ' ρ' ∧ J m ρ', ⟨m0, G, ρ, E, S, h0⟩, ?_⟩
    rintro m σ' H' ⟨G', ρ', E', S', hJ⟩
    obtain ⟨k, ht, h1, h2⟩ := turn m ρ' hJ
    refine ht H₀ G' H' σ' _ S' fun G1 H1 e1 => ?_
    cases k with
    | true =>
      refine ⟨fun σ2 H2 => ∃ m', m' < m ∧ ∃ G2 ρ2, Ext G₀ H₀ G2 H2 ∧ Sat H₀ G2 H2 σ2 ρ2 ∧ J m' ρ2, fun σ2 H2 ⟨m', hm, G2, ρ2, a⟩ => ⟨m', hm, G2, ρ2, a⟩, ?_⟩
      exact h1 rfl H₀ G₀ G1 H1 σ' _ (E'.step e1) (S'.up e1) ⟨fun ρ5 σ5 G5 H5 ⟨m', hm, q⟩ E5 S5 => ⟨m', hm, G5, ρ5, E5, S5, q⟩, p.rt, fun ρ5 σ5 G5 H5 q E5 S5 => q H₀ G₀ G5 H5 σ5 D E5 S5 p, fun ρ5 σ5 G5 H5 ⟨m', hm, q⟩ E5 S5 => ⟨m', hm, G5, ρ5, E5, S5, q⟩, p.ex⟩
    | false => exact h2 rfl H₀ G₀ G1 H1 σ' D (E'.step e1) (S'.up e1) p
/-- a, b = x, y on plain locals -/
theorem ds_par (i j : Nat) {x y : Str} {d1 d2 : PyData} {px py pt : Pos} {kt k2 pt2} (h1 : DA X ρ [a, b] [d1, d2]) (h : DS X W ((ρ.set i (.dat d1)).set j (.dat d2)) rest P) (hN : X.N.Nodup) (hc : X.calm = true := by rfl) (hi : X.N[i]? = some x := by rfl) (hj : X.N[j]? = some y := by rfl) (hij : i ≠ j := by decide)
    (hx : X.env.scope.names.lookup x = some .local := by rfl) (hy : X.env.scope.names.lookup y = some .local := by rfl)
    (hw : swappedStores [.Tuple [.Name x px, .Name y py] kt pt] (.Tuple [a, b] k2 pt2) X.env = pure (some [x, y]) := by rfl)
    (hs : swapsWithSole [.Tuple [.Name x px, .Name y py] kt pt] (.Tuple [a, b] k2 pt2) pos.line X.env = pure false := by rfl) :
    DS X W ρ (.Assign [.Tuple [.Name x px, .Name y py] kt pt] (.Tuple [a, b] k2 pt2) pos :: rest) P :=
  ds_cons (ps_par hc hN hi hj hij hx hy pa_A hw hs) fun H₀ G₀ G H σ D E S p => h1 H₀ G H σ _ S fun vs G1 H1 e1 r1 => by
    cases r1 with
    | cons r1 rr =>
      cases rr with
      | cons r2 rr =>
        cases rr
        exact ⟨_, _, rfl, h H₀ G₀ G1 H1 _ D (E.step e1) (((S.up e1).set (s := .dat d1) ⟨_, rfl, r1⟩ (fun z => by cases z)).set (s := .dat d2) ⟨_, rfl, r2⟩ (fun z => by cases z)) p⟩
/-- target = e by a target's rule -/
theorem ds_asg {tg : Expr} (he : DE X ρ e d) (hg : DG X tg d ρ ρ') (h : DS X W ρ' rest P) (hs : swapsWithSole [tg] e pos.line X.env = pure false := by rfl) (hw : swappedStores [tg] e X.env = pure none := by rfl)
    (h1 : (assignEach [tg] X.env).map (·.2) = [assign tg X.env] := by rfl) : DS X W ρ (.Assign [tg] e pos :: rest) P :=
  ds_cons (ps_asg pe_D pg_G hs hw h1) fun H₀ G₀ G H σ D E S p => he H₀ G H σ _ S fun v G1 H1 e1 r1 =>
    hg H₀ G1 H1 σ v _ (S.up e1) r1 fun σ' S' => h H₀ G₀ G1 H1 σ' D (E.step e1) S' p
theorem ds_asgX {tg : Expr} {ex : Exn} (he : DX X W ρ e (.exc ex)) (h : P.ex ex ρ) (hs : swapsWithSole [tg] e pos.line X.env = pure false := by rfl) (hw : swappedStores [tg] e X.env = pure none := by rfl)
    (h1 : (assignEach [tg] X.env).map (·.2) = [assign tg X.env] := by rfl) : DS X W ρ (.Assign [tg] e pos :: rest) P :=
  ds_cons (ps_asg pe_D pg_G hs hw h1) fun H₀ G₀ G H σ D E S p => he H₀ G H σ _ S fun c a G1 H1 e1 r1 => p.ex ex ρ σ G1 H1 c a h (E.step e1) (S.up e1) r1
end
end DD
namespace DD
open PySem PySem.Spec PyProof.Rows L2

/-! ### comprehensions -/
def wipeE (ρ : En) : List Nat → En
  | [] => ρ
  | v :: vs => (wipeE ρ vs).set v .un
theorem wipeE_length (ρ : En) : ∀ vs : List Nat, (wipeE ρ vs).length = ρ.length
  | [] => rfl
  | v :: vs => by unfold wipeE; rw [List.length_set, wipeE_length ρ vs]
theorem wipeE_at {ρ : En} {i : Nat} {s : SV} : ∀ {vs : List Nat}, (wipeE ρ vs)[i]? = some s → s = .un ∨ (i ∉ vs ∧ ρ[i]? = some s)
  | [], h => .inr ⟨by simp, h⟩
  | v :: vs, h => by
    unfold wipeE at h
    by_cases hi : v = i
    · subst hi
      by_cases hv : v < (wipeE ρ vs).length
      · rw [List.getElem?_set_self hv] at h; cases h; exact .inl rfl
      · rw [List.getElem?_eq_none (by simpa using hv)] at h; cases h
    · rw [List.getElem?_set_ne hi] at h
      rcases wipeE_at h with z | ⟨z1, z2⟩
      · exact .inl z
      · exact .inr ⟨by simp only [List.mem_cons, not_or]; exact ⟨fun e => hi e.symm, z1⟩, z2⟩
theorem Sat.wipe {H₀ G H : Hp} {σ : L2.St} {ρ : En} (h : Sat H₀ G H σ ρ) (vs : List Nat) : Sat H₀ G H (L2.wipe σ vs) (wipeE ρ vs) := by
  refine ⟨h.sub, by rw [wipe_length, wipeE_length, h.len], fun i s q => ?_, fun i j s t p hij q1 q2 o1 o2 r1 => ?_, h.old⟩
  · rcases wipeE_at q with z | ⟨z1, z2⟩
    · subst z; trivial
    · rw [wipe_out z1]; exact h.slot i s z2
  · rcases wipeE_at q1 with z | ⟨z1, z2⟩
    · subst z; cases o1
    · rcases wipeE_at q2 with w | ⟨w1, w2⟩
      · subst w; cases o2
      · rw [wipe_out z1] at r1
        rw [wipe_out w1]
        exact h.apart i j s t p hij z2 w2 o1 o2 r1
theorem wipe_set {v : Option V} {i : Nat} : ∀ {σ : L2.St} {vs : List Nat}, i ∈ vs → L2.wipe (σ.set i v) vs = L2.wipe σ vs
  | _, [], h => by simp at h
  | σ, w :: vs, h => by
    unfold L2.wipe
    by_cases e : i ∈ vs
    · rw [wipe_set e]
    · have ew : i = w := by
        rcases List.mem_cons.mp h with z | z
        · exact z
        · exact absurd z e
      subst ew
      apply List.ext_getElem?
      intro j
      by_cases hj : i = j
      · subst hj
        rw [List.getElem?_set, List.getElem?_set, wipe_length, wipe_length, List.length_set]
        simp
      · rw [List.getElem?_set_ne hj, List.getElem?_set_ne hj]
        have key : ∀ (us : List Nat) (σ : L2.St), (L2.wipe (σ.set i v) us)[j]? = (L2.wipe σ us)[j]? := by
          intro us
          induction us with
          | nil => intro σ; exact List.getElem?_set_ne hj
          | cons u us ih =>
            intro σ
            unfold L2.wipe
            by_cases hu : u = j
            · subst hu
              rw [List.getElem?_set, List.getElem?_set, wipe_length, wipe_length, List.length_set]
              simp
            · rw [List.getElem?_set_ne hu, List.getElem?_set_ne hu]
              exact ih σ
        exact key vs σ

theorem wipe_none {i : Nat} : ∀ {σ : L2.St} {vs : List Nat}, i ∈ vs → (L2.wipe σ vs)[i]? = if i < σ.length then some none else none
  | _, [], h => by simp at h
  | σ, w :: vs, h => by
    unfold L2.wipe
    by_cases e : w = i
    · subst e
      rw [List.getElem?_set, wipe_length]
      simp
    · rw [List.getElem?_set_ne e]
      rcases List.mem_cons.mp h with z | z
      · exact absurd z.symm e
      · exact wipe_none z
theorem wipe_wipe (σ : L2.St) (vs : List Nat) : L2.wipe (L2.wipe σ vs) vs = L2.wipe σ vs := by
  apply List.ext_getElem?
  intro j
  by_cases h : j ∈ vs
  · rw [wipe_none h, wipe_none h, wipe_length]
  · rw [wipe_out h]
section
variable {X : Cx} {W : WX} {ρ ρ' : En} {e a b c elt tg iter : Expr} {es : List Expr} {d : PyData} {o : Out} {pos : Pos} {P : Post} {rest : List Stmt}
/-- a target within a comprehension -/
def DGc (X : Cx) (tg : Expr) (d : PyData) (ρ ρ' : En) (vs : List Nat) : Prop := ∀ H₀ G H σ v Q, Sat H₀ G H σ ρ → Rp G v d → (∀ σ', Sat H₀ G H σ' ρ' → L2.wipe σ' vs = L2.wipe σ vs → Q σ' H) → tG X tg v σ H Q
theorem dgc_name (i : Nat) {x : Str} {vs : List Nat} (hN : X.N.Nodup) (hm : i ∈ vs := by decide) (hi : X.N[i]? = some x := by rfl) (hx : Loc X.env.scope x := by first | exact Or.inl rfl | exact Or.inr rfl) (hf : X.fn x = true ∨ X.env.scope.names.lookup x = some .local := by first | exact .inl rfl | exact .inr rfl) :
    DGc X (.Name x pos) d ρ (ρ.set i (.dat d)) vs := fun H₀ G H σ v Q S r q pins s u I ru =>
  (pg_name (pos := pos) hN hi hx hf).run pins s σ H v u Q I ru (q _ (S.set ⟨v, rfl, r⟩ (fun z => by cases z)) (wipe_set hm))
theorem dgc_tup2 (i j : Nat) {x y : Str} {k : Nat} {p1 p2 : Pos} {d1 d2 : PyData} {vs : List Nat} (hN : X.N.Nodup) (hc : X.calm = true := by rfl) (hm : i ∈ vs := by decide) (hm2 : j ∈ vs := by decide) (hi : X.N[i]? = some x := by rfl) (hx : Loc X.env.scope x := by first | exact Or.inl rfl | exact Or.inr rfl) (hf : X.fn x = true ∨ X.env.scope.names.lookup x = some .local := by first | exact .inl rfl | exact .inr rfl)
    (hj : X.N[j]? = some y := by rfl) (hy : Loc X.env.scope y := by first | exact Or.inl rfl | exact Or.inr rfl) (hfy : X.fn y = true ∨ X.env.scope.names.lookup y = some .local := by first | exact .inl rfl | exact .inr rfl)
    (hn : (assignEach [.Name x p1, .Name y p2] X.env).length = 2 := by rfl) (hst : (assignEach [.Name x p1, .Name y p2] X.env).findIdx? (·.1) = none := by rfl)
    (hs1 : (assignEach [.Name x p1, .Name y p2] X.env).map (·.2) = assign (.Name x p1) X.env :: (assignEach [.Name y p2] X.env).map (·.2) := by rfl) (hs2 : (assignEach [.Name y p2] X.env).map (·.2) = assign (.Name y p2) X.env :: (assignEach [] X.env).map (·.2) := by rfl) :
    DGc X (.Tuple [.Name x p1, .Name y p2] k pos) (.tuple [d1, d2]) ρ ((ρ.set i (.dat d1)).set j (.dat d2)) vs := fun H₀ G H σ v Q S r q pins s u I ru => by
  refine (pg_tup (pos := pos) (k := k) hc (pgs_cons (pg_name hN hi hx hf) (pgs_cons (pg_name hN hj hy hfy) pgs_nil hs2) hs1) hn hst).run pins s σ H v u Q I ru ?_
  cases r with
  | tup h1 h2 =>
    cases h2 with
    | cons r1 h2 =>
      cases h2 with
      | cons r2 h2 =>
        cases h2
        refine ⟨_, _, rfl, .of (S.sub _ _ h1), rfl, _, _, rfl, _, _, rfl, rfl, ?_⟩
        exact q _ ((S.set (s := .dat d1) ⟨_, rfl, r1⟩ (fun z => by cases z)).set (s := .dat d2) ⟨_, rfl, r2⟩ (fun z => by cases z)) ((wipe_set hm2).trans (wipe_set hm))
/-- the tests of a comprehension -/
def tTs (X : Cx) (ifs : List Expr) : TT := fun σ H Q => ∀ t : TT, PTs X ifs t → ∀ (pins : List (Addr × Obj)) (s : Shared), Inv X pins σ H s → True
def DTs (X : Cx) (ρ : En) (ifs : List Expr) (k : Bool) : Prop := ∃ t, PTs X ifs t ∧ ∀ H₀ G H σ Q, Sat H₀ G H σ ρ → (∀ G' H', Ext G H G' H' → Q k H') → t σ H Q
theorem dts_nil : DTs X ρ [] true := ⟨tYes, pts_nil, fun H₀ G H σ Q S q => q G H (.refl S.sub)⟩
theorem dts_one {k : Bool} (h : DT X ρ c k) : DTs X ρ [c] k := ⟨tT X c, pts_one pt_T, h⟩
end
/-- the tests by what they mean -/
def tts (ifs : List Expr) (X : Cx) : TT := fun σ H Q => ∃ t, PTs X ifs t ∧ t σ H Q
theorem pts_tts {X : Cx} {ifs : List Expr} : PTs X ifs (tts ifs X) := ⟨fun pins s σ H Q I h => let ⟨t, h1, h2⟩ := h; h1.run pins s σ H Q I h2⟩

section
variable {X : Cx} {W : WX} {ρ ρ' : En} {elt tg iter : Expr} {ifs : List Expr} {scope : Scope} {pos : Pos} {P : Post} {rest : List Stmt} {T : Type}
/-- what a comprehension's parts mean in its block, whatever the block's start -/
abbrev tgB (X : Cx) (scope : Scope) (tg : Expr) : TG := fun v σ H Q => ∀ (s' : Shared) (H' : Hp) (C : Addr) (cl : List (Str × Addr)) (fp : List Addr), tG (X.blk s' H' scope (compEnvC scope cl C X.env) fp) tg v σ H Q
abbrev ttB (X : Cx) (scope : Scope) (ifs : List Expr) : TT := fun σ H Q => ∀ (s' : Shared) (H' : Hp) (C : Addr) (cl : List (Str × Addr)) (fp : List Addr), tts ifs (X.blk s' H' scope (compEnvC scope cl C X.env) fp) σ H Q
abbrev teB (X : Cx) (scope : Scope) (elt : Expr) : TE := fun σ H Q => ∀ (s' : Shared) (H' : Hp) (C : Addr) (cl : List (Str × Addr)) (fp : List Addr), tD (X.blk s' H' scope (compEnvC scope cl C X.env) fp) elt σ H Q
theorem lc_read (xs : List T) (enc : T → PyData) (keep : T → Bool) (f : T → PyData) (vs : List Nat) (ρ2 : T → En) (hi : DI X ρ tg iter (xs.map enc))
    (hg : ∀ s H C cl fp x, x ∈ xs → DGc (X.blk s H scope (compEnvC scope cl C X.env) fp) tg (enc x) (wipeE ρ vs) (ρ2 x) vs)
    (ht : ∀ s H C cl fp x, x ∈ xs → DTs (X.blk s H scope (compEnvC scope cl C X.env) fp) (ρ2 x) ifs (keep x))
    (he : ∀ s H C cl fp x, x ∈ xs → keep x = true → DE (X.blk s H scope (compEnvC scope cl C X.env) fp) (ρ2 x) elt (f x)) (hl : xs.length < sizeLine)
    (H₀ G H : Hp) (σ : L2.St) (Q : VK) (S : Sat H₀ G H σ ρ) (q : ∀ p vs G' H', Ext G H G' H' → H p = none → G' p = none → H' p = some (.lst vs) → RpA G' vs ((xs.filter keep).map f) → Q (.ref p) H') :
    tLc (tI X tg iter) (tgB X scope tg) (ttB X scope ifs) (teB X scope elt) vs σ H Q := by
  refine hi H₀ G H σ _ S fun J G1 H1 e1 src Dl hD => ?_
  have gD : G1 Dl = none := free_back e1.gh hD
  have hD0 : H Dl = none := free_back e1.hh hD
  refine ⟨fun i m H' => m = xs.length - i ∧ i ≤ xs.length ∧ ∃ G' ws, Ext G1 H1 G' H' ∧ G' Dl = none ∧ H' Dl = some (.lst ws) ∧ RpA G' ws (((xs.take i).filter keep).map f), ⟨xs.length, by simp, Nat.zero_le _, G1, [], ?_, gD, upd_same, by simpa using RpA.nil⟩, ?_⟩
  · exact ⟨.refl _, fun a u k => by rw [upd_ne (ne_of_none k hD)]; exact k, fun a u k => by rw [upd_ne (ne_of_none k gD)]; exact e1.gh a u k, fun a u k => .inl k⟩
  · rintro i m H' ⟨rfl, hil, G', ws, E', gd, hd, rw'⟩
    by_cases hlt : i < xs.length
    · refine .inr ⟨src.go i G' H' E'.gg E'.gh (by rw [List.length_map]; exact hlt), fun H2 => i + 1 ≤ xs.length ∧ ∃ G2 ws2, Ext G1 H1 G2 H2 ∧ G2 Dl = none ∧ H2 Dl = some (.lst ws2) ∧ RpA G2 ws2 (((xs.take (i + 1)).filter keep).map f), fun H2 ⟨a0, a⟩ => ⟨xs.length - (i + 1), by omega, rfl, a0, a⟩, fun x H2 y => ?_⟩
      have hx : xs[i]? = some xs[i] := List.getElem?_eq_getElem hlt
      have hmem : xs[i] ∈ xs := List.getElem_mem hlt
      have hxd : (xs.map enc)[i]? = some (enc xs[i]) := by rw [List.getElem?_map, hx]; rfl
      obtain ⟨G2, e2, r2⟩ := src.yld i G' H' x H2 _ E'.gg E'.gh hxd y
      have S2 : Sat H₀ G2 H2 (L2.wipe σ vs) (wipeE ρ vs) := by
        have a1 := (S.up e1).wipe vs
        exact (a1.up (E'.trans e2))
      have gd2 : G2 Dl = none := by
        cases z : G2 Dl with
        | none => rfl
        | some u =>
          rcases e2.nw _ _ z with w | w
          · rw [gd] at w; cases w
          · rw [hd] at w; cases w
      have hd2 : H2 Dl = some (.lst ws) := e2.hh _ _ hd
      intro s' Hs C cl fp
      refine hg s' Hs C cl fp _ hmem H₀ G2 H2 _ x _ S2 r2 fun σ3 S3 w3 => ⟨w3.trans (wipe_wipe σ vs), ?_⟩
      intro s' Hs C cl fp
      obtain ⟨t, pt, rt⟩ := ht s' Hs C cl fp _ hmem
      refine ⟨t, pt, rt H₀ G2 H2 σ3 _ S3 fun G3 H3 e3 => ?_⟩
      have E3 : Ext G1 H1 G3 H3 := (E'.trans e2).trans e3
      have gd3 : G3 Dl = none := by
        cases z : G3 Dl with
        | none => rfl
        | some u =>
          rcases e3.nw _ _ z with w | w
          · rw [gd2] at w; cases w
          · rw [hd2] at w; cases w
      have hd3 : H3 Dl = some (.lst ws) := e3.hh _ _ hd2
      have tk : xs.take (i + 1) = xs.take i ++ [xs[i]] := by rw [List.take_add_one, hx]; rfl
      cases hk : keep xs[i] with
      | false =>
        rw [if_neg Bool.false_ne_true]
        refine ⟨hlt, G3, ws, E3, gd3, hd3, ?_⟩
        rw [tk, List.filter_append, List.filter_cons, if_neg (by rw [hk]; exact Bool.false_ne_true)]
        simp only [List.filter_nil, List.append_nil]
        exact rw'.up (e2.gg.trans e3.gg)
      | true =>
        rw [if_pos rfl]
        intro s' Hs C cl fp
        refine he s' Hs C cl fp _ hmem hk H₀ G3 H3 σ3 _ (S3.up e3) fun v G4 H4 e4 r4 => ?_
        have gd4 : G4 Dl = none := by
          cases z : G4 Dl with
          | none => rfl
          | some u =>
            rcases e4.nw _ _ z with w | w
            · rw [gd3] at w; cases w
            · rw [hd3] at w; cases w
        have hd4 : H4 Dl = some (.lst ws) := e4.hh _ _ hd3
        have hlen : ws.length ≤ i := by
          rw [rw'.length, List.length_map]
          exact Nat.le_trans (List.length_filter_le _ _) (by rw [List.length_take]; exact Nat.min_le_left _ _)
        refine ⟨ws, hd4, by omega, hlt, G4, ws ++ [v], ?_, gd4, upd_same, ?_⟩
        · have E4 := E3.trans e4
          exact ⟨E4.gg, fun a u k => by rw [upd_ne (ne_of_none k hD)]; exact E4.hh a u k, fun a u k => by rw [upd_ne (ne_of_none k gd4)]; exact E4.gh a u k, E4.nw⟩
        · rw [tk, List.filter_append, List.filter_cons, if_pos hk, List.filter_nil, List.map_append]
          exact (rw'.up ((e2.gg.trans e3.gg).trans e4.gg)).append (.cons r4 .nil)
    · have ei : i = xs.length := by omega
      subst ei
      refine .inl ⟨src.stop _ G' H' E'.gg E'.gh (by rw [List.length_map]; exact Nat.le_refl _), ?_⟩
      rw [List.take_length] at rw'
      exact q Dl ws G' H' (e1.trans E') hD0 gd hd rw'
theorem dl_lc (xs : List T) (enc : T → PyData) (keep : T → Bool) (f : T → PyData) (own : List (Str × Nat)) (ρ2 : T → En) (hi : DI X ρ tg iter (xs.map enc)) (hN : X.N.Nodup) (ok : BlkOk X.N X.env.scope scope own)
    (hg : ∀ s H C cl fp x, x ∈ xs → DGc (X.blk s H scope (compEnvC scope cl C X.env) fp) tg (enc x) (wipeE ρ (own.map (·.2))) (ρ2 x) (own.map (·.2)))
    (ht : ∀ s H C cl fp x, x ∈ xs → DTs (X.blk s H scope (compEnvC scope cl C X.env) fp) (ρ2 x) ifs (keep x))
    (he : ∀ s H C cl fp x, x ∈ xs → keep x = true → DE (X.blk s H scope (compEnvC scope cl C X.env) fp) (ρ2 x) elt (f x)) (hl : xs.length < sizeLine) (hc : X.calm = true := by rfl)
    (hs : ∀ x, foldedSetIterable iter X.env x = pure x := by intro _; rfl) : DL X ρ (.ListComp elt [⟨tg, iter, ifs, 0⟩] scope pos) ((xs.filter keep).map f) := fun H₀ G H σ Q S q pins s I =>
  (pe_lc (pos := pos) hc hN pi_I ok (fun s' H' C cl fp => ⟨fun pins s σ H v u Q I r h => h s' H' C cl fp pins s u I r⟩) (fun s' H' C cl fp => ⟨fun pins s σ H Q I h => pts_tts.run pins s σ H Q I (h s' H' C cl fp)⟩) (fun s' H' C cl fp => ⟨fun pins s σ H Q I h => h s' H' C cl fp pins s I⟩) hs).run pins s σ H Q I
    (lc_read xs enc keep f _ ρ2 hi hg ht he hl H₀ G H σ Q S q)
/-- name = [..] -/
theorem ds_setLcO (i : Nat) {y : Str} {py : Pos} (xs : List T) (enc : T → PyData) (keep : T → Bool) (f : T → PyData) (own : List (Str × Nat)) (ρ2 : T → En) {spos : Pos} (hi : DI X ρ tg iter (xs.map enc)) (hN : X.N.Nodup) (ok : BlkOk X.N X.env.scope scope own)
    (hg : ∀ s H C cl fp x, x ∈ xs → DGc (X.blk s H scope (compEnvC scope cl C X.env) fp) tg (enc x) (wipeE ρ (own.map (·.2))) (ρ2 x) (own.map (·.2)))
    (ht : ∀ s H C cl fp x, x ∈ xs → DTs (X.blk s H scope (compEnvC scope cl C X.env) fp) (ρ2 x) ifs (keep x))
    (he : ∀ s H C cl fp x, x ∈ xs → keep x = true → DE (X.blk s H scope (compEnvC scope cl C X.env) fp) (ρ2 x) elt (f x)) (hl : xs.length < sizeLine)
    (h : DS X W (ρ.set i (.own ((xs.filter keep).map f))) rest P)
    (hsw : swapsWith (.ListComp elt [⟨tg, iter, ifs, 0⟩] scope pos) (some (.Name y py)) spos.line X.env = pure true := by exact sw_true rfl rfl rfl (by decide +kernel)) (hy : X.N[i]? = some y := by rfl) (hyl : X.env.scope.names.lookup y = some .local := by rfl) (hc : X.calm = true := by rfl)
    (hs : ∀ x, foldedSetIterable iter X.env x = pure x := by intro _; rfl) : DS X W ρ (.Assign [.Name y py] (.ListComp elt [⟨tg, iter, ifs, 0⟩] scope pos) spos :: rest) P :=
  ds_cons (ps_setLc hc hN hy hyl hsw pi_I ok (fun s' H' C cl fp => ⟨fun pins s σ H v u Q I r h => h s' H' C cl fp pins s u I r⟩) (fun s' H' C cl fp => ⟨fun pins s σ H Q I h => pts_tts.run pins s σ H Q I (h s' H' C cl fp)⟩) (fun s' H' C cl fp => ⟨fun pins s σ H Q I h => h s' H' C cl fp pins s I⟩) hs)
    fun H₀ G₀ G H σ D E S p => lc_read xs enc keep f _ ρ2 hi hg ht he hl H₀ G H σ _ S fun q vs G1 H1 e1 hp gp hh r1 =>
      h H₀ G₀ G1 H1 _ D (E.step e1) ((S.up e1).set ⟨q, vs, rfl, free_back E.hh hp, gp, hh, r1⟩ (fun _ j t hj ht ho hq => by
        cases t with
        | own es =>
          obtain ⟨p', vs', e', _, _, hh', _⟩ := S.slot j _ ht
          rw [hq] at e'
          injection e' with e'; injection e' with e'; injection e' with e'
          subst e'
          rw [hp] at hh'; cases hh'
        | _ => cases ho)) p
end

/-! ### calls of defs -/
def spD (S : List PyData → Out → Prop) : Sp := fun vs H Q E => ∃ G ds o, Sub G H ∧ RpA G vs ds ∧ S ds o ∧
  match o with
  | .ret d => Res G H d Q
  | .exc x => ∀ c a G' H', Ext G H G' H' → ExcAt G' H' x c a → E c a H'
/-- a def of the module, at a level, by what it does with data -/
def FnIn (P : Program) (w : World) (K : PySem.W.Frag) (mg : Str → Option Value) (base : Heap) (k : Nat) (name : Str) (S : List PyData → Out → Prop) : Prop :=
  ∃ (f : Addr) (fd : FuncData) (ps : List Str), FnOk P w K mg base (L2.CX P w) k f fd ps (spD S) ∧ mg name = some (.ref f) ∧ PySem.W.keepIn K (.ref f) = true ∧ Binds K fd ps []
theorem FnIn.imp {P : Program} {w : World} {K : PySem.W.Frag} {mg : Str → Option Value} {base : Heap} {k : Nat} {name : Str} {S S' : List PyData → Out → Prop} (F : FnIn P w K mg base k name S) (h : ∀ ds o, S' ds o → S ds o) : FnIn P w K mg base k name S' :=
  let ⟨f, fd, ps, a, b⟩ := F
  ⟨f, fd, ps, a.imp fun vs H Q E ⟨G, ds, o, x, y, z, q⟩ => ⟨G, ds, o, x, y, h _ _ z, q⟩, b⟩
section
variable {X : Cx} {W : WX} {ρ : En} {e : Expr} {es : List Expr} {d : PyData} {ds : List PyData} {o : Out} {pos p : Pos} {k : Nat} {name : Str} {S : List PyData → Out → Prop}
theorem dx_call (F : FnIn X.prog X.w X.K X.mg X.base k name S) (hr : Room k X.A) (tk : Takes X W) (ha : DA X ρ (e :: es) ds) (hS : S ds o) (hg : Gl X name := by rfl) (hdb : (name == ("__debug__" : Str)) = false := by decide)
    (he : starEach (e :: es) X.env = (false, eval e X.env) :: starEach es X.env := by rfl) (hpl : (backTo pos (starEach es X.env)).any (·.1) = false := by rfl) : DX X W ρ (.Call (.Name name p) (e :: es) [] pos) o := by
  obtain ⟨f, fd, ps, F, hm, hk, hb⟩ := F
  refine dx_of (pe_callS F hr hg hm hk hb (fun σ => passAt tk σ) pa_A hdb he hpl) fun H₀ G H σ Q St q => ?_
  refine ha H₀ G H σ _ St fun vs G1 H1 e1 r1 => ⟨G1, ds, o, e1.gh, r1, hS, ?_⟩
  cases o with
  | ret d => exact Res.back q e1
  | exc x => exact fun c a G' H' e2 x2 => q c a G' H' (e1.trans e2) x2
theorem de_call (F : FnIn X.prog X.w X.K X.mg X.base k name S) (hr : Room k X.A) (ha : DA X ρ (e :: es) ds) (hS : S ds (.ret d)) (hg : Gl X name := by rfl) (hdb : (name == ("__debug__" : Str)) = false := by decide)
    (he : starEach (e :: es) X.env = (false, eval e X.env) :: starEach es X.env := by rfl) (hpl : (backTo pos (starEach es X.env)).any (·.1) = false := by rfl) : DE X ρ (.Call (.Name name p) (e :: es) [] pos) d := by
  obtain ⟨f, fd, ps, F, hm, hk, hb⟩ := F
  refine de_of (pe_call F hr hg hm hk hb .nil passL pa_A hdb he hpl) fun H₀ G H σ Q St q => ?_
  refine ha H₀ G H σ _ St fun vs G1 H1 e1 r1 => ?_
  show spD S (vs ++ []) H1 Q E0
  rw [List.append_nil]
  exact ⟨G1, ds, _, e1.gh, r1, hS, Res.back q e1⟩
end

/-! ### a def's own proof -/
def PostO (o : Out) : Post := { nx := fun _ => o = .ret .none, rt := fun d => o = .ret d, ex := fun x _ => o = .exc x }
theorem start_at {N : List Str} {vs : List V} {ds : List PyData} {G : Hp} (r : RpA G vs ds) (hl : vs.length ≤ N.length) : (L2.start N vs).length = (ds.map SV.dat ++ List.replicate (N.length - ds.length) SV.un).length := by
  unfold L2.start
  rw [List.length_append, List.length_append, List.length_map, List.length_map, List.length_replicate, List.length_replicate, r.length]
theorem start_sat {N : List Str} {vs : List V} {ds : List PyData} {G H : Hp} (s : Sub G H) (r : RpA G vs ds) (hl : vs.length ≤ N.length) : Sat H G H (L2.start N vs) (ds.map SV.dat ++ List.replicate (N.length - ds.length) SV.un) := by
  have key : ∀ (i : Nat) (s : SV), (ds.map SV.dat ++ List.replicate (N.length - ds.length) SV.un)[i]? = some s → s = .un ∨ ∃ d, s = .dat d ∧ ds[i]? = some d := by
    intro i s q
    by_cases hi : i < ds.length
    · rw [List.getElem?_append_left (by rw [List.length_map]; exact hi), List.getElem?_map] at q
      cases z : ds[i]? with
      | none => rw [z] at q; cases q
      | some d => rw [z] at q; cases q; exact .inr ⟨d, rfl, rfl⟩
    · rw [List.getElem?_append_right (by rw [List.length_map]; omega)] at q
      have := List.mem_of_getElem? q
      exact .inl (List.eq_of_mem_replicate this)
  refine ⟨s, start_at r hl, fun i s q => ?_, fun i j s t p hij q1 q2 o1 o2 r1 => ?_, .refl _⟩
  · rcases key i s q with z | ⟨d, z, hd⟩
    · subst z; trivial
    · subst z
      obtain ⟨v, hv, rv⟩ := r.get hd
      refine ⟨v, ?_, rv⟩
      have hi : i < vs.length := (List.getElem?_eq_some_iff.mp hv).1
      unfold L2.start
      rw [List.getElem?_append_left (by rw [List.length_map]; exact hi), List.getElem?_map, hv]
      rfl
  · rcases key i s q1 with z | ⟨d, z, _⟩ <;> (subst z; cases o1)
theorem fn_ok {P : Program} {w : World} {K : PySem.W.Frag} {mg : Str → Option Value} {base : Heap} {x qual : Str} {st : Stmt} {f : Addr} {fd : FuncData} {N ps : List Str} {k : Nat} {S : List PyData → Out → Prop} (F : Fun K x qual st f fd) (SC : FnScope N ps (defScope st))
    (hlen : ∀ ds o, S ds o → ds.length = ps.length) (hps : ps.length ≤ N.length)
    (hbody : ∀ (cdv : Value) (A : Around) (outer : List Env) (s : Shared) (H : Hp) (E : XK) (ds : List PyData) (o : Out), Room k (A.deeper (envOfC qual (defScope st) s.heap.objs.size f cdv)) → S ds o →
      Takes (cxOf (L2.CX P w) P w K mg base N qual (defScope st) f cdv A outer s H E) (fun c a _ H => E c a H) →
      DS (cxOf (L2.CX P w) P w K mg base N qual (defScope st) f cdv A outer s H E) (fun c a _ H => E c a H) (ds.map SV.dat ++ List.replicate (N.length - ps.length) SV.un) (defBody st) (PostO o)) : FnOk P w K mg base (L2.CX P w) (k + 1) f fd ps (spD S) := by
  refine F.okX SC (fun vs H Q E ⟨G, ds, o, s, r, hS, _⟩ => by rw [r.length]; exact hlen ds o hS) fun cdv A outer s H vs Q E hr ⟨G, ds, o, sb, r, hS, q⟩ => ?_
  refine ⟨_, pss_S, ?_⟩
  have hl := hlen ds o hS
  have tk : Takes (cxOf (L2.CX P w) P w K mg base N qual (defScope st) f cdv A outer s H E) (fun c a _ H => E c a H) := takes_of rfl rfl rfl rfl
  have S0 := start_sat (N := N) sb r (by rw [r.length, hl]; exact hps)
  rw [hl] at S0
  refine hbody cdv A outer s H E ds o hr hS tk H G G H _ _ (.refl sb) S0 ⟨fun ρ σ G' H' z e' _ => ?_, fun d v G' H' z e' rv => ?_, fun ρ σ G' H' z => z.elim, fun ρ σ G' H' z => z.elim, fun x ρ σ G' H' c a z e' _ ea => ?_⟩
  · have z : o = .ret .none := z
    subst z
    exact q _ G' H' e' .non
  · have z : o = .ret d := z
    subst z
    exact q _ G' H' e' rv
  · have z : o = .exc x := z
    subst z
    exact q c a G' H' e' ea
/-- .. whose first argument is the script -/
def spP (K : PySem.W.Frag) (S : List Int → List PyData → Out → Prop) : Sp := fun vs H Q E => ∃ (a : Addr) (ns : List Int) (vs' : List V) (G : Hp) (ds : List PyData) (o : Out), vs = .ref a :: vs' ∧ SqL K H a (ns.map V.int) ∧ Sub G H ∧ RpA G vs' ds ∧ S ns ds o ∧
  match o with
  | .ret d => Res G H d Q
  | .exc x => ∀ c a G' H', Ext G H G' H' → ExcAt G' H' x c a → E c a H'
theorem sq_up {K : PySem.W.Frag} {a : Addr} {vs : List V} (H H' : Hp) (s : Sub H H') (h : SqL K H a vs) : SqL K H' a vs := by
  rcases h with (h | ⟨o, h⟩) | h
  · exact .inl (.inl (s _ _ h))
  · exact .inl (.inr ⟨o, s _ _ h⟩)
  · exact .inr h
/-- the script at a slot -/
abbrev SV.scr (K : PySem.W.Frag) (a : Addr) (ns : List Int) : SV := .pin (.ref a) (fun H => SqL K H a (ns.map V.int)) (fun H H' s h => sq_up H H' s h)
theorem fnP_ok {P : Program} {w : World} {K : PySem.W.Frag} {mg : Str → Option Value} {base : Heap} {x qual : Str} {st : Stmt} {f : Addr} {fd : FuncData} {N ps : List Str} {k : Nat} {S : List Int → List PyData → Out → Prop} (F : Fun K x qual st f fd) (SC : FnScope N ps (defScope st))
    (hlen : ∀ ns ds o, S ns ds o → ds.length + 1 = ps.length) (hps : ps.length ≤ N.length)
    (hbody : ∀ (cdv : Value) (A : Around) (outer : List Env) (s : Shared) (H : Hp) (E : XK) (a : Addr) (ns : List Int) (ds : List PyData) (o : Out), Room k (A.deeper (envOfC qual (defScope st) s.heap.objs.size f cdv)) → S ns ds o →
      Takes (cxOf (L2.CX P w) P w K mg base N qual (defScope st) f cdv A outer s H E) (fun c a _ H => E c a H) →
      DS (cxOf (L2.CX P w) P w K mg base N qual (defScope st) f cdv A outer s H E) (fun c a _ H => E c a H) (SV.scr K a ns :: (ds.map SV.dat ++ List.replicate (N.length - ps.length) SV.un)) (defBody st) (PostO o)) : FnOk P w K mg base (L2.CX P w) (k + 1) f fd ps (spP K S) := by
  refine F.okX SC (fun vs H Q E ⟨a, ns, vs', G, ds, o, e, _, s, r, hS, _⟩ => by rw [e, List.length_cons, r.length]; exact hlen ns ds o hS) fun cdv A outer s H vs Q E hr ⟨a, ns, vs', G, ds, o, e, hq, sb, r, hS, q⟩ => ?_
  subst e
  refine ⟨_, pss_S, ?_⟩
  have hl := hlen ns ds o hS
  have tk : Takes (cxOf (L2.CX P w) P w K mg base N qual (defScope st) f cdv A outer s H E) (fun c a _ H => E c a H) := takes_of rfl rfl rfl rfl
  have hl2 := r.length
  have S0 : Sat H G H (L2.start N (.ref a :: vs')) (SV.scr K a ns :: (ds.map SV.dat ++ List.replicate (N.length - ps.length) SV.un)) := by
    have e1 : L2.start N (.ref a :: vs') = some (.ref a) :: L2.start (List.replicate (N.length - 1) "") vs' := by
      unfold L2.start
      rw [List.map_cons, List.length_replicate, List.length_cons, List.cons_append]
      congr 3
      omega
    have T := start_sat (N := List.replicate (N.length - 1) "") sb r (by rw [List.length_replicate]; omega)
    rw [List.length_replicate, show N.length - 1 - ds.length = N.length - ps.length by omega] at T
    rw [e1]
    refine ⟨sb, by rw [List.length_cons, List.length_cons, T.len], fun i s q => ?_, fun i j s t p hij q1 q2 o1 o2 r1 => ?_, .refl _⟩
    · cases i with
      | zero => cases q; exact ⟨rfl, hq⟩
      | succ i => exact T.slot i s q
    · cases i with
      | zero => cases q1; cases o1
      | succ i =>
        cases j with
        | zero => cases q2; cases o2
        | succ j => exact T.apart i j s t p (by omega) q1 q2 o1 o2 r1
  refine hbody cdv A outer s H E a ns ds o hr hS tk H G G H _ _ (.refl sb) S0 ⟨fun ρ σ G' H' z e' _ => ?_, fun d v G' H' z e' rv => ?_, fun ρ σ G' H' z => z.elim, fun ρ σ G' H' z => z.elim, fun x ρ σ G' H' c a z e' _ ea => ?_⟩
  · have z : o = .ret .none := z
    subst z
    exact q _ G' H' e' .non
  · have z : o = .ret d := z
    subst z
    exact q _ G' H' e' rv
  · have z : o = .exc x := z
    subst z
    exact q c a G' H' e' ea
def FnInP (P : Program) (w : World) (K : PySem.W.Frag) (mg : Str → Option Value) (base : Heap) (k : Nat) (name : Str) (S : List Int → List PyData → Out → Prop) : Prop :=
  ∃ (f : Addr) (fd : FuncData) (ps : List Str), FnOk P w K mg base (L2.CX P w) k f fd ps (spP K S) ∧ mg name = some (.ref f) ∧ PySem.W.keepIn K (.ref f) = true ∧ Binds K fd ps []
section
variable {X : Cx} {W : WX} {ρ : En} {e : Expr} {es : List Expr} {d : PyData} {ds : List PyData} {o : Out} {pos p px : Pos} {k : Nat} {name : Str} {S : List Int → List PyData → Out → Prop}
/-- f(script, ..) -/
theorem de_callP {i : Nat} {x : Str} {a : Addr} {ns : List Int} (F : FnInP X.prog X.w X.K X.mg X.base k name S) (hr : Room k X.A) (hρ : ρ[i]? = some (SV.scr X.K a ns)) (ha : DA X ρ es ds) (hS : S ns ds (.ret d)) (hN : X.N[i]? = some x := by rfl)
    (hv : Vis X.env.scope x := by first | exact Or.inl rfl | exact Or.inr (Or.inl rfl) | exact Or.inr (Or.inr rfl)) (hd : (x == ("__debug__" : Str)) = false := by decide) (hcd : (x == ("__classdict__" : Str)) = false := by decide) (hg : Gl X name := by rfl) (hdb : (name == ("__debug__" : Str)) = false := by decide)
    (he : starEach (.Name x px :: es) X.env = (false, eval (.Name x px) X.env) :: starEach es X.env := by rfl) (hpl : (backTo pos (starEach es X.env)).any (·.1) = false := by rfl) : DE X ρ (.Call (.Name name p) (.Name x px :: es) [] pos) d := by
  obtain ⟨f, fd, ps, F, hm, hk, hb⟩ := F
  refine de_of (pe_call F hr hg hm hk hb .nil passL (pa_cons (pe_var hN hv hd hcd) pa_A he) hdb he hpl) fun H₀ G H σ Q St q => ?_
  obtain ⟨e0, hφ⟩ := St.slot i _ hρ
  refine ⟨.ref a, e0, ha H₀ G H σ _ St fun vs G1 H1 e1 r1 => ?_⟩
  show spP X.K S ((.ref a :: vs) ++ []) H1 Q E0
  rw [List.append_nil]
  exact ⟨a, ns, vs, G1, ds, _, rfl, sq_up _ _ (St.old.trans e1.hh) hφ, e1.gh, r1, hS, Res.back q e1⟩
/-- len(script), script[i] -/
theorem de_lenP {i : Nat} {x : Str} {a : Addr} {ns : List Int} (hm : X.mg "len" = none) (hρ : ρ[i]? = some (SV.scr X.K a ns)) (hN : X.N[i]? = some x := by rfl)
    (hv : Vis X.env.scope x := by first | exact Or.inl rfl | exact Or.inr (Or.inl rfl) | exact Or.inr (Or.inr rfl)) (hd : (x == ("__debug__" : Str)) = false := by decide) (hcd : (x == ("__classdict__" : Str)) = false := by decide) (hg : Gl X "len" := by rfl)
    (he : starEach [.Name x px] X.env = (false, eval (.Name x px) X.env) :: starEach [] X.env := by rfl) (hpl : (backTo pos (starEach ([] : List Expr) X.env)).any (·.1) = false := by rfl) : DE X ρ (.Call (.Name "len" p) [.Name x px] [] pos) (.int (ns.length : Int)) :=
  de_of (pe_callB call_len hg hm PySem.boot_len (pa_cons (pe_var hN hv hd hcd) pa_nil he) (by decide) (by decide) he hpl) fun H₀ G H σ Q St q => by
    obtain ⟨e0, hφ⟩ := St.slot i _ hρ
    exact ⟨.ref a, e0, .ref a, ns.length, rfl, .inl ⟨_, sq_up _ _ St.old hφ, by rw [List.length_map]⟩, q.of St.sub (.int _)⟩
theorem de_ixP {i : Nat} {b : Expr} {x : Str} {a : Addr} {ns : List Int} {j : Int} {z : Int} (hρ : ρ[i]? = some (SV.scr X.K a ns)) (hb : DE X ρ b (.int j)) (h : atI ns j = some z) (hN : X.N[i]? = some x := by rfl)
    (hv : Vis X.env.scope x := by first | exact Or.inl rfl | exact Or.inr (Or.inl rfl) | exact Or.inr (Or.inr rfl)) (hs : PlainIx b := by exact fun _ _ => rfl) (hd : (x == ("__debug__" : Str)) = false := by decide) (hcd : (x == ("__classdict__" : Str)) = false := by decide) :
    DE X ρ (.Subscript (.Name x px) b pos) (.int z) :=
  de_of (pe_ix ix_list (pe_var hN hv hd hcd) pe_D hs) fun H₀ G H σ Q St q => by
    obtain ⟨e0, hφ⟩ := St.slot i _ hρ
    refine ⟨.ref a, e0, hb H₀ G H σ _ St fun u G2 H2 e2 r2 => ?_⟩
    cases r2
    refine ⟨a, _, j, .int z, rfl, rfl, sq_up _ _ (St.old.trans e2.hh) hφ, ?_, (q.back e2).of e2.gh (.int z)⟩
    unfold atI at h ⊢
    rw [List.length_map]
    cases qq : ixN ns.length j with
    | none => rw [qq] at h; cases h
    | some k =>
      rw [qq] at h
      show (ns.map V.int)[k]? = some (V.int z)
      rw [List.getElem?_map, show ns[k]? = some z from h]
      rfl
end
theorem fn_in {P : Program} {w : World} {K : PySem.W.Frag} {mg : Str → Option Value} {base : Heap} {x qual name : Str} {st : Stmt} {f : Addr} {fd : FuncData} {ps : List Str} {k : Nat} {S : List PyData → Out → Prop} (F : Fun K x qual st f fd) (hm : mg name = some (.ref f)) (hb : Binds K fd ps [])
    (h : FnOk P w K mg base (L2.CX P w) k f fd ps (spD S)) : FnIn P w K mg base k name S := ⟨f, fd, ps, h, hm, F.kp, hb⟩
end DD
namespace DD
open PySem PySem.Spec PyProof.Rows L2

section
variable {X : Cx} {W : WX} {ρ : En} {e a b c : Expr} {es : List Expr} {d d1 d2 z : PyData} {ds : List PyData} {o : Out} {pos p : Pos} {P : Post} {rest : List Stmt}

/-! ### builtins called by name, by what they do with data -/
def CRD (r : List V → Hp → VK → Prop) (ds : List PyData) (z : PyData) : Prop := ∀ G H vs Q, Sub G H → RpA G vs ds → Res G H z Q → r vs H Q
theorem de_callB {x : Str} {id : String} {r : List V → Hp → VK → Prop} (hc : CallR X (.builtin id) r) (hr : CRD r ds z) (hm : X.mg x = none) (hv : bootBuiltins x = some (.builtin id)) (ha : DA X ρ (e :: es) ds) (hg : Gl X x := by rfl) (hn : x ≠ "__name__" := by decide) (hdb : (x == ("__debug__" : Str)) = false := by decide)
    (he : starEach (e :: es) X.env = (false, eval e X.env) :: starEach es X.env := by rfl) (hpl : (backTo pos (starEach es X.env)).any (·.1) = false := by rfl) : DE X ρ (.Call (.Name x p) (e :: es) [] pos) z :=
  de_of (pe_callB hc hg hm hv pa_A hn hdb he hpl) fun H₀ G H σ Q S q => ha H₀ G H σ _ S fun vs G1 H1 e1 r1 => hr G1 H1 vs Q e1.gh r1 (q.back e1)
theorem de_callTy {x : Str} {T : String} {r : List V → Hp → VK → Prop} (hc : CallR X (.type T) r) (hr : CRD r ds z) (hm : X.mg x = none) (hv : bootBuiltins x = some (.type T)) (ha : DA X ρ (e :: es) ds) (hg : Gl X x := by rfl) (hn : x ≠ "__name__" := by decide) (hdb : (x == ("__debug__" : Str)) = false := by decide)
    (he : starEach (e :: es) X.env = (false, eval e X.env) :: starEach es X.env := by rfl) (hpl : (backTo pos (starEach es X.env)).any (·.1) = false := by rfl) : DE X ρ (.Call (.Name x p) (e :: es) [] pos) z :=
  de_of (pe_callTy hc hg hm hv pa_A hn hdb he hpl) fun H₀ G H σ Q S q => ha H₀ G H σ _ S fun vs G1 H1 e1 r1 => hr G1 H1 vs Q e1.gh r1 (q.back e1)
theorem cr_len_list : CRD (fun xs H Q => ∃ x n, xs = [x] ∧ LenV X.K x H n ∧ Q (.int n) H) [.list ds] (.int (ds.length : Int)) := fun G H vs Q s r q => by
  cases r with
  | cons r1 rr =>
    cases rr
    cases r1 with
    | lst h1 h2 => exact ⟨_, ds.length, rfl, .inl ⟨_, .of (s _ _ h1), h2.length.symm⟩, q.of s (.int _)⟩
theorem cr_len_tup : CRD (fun xs H Q => ∃ x n, xs = [x] ∧ LenV X.K x H n ∧ Q (.int n) H) [.tuple ds] (.int (ds.length : Int)) := fun G H vs Q s r q => by
  cases r with
  | cons r1 rr =>
    cases rr
    cases r1 with
    | tup h1 h2 => exact ⟨_, ds.length, rfl, .inr ⟨_, .of (s _ _ h1), h2.length.symm⟩, q.of s (.int _)⟩
theorem cr_len_str {x : Str} (hz : x.length ≤ sizeLine) : CRD (fun xs H Q => ∃ x n, xs = [x] ∧ LenV X.K x H n ∧ Q (.int n) H) [.str x] (.int (x.length : Int)) := fun G H vs Q s r q => by
  cases r with
  | cons r1 rr =>
    cases rr
    cases r1
    exact ⟨_, x.length, rfl, ⟨hz, rfl⟩, q.of s (.int _)⟩
theorem de_lenL (hm : X.mg "len" = none) (ha : DE X ρ e (.list ds)) (hg : Gl X "len" := by rfl) (he : starEach [e] X.env = (false, eval e X.env) :: starEach [] X.env := by rfl) (hpl : (backTo pos (starEach ([] : List Expr) X.env)).any (·.1) = false := by rfl) : DE X ρ (.Call (.Name "len" p) [e] [] pos) (.int (ds.length : Int)) :=
  de_callB call_len cr_len_list hm PySem.boot_len (da_cons ha da_nil he) hg (by decide) (by decide) he hpl
theorem de_lenT (hm : X.mg "len" = none) (ha : DE X ρ e (.tuple ds)) (hg : Gl X "len" := by rfl) (he : starEach [e] X.env = (false, eval e X.env) :: starEach [] X.env := by rfl) (hpl : (backTo pos (starEach ([] : List Expr) X.env)).any (·.1) = false := by rfl) : DE X ρ (.Call (.Name "len" p) [e] [] pos) (.int (ds.length : Int)) :=
  de_callB call_len cr_len_tup hm PySem.boot_len (da_cons ha da_nil he) hg (by decide) (by decide) he hpl
theorem de_lenS {x : Str} (hm : X.mg "len" = none) (ha : DE X ρ e (.str x)) (hz : x.length ≤ sizeLine) (hg : Gl X "len" := by rfl) (he : starEach [e] X.env = (false, eval e X.env) :: starEach [] X.env := by rfl) (hpl : (backTo pos (starEach ([] : List Expr) X.env)).any (·.1) = false := by rfl) : DE X ρ (.Call (.Name "len" p) [e] [] pos) (.int (x.length : Int)) :=
  de_callB call_len (cr_len_str hz) hm PySem.boot_len (da_cons ha da_nil he) hg (by decide) (by decide) he hpl

/-- isinstance with a built-in type -/
def tyD : PyData → String
  | .none => "NoneType"
  | .bool _ => "bool"
  | .int _ => "int"
  | .str _ => "str"
  | .list _ => "list"
  | .tuple _ => "tuple"
  | .dict _ => "dict"
theorem ty_of {K : PySem.W.Frag} {G H : Hp} {v : V} (s : Sub G H) (r : Rp G v d) : TyX K H v (.type (tyD d)) := by
  cases r with
  | non => exact .base .non
  | bl b => exact .base (.bl b)
  | int i => exact .base (.int i)
  | str x => exact .base (.str x)
  | lst h1 h2 => exact .base (.lst (s _ _ h1))
  | tup h1 h2 => exact .base (.tup (s _ _ h1))
theorem de_isi {T : String} {k : Bool} {p2 : Pos} (hm : X.mg "isinstance" = none) (hmT : X.mg (Str.ofString T) = none) (hT : bootBuiltins (Str.ofString T) = some (.type T)) (ha : DE X ρ a d) (hk : kitB (tyD d) T = some k) (hg : Gl X "isinstance" := by rfl) (hgT : Gl X (Str.ofString T) := by rfl)
    (hn : Str.ofString T ≠ "__name__" := by decide) (hd : (Str.ofString T == ("__debug__" : Str)) = false := by decide)
    (he : starEach [a, .Name (Str.ofString T) p2] X.env = (false, eval a X.env) :: starEach [.Name (Str.ofString T) p2] X.env := by rfl) (he2 : starEach [.Name (Str.ofString T) p2] X.env = (false, eval (.Name (Str.ofString T) p2) X.env) :: starEach [] X.env := by rfl)
    (hpl : (backTo pos (starEach [.Name (Str.ofString T) p2] X.env)).any (·.1) = false := by rfl) :
    DE X ρ (.Call (.Name "isinstance" p) [a, .Name (Str.ofString T) p2] [] pos) (.bool k) :=
  de_of (pe_callB call_isi hg hm (by decide +kernel) (pa_cons pe_D (pa_cons (pe_bltn hgT hmT hT (v := .ty T) rfl hn hd) pa_nil he2) he) (by decide) (by decide) he hpl) fun H₀ G H σ Q S q =>
    ha H₀ G H σ _ S fun v G1 H1 e1 r1 => ⟨v, .ty T, _, _, k, rfl, .ty T, ty_of e1.gh r1, kit_ty hk, (q.back e1).of e1.gh (.bl k)⟩

theorem cr_abs {i : Int} : CRD (fun xs H Q => ∃ i, xs = [.int i] ∧ Q (.int (if i < 0 then -i else i)) H) [.int i] (.int (i.natAbs : Int)) := fun G H vs Q s r q => by
  cases r with
  | cons r1 rr =>
    cases rr
    cases r1
    refine ⟨i, rfl, ?_⟩
    have : (if i < 0 then -i else i) = (i.natAbs : Int) := by split <;> omega
    rw [this]
    exact q.of s (.int _)
theorem de_abs {i : Int} (hm : X.mg "abs" = none) (ha : DE X ρ e (.int i)) (hg : Gl X "abs" := by rfl) (he : starEach [e] X.env = (false, eval e X.env) :: starEach [] X.env := by rfl) (hpl : (backTo pos (starEach ([] : List Expr) X.env)).any (·.1) = false := by rfl) : DE X ρ (.Call (.Name "abs" p) [e] [] pos) (.int (i.natAbs : Int)) :=
  de_callB call_abs cr_abs hm (by decide +kernel) (da_cons ha da_nil he) hg (by decide) (by decide) he hpl
theorem cr_min2D {i j : Int} : CRD (fun xs H Q => ∃ i j, xs = [.int i, .int j] ∧ Q (.int (if j < i then j else i)) H) [.int i, .int j] (.int (min i j)) := fun G H vs Q s r q => by
  cases r with
  | cons r1 rr =>
    cases rr with
    | cons r2 rr =>
      cases rr; cases r1; cases r2
      refine ⟨i, j, rfl, ?_⟩
      have : (if j < i then j else i) = min i j := by rw [Int.min_def]; split <;> split <;> omega
      rw [this]
      exact q.of s (.int _)
theorem de_min2 {i j : Int} (hm : X.mg "min" = none) (ha : DE X ρ a (.int i)) (hb : DE X ρ b (.int j)) (hc : X.calm = true := by rfl) (hg : Gl X "min" := by rfl) (he : starEach [a, b] X.env = (false, eval a X.env) :: starEach [b] X.env := by rfl) (he2 : starEach [b] X.env = (false, eval b X.env) :: starEach [] X.env := by rfl)
    (hpl : (backTo pos (starEach [b] X.env)).any (·.1) = false := by rfl) : DE X ρ (.Call (.Name "min" p) [a, b] [] pos) (.int (min i j)) :=
  de_callB (call_min2 hc) cr_min2D hm (by decide +kernel) (da_cons ha (da_cons hb da_nil he2) he) hg (by decide) (by decide) he hpl
theorem rpA_ints {G : Hp} : ∀ {ns : List Int} {vs : List V}, RpA G vs (ns.map PyData.int) → vs = ns.map V.int
  | [], _, h => by cases h; rfl
  | n :: ns, _, h => by
    cases h with
    | cons h1 h2 =>
      cases h1
      rw [rpA_ints h2]; rfl
theorem cr_sumD {ns : List Int} : CRD (rSum X.K) [.list (ns.map .int)] (.int ns.sum) := fun G H vs Q s r q => by
  cases r with
  | cons r1 rr =>
    cases rr
    cases r1 with
    | lst h1 h2 =>
      have e := rpA_ints h2
      subst e
      exact ⟨_, ns, rfl, .of (s _ _ h1), q.of s (.int _)⟩
theorem de_sum {ns : List Int} (hm : X.mg "sum" = none) (ha : DE X ρ e (.list (ns.map .int))) (hc : X.calm = true := by rfl) (hg : Gl X "sum" := by rfl) (he : starEach [e] X.env = (false, eval e X.env) :: starEach [] X.env := by rfl) (hpl : (backTo pos (starEach ([] : List Expr) X.env)).any (·.1) = false := by rfl) : DE X ρ (.Call (.Name "sum" p) [e] [] pos) (.int ns.sum) :=
  de_callB (cr_sum hc) cr_sumD hm (by decide +kernel) (da_cons ha da_nil he) hg (by decide) (by decide) he hpl
theorem cr_maxD {ns : List Int} {m : Int} (h : m ∈ ns) (hle : ∀ y ∈ ns, y ≤ m) : CRD (rMax X.K) [.list (ns.map .int)] (.int m) := fun G H vs Q s r q => by
  cases r with
  | cons r1 rr =>
    cases rr
    cases r1 with
    | lst h1 h2 =>
      have e := rpA_ints h2
      subst e
      refine ⟨_, ns, rfl, .of (s _ _ h1), List.length_pos_of_mem h, fun m' h' hle' => ?_⟩
      have : m' = m := Int.le_antisymm (hle _ h') (hle' _ h)
      subst this
      exact q.of s (.int _)
theorem de_maxL {ns : List Int} {m : Int} (hm : X.mg "max" = none) (ha : DE X ρ e (.list (ns.map .int))) (h : m ∈ ns) (hle : ∀ y ∈ ns, y ≤ m) (hc : X.calm = true := by rfl) (hg : Gl X "max" := by rfl) (he : starEach [e] X.env = (false, eval e X.env) :: starEach [] X.env := by rfl) (hpl : (backTo pos (starEach ([] : List Expr) X.env)).any (·.1) = false := by rfl) : DE X ρ (.Call (.Name "max" p) [e] [] pos) (.int m) :=
  de_callB (cr_max hc) (cr_maxD h hle) hm (by decide +kernel) (da_cons ha da_nil he) hg (by decide) (by decide) he hpl
theorem cr_minD {ns : List Int} {m : Int} (h : m ∈ ns) (hle : ∀ y ∈ ns, m ≤ y) : CRD (rMin X.K) [.list (ns.map .int)] (.int m) := fun G H vs Q s r q => by
  cases r with
  | cons r1 rr =>
    cases rr
    cases r1 with
    | lst h1 h2 =>
      have e := rpA_ints h2
      subst e
      refine ⟨_, ns, rfl, .of (s _ _ h1), List.length_pos_of_mem h, fun m' h' hle' => ?_⟩
      have : m' = m := Int.le_antisymm (hle' _ h) (hle _ h')
      subst this
      exact q.of s (.int _)
theorem de_minL {ns : List Int} {m : Int} (hm : X.mg "min" = none) (ha : DE X ρ e (.list (ns.map .int))) (h : m ∈ ns) (hle : ∀ y ∈ ns, m ≤ y) (hc : X.calm = true := by rfl) (hg : Gl X "min" := by rfl) (he : starEach [e] X.env = (false, eval e X.env) :: starEach [] X.env := by rfl) (hpl : (backTo pos (starEach ([] : List Expr) X.env)).any (·.1) = false := by rfl) : DE X ρ (.Call (.Name "min" p) [e] [] pos) (.int m) :=
  de_callB (cr_min hc) (cr_minD h hle) hm (by decide +kernel) (da_cons ha da_nil he) hg (by decide) (by decide) he hpl
/-- int(a bool) -/
theorem de_intB {k : Bool} (hm : X.mg "int" = none) (ha : DE X ρ e (.bool k)) (hg : Gl X "int" := by rfl) (he : starEach [e] X.env = (false, eval e X.env) :: starEach [] X.env := by rfl) (hpl : (backTo pos (starEach ([] : List Expr) X.env)).any (·.1) = false := by rfl) : DE X ρ (.Call (.Name "int" p) [e] [] pos) (.int (if k then 1 else 0)) :=
  de_callTy call_int1 (fun G H vs Q s r q => by
    cases r with
    | cons r1 rr =>
      cases rr; cases r1
      exact .inr ⟨k, rfl, q.of s (.int _)⟩) hm (by decide +kernel) (da_cons ha da_nil he) hg (by decide) (by decide) he hpl
/-- tuple(a list), of a value, of an own list -/
theorem de_tupleL (hm : X.mg "tuple" = none) (ha : DE X ρ e (.list ds)) (hg : Gl X "tuple" := by rfl) (he : starEach [e] X.env = (false, eval e X.env) :: starEach [] X.env := by rfl) (hpl : (backTo pos (starEach ([] : List Expr) X.env)).any (·.1) = false := by rfl) : DE X ρ (.Call (.Name "tuple" p) [e] [] pos) (.tuple ds) :=
  de_callTy call_tuple_of (fun G H vs Q s r q => by
    cases r with
    | cons r1 rr =>
      cases rr
      cases r1 with
      | @lst q1 ws _ h1 h2 =>
        refine ⟨_, _, rfl, .inl ⟨.of (s _ _ h1), fun l hl => ?_⟩⟩
        have e := Ext.new (o := .tup ws) s hl
        exact q _ _ _ e (.tup upd_same (h2.up e.gg))) hm (by decide +kernel) (da_cons ha da_nil he) hg (by decide) (by decide) he hpl
theorem de_tupleT (hm : X.mg "tuple" = none) (ha : DE X ρ e (.tuple ds)) (hg : Gl X "tuple" := by rfl) (he : starEach [e] X.env = (false, eval e X.env) :: starEach [] X.env := by rfl) (hpl : (backTo pos (starEach ([] : List Expr) X.env)).any (·.1) = false := by rfl) : DE X ρ (.Call (.Name "tuple" p) [e] [] pos) (.tuple ds) :=
  de_callTy call_tuple_of (fun G H vs Q s r q => by
    cases r with
    | cons r1 rr =>
      cases rr
      cases r1 with
      | tup h1 h2 => exact ⟨_, _, rfl, .inr ⟨.of (s _ _ h1), q.of s (.tup h1 h2)⟩⟩) hm (by decide +kernel) (da_cons ha da_nil he) hg (by decide) (by decide) he hpl
theorem de_tupleO {i : Nat} {x : Str} {px : Pos} (hm : X.mg "tuple" = none) (hρ : ρ[i]? = some (.own ds)) (hN : X.N[i]? = some x := by rfl) (hv : Vis X.env.scope x := by first | exact Or.inl rfl | exact Or.inr (Or.inl rfl) | exact Or.inr (Or.inr rfl)) (hd : (x == ("__debug__" : Str)) = false := by decide) (hcd : (x == ("__classdict__" : Str)) = false := by decide)
    (hg : Gl X "tuple" := by rfl) (he : starEach [.Name x px] X.env = (false, eval (.Name x px) X.env) :: starEach [] X.env := by rfl) (hpl : (backTo pos (starEach ([] : List Expr) X.env)).any (·.1) = false := by rfl) : DE X ρ (.Call (.Name "tuple" p) [.Name x px] [] pos) (.tuple ds) :=
  de_of (pe_callTy call_tuple_of hg hm (by decide +kernel) (pa_cons (pe_var hN hv hd hcd) pa_nil he) (by decide) (by decide) he hpl) fun H₀ G H σ Q S q => by
    obtain ⟨r, vs, e1, h0, hgp, hh, rr⟩ := S.slot i _ hρ
    refine ⟨_, e1, _, vs, rfl, .inl ⟨.of hh, fun l hl => ?_⟩⟩
    have e := Ext.new (o := .tup vs) S.sub hl
    exact q _ _ _ e (.tup upd_same (rr.up e.gg))
/-- list(a list), list(a tuple) -/
theorem dl_listL (hm : X.mg "list" = none) (ha : DE X ρ e (.list ds)) (hg : Gl X "list" := by rfl) (he : starEach [e] X.env = (false, eval e X.env) :: starEach [] X.env := by rfl) (hpl : (backTo pos (starEach ([] : List Expr) X.env)).any (·.1) = false := by rfl) : DL X ρ (.Call (.Name "list" p) [e] [] pos) ds :=
  fun H₀ G H σ Q S q pins s I => (pe_callTy (pos := pos) (p := p) call_list_of hg hm (by decide +kernel) (pa_cons pe_D pa_nil he) (by decide) (by decide) he hpl).run pins s σ H Q I (ha H₀ G H σ _ S fun v G1 H1 e1 r1 => by
    cases r1 with
    | @lst q1 ws _ h1 h2 =>
      refine ⟨_, _, rfl, .inl (.of (e1.gh _ _ h1)), fun l hl => ?_⟩
      have e2 := Ext.new (o := .lst ws) e1.gh hl
      exact q l _ G1 _ ⟨e1.gg, e1.hh.trans e2.hh, e1.gh.trans e2.hh, e1.nw⟩ (free_back e1.hh hl) (free_back e1.gh hl) upd_same h2)
theorem dl_listT (hm : X.mg "list" = none) (ha : DE X ρ e (.tuple ds)) (hg : Gl X "list" := by rfl) (he : starEach [e] X.env = (false, eval e X.env) :: starEach [] X.env := by rfl) (hpl : (backTo pos (starEach ([] : List Expr) X.env)).any (·.1) = false := by rfl) : DL X ρ (.Call (.Name "list" p) [e] [] pos) ds :=
  fun H₀ G H σ Q S q pins s I => (pe_callTy (pos := pos) (p := p) call_list_of hg hm (by decide +kernel) (pa_cons pe_D pa_nil he) (by decide) (by decide) he hpl).run pins s σ H Q I (ha H₀ G H σ _ S fun v G1 H1 e1 r1 => by
    cases r1 with
    | @tup q1 ws _ h1 h2 =>
      refine ⟨_, _, rfl, .inr (.of (e1.gh _ _ h1)), fun l hl => ?_⟩
      have e2 := Ext.new (o := .lst ws) e1.gh hl
      exact q l _ G1 _ ⟨e1.gg, e1.hh.trans e2.hh, e1.gh.trans e2.hh, e1.nw⟩ (free_back e1.hh hl) (free_back e1.gh hl) upd_same h2)
/-- list(range(n)) -/
theorem rpA_mapInt {G : Hp} : ∀ ns : List Int, RpA G (ns.map V.int) (ns.map PyData.int)
  | [] => .nil
  | _ :: ns => .cons (.int _) (rpA_mapInt ns)
theorem rgV_eq (lo hi : Int) : rgV lo hi = (intsL lo (hi - lo).toNat).map V.int := by
  unfold rgV intsL
  rw [List.map_map]
  rfl
theorem dl_listR1 {n : Int} {p2 p3 : Pos} (hm : X.mg "list" = none) (hmr : X.mg "range" = none) (ha : DE X ρ a (.int n)) (hn : RgOk 0 n) (hc : X.calm = true := by rfl) (hg : Gl X "list" := by rfl) (hgr : Gl X "range" := by rfl) (na : starEach [a] X.env = (false, eval a X.env) :: starEach [] X.env := by rfl)
    (na2 : starEach [.Call (.Name "range" p2) [a] [] p3] X.env = (false, eval (.Call (.Name "range" p2) [a] [] p3) X.env) :: starEach [] X.env := by rfl) : DL X ρ (.Call (.Name "list" p) [.Call (.Name "range" p2) [a] [] p3] [] pos) ((intsL 0 n.toNat).map PyData.int) :=
  fun H₀ G H σ Q S q pins s I => (pe_listRg (pos := pos) (p := p) hc hg hm (prg_1 (p := p2) (pos := p3) hgr hmr pe_D na) na2).run pins s σ H Q I (ha H₀ G H σ _ S fun v G1 H1 e1 r1 => by
    cases r1
    refine ⟨n, rfl, hn, fun l hl => ?_⟩
    have e2 := Ext.new (o := .lst (rgV 0 n)) e1.gh hl
    refine q l (rgV 0 n) G1 _ ⟨e1.gg, e1.hh.trans e2.hh, e1.gh.trans e2.hh, e1.nw⟩ (free_back e1.hh hl) (free_back e1.gh hl) upd_same ?_
    rw [rgV_eq, Int.sub_zero]
    exact rpA_mapInt _)

/-! slices, sums of lists and tuples -/
def cutD (xs : List PyData) (lo hi : Option Int) : List PyData := (xs.drop (HT.sIx xs.length 0 lo)).take (HT.sIx xs.length xs.length hi - HT.sIx xs.length 0 lo)
theorem cut_rp {G : Hp} {vs : List V} {lo hi : Option Int} (r : RpA G vs ds) : RpA G (cutV vs lo hi) (cutD ds lo hi) := by
  unfold cutV cutD
  rw [r.length]
  exact (r.drop _).take _
/-- an optional part of a slice -/
inductive DO (X : Cx) (ρ : En) : Option Expr → Option Int → Prop where
  | no : DO X ρ none none
  | yes {e : Expr} {i : Int} (h : DE X ρ e (.int i)) : DO X ρ (some e) (some i)
def tPt (X : Cx) : Option Expr → TO
  | none => tNoPart
  | some e => tPart (tD X e)
theorem po_Pt : ∀ {e : Option Expr}, PO X e (tPt X e)
  | none => po_none
  | some _ => po_some pe_D
theorem DO.run {e : Option Expr} {i : Option Int} (h : DO X ρ e i) : ∀ H₀ G H σ Q, Sat H₀ G H σ ρ → (∀ G' H', Ext G H G' H' → Q i H') → tPt X e σ H Q := fun H₀ G H σ Q S q => by
  cases h with
  | no => exact q G H (.refl S.sub)
  | yes h => exact h H₀ G H σ _ S fun v G1 H1 e1 r1 => by cases r1; exact ⟨_, rfl, q _ _ e1⟩
theorem dl_sl {lo hi : Option Expr} {i j : Option Int} {p2 : Pos} (ha : DE X ρ a (.list ds)) (hl : DO X ρ lo i) (hh : DO X ρ hi j) : DL X ρ (.Subscript a (.Slice lo hi none p2) pos) (cutD ds i j) := fun H₀ G H σ Q S q pins s I =>
  (pe_slice (pos := pos) sl_list pe_D po_Pt po_Pt).run pins s σ H Q I (by
    refine ha H₀ G H σ _ S fun v G1 H1 e1 r1 => ?_
    refine hl.run H₀ G1 H1 σ _ (S.up e1) fun G2 H2 e2 => ?_
    refine hh.run H₀ G2 H2 σ _ ((S.up e1).up e2) fun G3 H3 e3 => ?_
    cases r1 with
    | @lst q1 ws _ h1 h2 =>
      have e13 := (e1.trans e2).trans e3
      refine ⟨_, _, rfl, .of (e3.gh _ _ (e3.gg _ _ (e2.gg _ _ h1))), fun l hl => ?_⟩
      have e4 := Ext.new (o := .lst (cutV ws i j)) e3.gh hl
      exact q l _ G3 _ ⟨e13.gg, e13.hh.trans e4.hh, e3.gh.trans e4.hh, e13.nw⟩ (free_back e13.hh hl) (free_back e3.gh hl) upd_same (cut_rp (h2.up (e2.gg.trans e3.gg))))
theorem cut_whole {lo hi : Option Int} (h : HT.sIx ds.length 0 lo = 0 ∧ HT.sIx ds.length ds.length hi = ds.length) : cutD ds lo hi = ds := by
  unfold cutD
  rw [h.1, h.2, List.drop_zero, Nat.sub_zero, List.take_length]
theorem de_slT {lo hi : Option Expr} {i j : Option Int} {p2 : Pos} (ha : DE X ρ a (.tuple ds)) (hl : DO X ρ lo i) (hh : DO X ρ hi j) : DE X ρ (.Subscript a (.Slice lo hi none p2) pos) (.tuple (cutD ds i j)) :=
  de_of (pe_slice sl_tupA pe_D po_Pt po_Pt) fun H₀ G H σ Q S q => by
    refine ha H₀ G H σ _ S fun v G1 H1 e1 r1 => ?_
    refine hl.run H₀ G1 H1 σ _ (S.up e1) fun G2 H2 e2 => ?_
    refine hh.run H₀ G2 H2 σ _ ((S.up e1).up e2) fun G3 H3 e3 => ?_
    cases r1 with
    | @tup q1 ws _ h1 h2 =>
      have e13 := (e1.trans e2).trans e3
      have g3 := e2.gg.trans e3.gg
      refine ⟨_, _, rfl, .of (e3.gh _ _ (g3 _ _ h1)), fun w => ?_, fun _ l hl => ?_⟩
      · rw [h2.length] at w
        rw [cut_whole w] at q
        exact (q.back e13).of e3.gh (.tup (g3 _ _ h1) (h2.up g3))
      · have e4 := Ext.new (o := .tup (cutV ws i j)) e3.gh hl
        exact q _ _ _ (e13.trans e4) (.tup upd_same (cut_rp (h2.up (g3.trans e4.gg))))
theorem dl_cat {d2s : List PyData} (ha : DE X ρ a (.list ds)) (hb : DE X ρ b (.list d2s)) (hz : ds.length + d2s.length ≤ sizeLine) : DL X ρ (.BinOp a .Add b pos) (ds ++ d2s) := fun H₀ G H σ Q S q pins s I =>
  (pe_op (pos := pos) op_cat pe_D pe_D).run pins s σ H Q I (by
    refine ha H₀ G H σ _ S fun v G1 H1 e1 r1 => ?_
    refine hb H₀ G1 H1 σ _ (S.up e1) fun u G2 H2 e2 r2 => ?_
    cases r1 with
    | @lst q1 ws _ h1 h2 =>
      cases r2 with
      | @lst q2 us _ h3 h4 =>
        have e12 := e1.trans e2
        refine ⟨_, _, _, _, rfl, rfl, e2.gh _ _ (e2.gg _ _ h1), e2.gh _ _ h3, by rw [h2.length, h4.length]; exact hz, fun l hl => ?_⟩
        have e3 := Ext.new (o := .lst (ws ++ us)) e2.gh hl
        exact q l _ G2 _ ⟨e12.gg, e12.hh.trans e3.hh, e2.gh.trans e3.hh, e12.nw⟩ (free_back e12.hh hl) (free_back e2.gh hl) upd_same ((h2.up e2.gg).append h4))
theorem de_catT {d2s : List PyData} (ha : DE X ρ a (.tuple ds)) (hb : DE X ρ b (.tuple d2s)) (hz : ds.length + d2s.length ≤ sizeLine) : DE X ρ (.BinOp a .Add b pos) (.tuple (ds ++ d2s)) :=
  de_of (pe_op op_catA pe_D pe_D) fun H₀ G H σ Q S q => by
    refine ha H₀ G H σ _ S fun v G1 H1 e1 r1 => ?_
    refine hb H₀ G1 H1 σ _ (S.up e1) fun u G2 H2 e2 r2 => ?_
    cases r1 with
    | @tup q1 ws _ h1 h2 =>
      cases r2 with
      | @tup q2 us _ h3 h4 =>
        have e12 := e1.trans e2
        refine ⟨_, _, _, _, rfl, rfl, .of (e2.gh _ _ (e2.gg _ _ h1)), .of (e2.gh _ _ h3), by rw [h2.length, h4.length]; exact hz, fun z => ?_, fun z1 z2 => ?_, fun _ _ l hl => ?_⟩
        · subst z
          cases h2
          exact (q.back e12).of e2.gh (.tup h3 h4)
        · subst z2
          cases h4
          rw [List.append_nil] at q
          exact (q.back e12).of e2.gh (.tup (e2.gg _ _ h1) (h2.up e2.gg))
        · have e3 := Ext.new (o := .tup (ws ++ us)) e2.gh hl
          exact q _ _ _ (e12.trans e3) (.tup upd_same ((h2.up (e2.gg.trans e3.gg)).append (h4.up e3.gg)))
theorem dl_rep {k : Int} (ha : DE X ρ a (.list ds)) (hb : DE X ρ b (.int k)) (h1 : -(2 ^ 63) ≤ k) (h2 : k < 2 ^ 63) (hz : ds.length * k.toNat ≤ sizeLine) : DL X ρ (.BinOp a .Mult b pos) (List.replicate k.toNat ds).flatten := fun H₀ G H σ Q S q pins s I =>
  (pe_op (pos := pos) op_rep pe_D pe_D).run pins s σ H Q I (by
    refine ha H₀ G H σ _ S fun v G1 H1 e1 r1 => ?_
    refine hb H₀ G1 H1 σ _ (S.up e1) fun u G2 H2 e2 r2 => ?_
    cases r2
    cases r1 with
    | @lst q1 ws _ h3 h4 =>
      have e12 := e1.trans e2
      refine ⟨_, k, _, rfl, rfl, e2.gh _ _ (e2.gg _ _ h3), h1, h2, by rw [h4.length]; exact hz, fun l hl => ?_⟩
      have e3 := Ext.new (o := .lst (List.replicate k.toNat ws).flatten) e2.gh hl
      exact q l _ G2 _ ⟨e12.gg, e12.hh.trans e3.hh, e2.gh.trans e3.hh, e12.nw⟩ (free_back e12.hh hl) (free_back e2.gh hl) upd_same (RpA.rep (h4.up e2.gg) _))
theorem flat_one {α : Type} (x : α) : ∀ n : Nat, (List.replicate n [x]).flatten = List.replicate n x
  | 0 => rfl
  | n + 1 => by rw [List.replicate_succ, List.replicate_succ, List.flatten_cons, flat_one x n]; rfl
/-- [x] * k -/
theorem dl_rep1 {k : Int} {n : Nat} (hk : k = (n : Int)) (ha : DE X ρ a (.list [d])) (hb : DE X ρ b (.int k)) (hz : n ≤ sizeLine) : DL X ρ (.BinOp a .Mult b pos) (List.replicate n d) := by
  subst hk
  have h := dl_rep (pos := pos) ha hb (by omega) (by have := line63; omega) (by simpa using hz)
  rw [flat_one] at h
  simpa using h

/-! methods of lists -/
theorem de_count {ns : List Int} {k : Int} {p2 p3 : Pos} (ha : DE X ρ a (.list (ns.map .int))) (hb : DE X ρ b (.int k)) (hbase : attributeBase a "count" X.env (eval a X.env) = eval a X.env := by rfl)
    (hfew : ((backTo p3 (starEach [b] X.env)).all (fun x => !x.1) && (backToKw p3 (keywordEach [] X.env)).all (fun x => x.1.isSome) && decide ([b].length + ([] : List Keyword).length + (if ([] : List Keyword).isEmpty then 0 else 1) < 30)) = true := by rfl)
    (hline : (p2.endLine == p3.line) = true := by rfl) (he : starEach [b] X.env = (false, eval b X.env) :: starEach [] X.env := by rfl) (hpl : (backTo p3 (starEach ([] : List Expr) X.env)).any (·.1) = false := by rfl) :
    DE X ρ (.Call (.Attribute a "count" p2) [b] [] p3) (.int (ns.count k : Nat)) :=
  de_of (pe_bm PySem.F.plainAttrs_list PySem.F.slot_list_count PySem.F.type_list_count mt_lcount pe_D (pa_cons pe_D pa_nil he) hbase hfew hline he hpl) fun H₀ G H σ Q S q => by
    refine ha H₀ G H σ _ S fun v G1 H1 e1 r1 => ?_
    cases r1 with
    | lst h1 h2 =>
      have e := rpA_ints h2
      subst e
      refine ⟨.inl ⟨rfl, _, .of (e1.gh _ _ h1)⟩, hb H₀ G1 H1 σ _ (S.up e1) fun u G2 H2 e2 r2 => ?_⟩
      cases r2
      exact ⟨_, ns, k, rfl, rfl, .of (e2.gh _ _ (e2.gg _ _ h1)), (q.back (e1.trans e2)).of e2.gh (.int _)⟩
/-! x in a list of data -/
theorem r2_in {K : PySem.W.Frag} (h1 : SeqAt.shaped d = true) (h2 : SeqAt.shaped (.list ds) = true) : R2D (rInD K) d (.list ds) (.bool (ds.any fun z => PyData.eqv z d)) := fun G H x y Q s r1 r2 q =>
  ⟨d, ds, (r1.up s).dp, (r2.up s).dp, h1, h2, q.of s (.bl _)⟩
theorem r2_notin {K : PySem.W.Frag} (h1 : SeqAt.shaped d = true) (h2 : SeqAt.shaped (.list ds) = true) : R2D (rNotInD K) d (.list ds) (.bool (!ds.any fun z => PyData.eqv z d)) := fun G H x y Q s r1 r2 q =>
  ⟨d, ds, (r1.up s).dp, (r2.up s).dp, h1, h2, q.of s (.bl _)⟩
end

/-! isinstance with the types that are asked -/
section
variable {X : Cx} {ρ : En} {a : Expr} {d : PyData} {pos p p2 : Pos}
def isI : PyData → Bool
  | .int _ => true
  | .bool _ => true
  | _ => false
def isBl : PyData → Bool
  | .bool _ => true
  | _ => false
def isTu : PyData → Bool
  | .tuple _ => true
  | _ => false
def isSt : PyData → Bool
  | .str _ => true
  | _ => false
theorem kit_I : ∀ d : PyData, kitB (tyD d) "int" = some (isI d)
  | .none => (by decide +kernel : kitB "NoneType" "int" = some false)
  | .bool _ => (by decide +kernel : kitB "bool" "int" = some true)
  | .int _ => (by decide +kernel : kitB "int" "int" = some true)
  | .str _ => (by decide +kernel : kitB "str" "int" = some false)
  | .list _ => (by decide +kernel : kitB "list" "int" = some false)
  | .tuple _ => (by decide +kernel : kitB "tuple" "int" = some false)
  | .dict _ => (by decide +kernel : kitB "dict" "int" = some false)
theorem kit_Bl : ∀ d : PyData, kitB (tyD d) "bool" = some (isBl d)
  | .none => (by decide +kernel : kitB "NoneType" "bool" = some false)
  | .bool _ => (by decide +kernel : kitB "bool" "bool" = some true)
  | .int _ => (by decide +kernel : kitB "int" "bool" = some false)
  | .str _ => (by decide +kernel : kitB "str" "bool" = some false)
  | .list _ => (by decide +kernel : kitB "list" "bool" = some false)
  | .tuple _ => (by decide +kernel : kitB "tuple" "bool" = some false)
  | .dict _ => (by decide +kernel : kitB "dict" "bool" = some false)
theorem kit_Tu : ∀ d : PyData, kitB (tyD d) "tuple" = some (isTu d)
  | .none => (by decide +kernel : kitB "NoneType" "tuple" = some false)
  | .bool _ => (by decide +kernel : kitB "bool" "tuple" = some false)
  | .int _ => (by decide +kernel : kitB "int" "tuple" = some false)
  | .str _ => (by decide +kernel : kitB "str" "tuple" = some false)
  | .list _ => (by decide +kernel : kitB "list" "tuple" = some false)
  | .tuple _ => (by decide +kernel : kitB "tuple" "tuple" = some true)
  | .dict _ => (by decide +kernel : kitB "dict" "tuple" = some false)
theorem kit_St : ∀ d : PyData, kitB (tyD d) "str" = some (isSt d)
  | .none => (by decide +kernel : kitB "NoneType" "str" = some false)
  | .bool _ => (by decide +kernel : kitB "bool" "str" = some false)
  | .int _ => (by decide +kernel : kitB "int" "str" = some false)
  | .str _ => (by decide +kernel : kitB "str" "str" = some true)
  | .list _ => (by decide +kernel : kitB "list" "str" = some false)
  | .tuple _ => (by decide +kernel : kitB "tuple" "str" = some false)
  | .dict _ => (by decide +kernel : kitB "dict" "str" = some false)
theorem de_isI (hm : X.mg "isinstance" = none) (hmT : X.mg "int" = none) (ha : DE X ρ a d) (hg : Gl X "isinstance" := by rfl) (hgT : Gl X "int" := by rfl)
    (he : starEach [a, .Name "int" p2] X.env = (false, eval a X.env) :: starEach [.Name "int" p2] X.env := by rfl) (he2 : starEach [.Name "int" p2] X.env = (false, eval (.Name "int" p2) X.env) :: starEach [] X.env := by rfl)
    (hpl : (backTo pos (starEach [.Name "int" p2] X.env)).any (·.1) = false := by rfl) : DE X ρ (.Call (.Name "isinstance" p) [a, .Name "int" p2] [] pos) (.bool (isI d)) :=
  de_isi (T := "int") hm hmT (by decide +kernel) ha (kit_I d) hg hgT (by decide) (by decide) he he2 hpl
theorem de_isBl (hm : X.mg "isinstance" = none) (hmT : X.mg "bool" = none) (ha : DE X ρ a d) (hg : Gl X "isinstance" := by rfl) (hgT : Gl X "bool" := by rfl)
    (he : starEach [a, .Name "bool" p2] X.env = (false, eval a X.env) :: starEach [.Name "bool" p2] X.env := by rfl) (he2 : starEach [.Name "bool" p2] X.env = (false, eval (.Name "bool" p2) X.env) :: starEach [] X.env := by rfl)
    (hpl : (backTo pos (starEach [.Name "bool" p2] X.env)).any (·.1) = false := by rfl) : DE X ρ (.Call (.Name "isinstance" p) [a, .Name "bool" p2] [] pos) (.bool (isBl d)) :=
  de_isi (T := "bool") hm hmT (by decide +kernel) ha (kit_Bl d) hg hgT (by decide) (by decide) he he2 hpl
theorem de_isTu (hm : X.mg "isinstance" = none) (hmT : X.mg "tuple" = none) (ha : DE X ρ a d) (hg : Gl X "isinstance" := by rfl) (hgT : Gl X "tuple" := by rfl)
    (he : starEach [a, .Name "tuple" p2] X.env = (false, eval a X.env) :: starEach [.Name "tuple" p2] X.env := by rfl) (he2 : starEach [.Name "tuple" p2] X.env = (false, eval (.Name "tuple" p2) X.env) :: starEach [] X.env := by rfl)
    (hpl : (backTo pos (starEach [.Name "tuple" p2] X.env)).any (·.1) = false := by rfl) : DE X ρ (.Call (.Name "isinstance" p) [a, .Name "tuple" p2] [] pos) (.bool (isTu d)) :=
  de_isi (T := "tuple") hm hmT (by decide +kernel) ha (kit_Tu d) hg hgT (by decide) (by decide) he he2 hpl
theorem de_isSt (hm : X.mg "isinstance" = none) (hmT : X.mg "str" = none) (ha : DE X ρ a d) (hg : Gl X "isinstance" := by rfl) (hgT : Gl X "str" := by rfl)
    (he : starEach [a, .Name "str" p2] X.env = (false, eval a X.env) :: starEach [.Name "str" p2] X.env := by rfl) (he2 : starEach [.Name "str" p2] X.env = (false, eval (.Name "str" p2) X.env) :: starEach [] X.env := by rfl)
    (hpl : (backTo pos (starEach [.Name "str" p2] X.env)).any (·.1) = false := by rfl) : DE X ρ (.Call (.Name "isinstance" p) [a, .Name "str" p2] [] pos) (.bool (isSt d)) :=
  de_isi (T := "str") hm hmT (by decide +kernel) ha (kit_St d) hg hgT (by decide) (by decide) he he2 hpl
/-! products, divisions of great numbers -/
theorem de_mulW {a b : Expr} {i j : Int} (ha : DE X ρ a (.int i)) (hb : DE X ρ b (.int j)) (h : CMulW i j) : DE X ρ (.BinOp a .Mult b pos) (.int (i * j)) := de_op op_mulW (r2_I h) ha hb
theorem de_fdivW {a b : Expr} {i j : Int} (ha : DE X ρ a (.int i)) (hb : DE X ρ b (.int j)) (h : CDivW i j) : DE X ρ (.BinOp a .FloorDiv b pos) (.int (i / j)) := de_op op_fdivW (r2_I h) ha hb
end
end DD
namespace DD
open PySem PySem.Spec PyProof.Rows L2

/-! ### raise -/
/-- an exception class of the text, made with a text -/
structure ECls (K : PySem.W.Frag) (mg : Str → Option Value) (x : Str) (C : Addr) : Prop where
  q : PySem.W.excIn K C [.type "ValueError", .type "Exception", .type "BaseException", .type "object"] "ValueError.__new__" = true
  g : mg x = some (.ref C)
  k : PySem.W.keepIn K (.ref C) = true
  b : PySem.W.subIn K (.ref C) (.type "BaseException") = some true
  t : PySem.W.typeIn K (.ref C) = some (.type "type")
section
variable {X : Cx} {W : WX} {ρ : En} {pos : Pos} {P : Post} {rest : List Stmt}
theorem ds_raise {x m : Str} {C : Addr} {j : Nat} {p p2 p3 : Pos} (E : ECls X.K X.mg x C) (tk : Takes X W) (h : P.ex ⟨C, none⟩ ρ) (hc : X.calm = true := by rfl) (hg : Gl X x := by rfl) (hdb : (x == ("__debug__" : Str)) = false := by decide) :
    DS X W ρ (.Raise (some (.Call (.Name x p) [.Constant (.str m) j p2] [] p3)) none pos :: rest) P :=
  ds_cons (ps_raise hc tk (pmk_own PySem.F.excBase_ValueError E.q E.g E.k (raises_own E.b E.t) hg hdb)) fun H₀ G₀ G H σ D Ex S p => p.ex _ ρ σ G H _ _ h Ex S ⟨rfl, rfl⟩
end

/-! ### try with clauses «except C as n» -/
/-- one clause: the class's name and value, its suite -/
structure Cl where
  x : Str
  c : Value
  su : List Stmt
/-- what is wished of an exception: the first clause that takes it runs with slot i -/
def wCl (X : Cx) (i : Nat) (Wout : WX) (D : Ends) : List Cl → WX
  | [] => Wout
  | k :: r => fun cls d σ H => ∃ b, PySem.W.exmOne X.K cls k.c = some b ∧
      (b = true → ∀ a, H a = none → ∀ (oe : Obj) (pn : List (Addr × Obj)), Zc cls d oe → (∃ vs, oe.data = .fields vs) →
        tS (X.suite a ((a, oe) :: pn)) k.su { nx := fun σ' H' => D.nx (σ'.set i none) H', rt := D.rt, bk := fun σ' H' => D.bk (σ'.set i none) H', ct := fun σ' H' => D.ct (σ'.set i none) H' } (σ.set i (some (.ref a))) H) ∧
      (b = false → wCl X i Wout D r cls d σ H)
inductive ClsAre (X : Cx) (n : Str) : List ExceptHandler → List Cl → Prop
  | nil : ClsAre X n [] []
  | cons {x : Str} {c : Value} {b₀ : Stmt} {su : List Stmt} {np p : Pos} {hs : List ExceptHandler} {l : List Cl} (hx : Names X x c) (r : ClsAre X n hs l) :
      ClsAre X n (.ExceptHandler (some (.Name x np)) (some n) (b₀ :: su) p :: hs) (⟨x, c, b₀ :: su⟩ :: l)
section
variable {X : Cx} {n : Str} {i : Nat} {body : List Stmt} {h₀ : ExceptHandler} {hs : List ExceptHandler} {l : List Cl} {pos : Pos} {tb : WX → TS} {Wout : WX}
theorem ps_try_cl (hst : X.stack = X.env :: X.outer) (hf : X.env.frame = some X.env.locals) (hN : X.N.Nodup) (hi : X.N[i]? = some n) (hln : X.env.kindOf n = some .local) (tk : Takes X Wout)
    (hb : ∀ (W : WX) (pn : List (Addr × Obj)) (xe : Value → Shared → Prop), Takes (X.tr pn xe) W → PassesOwn (model X.prog X.w) X.A X.env xe → PSs (X.tr pn xe) body (tb W))
    (hk : ClsAre X n (h₀ :: hs) l) : PS X (.Try body (h₀ :: hs) [] [] pos) (fun D σ H => tb (wCl X i Wout D l) D σ H) := by
  constructor
  intro pins s σ H D I hyp
  have ok := I.ok
  have hfr : X.A.frames = some (X.env :: X.outer) := by rw [ok.frames, hst]
  have hloc : Loc X.env.scope n := .inl hln
  refine wpAny_Try_except ?_
  let xe' : Value → Shared → Prop := fun e s₁ => wpAny (model X.prog X.w) X.A (noteFrame e X.env) (fun _ s₂ =>
    wpAny (model X.prog X.w) X.A (setFlight e none) (fun _ s₃ => wpAny (model X.prog X.w) X.A (handleBy e X.env (h₀ :: hs)) (SP X pins D) X.xe s₃) X.xe s₂) X.xe s₁
  have takes : Takes (X.tr (X.pn ++ pins) xe') (wCl X i Wout D l) := by
    intro u s' xx
    obtain ⟨a, B, sI, pins', σ', H', cls, d, rfl, J', nb, up, sky, na, os, ag, w⟩ := xx
    have J : Inv X pins σ' H' sI := J'.ofTry ok
    have sky' : Sky B (X.env :: X.outer) a (Zc cls d) X.env.locals s'.heap := by rw [← hst]; exact sky
    show wpAny (model X.prog X.w) X.A (noteFrame (.ref a) X.env) _ _ _
    refine Sky.land Zc.steady hfr hf sky' fun g3 f3 u3 => ?_
    have J3 : Inv X pins σ' H' { s' with heap := g3 } := J.landed nb f3.1 (up.trans u3) os ag
    obtain ⟨o3, v3, e3, z3, d3⟩ := f3.there
    have apart : a ∉ frs (X.env :: X.outer) := by
      intro hm
      obtain ⟨_, o', e', hnf⟩ := f3.2.2.1.mem hm
      rw [e3] at e'
      cases e'
      exact hnf _ d3
    have nL : a ≠ X.env.locals := fun z => apart (List.mem_filterMap.mpr ⟨X.env, List.mem_cons_self, by rw [hf, z]⟩)
    have nF : a ∉ X.fs := fun hm => let ⟨e, he, q⟩ := List.mem_filterMap.mp hm; apart (List.mem_filterMap.mpr ⟨e, List.mem_cons_of_mem _ he, q⟩)
    have S3 := J3.suite e3 d3 na nL nF
    have LT : PySem.W.Looks (model X.prog X.w) g3 (typeOf (.ref a)) cls := fun A Q E s k q => wpAny_typeOf_ref (k _ _ e3) (by rw [z3.1]; exact q)
    have step : ∀ {hs' : List ExceptHandler} {l' : List Cl}, ClsAre X n hs' l' → wCl X i Wout D l' cls d σ' H' → wpAny (model X.prog X.w) X.A (handleBy (.ref a) X.env hs') (SP X pins D) X.xe { s' with heap := g3 } := by
      intro hs' l' hc
      induction hc with
      | nil =>
        intro w
        refine wpAny_handleBy_nil ?_
        obtain ⟨k1, k2, k3, oe, vs, T, oT, ts', he, hz, hd, h1, hr⟩ := id f3
        unfold PySem.passOn
        refine wpAny_bind (wpAny_field he hd h1 ?_)
        rw [if_neg (show ¬ ((Value.ref T == Value.none) = true) from by simp)]
        have onward : wpAny (model X.prog X.w) X.A (setFlight (.ref a) X.env.frame) (fun _ s4 => wpAny (model X.prog X.w) X.A (throw (.ref a) : Sem Flow) (SP X pins D) X.xe s4) X.xe { s' with heap := g3 } := by
          rw [hf]
          refine HandSPX.setFlight_upZ f3 fun g4 f4 u4 => wpAny_throw (tk _ _ ?_)
          exact ⟨a, B, sI, pins, σ', H', cls, d, rfl, J, nb, (up.trans u3).trans u4, .inr (.inr (by rw [hst]; exact f4)), na, os, ag, w⟩
        first
          | exact wpAny_bind (wpAny_pure (wpAny_bind onward))
          | exact wpAny_bind onward
      | @cons x c b₀ su np p hs2 l2 hx r ih =>
        intro w
        obtain ⟨b, hb1, yes, no⟩ := w
        have LM := PySem.W.exm_one (M := model X.prog X.w) (J3.kIn) LT hb1
        refine wpAny_handleBy_cons (codeAny_handlers_test ?_) (by intro q; cases q)
        have named : ∀ {Q : Value → Shared → Prop} {E : Value → Shared → Prop}, Q c { s' with heap := g3 } → wpAny (model X.prog X.w) (X.A.mark (some (.ref a))) (eval (.Name x np) X.env) Q E { s' with heap := g3 } := by
          intro Q E q
          obtain ⟨hg, hdbg, hm | ⟨hm, hv, hnn⟩⟩ := hx
          · exact ld_glob (X := X.suite a ((a, o3) :: (X.pn ++ pins))) S3 hg hm q hdbg
          · exact ld_blt (X := X.suite a ((a, o3) :: (X.pn ++ pins))) S3 hg hm hv q hnn hdbg
        refine named (LM.here ?_)
        cases b with
        | false =>
          show wpAny _ X.A (handleBy (.ref a) X.env hs2) _ _ _
          exact ih (no rfl)
        | true =>
          refine codeAny_handlers_suite_as ?_
          refine HandSPX.lands_againZ f3 fun g4 f4 u4 => ?_
          have J4 : Inv X pins σ' H' { s' with heap := g4 } := J.landed nb f4.1 ((up.trans u3).trans u4) os ag
          obtain ⟨o4, v4, e4, z4, d4⟩ := f4.there
          have S4 := J4.suite e4 d4 na nL nF
          refine store_ok (X := X.suite a ((a, o4) :: (X.pn ++ pins))) (v := .ref a) S4 hN hi hloc rfl (fun s5 S5 => ?_) (.inr hln)
          have run := yes rfl a na o4 (X.pn ++ pins) z4 ⟨_, d4⟩ [] s5 S5
          refine wpAny_mono run (fun f s6 hsp => ?_) (fun _ _ z => False.elim z)
          have done : ∀ {σ6 : L2.St} {H6 : Hp} {Q : Shared → Prop}, Inv (X.suite a ((a, o4) :: (X.pn ++ pins))) [] σ6 H6 s6 → (∀ s7, Inv X pins (σ6.set i none) H6 s7 → Q s7) →
              wpAny (model X.prog X.w) X.A (do bindName X.env n .none; unbindBehindTheSuite X.env n p) (fun _ s7 => Q s7) X.xe s6 := fun S6 hq => gone_ok (S6.unsuite ok) hN hi hln hq
          cases f with
          | next => obtain ⟨σ6, H6, S6, q6⟩ := hsp; exact done S6 fun s7 J7 => ⟨_, _, J7, q6⟩
          | brk => obtain ⟨σ6, H6, S6, q6⟩ := hsp; exact done S6 fun s7 J7 => ⟨_, _, J7, q6⟩
          | cont => obtain ⟨σ6, H6, S6, q6⟩ := hsp; exact done S6 fun s7 J7 => ⟨_, _, J7, q6⟩
          | ret u => obtain ⟨v6, σ6, H6, S6, r6, q6⟩ := hsp; exact done S6 fun s7 J7 => ⟨_, _, _, J7, r6, q6⟩
    exact step hk w
  refine wpAny_mono ((hb (wCl X i Wout D l) (X.pn ++ pins) xe' takes PassesOwn.looking).run [] s σ H D (I.toTry _) hyp) (fun f s1 hsp => ?_) (fun e s1 he => he)
  cases f with
  | next => obtain ⟨σ', H', J', q⟩ := hsp; exact wpAny_execs_nil ⟨σ', H', J'.ofTry ok, q⟩
  | brk => obtain ⟨σ', H', J', q⟩ := hsp; exact ⟨σ', H', J'.ofTry ok, q⟩
  | cont => obtain ⟨σ', H', J', q⟩ := hsp; exact ⟨σ', H', J'.ofTry ok, q⟩
  | ret u => obtain ⟨v, σ', H', J', r, q⟩ := hsp; exact ⟨v, σ', H', J'.ofTry ok, r, q⟩

/-- an exception met by the clauses: with the slots ρ at the raise -/
def Handled (X : Cx) (W : WX) (i : Nat) (P : Post) (rest : List Stmt) : List Cl → Exn → En → Prop
  | [] => fun x ρ => P.ex x ρ
  | k :: r => fun x ρ => ∃ b, PySem.W.exmOne X.K (.ref x.cls) k.c = some b ∧
      (b = true → ∀ (a : Addr) (oe : Obj) (pn : List (Addr × Obj)) (d : Option Addr), Zc (.ref x.cls) d oe → (x.line = none → d = none) → (∃ vs, oe.data = .fields vs) →
        DS (X.suite a ((a, oe) :: pn)) (fun _ _ _ _ => False) (ρ.set i (.raw (.ref a))) k.su { nx := fun ρ' => DS X W (ρ'.set i .un) rest P, rt := P.rt, bk := fun ρ' => P.bk (ρ'.set i .un), ct := fun ρ' => P.ct (ρ'.set i .un) }) ∧
      (b = false → Handled X W i P rest r x ρ)
theorem Sat.unset {H₀ G H : Hp} {σ : L2.St} {ρ : En} {i : Nat} (h : Sat H₀ G H σ ρ) : Sat H₀ G H (σ.set i none) (ρ.set i .un) := by
  refine ⟨h.sub, by rw [List.length_set, List.length_set, h.len], fun j t q => ?_, fun a b s t p hab q1 q2 o1 o2 r1 => ?_, h.old⟩
  · by_cases e : i = j
    · subst e
      by_cases hl : i < ρ.length
      · rw [List.getElem?_set_self hl] at q; cases q; trivial
      · rw [List.getElem?_eq_none (by rw [List.length_set]; omega)] at q; cases q
    · rw [List.getElem?_set_ne e] at q ⊢; exact h.slot j t q
  · have back : ∀ {a : Nat} {s : SV}, (ρ.set i .un)[a]? = some s → s.isOwn = true → i ≠ a ∧ ρ[a]? = some s := by
      intro a s q o
      by_cases e : i = a
      · subst e
        by_cases hl : i < ρ.length
        · rw [List.getElem?_set_self hl] at q; cases q; cases o
        · rw [List.getElem?_eq_none (by rw [List.length_set]; omega)] at q; cases q
      · rw [List.getElem?_set_ne e] at q; exact ⟨e, q⟩
    obtain ⟨n1, k1⟩ := back q1 o1
    obtain ⟨n2, k2⟩ := back q2 o2
    rw [List.getElem?_set_ne n1] at r1
    rw [List.getElem?_set_ne n2]
    exact h.apart a b s t p hab k1 k2 o1 o2 r1
theorem ds_try {W : WX} {ρ : En} {P : Post} {rest : List Stmt} (i : Nat) (hk : ClsAre X n (h₀ :: hs) l) (tk : Takes X W)
    (hb : ∀ (W' : WX) (pn : List (Addr × Obj)) (xe : Value → Shared → Prop), Takes (X.tr pn xe) W' → PassesOwn (model X.prog X.w) X.A X.env xe →
      DS (X.tr pn xe) W' ρ body { nx := fun ρ => DS X W ρ rest P, rt := P.rt, bk := P.bk, ct := P.ct, ex := Handled X W i P rest l })
    (hN : X.N.Nodup) (hst : X.stack = X.env :: X.outer := by rfl) (hf : X.env.frame = some X.env.locals := by rfl) (hi : X.N[i]? = some n := by rfl) (hln : X.env.kindOf n = some .local := by rfl) : DS X W ρ (.Try body (h₀ :: hs) [] [] pos :: rest) P := by
  refine ds_cons (ps_try_cl (tb := fun W' D σ H => ∀ (pn : List (Addr × Obj)) (xe : Value → Shared → Prop), Takes (X.tr pn xe) W' → PassesOwn (model X.prog X.w) X.A X.env xe → tS (X.tr pn xe) body D σ H) hst hf hN hi hln tk (fun W' pn xe t1 t2 => ⟨fun pins s σ H D I h => h pn xe t1 t2 pins s I⟩) hk) ?_
  intro H₀ G₀ G H σ D E S p pn xe t1 t2
  refine hb _ pn xe t1 t2 H₀ G₀ G H σ _ E S ⟨fun ρ' σ' G' H' q E' S' => q H₀ G₀ G' H' σ' D E' S' p, p.rt, p.bk, p.ct, fun x ρ' σ' G' H' c a q E' S' ea => ?_⟩
  obtain ⟨rfl, ea⟩ := ea
  have main : ∀ l : List Cl, Handled X W i P rest l x ρ' → wCl X i W { D with nx := tS X rest D } l (.ref x.cls) a σ' H' := by
    intro l
    induction l with
    | nil => exact fun q => p.ex x ρ' σ' G' H' _ a q E' S' ⟨rfl, ea⟩
    | cons k r ih =>
      intro q
      obtain ⟨b, e1, e2, e3⟩ := q
      refine ⟨b, e1, fun hb a' na oe pn hz hv => ?_, fun hb => ih (e3 hb)⟩
      have hl : x.line = none → a = none := fun z => by rw [z] at ea; exact ea
      refine e2 hb a' oe pn a hz hl hv H₀ G₀ G' H' _ _ E' (S'.set rfl (fun z => by cases z)) ⟨fun ρ2 σ2 G2 H2 q2 E2 S2 => ?_, p.rt, fun ρ2 σ2 G2 H2 q2 E2 S2 => ?_, fun ρ2 σ2 G2 H2 q2 E2 S2 => ?_, fun x2 ρ2 σ2 G2 H2 c2 a2 z => z.elim⟩
      · exact q2 H₀ G₀ G2 H2 _ D E2 S2.unset p
      · exact p.bk _ _ G2 H2 q2 E2 S2.unset
      · exact p.ct _ _ G2 H2 q2 E2 S2.unset
  exact main l q
end

/-! isinstance(e, C) of the exception that is held -/
section
variable {X : Cx} {ρ : En}
theorem de_isE {a : Addr} {oe : Obj} {pn : List (Addr × Obj)} {D : Addr} {x y : Str} {c : Value} {k : Bool} {i : Nat} {p p1 p2 pos : Pos} (C : L2.ExcC X.K D) (hz : Zc (.ref D) none oe) (hv : ∃ vs, oe.data = .fields vs) (hρ : ρ[i]? = some (.raw (.ref a)))
    (hm : X.mg "isinstance" = none) (hc : X.mg y = some c) (hr : ∃ A, c = .ref A) (hk : PySem.W.kitOne X.K (.ref D) c = some k) (hN : X.N[i]? = some x := by rfl) (hx : Vis X.env.scope x := by first | exact Or.inl rfl | exact Or.inr (Or.inl rfl) | exact Or.inr (Or.inr rfl))
    (hd : (x == ("__debug__" : Str)) = false := by decide) (hcd : (x == ("__classdict__" : Str)) = false := by decide) (hg : Gl X "isinstance" := by rfl) (hgy : Gl X y := by rfl) (hdy : (y == ("__debug__" : Str)) = false := by decide)
    (he : starEach [.Name x p1, .Name y p2] X.env = (false, eval (.Name x p1) X.env) :: starEach [.Name y p2] X.env := by rfl) (he2 : starEach [.Name y p2] X.env = (false, eval (.Name y p2) X.env) :: starEach [] X.env := by rfl) (hpl : (backTo pos (starEach [.Name y p2] X.env)).any (·.1) = false := by rfl) :
    DE (X.suite a ((a, oe) :: pn)) ρ (.Call (.Name "isinstance" p) [.Name x p1, .Name y p2] [] pos) (.bool k) := by
  obtain ⟨A, rfl⟩ := hr
  exact de_of (pe_callB (X := X.suite a ((a, oe) :: pn)) (call_isE C hz hv) hg hm (by decide +kernel) (pa_cons (pe_var hN hx hd hcd) (pa_cons (pe_glob (v := .ref A) hgy hc rfl hdy) pa_nil he2) he) (by decide) (by decide) he hpl) fun H₀ G H σ Q S q =>
    ⟨_, S.slot i _ hρ, .ref A, .ref A, k, rfl, fun u hu => hu, hk, q.of S.sub (.bl k)⟩
end
end DD
namespace DD
open PySem PySem.Spec PyProof.Rows L2
section
variable {X : Cx} {W : WX} {ρ ρ' : En} {e a b c tg iter : Expr} {es : List Expr} {d : PyData} {o : Out} {pos : Pos} {P : Post} {rest body : List Stmt} {T : Type}
theorem de_andF {k : Bool} (h : DE X ρ a (.bool k)) (hk : k = false := by first | rfl | assumption) : DE X ρ (.BoolOp .And (a :: b :: es) pos) (.bool false) := by subst hk; exact de_and h (fun z => by cases z) (fun _ => rfl)
theorem de_orT {k : Bool} (h : DE X ρ a (.bool k)) (hk : k = true := by first | rfl | assumption) : DE X ρ (.BoolOp .Or (a :: b :: es) pos) (.bool true) := by subst hk; exact de_or h (fun z => by cases z) (fun _ => rfl)
theorem de_andT {k : Bool} (h : DE X ρ a (.bool k)) (h2 : DE X ρ (.BoolOp .And (b :: es) pos) d) (hk : k = true := by first | rfl | assumption) : DE X ρ (.BoolOp .And (a :: b :: es) pos) d := by subst hk; exact de_and h (fun _ => h2) (fun z => by cases z)
theorem de_orF {k : Bool} (h : DE X ρ a (.bool k)) (h2 : DE X ρ (.BoolOp .Or (b :: es) pos) d) (hk : k = false := by first | rfl | assumption) : DE X ρ (.BoolOp .Or (a :: b :: es) pos) d := by subst hk; exact de_or h (fun _ => h2) (fun z => by cases z)
theorem dw_andF {k : Bool} (h : DT X ρ a k) (hk : k = false := by first | rfl | assumption) : DW X ρ (.BoolOp .And (a :: b :: es) pos) false := by subst hk; exact dw_and (k' := false) h (fun z => by cases z)
theorem dw_orT {k : Bool} (h : DT X ρ a k) (hk : k = true := by first | rfl | assumption) : DW X ρ (.BoolOp .Or (a :: b :: es) pos) true := by subst hk; exact dw_or (k' := true) h (fun z => by cases z)
theorem dw_andT {k k2 : Bool} (h : DT X ρ a k2) (h2 : DW X ρ (.BoolOp .And (b :: es) pos) k) (hk : k2 = true := by first | rfl | assumption) : DW X ρ (.BoolOp .And (a :: b :: es) pos) k := by subst hk; have := dw_and (k := true) h (fun _ => h2); simpa using this
theorem dw_orF {k k2 : Bool} (h : DT X ρ a k2) (h2 : DW X ρ (.BoolOp .Or (b :: es) pos) k) (hk : k2 = false := by first | rfl | assumption) : DW X ρ (.BoolOp .Or (a :: b :: es) pos) k := by subst hk; have := dw_or (k := false) h (fun _ => h2); simpa using this
theorem de_ifT {k : Bool} (h : DT X ρ c k) (h1 : DE X ρ a d) (hk : k = true := by first | rfl | assumption) : DE X ρ (.IfExp c a b pos) d := by subst hk; exact de_if h (fun _ => h1) (fun z => by cases z)
theorem de_ifF {k : Bool} (h : DT X ρ c k) (h1 : DE X ρ b d) (hk : k = false := by first | rfl | assumption) : DE X ρ (.IfExp c a b pos) d := by subst hk; exact de_if h (fun z => by cases z) (fun _ => h1)
theorem dx_ifT {k : Bool} (h : DT X ρ c k) (h1 : DX X W ρ a o) (hk : k = true := by first | rfl | assumption) : DX X W ρ (.IfExp c a b pos) o := by subst hk; exact dx_if h (fun _ => h1) (fun z => by cases z)
theorem dx_ifF {k : Bool} (h : DT X ρ c k) (h1 : DX X W ρ b o) (hk : k = false := by first | rfl | assumption) : DX X W ρ (.IfExp c a b pos) o := by subst hk; exact dx_if h (fun z => by cases z) (fun _ => h1)
/-- if .. : the test known -/
theorem ds_T {k : Bool} {orelse : List Stmt} (h : DT X ρ c k) (h1 : DS X W ρ body { P with nx := fun ρ => DS X W ρ rest P }) (hk : k = true := by first | rfl | assumption) : DS X W ρ (.If c body orelse pos :: rest) P := by subst hk; exact ds_ifT h h1
theorem ds_F {k : Bool} (h : DT X ρ c k) (h2 : DS X W ρ rest P) (hk : k = false := by first | rfl | assumption) : DS X W ρ (.If c body [] pos :: rest) P := by subst hk; exact ds_ifF h h2
theorem ds_E {k : Bool} {orelse : List Stmt} (h : DT X ρ c k) (h2 : DS X W ρ orelse { P with nx := fun ρ => DS X W ρ rest P }) (hk : k = false := by first | rfl | assumption) : DS X W ρ (.If c body orelse pos :: rest) P := by subst hk; exact ds_ifE h h2
theorem di_is {ds ds' : List PyData} (h : DI X ρ tg iter ds) (e : ds = ds') : DI X ρ tg iter ds' := e ▸ h
theorem di_r1 {p : Pos} {n : Int} {xs : List PyData} (he : DE X ρ a (.int n)) (hn : -(2 ^ 62) ≤ n ∧ n < 2 ^ 62) (hm : X.mg "range" = none) (e : (intsL 0 n.toNat).map PyData.int = xs := by rfl) (hg : Gl X "range" := by rfl) (hs : starEach [a] X.env = [(false, eval a X.env)] := by rfl) :
    DI X ρ tg (.Call (.Name "range" p) [a] [] pos) xs := e ▸ di_range1 he hn hm hg hs
theorem di_r2 {p : Pos} {m n : Int} {xs : List PyData} (he : DE X ρ a (.int m)) (hb : DE X ρ b (.int n)) (hn : -(2 ^ 62) ≤ m ∧ m < 2 ^ 62 ∧ -(2 ^ 62) ≤ n ∧ n < 2 ^ 62) (hm : X.mg "range" = none) (e : (intsL m (n - m).toNat).map PyData.int = xs := by rfl) (hg : Gl X "range" := by rfl)
    (hs : starEach [a, b] X.env = [(false, eval a X.env), (false, eval b X.env)] := by rfl) (hs2 : starEach [b] X.env = [(false, eval b X.env)] := by rfl) :
    DI X ρ tg (.Call (.Name "range" p) [a, b] [] pos) xs := e ▸ di_range2 he hb hn hm hg hs hs2
theorem Weak.eqd {d d' : PyData} {ρ ρ' : En} (h : d = d') (w : Weak ρ ρ') : Weak (.dat d :: ρ) (.dat d' :: ρ') := by subst h; exact .eq w
theorem Weak.eqo {d d' : List PyData} {ρ ρ' : En} (h : d = d') (w : Weak ρ ρ') : Weak (.own d :: ρ) (.own d' :: ρ') := by subst h; exact .eq w
theorem Weak.set {ρ ρ' : En} (i : Nat) {s : SV} (w : Weak ρ ρ') : Weak (ρ.set i s) (ρ'.set i s) := by
  induction w generalizing i with
  | nil => exact .nil
  | eq w ih =>
    cases i with
    | zero => exact .eq w
    | succ i => exact .eq (ih i)
  | un w ih =>
    cases i with
    | zero => exact .eq w
    | succ i => exact .un (ih i)
/-- a loop whose slots are known ahead of each turn -/
theorem ds_forE (xs : List T) (enc : T → PyData) (env : List T → En) (ρ2 : List T → T → En) (hi : DI X ρ tg iter (xs.map enc)) (h0 : Weak ρ (env []))
    (hg : ∀ pre x post, xs = pre ++ x :: post → DG X tg (enc x) (env pre) (ρ2 pre x))
    (hb : ∀ pre x post, xs = pre ++ x :: post → DS X W (ρ2 pre x) body { P with nx := fun ρ => ρ = env (pre ++ [x]), ct := fun ρ => ρ = env (pre ++ [x]), bk := fun ρ => DS X W ρ rest P })
    (hd : DS X W (env xs) rest P) (hc : X.calm = true := by rfl) (hp : PassesOwn (model X.prog X.w) X.A X.env X.xe := by first | exact PassesOwn.never | exact passes_of rfl)
    (hs : ∀ x, foldedSetIterable iter X.env x = pure x := by intro _; rfl) : DS X W ρ (.For tg iter body [] pos :: rest) P := by
  have cut : ∀ {i : Nat} {x : T}, xs[i]? = some x → xs = xs.take i ++ x :: xs.drop (i + 1) := by
    intro i x h
    obtain ⟨hl, e⟩ := List.getElem?_eq_some_iff.mp h
    rw [← e, List.getElem_cons_drop, List.take_append_drop]
  refine ds_for (fun i ρ' => Weak ρ' (env (xs.take i))) hi (by simpa using h0) (fun i d ρ' hd' w => ?_) (fun ρ' w => ?_) hc hp hs
  · rw [List.getElem?_map] at hd'
    cases hx : xs[i]? with
    | none => rw [hx] at hd'; cases hd'
    | some x =>
      rw [hx] at hd'
      have ed : enc x = d := Option.some.inj hd'
      subst ed
      have e := cut hx
      have et : xs.take (i + 1) = xs.take i ++ [x] := by rw [List.take_add_one, hx]; rfl
      refine ⟨ρ2 (xs.take i) x, fun H₀ G H σ v Q S r q => hg _ _ _ e H₀ G H σ v Q (S.weak w) r q, ?_⟩
      have b := hb _ _ _ e
      intro H₀ G₀ G H σ D E S p
      refine b H₀ G₀ G H σ D E S ⟨fun ρ5 σ5 G5 H5 q E5 S5 => ?_, p.rt, p.bk, fun ρ5 σ5 G5 H5 q E5 S5 => ?_, p.ex⟩
      · exact p.nx ρ5 σ5 G5 H5 (by rw [et, q]; exact Weak.refl _) E5 S5
      · exact p.ct ρ5 σ5 G5 H5 (by rw [et, q]; exact Weak.refl _) E5 S5
  · rw [List.length_map, List.take_length] at w
    exact ds_weak hd w
/-- .. with a word of what the turns so far have shown -/
theorem ds_forI (xs : List T) (enc : T → PyData) (I : List T → Prop) (env : List T → En) (ρ2 : List T → T → En) (hi : DI X ρ tg iter (xs.map enc)) (h0 : Weak ρ (env [])) (i0 : I [])
    (hg : ∀ pre x post, xs = pre ++ x :: post → DG X tg (enc x) (env pre) (ρ2 pre x))
    (hb : ∀ pre x post, xs = pre ++ x :: post → I pre → DS X W (ρ2 pre x) body { P with nx := fun ρ => ρ = env (pre ++ [x]) ∧ I (pre ++ [x]), ct := fun ρ => ρ = env (pre ++ [x]) ∧ I (pre ++ [x]), bk := fun ρ => DS X W ρ rest P })
    (hd : I xs → DS X W (env xs) rest P) (hc : X.calm = true := by rfl) (hp : PassesOwn (model X.prog X.w) X.A X.env X.xe := by first | exact PassesOwn.never | exact passes_of rfl)
    (hs : ∀ x, foldedSetIterable iter X.env x = pure x := by intro _; rfl) : DS X W ρ (.For tg iter body [] pos :: rest) P := by
  have cut : ∀ {i : Nat} {x : T}, xs[i]? = some x → xs = xs.take i ++ x :: xs.drop (i + 1) := by
    intro i x h
    obtain ⟨hl, e⟩ := List.getElem?_eq_some_iff.mp h
    rw [← e, List.getElem_cons_drop, List.take_append_drop]
  refine ds_for (fun i ρ' => Weak ρ' (env (xs.take i)) ∧ I (xs.take i)) hi ⟨by simpa using h0, by simpa using i0⟩ (fun i d ρ' hd' ⟨w, hI⟩ => ?_) (fun ρ' ⟨w, hI⟩ => ?_) hc hp hs
  · rw [List.getElem?_map] at hd'
    cases hx : xs[i]? with
    | none => rw [hx] at hd'; cases hd'
    | some x =>
      rw [hx] at hd'
      have ed : enc x = d := Option.some.inj hd'
      subst ed
      have e := cut hx
      have et : xs.take (i + 1) = xs.take i ++ [x] := by rw [List.take_add_one, hx]; rfl
      refine ⟨ρ2 (xs.take i) x, fun H₀ G H σ v Q S r q => hg _ _ _ e H₀ G H σ v Q (S.weak w) r q, ?_⟩
      have b := hb _ _ _ e hI
      intro H₀ G₀ G H σ D E S p
      refine b H₀ G₀ G H σ D E S ⟨fun ρ5 σ5 G5 H5 ⟨q, qI⟩ E5 S5 => ?_, p.rt, p.bk, fun ρ5 σ5 G5 H5 ⟨q, qI⟩ E5 S5 => ?_, p.ex⟩
      · exact p.nx ρ5 σ5 G5 H5 ⟨by rw [et, q]; exact Weak.refl _, by rw [et]; exact qI⟩ E5 S5
      · exact p.ct ρ5 σ5 G5 H5 ⟨by rw [et, q]; exact Weak.refl _, by rw [et]; exact qI⟩ E5 S5
  · rw [List.length_map, List.take_length] at w hI
    exact ds_weak (hd hI) w
/-- a comprehension without a test -/
theorem dl_lcM {elt : Expr} {scope : Scope} (xs : List T) (enc : T → PyData) (f : T → PyData) (own : List (Str × Nat)) (ρ2 : T → En) (hi : DI X ρ tg iter (xs.map enc)) (hN : X.N.Nodup) (ok : BlkOk X.N X.env.scope scope own)
    (hg : ∀ s H C cl fp x, x ∈ xs → DGc (X.blk s H scope (compEnvC scope cl C X.env) fp) tg (enc x) (wipeE ρ (own.map (·.2))) (ρ2 x) (own.map (·.2)))
    (he : ∀ s H C cl fp x, x ∈ xs → DE (X.blk s H scope (compEnvC scope cl C X.env) fp) (ρ2 x) elt (f x)) (hl : xs.length < sizeLine) (hc : X.calm = true := by rfl)
    (hs : ∀ x, foldedSetIterable iter X.env x = pure x := by intro _; rfl) : DL X ρ (.ListComp elt [⟨tg, iter, [], 0⟩] scope pos) (xs.map f) := by
  have h := dl_lc (pos := pos) xs enc (fun _ => true) f own ρ2 hi hN ok hg (fun _ _ _ _ _ _ _ => dts_nil) (fun s H C cl fp x hx _ => he s H C cl fp x hx) hl hc hs
  rwa [List.filter_eq_self.mpr (fun _ _ => rfl)] at h
theorem dl_is {ds ds' : List PyData} (h : DL X ρ e ds) (q : ds = ds') : DL X ρ e ds' := q ▸ h
/-- name = [..] without a test, from then on data -/
theorem ds_setLcM {elt : Expr} {scope : Scope} (i : Nat) {y : Str} {py : Pos} (xs : List T) (enc : T → PyData) (f : T → PyData) (own : List (Str × Nat)) (ρ2 : T → En) {spos : Pos} (hi : DI X ρ tg iter (xs.map enc)) (hN : X.N.Nodup) (ok : BlkOk X.N X.env.scope scope own)
    (hg : ∀ s H C cl fp x, x ∈ xs → DGc (X.blk s H scope (compEnvC scope cl C X.env) fp) tg (enc x) (wipeE ρ (own.map (·.2))) (ρ2 x) (own.map (·.2)))
    (he : ∀ s H C cl fp x, x ∈ xs → DE (X.blk s H scope (compEnvC scope cl C X.env) fp) (ρ2 x) elt (f x)) (hl : xs.length < sizeLine)
    (h : DS X W (ρ.set i (.dat (.list (xs.map f)))) rest P) (hlen : i < ρ.length := by simp)
    (hsw : swapsWith (.ListComp elt [⟨tg, iter, [], 0⟩] scope pos) (some (.Name y py)) spos.line X.env = pure true := by exact sw_true rfl rfl rfl (by decide +kernel)) (hy : X.N[i]? = some y := by rfl) (hyl : X.env.scope.names.lookup y = some .local := by rfl) (hc : X.calm = true := by rfl)
    (hs : ∀ x, foldedSetIterable iter X.env x = pure x := by intro _; rfl) : DS X W ρ (.Assign [.Name y py] (.ListComp elt [⟨tg, iter, [], 0⟩] scope pos) spos :: rest) P := by
  refine ds_setLcO i xs enc (fun _ => true) f own ρ2 hi hN ok hg (fun _ _ _ _ _ _ _ => dts_nil) (fun s H C cl fp x hx _ => he s H C cl fp x hx) hl ?_ hsw hy hyl hc hs
  rw [List.filter_eq_self.mpr (fun _ _ => rfl)]
  refine ds_freeze i (ds := xs.map f) (List.getElem?_set_self hlen) ?_
  rw [List.set_set]
  exact h
theorem at_last {α β : Type} {xs : List α} {d : α} (f : α → β) (h : xs ≠ []) : atI (xs.map f) (-1) = some (f (xs.getLast?.getD d)) := by
  obtain ⟨l, z, rfl⟩ : ∃ l z, xs = l ++ [z] := ⟨xs.dropLast, xs.getLast h, (List.dropLast_concat_getLast h).symm⟩
  rw [List.map_append]
  have := atI_last (l.map f) (f z)
  simpa using this
theorem rep_tup {k : Int} {ds : List PyData} {n : Nat} (hk : k = (n : Int)) (ha : DE X ρ a (.tuple ds)) (hb : DE X ρ b (.int k)) (h0 : ds ≠ []) (h1 : 2 ≤ n) (h2 : n ≤ 1000) (h3 : ds.length ≤ 1000) : DE X ρ (.BinOp a .Mult b pos) (.tuple (List.replicate n ds).flatten) :=
  de_of (pe_op op_repT pe_D pe_D) fun H₀ G H σ Q S q => by
    subst hk
    refine ha H₀ G H σ _ S fun v G1 H1 e1 r1 => ?_
    refine hb H₀ G1 H1 σ _ (S.up e1) fun u G2 H2 e2 r2 => ?_
    cases r2
    cases r1 with
    | @tup q1 ws _ h3' h4 =>
      have e12 := e1.trans e2
      refine ⟨_, n, _, rfl, rfl, .of (e2.gh _ _ (e2.gg _ _ h3')), (by intro z; subst z; cases h4; exact h0 rfl), by omega, by omega, by rw [h4.length]; exact h3, fun l hl => ?_⟩
      have e3 := Ext.new (o := .tup (List.replicate n ws).flatten) e2.gh hl
      exact q _ _ _ (e12.trans e3) (.tup upd_same (RpA.rep (h4.up (e2.gg.trans e3.gg)) _))
end

/-! ### data compared -/
/-- of bounded depth, without dicts -/
def Sh (n : Nat) (d : PyData) : Prop := d.canLay0 = true ∧ d.depth ≤ n
theorem Sh.up {n m : Nat} {d : PyData} (h : Sh n d) (l : n ≤ m) : Sh m d := ⟨h.1, Nat.le_trans h.2 l⟩
theorem Sh.shaped {n : Nat} {d : PyData} (h : Sh n d) (l : n ≤ 64 := by decide) : SeqAt.shaped d = true := by
  unfold SeqAt.shaped
  rw [h.1, decide_eq_true (Nat.le_trans h.2 l)] <;> rfl
theorem sh_none {n : Nat} : Sh n .none := ⟨rfl, Nat.zero_le _⟩
theorem sh_bool {n : Nat} {b : Bool} : Sh n (.bool b) := ⟨rfl, Nat.zero_le _⟩
theorem sh_int {n : Nat} {i : Int} : Sh n (.int i) := ⟨rfl, Nat.zero_le _⟩
theorem sh_all {n : Nat} : ∀ {ds : List PyData}, (∀ d ∈ ds, Sh n d) → PyData.canLayAll0 ds = true ∧ PyData.depthAll ds ≤ n
  | [], _ => ⟨rfl, Nat.zero_le _⟩
  | d :: ds, h => by
    obtain ⟨a1, a2⟩ := h d List.mem_cons_self
    obtain ⟨b1, b2⟩ := sh_all fun x hx => h x (List.mem_cons_of_mem _ hx)
    refine ⟨?_, Nat.max_le.mpr ⟨a2, b2⟩⟩
    show (d.canLay0 && PyData.canLayAll0 ds) = true
    rw [a1, b1] <;> rfl
theorem sh_tup {n : Nat} {ds : List PyData} (h : ∀ d ∈ ds, Sh n d) : Sh (n + 1) (.tuple ds) := ⟨(sh_all h).1, Nat.succ_le_succ (sh_all h).2⟩
theorem sh_lst {n : Nat} {ds : List PyData} (h : ∀ d ∈ ds, Sh n d) : Sh (n + 1) (.list ds) := ⟨(sh_all h).1, Nat.succ_le_succ (sh_all h).2⟩
theorem sh_map {T : Type} {n : Nat} {f : T → PyData} {xs : List T} (h : ∀ x ∈ xs, Sh n (f x)) : ∀ d ∈ xs.map f, Sh n d := fun d hd => by
  obtain ⟨x, hx, rfl⟩ := List.mem_map.mp hd
  exact h x hx
theorem sh_tupI {l : List Int} : Sh 1 (.tuple (l.map .int)) := sh_tup (n := 0) (sh_map fun _ _ => sh_int)
theorem sh_lstI {l : List Int} : Sh 1 (.list (l.map .int)) := sh_lst (n := 0) (sh_map fun _ _ => sh_int)
/-- a typed form whose == is equality -/
def EqEnc {T : Type} [DecidableEq T] (f : T → PyData) : Prop := ∀ x y, PyData.eqv (f x) (f y) = decide (x = y)
theorem eq_int : EqEnc PyData.int := fun x y => by
  show (x == y) = decide (x = y)
  rw [Bool.eq_iff_iff]; simp
theorem eqv_all {T : Type} [DecidableEq T] {f : T → PyData} (h : EqEnc f) : ∀ xs ys : List T, PyData.eqvAll (xs.map f) (ys.map f) = decide (xs = ys)
  | [], [] => rfl
  | [], y :: ys => rfl
  | x :: xs, [] => rfl
  | x :: xs, y :: ys => by
    show (PyData.eqv (f x) (f y) && PyData.eqvAll (xs.map f) (ys.map f)) = _
    rw [h, eqv_all h xs ys, Bool.eq_iff_iff]
    simp
theorem eq_tup {T : Type} [DecidableEq T] {f : T → PyData} (h : EqEnc f) : EqEnc fun xs : List T => .tuple (xs.map f) := fun xs ys => eqv_all h xs ys
theorem eq_lst {T : Type} [DecidableEq T] {f : T → PyData} (h : EqEnc f) : EqEnc fun xs : List T => .list (xs.map f) := fun xs ys => eqv_all h xs ys
theorem eqv_self {T : Type} [DecidableEq T] {f : T → PyData} (h : EqEnc f) (x : T) : PyData.eqv (f x) (f x) = true := by rw [h, decide_eq_true rfl]
theorem getD_in {α : Type} {l : List α} {i : Nat} {d : α} (h : i < l.length) : l.getD i d = l[i] := by
  rw [List.getD_eq_getElem?_getD, List.getElem?_eq_getElem h]; rfl
theorem getD_out {α : Type} {l : List α} {i : Nat} {d : α} (h : l.length ≤ i) : l.getD i d = d := by
  rw [List.getD_eq_getElem?_getD, List.getElem?_eq_none h]; rfl

theorem intsL_mem {lo : Int} {n : Nat} {x : Int} (h : x ∈ intsL lo n) : lo ≤ x ∧ x < lo + n := by
  unfold intsL at h
  obtain ⟨j, hj, rfl⟩ := List.mem_map.mp h
  have := List.mem_range.mp hj
  omega
/-! ### the clauses that the laws write -/
/-- of two exception classes of the text: what an except clause and isinstance say -/
structure RelC (K : PySem.W.Frag) (D C : Addr) (b : Bool) : Prop where
  ex : PySem.W.exmOne K (.ref D) (.ref C) = some b
  ki : PySem.W.kitOne K (.ref D) (.ref C) = some b
theorem ds_clause {X : Cx} {W : WX} {ρ : En} {P : Post} {a : Addr} {oe : Obj} {pn : List (Addr × Obj)} {D A B : Addr} {d : Option Addr} {x y z s1 s2 : Str} {k1 k2 : Nat} {i : Nat} {p1 p2 p3 p4 p5 p6 p7 p8 p9 p10 p11 p12 p13 p14 : Pos} (E : L2.ExcC X.K D) (hz : Zc (.ref D) d oe) (hd : d = none) (hv : ∃ vs, oe.data = .fields vs)
    (hm : X.mg "isinstance" = none) (hA : X.mg y = some (.ref A)) (hB : X.mg z = some (.ref B)) (rA : RelC X.K D A true) (rB : RelC X.K D B false) (hρ : ρ[i]? = some (.raw (.ref a))) (h : P.rt (.str s1))
    (hN : X.N[i]? = some x := by rfl) (hx : Vis X.env.scope x := by first | exact Or.inl rfl | exact Or.inr (Or.inl rfl) | exact Or.inr (Or.inr rfl))
    (hd1 : (x == ("__debug__" : Str)) = false := by decide) (hcd : (x == ("__classdict__" : Str)) = false := by decide) (hg : Gl X "isinstance" := by rfl) (hgy : Gl X y := by rfl) (hdy : (y == ("__debug__" : Str)) = false := by decide) (hgz : Gl X z := by rfl) (hdz : (z == ("__debug__" : Str)) = false := by decide)
    (e1 : starEach [.Name x p2, .Name y p3] X.env = (false, eval (.Name x p2) X.env) :: starEach [.Name y p3] X.env := by rfl) (e2 : starEach [.Name y p3] X.env = (false, eval (.Name y p3) X.env) :: starEach [] X.env := by rfl) (e3 : (backTo p4 (starEach [.Name y p3] X.env)).any (·.1) = false := by rfl)
    (e4 : starEach [.Name x p6, .Name z p7] X.env = (false, eval (.Name x p6) X.env) :: starEach [.Name z p7] X.env := by rfl) (e5 : starEach [.Name z p7] X.env = (false, eval (.Name z p7) X.env) :: starEach [] X.env := by rfl) (e6 : (backTo p8 (starEach [.Name z p7] X.env)).any (·.1) = false := by rfl) :
    DS (X.suite a ((a, oe) :: pn)) W ρ [.Return (some (.IfExp (.BoolOp .And [.Call (.Name "isinstance" p1) [.Name x p2, .Name y p3] [] p4, .UnaryOp .Not (.Call (.Name "isinstance" p5) [.Name x p6, .Name z p7] [] p8) p9] p10) (.Constant (.str s1) k1 p11) (.Constant (.str s2) k2 p12) p13)) p14] P := by
  subst hd
  have t1 := de_isE (p := p1) (p1 := p2) (p2 := p3) (pos := p4) (pn := pn) E hz hv hρ hm hA ⟨A, rfl⟩ rA.ki hN hx hd1 hcd hg hgy hdy e1 e2 e3
  have t2 := de_isE (p := p5) (p1 := p6) (p2 := p7) (pos := p8) (pn := pn) E hz hv hρ hm hB ⟨B, rfl⟩ rB.ki hN hx hd1 hcd hg hgz hdz e4 e5 e6
  exact ds_ret (de_ifT (k := true) (dt_w (dw_andT (dt_val t1) (dw_and1 (k := true) (dt_not (dt_val t2))))) de_str) h
theorem relC_mk {K : PySem.W.Frag} {D C : Addr} {b : Bool} (h1 : PySem.W.subIn K (.ref C) (.type "BaseException") = some true) (hd : PySem.W.hasDictIn K C = true) (ht : PySem.W.typeIn K (.ref C) = some (.type "type")) (h4 : PySem.W.subIn K (.ref D) (.ref C) = some b) (hn : b = true ∨ D ≠ C) : RelC K D C b := by
  have e := PySem.W.exm_ref (cls := .ref D) h1 hd ht h4
  refine ⟨e, ?_⟩
  unfold PySem.W.exmOne at e
  rw [if_pos (by rw [h1] <;> rfl)] at e
  unfold PySem.W.kitOne
  split
  · rename_i q
    have q : D = C := Value.ref.inj (eq_of_beq q)
    rcases hn with rfl | hn
    · rfl
    · exact absurd q hn
  · exact e
theorem cx_none {P : Program} {w : World} {outer : List Env} {H : Hp} {s : Shared} {u : Value} {s' : Shared} (h : L2.CX P w outer H s (fun _ _ _ => False) u s') : False := by
  obtain ⟨_, _, _, _, _, _, _, _, _, _, _, _, h⟩ := h
  exact h
end DD
namespace My
open PySem PySem.Spec PyProof.Rows L2 DD
def topS (i : Nat) : Stmt := PySem.Challenge.pw_toldaverages_k10_whole_candidates.main.body.getD i (.Pass ⟨0, 0, 0, 0⟩)
abbrev s_in_range : Stmt := topS 5
abbrev n_in_range : List Str := ["value", "low", "high"]
abbrev p_in_range : List Str := ["value", "low", "high"]
theorem c_in_range : FnScope n_in_range p_in_range (defScope s_in_range) := ⟨rfl, rfl, rfl, by decide +kernel, rfl, by decide +kernel, by decide +kernel⟩
abbrev s_power : Stmt := topS 9
abbrev n_power : List Str := ["place", "exponent", "result", "time"]
abbrev p_power : List Str := ["place", "exponent"]
theorem c_power : FnScope n_power p_power (defScope s_power) := ⟨rfl, rfl, rfl, by decide +kernel, rfl, by decide +kernel, by decide +kernel⟩
abbrev s_check_last : Stmt := topS 10
abbrev n_check_last : List Str := ["last"]
abbrev p_check_last : List Str := ["last"]
theorem c_check_last : FnScope n_check_last p_check_last (defScope s_check_last) := ⟨rfl, rfl, rfl, by decide +kernel, rfl, by decide +kernel, by decide +kernel⟩
abbrev s_all_placements : Stmt := topS 12
abbrev n_all_placements : List Str := ["last", "items", "result", "time", "longer", "one", "start", "place"]
abbrev p_all_placements : List Str := ["last", "items"]
theorem c_all_placements : FnScope n_all_placements p_all_placements (defScope s_all_placements) := ⟨rfl, rfl, rfl, by decide +kernel, rfl, by decide +kernel, by decide +kernel⟩
abbrev s_check_answers : Stmt := topS 13
abbrev n_check_answers : List Str := ["last", "items", "answers", "answer"]
abbrev p_check_answers : List Str := ["last", "items", "answers"]
theorem c_check_answers : FnScope n_check_answers p_check_answers (defScope s_check_answers) := ⟨rfl, rfl, rfl, by decide +kernel, rfl, by decide +kernel, by decide +kernel⟩
abbrev s_power_sum : Stmt := topS 14
abbrev n_power_sum : List Str := ["placement", "exponent", "place"]
abbrev p_power_sum : List Str := ["placement", "exponent"]
theorem c_power_sum : FnScope n_power_sum p_power_sum (defScope s_power_sum) := ⟨rfl, rfl, rfl, by decide +kernel, rfl, by decide +kernel, by decide +kernel⟩
abbrev s_candidates : Stmt := topS 15
abbrev n_candidates : List Str := ["last", "items", "answers", "result", "placement", "exponent", "told"]
abbrev p_candidates : List Str := ["last", "items", "answers"]
theorem c_candidates : FnScope n_candidates p_candidates (defScope s_candidates) := ⟨rfl, rfl, rfl, by decide +kernel, rfl, by decide +kernel, by decide +kernel⟩
abbrev s_best_power : Stmt := topS 16
abbrev n_best_power : List Str := ["last", "items", "answers", "found", "best", "exponent", "here", "placement", "worst", "told"]
abbrev p_best_power : List Str := ["last", "items", "answers"]
theorem c_best_power : FnScope n_best_power p_best_power (defScope s_best_power) := ⟨rfl, rfl, rfl, by decide +kernel, rfl, by decide +kernel, by decide +kernel⟩
abbrev s__law_cell : Stmt := topS 18
abbrev n__law_cell : List Str := ["_law_script", "_law_k"]
abbrev p__law_cell : List Str := ["_law_script", "_law_k"]
theorem c__law_cell : FnScope n__law_cell p__law_cell (defScope s__law_cell) := ⟨rfl, rfl, rfl, by decide +kernel, rfl, by decide +kernel, by decide +kernel⟩
abbrev s__law_row : Stmt := topS 19
abbrev n__law_row : List Str := ["_law_script", "_law_at", "_law_cell_here", "_law_found", "_law_time"]
abbrev p__law_row : List Str := ["_law_script", "_law_at"]
theorem c__law_row : FnScope n__law_row p__law_row (defScope s__law_row) := ⟨rfl, rfl, rfl, by decide +kernel, rfl, by decide +kernel, by decide +kernel⟩
abbrev s__law_power : Stmt := topS 20
abbrev n__law_power : List Str := ["_law_place", "_law_exponent", "_law_found", "_law_time"]
abbrev p__law_power : List Str := ["_law_place", "_law_exponent"]
theorem c__law_power : FnScope n__law_power p__law_power (defScope s__law_power) := ⟨rfl, rfl, rfl, by decide +kernel, rfl, by decide +kernel, by decide +kernel⟩
abbrev s__law_placements : Stmt := topS 21
abbrev n__law_placements : List Str := ["_law_last", "_law_items", "_law_found", "_law_time", "_law_longer", "_law_one", "_law_place"]
abbrev p__law_placements : List Str := ["_law_last", "_law_items"]
theorem c__law_placements : FnScope n__law_placements p__law_placements (defScope s__law_placements) := ⟨rfl, rfl, rfl, by decide +kernel, rfl, by decide +kernel, by decide +kernel⟩
abbrev s__law_hidden : Stmt := topS 22
abbrev n__law_hidden : List Str := ["_law_mode", "_law_last", "_law_items", "_law_answers", "e"]
abbrev p__law_hidden : List Str := ["_law_mode", "_law_last", "_law_items", "_law_answers"]
theorem c__law_hidden : FnScope n__law_hidden p__law_hidden (defScope s__law_hidden) := ⟨rfl, rfl, rfl, by decide +kernel, rfl, by decide +kernel, by decide +kernel⟩
abbrev s__law_best : Stmt := topS 23
abbrev n__law_best : List Str := ["_law_due", "_law_best_here", "_law_exponent", "_law_here", "_law_place", "_law_one", "_law_worst", "_law_told"]
abbrev p__law_best : List Str := ["_law_due"]
theorem c__law_best : FnScope n__law_best p__law_best (defScope s__law_best) := ⟨rfl, rfl, rfl, by decide +kernel, rfl, by decide +kernel, by decide +kernel⟩
abbrev s_law : Stmt := topS 24
abbrev n_law : List Str := ["_law_script", "_law_draws", "_law_last", "_law_items", "_law_every", "_law_hidden_here", "_law_sums_here", "_law_place", "_law_exponent", "_law_told_all", "_law_at", "_law_answers", "_law_time", "_law_due", "_law_one", "_law_told", "_law_wrong", "_law_mode"]
abbrev p_law : List Str := ["_law_script"]
theorem c_law : FnScope n_law p_law (defScope s_law) := ⟨rfl, rfl, rfl, by decide +kernel, rfl, by decide +kernel, by decide +kernel⟩
/-- what the module says of its names -/
structure Md (K : PySem.W.Frag) (mg : Str → Option Value) : Type where
  isinstance : mg "isinstance" = none
  int : mg "int" = none
  bool : mg "bool" = none
  tuple : mg "tuple" = none
  list : mg "list" = none
  range : mg "range" = none
  len : mg "len" = none
  sum : mg "sum" = none
  min : mg "min" = none
  max : mg "max" = none
  C_AverageError : Addr
  E_AverageError : ECls K mg "AverageError" C_AverageError
  C_InvalidNumber : Addr
  E_InvalidNumber : ECls K mg "InvalidNumber" C_InvalidNumber
  C_InvalidAnswers : Addr
  E_InvalidAnswers : ECls K mg "InvalidAnswers" C_InvalidAnswers
  g_MAX_PLACE : ∃ t, mg "MAX_PLACE" = some (.int 6 t)
  g_MAX_POWER : ∃ t, mg "MAX_POWER" = some (.int 3 t)
  R_InvalidNumber_InvalidNumber : RelC K C_InvalidNumber C_InvalidNumber true
  R_InvalidNumber_AverageError : RelC K C_InvalidNumber C_AverageError true
  R_InvalidNumber_InvalidAnswers : RelC K C_InvalidNumber C_InvalidAnswers false
  R_InvalidAnswers_InvalidNumber : RelC K C_InvalidAnswers C_InvalidNumber false
  R_InvalidAnswers_AverageError : RelC K C_InvalidAnswers C_AverageError true
  R_InvalidAnswers_InvalidAnswers : RelC K C_InvalidAnswers C_InvalidAnswers true
  X_InvalidNumber : L2.ExcC K C_InvalidNumber
  X_InvalidAnswers : L2.ExcC K C_InvalidAnswers
/-! ### in_range -/
def inR : PyData → Int → Int → Bool
  | .int i, lo, hi => decide (lo ≤ i) && decide (i ≤ hi)
  | _, _, _ => false
theorem inR_iff {v : PyData} {lo hi : Int} : inR v lo hi = true ↔ ∃ i : Int, v = .int i ∧ lo ≤ i ∧ i ≤ hi := by
  cases v with
  | int i => simp [inR]
  | _ => simp [inR]
def S_in_range (ds : List PyData) (o : Out) : Prop := ∃ (v : PyData) (lo hi : Int), ds = [v, .int lo, .int hi] ∧ o = .ret (.bool (inR v lo hi))
section
variable {P : Program} {w : World} {K : PySem.W.Frag} {mg : Str → Option Value} {base : Heap} (M : Md K mg) {f : Addr} {fd : FuncData}
include M
theorem f_in_range (F : Fun K "in_range" "in_range" s_in_range f fd) : FnOk P w K mg base (L2.CX P w) 1 f fd p_in_range (spD S_in_range) := by
  refine fn_ok (k := 0) F c_in_range (fun ds o ⟨_, _, _, h, _⟩ => by rw [h]; rfl) (by decide) fun cdv A outer s H E ds o hr hS tk => ?_
  obtain ⟨v, lo, hi, rfl, rfl⟩ := hS
  show DS _ _ [.dat v, .dat (.int lo), .dat (.int hi)] _ _
  cases v with
  | int i => exact ds_ret (de_andB (de_isI M.isinstance M.int (de_var (i := 0) rfl)) fun _ => (de_andB (de_notB (de_isBl M.isinstance M.bool (de_var (i := 0) rfl))) fun _ => (de_one (de_lele (de_var (i := 1) rfl) (de_var (i := 0) rfl) (de_var (i := 2) rfl))))) rfl
  | bool b => exact ds_ret (de_andB (de_isI M.isinstance M.int (de_var (i := 0) rfl)) fun _ => de_andF (de_notB (de_isBl M.isinstance M.bool (de_var (i := 0) rfl)))) rfl
  | _ => exact ds_ret (de_andF (de_isI M.isinstance M.int (de_var (i := 0) rfl))) rfl
end
/-! ### power -/
def S_power (ds : List PyData) (o : Out) : Prop := ∃ (p : Int) (n : Nat), ds = [.int p, .int (n : Int)] ∧ p.natAbs < 2 ^ 64 ∧ n < 2 ^ 62 ∧ o = .ret (.int (p ^ n))
section
variable {P : Program} {w : World} {K : PySem.W.Frag} {mg : Str → Option Value} {base : Heap} (M : Md K mg) {f : Addr} {fd : FuncData}
include M
theorem f_power (F : Fun K "power" "power" s_power f fd) : FnOk P w K mg base (L2.CX P w) 1 f fd p_power (spD S_power) := by
  refine fn_ok (k := 0) F c_power (fun ds o ⟨_, _, h, _⟩ => by rw [h]; rfl) (by decide) fun cdv A outer s H E ds o hr hS tk => ?_
  obtain ⟨p, n, rfl, hp, hn, rfl⟩ := hS
  show DS _ _ [.dat (.int p), .dat (.int n), .un, .un] _ _
  refine ds_set 2 de_int ?_ c_power.nd
  refine ds_forE (intsL 0 n) PyData.int (fun pre => [.dat (.int p), .dat (.int n), .dat (.int (p ^ pre.length)), .un]) (fun pre x => [.dat (.int p), .dat (.int n), .dat (.int (p ^ pre.length)), .dat (.int x)])
    (di_r1 (de_var (i := 1) rfl) (by omega) M.range) (.eq (.eq (.eqd (by simp) (.eq .nil)))) (fun pre x post e => dg_name 3 c_power.nd) (fun pre x post e => ?_) ?_
  · refine ds_augMul 2 rfl (de_var (i := 0) rfl) (.inr (by omega)) ?_ c_power.nd
    exact ds_nil rfl (.eq (.eq (.eqd (by rw [List.length_append, List.length_singleton, Int.pow_succ]) (.un .nil))))
  · refine ds_ret (de_var (i := 2) rfl) ?_
    rw [intsL_len]
    rfl
end
theorem intsL_split {lo : Int} {n : Nat} {pre post : List Int} {x : Int} (h : intsL lo n = pre ++ x :: post) : x = lo + pre.length ∧ pre.length < n ∧ pre = intsL lo pre.length := by
  have hx : (intsL lo n)[pre.length]? = some x := by rw [h, List.getElem?_append_right (Nat.le_refl _), Nat.sub_self]; rfl
  obtain ⟨h1, h2⟩ := intsL_at hx
  refine ⟨h2, h1, ?_⟩
  have e : pre = (intsL lo n).take pre.length := by rw [h, List.take_left]
  conv => lhs; rw [e]
  unfold intsL
  rw [← List.map_take, List.take_range, Nat.min_eq_left (Nat.le_of_lt h1)]
/-! ### check_last -/
def S_check_last (C : Addr) (ds : List PyData) (o : Out) : Prop := ∃ v : PyData, ds = [v] ∧ o = if inR v 1 6 = true then .ret .none else .exc ⟨C, none⟩
section
variable {P : Program} {w : World} {K : PySem.W.Frag} {mg : Str → Option Value} {base : Heap} (M : Md K mg) {f : Addr} {fd : FuncData}
theorem f_check_last (F : Fun K "check_last" "check_last" s_check_last f fd) (F_in_range : FnIn P w K mg base 1 "in_range" S_in_range) :
    FnOk P w K mg base (L2.CX P w) 2 f fd p_check_last (spD (S_check_last M.C_InvalidNumber)) := by
  refine fn_ok (k := 1) F c_check_last (fun ds o ⟨_, h, _⟩ => by rw [h]; rfl) (by decide) fun cdv A outer s H E ds o hr hS tk => ?_
  obtain ⟨v, rfl, rfl⟩ := hS
  obtain ⟨t, g_MAX_PLACE⟩ := M.g_MAX_PLACE
  show DS _ _ [.dat v] _ _
  cases hb : inR v 1 6 with
  | false =>
    refine ds_T (dt_not (dt_val (de_call F_in_range hr (da_cons (de_var (i := 0) rfl) (da_cons de_int (da_cons (de_globI g_MAX_PLACE) da_nil))) ⟨_, _, _, rfl, rfl⟩))) ?_ (by rw [hb]; rfl)
    exact ds_raise M.E_InvalidNumber tk rfl
  | true =>
    refine ds_F (dt_not (dt_val (de_call F_in_range hr (da_cons (de_var (i := 0) rfl) (da_cons de_int (da_cons (de_globI g_MAX_PLACE) da_nil))) ⟨_, _, _, rfl, rfl⟩))) (ds_end rfl) (by rw [hb]; rfl)
end
/-! ### all_placements -/
def encP (l : List Int) : PyData := .tuple (l.map .int)
def lastP (one : List Int) : Int := one.getLast?.getD 0
def extP (last : Int) (one : List Int) : List (List Int) := (intsL (lastP one) (last + 1 - lastP one).toNat).map fun p => one ++ [p]
def allP (last : Int) : Nat → List (List Int)
  | 0 => [[]]
  | n + 1 => (allP last n).flatMap (extP last)
theorem allP_few : ∀ l : Fin 7, ∀ n : Fin 5, (allP (l.val : Int) n.val).length ≤ 1000 := by decide +kernel
theorem allP_mem {last : Int} (h0 : 0 ≤ last) : ∀ {n : Nat} {one : List Int}, one ∈ allP last n → one.length = n ∧ ∀ p ∈ one, 0 ≤ p ∧ p ≤ last
  | 0, one, h => by
    have : one = [] := by simpa [allP] using h
    subst this
    exact ⟨rfl, fun p hp => by simp at hp⟩
  | n + 1, one, h => by
    obtain ⟨o', h1, h2⟩ := List.mem_flatMap.mp h
    obtain ⟨p, hp, rfl⟩ := List.mem_map.mp h2
    obtain ⟨e1, e2⟩ := allP_mem h0 h1
    refine ⟨by rw [List.length_append, e1]; rfl, fun q hq => ?_⟩
    rcases List.mem_append.mp hq with z | z
    · exact e2 q z
    · have : q = p := by simpa using z
      subst this
      have hs : 0 ≤ lastP o' := by
        unfold lastP
        cases hg : o'.getLast? with
        | none => exact Int.le_refl 0
        | some y => exact (e2 y (List.mem_of_getLast? hg)).1
      unfold intsL at hp
      obtain ⟨j, hj, rfl⟩ := List.mem_map.mp hp
      have := List.mem_range.mp hj
      omega
def S_all_placements (ds : List PyData) (o : Out) : Prop := ∃ last items : Nat, ds = [.int (last : Int), .int (items : Int)] ∧ last ≤ 6 ∧ items ≤ 4 ∧ o = .ret (.list ((allP last items).map encP))
section
variable {P : Program} {w : World} {K : PySem.W.Frag} {mg : Str → Option Value} {base : Heap} (M : Md K mg) {f : Addr} {fd : FuncData}
include M
theorem f_all_placements (F : Fun K "all_placements" "all_placements" s_all_placements f fd) : FnOk P w K mg base (L2.CX P w) 1 f fd p_all_placements (spD S_all_placements) := by
  refine fn_ok (k := 0) F c_all_placements (fun ds o ⟨_, _, h, _⟩ => by rw [h]; rfl) (by decide) fun cdv A outer s H E ds o hr hS tk => ?_
  obtain ⟨last, items, rfl, h6, h4, rfl⟩ := hS
  have hz := line63
  have hz2 : sizeLine = 16777216 := sizeLine_eq
  show DS _ _ [.dat (.int last), .dat (.int items), .un, .un, .un, .un, .un, .un] _ _
  refine ds_set 2 (de_lst (da_cons (de_tup da_nil) da_nil)) ?_ c_all_placements.nd
  refine ds_forE (intsL 0 items) PyData.int (fun pre => [.dat (.int last), .dat (.int items), .dat (.list ((allP last pre.length).map encP)), .un, .un, .un, .un, .un])
    (fun pre x => [.dat (.int last), .dat (.int items), .dat (.list ((allP last pre.length).map encP)), .dat (.int x), .un, .un, .un, .un])
    (di_r1 (de_var (i := 1) rfl) (by omega) M.range) (.eq (.eq (.eqd rfl (.eq (.eq (.eq (.eq (.eq .nil)))))))) (fun pre x post e => dg_name 3 c_all_placements.nd) (fun pre x post e => ?_) ?_
  · obtain ⟨-, hlt, -⟩ := intsL_split e
    have hbig : (allP last (pre.length + 1)).length ≤ 1000 := allP_few ⟨last, by omega⟩ ⟨pre.length + 1, by omega⟩
    refine ds_own 4 (dl_lst da_nil) ?_ c_all_placements.nd
    refine ds_forE (allP last pre.length) encP (fun p2 => [.dat (.int last), .dat (.int items), .dat (.list ((allP last pre.length).map encP)), .dat (.int x), .own ((p2.flatMap (extP last)).map encP), .un, .un, .un])
      (fun p2 one => [.dat (.int last), .dat (.int items), .dat (.list ((allP last pre.length).map encP)), .dat (.int x), .own ((p2.flatMap (extP last)).map encP), .dat (encP one), .un, .un])
      (di_list (de_var (i := 2) rfl)) (.eq (.eq (.eq (.eq (.eqo rfl (.eq (.eq (.eq .nil)))))))) (fun p2 one q2 e2 => dg_name 5 c_all_placements.nd) (fun p2 one q2 e2 => ?_) ?_
    · have hone : one ∈ allP last pre.length := by rw [e2]; simp
      obtain ⟨hl1, hl2⟩ := allP_mem (by omega) hone
      have hs : 0 ≤ lastP one ∧ lastP one ≤ last := by
        unfold lastP
        cases hg : one.getLast? with
        | none => exact ⟨Int.le_refl 0, by show (0 : Int) ≤ last; omega⟩
        | some y => exact hl2 y (List.mem_of_getLast? hg)
      refine ds_set 6 (d := .int (lastP one)) (de_if (k := !(one.map PyData.int).isEmpty) (dt_tru (de_var (i := 5) (d := encP one) rfl) (by intro s h; cases h)) (fun hk => de_ixT (ds := one.map .int) (de_var (i := 5) rfl) (de_neg de_int) ?_) (fun hk => de_is de_int ?_)) ?_ c_all_placements.nd
      · exact at_last PyData.int (by intro z; subst z; simp at hk)
      · have : one = [] := by simpa using hk
        subst this
        rfl
      refine ds_ext 4 (ds := (p2.flatMap (extP last)).map encP) (es' := (extP last one).map encP) rfl (dl_is (dl_lcM (intsL (lastP one) (last + 1 - lastP one).toNat) PyData.int (fun p => encP (one ++ [p])) [("place", 7)] (fun p => [.dat (.int last), .dat (.int items), .dat (.list ((allP last pre.length).map encP)), .dat (.int x), .own ((p2.flatMap (extP last)).map encP), .dat (encP one), .dat (.int (lastP one)), .dat (.int p)])
        (di_r2 (de_var (i := 6) rfl) (de_add (de_var (i := 0) rfl) de_int) (by omega) M.range) c_all_placements.nd (blkOk_by (N := n_all_placements) (sc := defScope s_all_placements) (by decide +kernel)) (fun _ _ _ _ _ p hp => dgc_name 7 c_all_placements.nd) (fun _ _ _ _ _ p hp => de_is (de_catT (ds := one.map .int) (d2s := [.int p]) (de_var (i := 5) rfl) (de_tup (da_cons (de_var (i := 7) rfl) da_nil)) ?_) ?_) ?_) ?_) ?_ ?_
      · simp only [List.length_map, List.length_singleton]; omega
      · unfold encP; rw [List.map_append]; rfl
      · rw [intsL_len]; omega
      · unfold extP; rw [List.map_map]; rfl
      · rw [List.length_map, List.length_map]
        have hsum : (p2.flatMap (extP last)).length + (extP last one).length ≤ (allP last (pre.length + 1)).length := by
          show _ ≤ ((allP last pre.length).flatMap (extP last)).length
          rw [e2]
          simp only [List.flatMap_append, List.flatMap_cons, List.length_append]
          omega
        omega
      · exact ds_nil rfl (.eq (.eq (.eq (.eq (.eqo (by rw [List.flatMap_append, List.map_append]; simp) (.un (.un (.un .nil))))))))
    · refine ds_freeze 4 rfl ?_
      refine ds_set 2 (de_var (i := 4) rfl) ?_ c_all_placements.nd
      exact ds_nil rfl (.eq (.eq (.eqd (by rw [List.length_append]; rfl) (.un (.un (.un (.un (.un .nil))))))))
  · refine ds_ret (de_var (i := 2) rfl) ?_
    rw [intsL_len]
    rfl
end
/-! ### check_answers -/
def okA : PyData → Bool
  | .tuple [x, y] => inR x 1 3 && inR y 0 9999
  | _ => false
/-- none: valid; some true: InvalidNumber; some false: InvalidAnswers -/
def chkA (l it an : PyData) : Option Bool :=
  if inR l 1 6 = true then (if inR it 1 4 = true then (match an with | .tuple as => if as.all okA = true then none else some false | _ => some false) else some true) else some true
def outC (CN CA : Addr) : Option Bool → Out
  | none => .ret .none
  | some true => .exc ⟨CN, none⟩
  | some false => .exc ⟨CA, none⟩
def S_check_answers (CN CA : Addr) (ds : List PyData) (o : Out) : Prop := ∃ l it an : PyData, ds = [l, it, an] ∧ o = outC CN CA (chkA l it an)
section
variable {P : Program} {w : World} {K : PySem.W.Frag} {mg : Str → Option Value} {base : Heap} (M : Md K mg) {f : Addr} {fd : FuncData}
theorem f_check_answers (F : Fun K "check_answers" "check_answers" s_check_answers f fd) (F_in_range : FnIn P w K mg base 1 "in_range" S_in_range) (F_check_last : FnIn P w K mg base 2 "check_last" (S_check_last M.C_InvalidNumber)) :
    FnOk P w K mg base (L2.CX P w) 3 f fd p_check_answers (spD (S_check_answers M.C_InvalidNumber M.C_InvalidAnswers)) := by
  refine fn_ok (k := 2) F c_check_answers (fun ds o ⟨_, _, _, h, _⟩ => by rw [h]; rfl) (by decide) fun cdv A outer s H E ds o hr hS tk => ?_
  obtain ⟨l, it, an, rfl, rfl⟩ := hS
  obtain ⟨t3, g_MAX_POWER⟩ := M.g_MAX_POWER
  have hr1 := hr.mono (j := 1) (by decide)
  show DS _ _ [.dat l, .dat it, .dat an, .un] _ _
  cases h1 : inR l 1 6 with
  | false =>
    refine ds_exprX (o := .exc ⟨M.C_InvalidNumber, none⟩) (dx_call F_check_last hr tk (da_cons (de_var (i := 0) rfl) da_nil) ⟨_, rfl, by rw [h1]; rfl⟩) ?_
    show outC _ _ (chkA l it an) = _
    unfold chkA
    rw [h1] <;> rfl
  | true =>
    refine ds_exprX (o := .ret .none) (dx_call F_check_last hr tk (da_cons (de_var (i := 0) rfl) da_nil) ⟨_, rfl, by rw [h1]; rfl⟩) ?_
    show DS _ _ _ _ _
    cases h2 : inR it 1 4 with
    | false =>
      refine ds_T (dt_not (dt_val (de_call F_in_range hr1 (da_cons (de_var (i := 1) rfl) (da_cons de_int (da_cons de_int da_nil))) ⟨_, _, _, rfl, rfl⟩))) (ds_raise M.E_InvalidNumber tk ?_) (by rw [h2]; rfl)
      show outC _ _ (chkA l it an) = _
      unfold chkA
      rw [h1, h2] <;> rfl
    | true =>
      refine ds_F (dt_not (dt_val (de_call F_in_range hr1 (da_cons (de_var (i := 1) rfl) (da_cons de_int (da_cons de_int da_nil))) ⟨_, _, _, rfl, rfl⟩))) ?_ (by rw [h2]; rfl)
      have tail : ∀ r, chkA l it an = r ↔ (match an with | .tuple as => if as.all okA = true then none else some false | _ => some false) = r := fun r => by
        unfold chkA
        rw [h1, h2] <;> exact Iff.rfl
      cases an with
      | tuple as =>
        refine ds_F (dt_not (dt_val (de_isTu M.isinstance M.tuple (de_var (i := 2) rfl)))) ?_
        refine ds_forI as id (fun pre => pre.all okA = true) (fun pre => [.dat l, .dat it, .dat (.tuple as), .un]) (fun pre x => [.dat l, .dat it, .dat (.tuple as), .dat x]) (di_is (di_tup (de_var (i := 2) rfl)) (List.map_id as).symm) (.eq (.eq (.eq (.eq .nil)))) rfl (fun pre x post e => dg_name 3 c_check_answers.nd) (fun pre x post e hI => ?_) (fun hI => ds_end ?_)
        · have bad : okA x = false → outC M.C_InvalidNumber M.C_InvalidAnswers (chkA l it (.tuple as)) = .exc ⟨M.C_InvalidAnswers, none⟩ := fun hb => by
            rw [(tail (some false)).mpr (by show (if as.all okA = true then none else some false) = some false; rw [if_neg (by rw [e]; simp [hb])])]
            rfl
          have two : ∀ b1 b2 : PyData, x = .tuple [b1, b2] → okA x = (inR b1 1 3 && inR b2 0 9999) := fun b1 b2 z => by subst z; rfl
          by_cases h3 : ∃ b1 b2, x = .tuple [b1, b2]
          · obtain ⟨b1, b2, rfl⟩ := h3
            cases h4 : inR b1 1 3 with
            | false =>
              refine ds_T (k := true) (dt_w (dw_orF (dt_not (dt_val (de_isTu M.isinstance M.tuple (de_var (i := 3) rfl)))) (dw_orF (dt_neI (de_lenT (ds := [b1, b2]) M.len (de_var (i := 3) rfl)) de_int) (dw_or1 (k := true) (dt_is (dt_not (dt_val (de_call F_in_range hr1 (da_cons (de_ixT (ds := [b1, b2]) (de_var (i := 3) rfl) de_int rfl) (da_cons de_int (da_cons (de_globI g_MAX_POWER) da_nil))) ⟨_, _, _, rfl, rfl⟩))) (by rw [h4]; rfl)))))) (ds_raise M.E_InvalidAnswers tk (bad (by rw [two b1 b2 rfl, h4]; rfl)))
            | true =>
              refine ds_F (k := false) (dt_w (dw_orF (dt_not (dt_val (de_isTu M.isinstance M.tuple (de_var (i := 3) rfl)))) (dw_orF (dt_neI (de_lenT (ds := [b1, b2]) M.len (de_var (i := 3) rfl)) de_int) (dw_or1 (k := false) (dt_is (dt_not (dt_val (de_call F_in_range hr1 (da_cons (de_ixT (ds := [b1, b2]) (de_var (i := 3) rfl) de_int rfl) (da_cons de_int (da_cons (de_globI g_MAX_POWER) da_nil))) ⟨_, _, _, rfl, rfl⟩))) (by rw [h4]; rfl)))))) ?_
              cases h5 : inR b2 0 9999 with
              | false => exact ds_T (dt_not (dt_val (de_call F_in_range hr1 (da_cons (de_ixT (ds := [b1, b2]) (de_var (i := 3) rfl) de_int rfl) (da_cons de_int (da_cons de_int da_nil))) ⟨_, _, _, rfl, rfl⟩))) (ds_raise M.E_InvalidAnswers tk (bad (by rw [two b1 b2 rfl, h4, h5]; rfl))) (by rw [h5]; rfl)
              | true =>
                refine ds_F (dt_not (dt_val (de_call F_in_range hr1 (da_cons (de_ixT (ds := [b1, b2]) (de_var (i := 3) rfl) de_int rfl) (da_cons de_int (da_cons de_int da_nil))) ⟨_, _, _, rfl, rfl⟩))) ?_ (by rw [h5]; rfl)
                refine ds_nil ⟨rfl, ?_⟩ (.eq (.eq (.eq (.un .nil))))
                rw [List.all_append, hI]
                show (true && ((inR b1 1 3 && inR b2 0 9999) && true)) = true
                rw [h4, h5] <;> rfl
          · have hb : okA x = false := by
              unfold okA
              split
              · rename_i b1 b2; exact absurd ⟨b1, b2, rfl⟩ h3
              · rfl
            cases x with
            | tuple xs =>
              refine ds_T (k := true) (dt_w (dw_orF (dt_not (dt_val (de_isTu M.isinstance M.tuple (de_var (i := 3) rfl)))) (dw_orT (dt_neI (de_lenT (ds := xs) M.len (de_var (i := 3) rfl)) de_int) ?_))) (ds_raise M.E_InvalidAnswers tk (bad hb))
              have : (xs.length : Int) ≠ 2 := fun z => h3 (by
                match xs, z with
                | [b1, b2], _ => exact ⟨b1, b2, rfl⟩)
              simp [this]
            | _ => exact ds_T (k := true) (dt_w (dw_orT (dt_not (dt_val (de_isTu M.isinstance M.tuple (de_var (i := 3) rfl)))))) (ds_raise M.E_InvalidAnswers tk (bad hb))
        · show outC _ _ (chkA l it (.tuple as)) = _
          rw [(tail none).mpr (by show (if as.all okA = true then none else some false) = none; rw [if_pos hI])]
          rfl
      | _ =>
        refine ds_T (dt_not (dt_val (de_isTu M.isinstance M.tuple (de_var (i := 2) rfl)))) (ds_raise M.E_InvalidAnswers tk ?_)
        show outC _ _ (chkA _ _ _) = _
        rw [(tail (some false)).mpr rfl]
        rfl
end
/-! ### power_sum -/
def psum (e : Nat) (pl : List Int) : Int := (pl.map (· ^ e)).sum
def S_power_sum (ds : List PyData) (o : Out) : Prop := ∃ (pl : List Int) (e : Nat), ds = [encP pl, .int (e : Int)] ∧ (∀ p ∈ pl, p.natAbs < 2 ^ 64) ∧ pl.length ≤ 1000 ∧ e < 2 ^ 62 ∧ o = .ret (.int (psum e pl))
section
variable {P : Program} {w : World} {K : PySem.W.Frag} {mg : Str → Option Value} {base : Heap} (M : Md K mg) {f : Addr} {fd : FuncData}
include M
theorem f_power_sum (F : Fun K "power_sum" "power_sum" s_power_sum f fd) (F_power : FnIn P w K mg base 1 "power" S_power) : FnOk P w K mg base (L2.CX P w) 2 f fd p_power_sum (spD S_power_sum) := by
  refine fn_ok (k := 1) F c_power_sum (fun ds o ⟨_, _, h, _⟩ => by rw [h]; rfl) (by decide) fun cdv A outer s H E ds o hr hS tk => ?_
  obtain ⟨pl, e, rfl, hp, hl, he, rfl⟩ := hS
  have hz2 : sizeLine = 16777216 := sizeLine_eq
  show DS _ _ [.dat (encP pl), .dat (.int e), .un] _ _
  refine ds_ret (de_sum (ns := pl.map (· ^ e)) M.sum (de_is (de_ofL (dl_lcM pl PyData.int (fun p => .int (p ^ e)) [("place", 2)] (fun p => [.dat (encP pl), .dat (.int e), .dat (.int p)]) (di_tup (de_var (i := 0) rfl)) c_power_sum.nd (blkOk_by (N := n_power_sum) (sc := defScope s_power_sum) (by decide +kernel)) (fun _ _ _ _ _ p hx => dgc_name 2 c_power_sum.nd)
    (fun _ _ _ _ _ p hx => de_call F_power hr (da_cons (de_var (i := 2) rfl) (da_cons (de_var (i := 1) rfl) da_nil)) ⟨p, e, rfl, hp p hx, he, rfl⟩) (by omega))) (by rw [List.map_map]; rfl))) rfl
end
/-! ### candidates -/
def encA (z : Int × Int) : PyData := .tuple [.int z.1, .int z.2]
/-- valid answers -/
def AnsOk (as : List (Int × Int)) : Prop := ∀ z ∈ as, 1 ≤ z.1 ∧ z.1 ≤ 3 ∧ 0 ≤ z.2 ∧ z.2 ≤ 9999
def agrees (as : List (Int × Int)) (pl : List Int) : Bool := as.all fun z => decide (psum z.1.toNat pl = z.2)
def cand (last : Int) (items : Nat) (as : List (Int × Int)) : List (List Int) := (allP last items).filter (agrees as)
theorem ans_typed : ∀ {xs : List PyData}, xs.all okA = true → ∃ as : List (Int × Int), xs = as.map encA ∧ AnsOk as
  | [], _ => ⟨[], rfl, fun z hz => by simp at hz⟩
  | x :: xs, h => by
    rw [List.all_cons, Bool.and_eq_true] at h
    obtain ⟨as, rfl, ha⟩ := ans_typed h.2
    obtain ⟨h1, _⟩ := h
    unfold okA at h1
    split at h1
    · rename_i b1 b2
      rw [Bool.and_eq_true] at h1
      obtain ⟨i, rfl, i1, i2⟩ := inR_iff.mp h1.1
      obtain ⟨j, rfl, j1, j2⟩ := inR_iff.mp h1.2
      refine ⟨(i, j) :: as, rfl, fun z hz => ?_⟩
      rcases List.mem_cons.mp hz with e | e
      · subst e; exact ⟨i1, i2, j1, j2⟩
      · exact ha z e
    · cases h1
theorem ans_ok {as : List (Int × Int)} (h : AnsOk as) : (as.map encA).all okA = true := by
  rw [List.all_map, List.all_eq_true]
  intro z hz
  obtain ⟨a1, a2, a3, a4⟩ := h z hz
  show (inR (.int z.1) 1 3 && inR (.int z.2) 0 9999) = true
  simp [inR, a1, a2, a3, a4]
theorem chkA_ok {l it an : PyData} (h : chkA l it an = none) : ∃ (last items : Nat) (as : List (Int × Int)), l = .int last ∧ it = .int items ∧ an = .tuple (as.map encA) ∧ 1 ≤ last ∧ last ≤ 6 ∧ 1 ≤ items ∧ items ≤ 4 ∧ AnsOk as := by
  unfold chkA at h
  split at h
  · rename_i h1
    split at h
    · rename_i h2
      obtain ⟨i, rfl, i1, i2⟩ := inR_iff.mp h1
      obtain ⟨j, rfl, j1, j2⟩ := inR_iff.mp h2
      cases an with
      | tuple as =>
        simp only at h
        split at h
        · rename_i h3
          obtain ⟨as, rfl, ha⟩ := ans_typed h3
          exact ⟨i.toNat, j.toNat, as, by congr 1; omega, by congr 1; omega, rfl, by omega, by omega, by omega, by omega, ha⟩
        · cases h
      | _ => cases h
    · cases h
  · cases h
theorem chkA_of {last items : Nat} {as : List (Int × Int)} (h1 : 1 ≤ last) (h2 : last ≤ 6) (h3 : 1 ≤ items) (h4 : items ≤ 4) (h : AnsOk as) : chkA (.int last) (.int items) (.tuple (as.map encA)) = none := by
  unfold chkA
  rw [if_pos (inR_iff.mpr ⟨_, rfl, by omega, by omega⟩), if_pos (inR_iff.mpr ⟨_, rfl, by omega, by omega⟩)]
  show (if (as.map encA).all okA = true then none else some false) = none
  rw [if_pos (ans_ok h)]
/-- what a function of last, items, answers does: raise, or hand back g of them -/
def ofA (CN CA : Addr) (g : Int → Nat → List (Int × Int) → Out) (ds : List PyData) (o : Out) : Prop := ∃ l it an : PyData, ds = [l, it, an] ∧
  ((∃ b, chkA l it an = some b ∧ o = outC CN CA (some b)) ∨ ∃ (last items : Nat) (as : List (Int × Int)), l = .int last ∧ it = .int items ∧ an = .tuple (as.map encA) ∧ 1 ≤ last ∧ last ≤ 6 ∧ 1 ≤ items ∧ items ≤ 4 ∧ AnsOk as ∧ as.length ≤ 1000 ∧ o = g last items as)
def S_candidates (CN CA : Addr) : List PyData → Out → Prop := ofA CN CA fun last items as => .ret (.list ((cand last items as).map encP))
theorem shaped_int (i : Int) : SeqAt.shaped (.int i) = true := by simp [SeqAt.shaped, PyData.canLay0, PyData.depth]
section
variable {P : Program} {w : World} {K : PySem.W.Frag} {mg : Str → Option Value} {base : Heap} (M : Md K mg) {f : Addr} {fd : FuncData}
theorem f_candidates (F : Fun K "candidates" "candidates" s_candidates f fd) (F_check_answers : FnIn P w K mg base 3 "check_answers" (S_check_answers M.C_InvalidNumber M.C_InvalidAnswers)) (F_all_placements : FnIn P w K mg base 1 "all_placements" S_all_placements) (F_power_sum : FnIn P w K mg base 2 "power_sum" S_power_sum) :
    FnOk P w K mg base (L2.CX P w) 4 f fd p_candidates (spD (S_candidates M.C_InvalidNumber M.C_InvalidAnswers)) := by
  refine fn_ok (k := 3) F c_candidates (fun ds o ⟨_, _, _, h, _⟩ => by rw [h]; rfl) (by decide) fun cdv A outer s H E ds o hr hS tk => ?_
  obtain ⟨l, it, an, rfl, hS⟩ := hS
  have hz2 : sizeLine = 16777216 := sizeLine_eq
  show DS _ _ [.dat l, .dat it, .dat an, .un, .un, .un, .un] _ _
  rcases hS with ⟨b, hb, rfl⟩ | ⟨last, items, as, rfl, rfl, rfl, h1, h2, h3, h4, hA, hAl, rfl⟩
  · refine ds_exprX (o := outC M.C_InvalidNumber M.C_InvalidAnswers (some b)) (dx_call F_check_answers hr tk (da_cons (de_var (i := 0) rfl) (da_cons (de_var (i := 1) rfl) (da_cons (de_var (i := 2) rfl) da_nil))) ⟨_, _, _, rfl, by rw [hb]⟩) ?_
    cases b <;> exact rfl
  · refine ds_exprX (o := .ret .none) (dx_call F_check_answers hr tk (da_cons (de_var (i := 0) rfl) (da_cons (de_var (i := 1) rfl) (da_cons (de_var (i := 2) rfl) da_nil))) ⟨_, _, _, rfl, by rw [chkA_of h1 h2 h3 h4 hA]; rfl⟩) ?_
    show DS _ _ _ _ _
    have hbig : (allP last items).length ≤ 1000 := allP_few ⟨last, by omega⟩ ⟨items, by omega⟩
    refine ds_own 3 (dl_lst da_nil) ?_ c_candidates.nd
    refine ds_forE (allP last items) encP (fun pre => [.dat (.int last), .dat (.int items), .dat (.tuple (as.map encA)), .own ((pre.filter (agrees as)).map encP), .un, .un, .un]) (fun pre x => [.dat (.int last), .dat (.int items), .dat (.tuple (as.map encA)), .own ((pre.filter (agrees as)).map encP), .dat (encP x), .un, .un])
      (di_list (de_call F_all_placements (hr.mono (by decide)) (da_cons (de_var (i := 0) rfl) (da_cons (de_var (i := 1) rfl) da_nil)) ⟨last, items, rfl, h2, h4, rfl⟩)) (.eq (.eq (.eq (.eqo rfl (.eq (.eq (.eq .nil))))))) (fun pre x post e => dg_name 4 c_candidates.nd) (fun pre x post e => ?_) ?_
    · have hx : x ∈ allP last items := by rw [e]; simp
      obtain ⟨x1, x2⟩ := allP_mem (by omega) hx
      have hnil : (as.filter fun z => !decide (psum z.1.toNat x = z.2)) = [] ↔ agrees as x = true := by
        rw [List.filter_eq_nil_iff]
        unfold agrees
        rw [List.all_eq_true]
        exact ⟨fun h z hz => by have := h z hz; simpa using this, fun h z hz => by have := h z hz; simpa using this⟩
      refine ds_if (agrees as x) (dt_is (dt_not (dt_tru (de_ofL (dl_lc as encA (fun z => !decide (psum z.1.toNat x = z.2)) (fun z => .int z.1) [("exponent", 5), ("told", 6)] (fun z => [.dat (.int last), .dat (.int items), .dat (.tuple (as.map encA)), .own ((pre.filter (agrees as)).map encP), .dat (encP x), .dat (.int z.1), .dat (.int z.2)])
          (di_tup (de_var (i := 2) rfl)) c_candidates.nd (blkOk_by (N := n_candidates) (sc := defScope s_candidates) (by decide +kernel)) (fun _ _ _ _ _ z hz => dgc_tup2 5 6 c_candidates.nd)
          (fun _ _ _ _ _ z hz => dts_one (dt_neI (de_call F_power_sum (hr.mono (by decide)) (da_cons (de_var (i := 4) rfl) (da_cons (de_var (i := 5) rfl) da_nil)) ⟨x, z.1.toNat, by have := (hA z hz).1; simp only [Int.toNat_of_nonneg (show 0 ≤ z.1 by omega)], fun p hp => by have := x2 p hp; omega, by omega, by have := (hA z hz).2.1; omega, rfl⟩) (de_var (i := 6) rfl)))
          (fun _ _ _ _ _ z hz hk => de_var (i := 5) rfl) (by omega))) (by intro s h; cases h))) ?_) (fun hg => ?_) (fun hg => ?_)
      · show (!!(List.map _ _).isEmpty) = _
        cases hg : agrees as x with
        | true => rw [hnil.mpr hg] <;> rfl
        | false =>
          cases hq : (as.filter fun z => !decide (psum z.1.toNat x = z.2)) with
          | nil => rw [hnil.mp hq] at hg; cases hg
          | cons a b => rfl
      · refine ds_app 3 (ds := (pre.filter (agrees as)).map encP) rfl (de_var (i := 4) rfl) ?_ ?_
        · have : (pre.filter (agrees as)).length ≤ pre.length := List.length_filter_le _ _
          have : pre.length ≤ (allP last items).length := by rw [e, List.length_append]; omega
          rw [List.length_map]; omega
        · refine ds_end (ds_nil rfl (.eq (.eq (.eq (.eqo ?_ (.un (.un (.un .nil))))))))
          rw [List.filter_append, List.map_append, List.filter_cons, if_pos hg]
          rfl
      · refine ds_end (ds_nil rfl (.eq (.eq (.eq (.eqo ?_ (.un (.un (.un .nil))))))))
        rw [List.filter_append, List.filter_cons, if_neg (by rw [hg]; decide), List.filter_nil, List.append_nil]
    · refine ds_freeze 3 rfl ?_
      exact ds_ret (de_var (i := 3) rfl) rfl
end
/-! ### best_power -/
/-- the greatest of some whole numbers -/
def mx : List Int → Int
  | [] => 0
  | [x] => x
  | x :: y :: r => max x (mx (y :: r))
theorem mx_in : ∀ {xs : List Int}, xs ≠ [] → mx xs ∈ xs ∧ ∀ y ∈ xs, y ≤ mx xs
  | [], h => absurd rfl h
  | [x], _ => ⟨by simp [mx], fun y hy => by simp at hy; subst hy; exact Int.le_refl _⟩
  | x :: y :: r, _ => by
    obtain ⟨h1, h2⟩ := mx_in (xs := y :: r) (by simp)
    show max x (mx (y :: r)) ∈ _ ∧ _
    refine ⟨?_, fun z hz => ?_⟩
    · rcases Int.le_total x (mx (y :: r)) with h | h
      · rw [Int.max_eq_right h]; exact List.mem_cons_of_mem _ h1
      · rw [Int.max_eq_left h]; exact List.mem_cons_self
    · show z ≤ max x (mx (y :: r))
      rcases List.mem_cons.mp hz with e | e
      · subst e; exact Int.le_max_left _ _
      · exact Int.le_trans (h2 z e) (Int.le_max_right _ _)
def worst (found : List (List Int)) (e : Nat) : Int := mx (((found.map (psum e)).map fun t => ((found.map (psum e)).count t : Nat)).map Int.ofNat)
def betterB : Option (Int × Int) → Int → Bool
  | none, _ => true
  | some z, w => decide (w < z.1)
/-- one step of the search -/
def bestStep (found : List (List Int)) (b : Option (Int × Int)) (e : Int) : Option (Int × Int) :=
  if worst found e.toNat < found.length ∧ betterB b (worst found e.toNat) = true then some (worst found e.toNat, e) else b
def encB : Option (Int × Int) → PyData
  | none => .none
  | some z => .tuple [.int z.1, .int z.2]
def bestOf (found : List (List Int)) : PyData := match (intsL 1 3).foldl (bestStep found) none with
  | none => .none
  | some z => .int z.2
def S_best_power (CN CA : Addr) : List PyData → Out → Prop := ofA CN CA fun last items as => if cand last items as = [] then .exc ⟨CA, none⟩ else .ret (bestOf (cand last items as))
theorem cand_mem {last : Int} {items : Nat} {as : List (Int × Int)} {pl : List Int} (h0 : 0 ≤ last) (h : pl ∈ cand last items as) : pl.length = items ∧ ∀ p ∈ pl, 0 ≤ p ∧ p ≤ last := allP_mem h0 (List.mem_filter.mp h).1
section
variable {P : Program} {w : World} {K : PySem.W.Frag} {mg : Str → Option Value} {base : Heap} (M : Md K mg) {f : Addr} {fd : FuncData}
theorem f_best_power (F : Fun K "best_power" "best_power" s_best_power f fd) (F_candidates : FnIn P w K mg base 4 "candidates" (S_candidates M.C_InvalidNumber M.C_InvalidAnswers)) (F_power_sum : FnIn P w K mg base 2 "power_sum" S_power_sum) :
    FnOk P w K mg base (L2.CX P w) 5 f fd p_best_power (spD (S_best_power M.C_InvalidNumber M.C_InvalidAnswers)) := by
  refine fn_ok (k := 4) F c_best_power (fun ds o ⟨_, _, _, h, _⟩ => by rw [h]; rfl) (by decide) fun cdv A outer s H E ds o hr hS tk => ?_
  obtain ⟨l, it, an, rfl, hS⟩ := hS
  obtain ⟨t3, g_MAX_POWER⟩ := M.g_MAX_POWER
  have hz2 : sizeLine = 16777216 := sizeLine_eq
  show DS _ _ [.dat l, .dat it, .dat an, .un, .un, .un, .un, .un, .un, .un] _ _
  rcases hS with ⟨b, hb, rfl⟩ | ⟨last, items, as, rfl, rfl, rfl, h1, h2, h3, h4, hA, hAl, rfl⟩
  · cases b with
    | true => exact ds_setX 3 (ex := ⟨M.C_InvalidNumber, none⟩) (dx_call F_candidates hr tk (da_cons (de_var (i := 0) rfl) (da_cons (de_var (i := 1) rfl) (da_cons (de_var (i := 2) rfl) da_nil))) ⟨_, _, _, rfl, .inl ⟨_, hb, rfl⟩⟩) rfl c_best_power.nd
    | false => exact ds_setX 3 (ex := ⟨M.C_InvalidAnswers, none⟩) (dx_call F_candidates hr tk (da_cons (de_var (i := 0) rfl) (da_cons (de_var (i := 1) rfl) (da_cons (de_var (i := 2) rfl) da_nil))) ⟨_, _, _, rfl, .inl ⟨_, hb, rfl⟩⟩) rfl c_best_power.nd
  · have hbig : (cand last items as).length ≤ 1000 := Nat.le_trans (List.length_filter_le _ _) (allP_few ⟨last, by omega⟩ ⟨items, by omega⟩)
    refine ds_set 3 (d := .list ((cand last items as).map encP)) (de_call F_candidates hr (da_cons (de_var (i := 0) rfl) (da_cons (de_var (i := 1) rfl) (da_cons (de_var (i := 2) rfl) da_nil))) ⟨_, _, _, rfl, .inr ⟨last, items, as, rfl, rfl, rfl, h1, h2, h3, h4, hA, hAl, rfl⟩⟩) ?_ c_best_power.nd
    have hmem : ∀ pl ∈ cand last items as, pl.length = items ∧ ∀ p ∈ pl, 0 ≤ p ∧ p ≤ (last : Int) := fun pl hp => cand_mem (by omega) hp
    generalize hfd : cand last items as = found at hbig hmem
    by_cases hne : found = []
    · refine ds_T (dt_not (dt_tru (de_var (i := 3) (d := .list (found.map encP)) rfl) (by intro s h; cases h))) (ds_raise M.E_InvalidAnswers tk ?_) (by subst hne; rfl)
      show (if cand last items as = [] then _ else _) = _
      rw [if_pos (hfd.trans hne)]
    · refine ds_F (dt_not (dt_tru (de_var (i := 3) (d := .list (found.map encP)) rfl) (by intro s h; cases h))) ?_ (by cases found with | nil => exact absurd rfl hne | cons a b => rfl)
      refine ds_set 4 de_non ?_ c_best_power.nd
      refine ds_forE (intsL 1 3) PyData.int (fun pre => [.dat (.int last), .dat (.int items), .dat (.tuple (as.map encA)), .dat (.list (found.map encP)), .dat (encB (pre.foldl (bestStep found) none)), .un, .un, .un, .un, .un])
        (fun pre x => [.dat (.int last), .dat (.int items), .dat (.tuple (as.map encA)), .dat (.list (found.map encP)), .dat (encB (pre.foldl (bestStep found) none)), .dat (.int x), .un, .un, .un, .un])
        (di_r2 de_int (de_add (de_globI g_MAX_POWER) de_int) (by omega) M.range) (.eq (.eq (.eq (.eq (.eqd rfl (.eq (.eq (.eq (.eq (.eq .nil)))))))))) (fun pre x post e => dg_name 5 c_best_power.nd) (fun pre x post e => ?_) ?_
      · obtain ⟨ex, hlt, -⟩ := intsL_split e
        have hx : 1 ≤ x ∧ x ≤ 3 := by omega
        generalize hb : pre.foldl (bestStep found) none = b
        refine ds_set 6 (de_ofL (dl_lcM found encP (fun pl => .int (psum x.toNat pl)) [("placement", 7)] (fun pl => [.dat (.int last), .dat (.int items), .dat (.tuple (as.map encA)), .dat (.list (found.map encP)), .dat (encB b), .dat (.int x), .un, .dat (encP pl), .un, .un]) (di_list (de_var (i := 3) rfl)) c_best_power.nd (blkOk_by (N := n_best_power) (sc := defScope s_best_power) (by decide +kernel)) (fun _ _ _ _ _ pl hx => dgc_name 7 c_best_power.nd)
          (fun _ _ _ _ _ pl hpl => de_call F_power_sum (hr.mono (by decide)) (da_cons (de_var (i := 7) rfl) (da_cons (de_var (i := 5) rfl) da_nil)) ⟨pl, x.toNat, by simp only [Int.toNat_of_nonneg (show 0 ≤ x by omega)], fun p hp => by have := (hmem pl hpl).2 p hp; omega, by have := (hmem pl hpl).1; omega, by omega, rfl⟩) (by omega))) ?_ c_best_power.nd
        have eh : (found.map fun pl => PyData.int (psum x.toNat pl)) = (found.map (psum x.toNat)).map PyData.int := by rw [List.map_map]; rfl
        rw [eh]
        generalize hhere : found.map (psum x.toNat) = here
        have hlen : here.length = found.length := by rw [← hhere, List.length_map]
        refine ds_set 8 (d := .int (worst found x.toNat)) (de_maxL (ns := (here.map fun t => (here.count t : Nat)).map Int.ofNat) M.max (de_is (de_ofL (dl_lcM here PyData.int (fun t => .int (here.count t : Nat)) [("told", 9)] (fun t => [.dat (.int last), .dat (.int items), .dat (.tuple (as.map encA)), .dat (.list (found.map encP)), .dat (encB b), .dat (.int x), .dat (.list (here.map .int)), .un, .un, .dat (.int t)]) (di_list (de_var (i := 6) rfl)) c_best_power.nd (blkOk_by (N := n_best_power) (sc := defScope s_best_power) (by decide +kernel)) (fun _ _ _ _ _ pl hx => dgc_name 9 c_best_power.nd)
          (fun _ _ _ _ _ t ht => de_count (de_var (i := 6) rfl) (de_var (i := 9) rfl)) (by omega))) (by rw [List.map_map, List.map_map]; rfl)) ?_ ?_) ?_ c_best_power.nd
        · have := mx_in (xs := (here.map fun t => (here.count t : Nat)).map Int.ofNat) (by intro z; have := congrArg List.length z; simp at this; subst this; exact hne (List.length_eq_zero_iff.mp (by simpa using hlen.symm)))
          unfold worst
          rw [hhere]
          exact this.1
        · have := mx_in (xs := (here.map fun t => (here.count t : Nat)).map Int.ofNat) (by intro z; have := congrArg List.length z; simp at this; subst this; exact hne (List.length_eq_zero_iff.mp (by simpa using hlen.symm)))
          unfold worst
          rw [hhere]
          exact this.2
        have hfold : (pre ++ [x]).foldl (bestStep found) none = bestStep found (pre.foldl (bestStep found) none) x := by rw [List.foldl_append]; rfl
        rw [hb] at hfold
        let ρ0 : En := [.dat (.int last), .dat (.int items), .dat (.tuple (as.map encA)), .dat (.list (found.map encP)), .dat (encB b), .dat (.int x), .dat (.list (here.map .int)), .un, .dat (.int (worst found x.toNat)), .un]
        have keep : bestStep found b x = b → Weak ρ0 [.dat (.int last), .dat (.int items), .dat (.tuple (as.map encA)), .dat (.list (found.map encP)), .dat (encB ((pre ++ [x]).foldl (bestStep found) none)), .un, .un, .un, .un, .un] := fun h => .eq (.eq (.eq (.eq (.eqd (by rw [hfold, h]) (.un (.un (.un (.un (.un .nil)))))))))
        by_cases c1 : worst found x.toNat < found.length
        · have c1' : worst found x.toNat < ((found.map encP).length : Int) := by rw [List.length_map]; exact c1
          cases b with
          | none =>
            refine ds_T (k := true) (dt_w (dw_andT (dt_lt (de_var (i := 8) rfl) (de_lenL M.len (de_var (i := 3) rfl))) (dw_and1 (k := true) (dt_w (dw_orT (dt_isN (de_var (i := 4) rfl))))) (decide_eq_true c1'))) ?_
            refine ds_set 4 (de_tup (da_cons (de_var (i := 8) rfl) (da_cons (de_var (i := 5) rfl) da_nil))) ?_ c_best_power.nd
            refine ds_end (ds_nil rfl (.eq (.eq (.eq (.eq (.eqd ?_ (.un (.un (.un (.un (.un .nil)))))))))))
            rw [hfold]
            unfold bestStep
            rw [if_pos ⟨c1, rfl⟩]
            rfl
          | some z =>
            by_cases c2 : worst found x.toNat < z.1
            · refine ds_T (k := true) (dt_w (dw_andT (dt_lt (de_var (i := 8) rfl) (de_lenL M.len (de_var (i := 3) rfl))) (dw_and1 (k := true) (dt_w (dw_orF (dt_isN (de_var (i := 4) (d := encB (some z)) rfl)) (dw_or1 (k := true) (dt_is (dt_lt (de_var (i := 8) rfl) (de_ixT (ds := [.int z.1, .int z.2]) (de_var (i := 4) rfl) de_int rfl)) (decide_eq_true c2)))))) (decide_eq_true c1'))) ?_
              refine ds_set 4 (de_tup (da_cons (de_var (i := 8) rfl) (da_cons (de_var (i := 5) rfl) da_nil))) ?_ c_best_power.nd
              refine ds_end (ds_nil rfl (.eq (.eq (.eq (.eq (.eqd ?_ (.un (.un (.un (.un (.un .nil)))))))))))
              rw [hfold]
              unfold bestStep
              rw [if_pos ⟨c1, decide_eq_true c2⟩]
              rfl
            · refine ds_F (k := false) (dt_w (dw_andT (dt_lt (de_var (i := 8) rfl) (de_lenL M.len (de_var (i := 3) rfl))) (dw_and1 (k := false) (dt_w (dw_orF (dt_isN (de_var (i := 4) (d := encB (some z)) rfl)) (dw_or1 (k := false) (dt_is (dt_lt (de_var (i := 8) rfl) (de_ixT (ds := [.int z.1, .int z.2]) (de_var (i := 4) rfl) de_int rfl)) (decide_eq_false c2)))))) (decide_eq_true c1'))) ?_
              exact ds_nil rfl (keep (by unfold bestStep; rw [if_neg (fun q => c2 (of_decide_eq_true q.2))]))
        · have c1' : ¬ worst found x.toNat < ((found.map encP).length : Int) := by rw [List.length_map]; exact c1
          refine ds_F (k := false) (dt_w (dw_andF (dt_lt (de_var (i := 8) rfl) (de_lenL M.len (de_var (i := 3) rfl))) (decide_eq_false c1'))) ?_
          exact ds_nil rfl (keep (by unfold bestStep; rw [if_neg (fun q => c1 q.1)]))
      · have ho : (if cand (↑last) items as = [] then Out.exc { cls := M.C_InvalidAnswers } else Out.ret (bestOf (cand (↑last) items as))) = .ret (bestOf found) := by rw [hfd, if_neg hne]
        cases hb : (intsL 1 3).foldl (bestStep found) none with
        | none =>
          refine ds_ret (de_ifT (dt_isN (de_var (i := 4) (d := encB none) rfl)) de_non) ?_
          refine ho.trans ?_
          unfold bestOf
          rw [hb]
        | some z =>
          refine ds_ret (de_ifF (dt_isN (de_var (i := 4) (d := encB (some z)) rfl)) (de_ixT (ds := [.int z.1, .int z.2]) (de_var (i := 4) rfl) de_int rfl)) ?_
          refine ho.trans ?_
          unfold bestOf
          rw [hb]
end
/-! ### _law_cell -/
def S__law_cell (ns : List Int) (ds : List PyData) (o : Out) : Prop := ∃ k : Nat, ds = [.int (k : Int)] ∧ o = .ret (.int (ns.getD k 0))
section
variable {P : Program} {w : World} {K : PySem.W.Frag} {mg : Str → Option Value} {base : Heap} (M : Md K mg) {f : Addr} {fd : FuncData}
include M
theorem f__law_cell (F : Fun K "_law_cell" "_law_cell" s__law_cell f fd) : FnOk P w K mg base (L2.CX P w) 1 f fd p__law_cell (spP K S__law_cell) := by
  refine fnP_ok (k := 0) F c__law_cell (fun ns ds o ⟨_, h, _⟩ => by rw [h]; rfl) (by decide) fun cdv A outer s H E a ns ds o hr hS tk => ?_
  obtain ⟨k, rfl, rfl⟩ := hS
  show DS _ _ [SV.scr K a ns, .dat (.int k)] _ _
  by_cases h : k < ns.length
  · refine ds_T (dt_lt (de_var (i := 1) rfl) (de_lenP (i := 0) (a := a) (ns := ns) M.len rfl)) ?_ (decide_eq_true (by omega))
    refine ds_ret (de_ixP (i := 0) (a := a) (ns := ns) (j := k) (z := ns[k]) rfl (de_var (i := 1) rfl) (atI_nat (List.getElem?_eq_getElem h))) ?_
    show Out.ret (.int (ns.getD k 0)) = Out.ret (.int ns[k])
    rw [getD_in h]
  · refine ds_F (dt_lt (de_var (i := 1) rfl) (de_lenP (i := 0) (a := a) (ns := ns) M.len rfl)) ?_ (decide_eq_false (by omega))
    refine ds_ret de_int ?_
    show Out.ret (.int (ns.getD k 0)) = Out.ret (.int 0)
    rw [getD_out (by omega)]
end
/-! ### _law_row -/
def rowStep (ns : List Int) (at_ : Nat) (st : Int × List Int) (t : Int) : Int × List Int :=
  if ns.getD at_ 0 < 10 ^ 18 then
    ((st.1 * 48271 + 131 * t + 7 + ns.getD ((at_ + 1 + t.toNat) % 20) 0) % 2147483647, st.2 ++ [(st.1 * 48271 + 131 * t + 7 + ns.getD ((at_ + 1 + t.toNat) % 20) 0) % 2147483647 / 11 % 1000])
  else (st.1 / 1000, st.2 ++ [st.1 % 1000])
def rowAt (ns : List Int) (at_ : Nat) (ts : List Int) : Int × List Int := ts.foldl (rowStep ns at_) (ns.getD at_ 0, [])
def rowM (ns : List Int) (at_ : Nat) : List Int := (rowAt ns at_ (intsL 0 60)).2
theorem rowAt_snoc (ns : List Int) (at_ : Nat) (ts : List Int) (t : Int) : rowAt ns at_ (ts ++ [t]) = rowStep ns at_ (rowAt ns at_ ts) t := by
  unfold rowAt
  rw [List.foldl_append]
  rfl
theorem rowAt_ok (ns : List Int) (at_ : Nat) : ∀ ts : List Int, (rowAt ns at_ ts).2.length = ts.length ∧ ∀ x ∈ (rowAt ns at_ ts).2, 0 ≤ x ∧ x < 1000 := by
  intro ts
  have key : ∀ (ts : List Int) (st : Int × List Int), (∀ x ∈ st.2, 0 ≤ x ∧ x < 1000) → (ts.foldl (rowStep ns at_) st).2.length = st.2.length + ts.length ∧ ∀ x ∈ (ts.foldl (rowStep ns at_) st).2, 0 ≤ x ∧ x < 1000 := by
    intro ts
    induction ts with
    | nil => intro st h; exact ⟨rfl, h⟩
    | cons t ts ih =>
      intro st h
      have step : ∀ y : Int, 0 ≤ y % 1000 ∧ y % 1000 < 1000 := fun y => ⟨Int.emod_nonneg _ (by decide), Int.emod_lt_of_pos _ (by decide)⟩
      have h2 : (∀ x ∈ (rowStep ns at_ st t).2, 0 ≤ x ∧ x < 1000) ∧ (rowStep ns at_ st t).2.length = st.2.length + 1 := by
        unfold rowStep
        split
        · refine ⟨fun x hx => ?_, by simp⟩
          rcases List.mem_append.mp hx with z | z
          · exact h x z
          · rw [List.mem_singleton] at z; rw [z]; exact step _
        · refine ⟨fun x hx => ?_, by simp⟩
          rcases List.mem_append.mp hx with z | z
          · exact h x z
          · rw [List.mem_singleton] at z; rw [z]; exact step _
      obtain ⟨e1, e2⟩ := ih _ h2.1
      exact ⟨by rw [List.foldl_cons, e1, h2.2, List.length_cons]; omega, e2⟩
  have := key ts (ns.getD at_ 0, []) (fun x hx => by simp at hx)
  exact ⟨by rw [show rowAt ns at_ ts = ts.foldl (rowStep ns at_) (ns.getD at_ 0, []) from rfl, this.1, List.length_nil, Nat.zero_add], this.2⟩
theorem rowM_len (ns : List Int) (at_ : Nat) : (rowM ns at_).length = 60 := by unfold rowM; rw [(rowAt_ok ns at_ _).1, intsL_len]
/-- the i-th draw -/
def dr (ns : List Int) (at_ i : Nat) : Int := (rowM ns at_).getD i 0
theorem dr_bd (ns : List Int) (at_ i : Nat) : 0 ≤ dr ns at_ i ∧ dr ns at_ i < 1000 := by
  unfold dr
  by_cases h : i < (rowM ns at_).length
  · rw [getD_in h]
    exact (rowAt_ok ns at_ _).2 _ (List.getElem_mem h)
  · rw [getD_out (by omega)]; decide
theorem dr_at (ns : List Int) (at_ : Nat) {i : Nat} (h : i < 60) : atI ((rowM ns at_).map PyData.int) (i : Int) = some (.int (dr ns at_ i)) := by
  refine atI_nat ?_
  have hl : i < (rowM ns at_).length := by rw [rowM_len]; exact h
  rw [List.getElem?_map, List.getElem?_eq_getElem hl]
  unfold dr
  rw [getD_in hl]
  rfl
def S__law_row (ns : List Int) (ds : List PyData) (o : Out) : Prop := ∃ at_ : Nat, ds = [.int (at_ : Int)] ∧ at_ < 1000 ∧ o = .ret (.list ((rowM ns at_).map .int))
section
variable {P : Program} {w : World} {K : PySem.W.Frag} {mg : Str → Option Value} {base : Heap} (M : Md K mg) {f : Addr} {fd : FuncData}
include M
theorem f__law_row (F : Fun K "_law_row" "_law_row" s__law_row f fd) (F__law_cell : FnInP P w K mg base 1 "_law_cell" S__law_cell) : FnOk P w K mg base (L2.CX P w) 2 f fd p__law_row (spP K S__law_row) := by
  refine fnP_ok (k := 1) F c__law_row (fun ns ds o ⟨_, h, _⟩ => by rw [h]; rfl) (by decide) fun cdv A outer s H E a ns ds o hr hS tk => ?_
  obtain ⟨at_, rfl, hat, rfl⟩ := hS
  have hz2 : sizeLine = 16777216 := sizeLine_eq
  show DS _ _ [SV.scr K a ns, .dat (.int at_), .un, .un, .un] _ _
  refine ds_set 2 (de_callP (i := 0) (a := a) (ns := ns) F__law_cell hr rfl (da_cons (de_var (i := 1) rfl) da_nil) ⟨at_, rfl, rfl⟩) ?_ c__law_row.nd
  refine ds_own 3 (dl_lst da_nil) ?_ c__law_row.nd
  refine ds_forE (intsL 0 60) PyData.int (fun pre => [SV.scr K a ns, .dat (.int at_), .dat (.int (rowAt ns at_ pre).1), .own ((rowAt ns at_ pre).2.map .int), .un])
    (fun pre x => [SV.scr K a ns, .dat (.int at_), .dat (.int (rowAt ns at_ pre).1), .own ((rowAt ns at_ pre).2.map .int), .dat (.int x)])
    (di_r1 de_int (by decide) M.range) (.eq (.eq (.eq (.eqo rfl (.eq .nil))))) (fun pre x post e => dg_name 4 c__law_row.nd) (fun pre x post e => ?_) ?_
  · obtain ⟨ex, hlt, -⟩ := intsL_split e
    have hx : x = ((pre.length : Nat) : Int) := by omega
    have hlen : ((rowAt ns at_ pre).2.map PyData.int).length < sizeLine := by rw [List.length_map, (rowAt_ok ns at_ pre).1]; omega
    by_cases hb : ns.getD at_ 0 < 10 ^ 18
    · refine ds_T (dt_lt (de_callP (i := 0) (a := a) (ns := ns) F__law_cell hr rfl (da_cons (de_var (i := 1) rfl) da_nil) ⟨at_, rfl, rfl⟩) (de_pow de_int de_int ⟨by decide, by decide, by decide⟩)) ?_ (decide_eq_true hb)
      refine ds_set 2 (d := .int (((rowAt ns at_ pre).1 * 48271 + 131 * x + 7 + ns.getD ((at_ + 1 + x.toNat) % 20) 0) % 2147483647)) (de_mod (de_add (de_add (de_add (de_mulS (de_var (i := 2) rfl) de_int (.inr ⟨by decide, by decide⟩)) (de_mulS de_int (de_var (i := 4) rfl) (.inl ⟨by decide, by decide⟩))) de_int)
        (de_callP (i := 0) (a := a) (ns := ns) F__law_cell hr rfl (da_cons (de_mod (de_add (de_add (de_var (i := 1) rfl) de_int) (de_var (i := 4) rfl)) de_int (by decide)) da_nil) ⟨(at_ + 1 + x.toNat) % 20, by congr 2; omega, rfl⟩)) de_int (by decide)) ?_ c__law_row.nd
      refine ds_app 3 (ds := (rowAt ns at_ pre).2.map .int) rfl (de_mod (de_fdivS (de_var (i := 2) rfl) de_int ⟨by decide, by decide⟩) de_int (by decide)) hlen ?_
      refine ds_end (ds_nil rfl (.eq (.eq (.eqd ?_ (.eqo ?_ (.un .nil))))))
      · rw [rowAt_snoc]
        unfold rowStep
        rw [if_pos hb]
      · rw [rowAt_snoc]
        unfold rowStep
        rw [if_pos hb, List.map_append]
        rfl
    · refine ds_E (dt_lt (de_callP (i := 0) (a := a) (ns := ns) F__law_cell hr rfl (da_cons (de_var (i := 1) rfl) da_nil) ⟨at_, rfl, rfl⟩) (de_pow de_int de_int ⟨by decide, by decide, by decide⟩)) ?_ (decide_eq_false hb)
      refine ds_app 3 (ds := (rowAt ns at_ pre).2.map .int) rfl (de_mod (de_var (i := 2) rfl) de_int (by decide)) hlen ?_
      refine ds_set 2 (de_fdivS (de_var (i := 2) rfl) de_int ⟨by decide, by decide⟩) ?_ c__law_row.nd
      refine ds_end (ds_nil rfl (.eq (.eq (.eqd ?_ (.eqo ?_ (.un .nil))))))
      · rw [rowAt_snoc]
        unfold rowStep
        rw [if_neg hb]
      · rw [rowAt_snoc]
        unfold rowStep
        rw [if_neg hb, List.map_append]
        rfl
  · refine ds_freeze 3 rfl ?_
    exact ds_ret (de_var (i := 3) rfl) rfl
end
/-! ### _law_power -/
section
variable {P : Program} {w : World} {K : PySem.W.Frag} {mg : Str → Option Value} {base : Heap} (M : Md K mg) {f : Addr} {fd : FuncData}
include M
theorem f__law_power (F : Fun K "_law_power" "_law_power" s__law_power f fd) : FnOk P w K mg base (L2.CX P w) 1 f fd p__law_power (spD S_power) := by
  refine fn_ok (k := 0) F c__law_power (fun ds o ⟨_, _, h, _⟩ => by rw [h]; rfl) (by decide) fun cdv A outer s H E ds o hr hS tk => ?_
  obtain ⟨p, n, rfl, hp, hn, rfl⟩ := hS
  show DS _ _ [.dat (.int p), .dat (.int n), .un, .un] _ _
  refine ds_set 2 de_int ?_ c__law_power.nd
  refine ds_forE (intsL 0 n) PyData.int (fun pre => [.dat (.int p), .dat (.int n), .dat (.int (p ^ pre.length)), .un]) (fun pre x => [.dat (.int p), .dat (.int n), .dat (.int (p ^ pre.length)), .dat (.int x)])
    (di_r1 (de_var (i := 1) rfl) (by omega) M.range) (.eq (.eq (.eqd (by simp) (.eq .nil)))) (fun pre x post e => dg_name 3 c__law_power.nd) (fun pre x post e => ?_) ?_
  · refine ds_set 2 (de_mulS (de_var (i := 2) rfl) (de_var (i := 0) rfl) (.inr (by omega))) ?_ c__law_power.nd
    exact ds_nil rfl (.eq (.eq (.eqd (by rw [List.length_append, List.length_singleton, Int.pow_succ]) (.un .nil))))
  · refine ds_ret (de_var (i := 2) rfl) ?_
    rw [intsL_len]
    rfl
end
/-! ### _law_placements -/
def lextP (last : Int) (one : List Int) : List (List Int) := ((intsL 0 (last + 1).toNat).filter fun p => one.isEmpty || decide (lastP one ≤ p)).map fun p => one ++ [p]
def lawP (last : Int) : Nat → List (List Int)
  | 0 => [[]]
  | n + 1 => (lawP last n).flatMap (lextP last)
theorem lawP_eq : ∀ l : Fin 7, ∀ n : Fin 5, lawP (l.val : Int) n.val = allP (l.val : Int) n.val := by decide +kernel
section
variable {P : Program} {w : World} {K : PySem.W.Frag} {mg : Str → Option Value} {base : Heap} (M : Md K mg) {f : Addr} {fd : FuncData}
include M
theorem f__law_placements (F : Fun K "_law_placements" "_law_placements" s__law_placements f fd) : FnOk P w K mg base (L2.CX P w) 1 f fd p__law_placements (spD S_all_placements) := by
  refine fn_ok (k := 0) F c__law_placements (fun ds o ⟨_, _, h, _⟩ => by rw [h]; rfl) (by decide) fun cdv A outer s H E ds o hr hS tk => ?_
  obtain ⟨last, items, rfl, h6, h4, rfl⟩ := hS
  have hz := line63
  have hz2 : sizeLine = 16777216 := sizeLine_eq
  show DS _ _ [.dat (.int last), .dat (.int items), .un, .un, .un, .un, .un] _ _
  refine ds_set 2 (de_lst (da_cons (de_tup da_nil) da_nil)) ?_ c__law_placements.nd
  refine ds_forE (intsL 0 items) PyData.int (fun pre => [.dat (.int last), .dat (.int items), .dat (.list ((lawP last pre.length).map encP)), .un, .un, .un, .un])
    (fun pre x => [.dat (.int last), .dat (.int items), .dat (.list ((lawP last pre.length).map encP)), .dat (.int x), .un, .un, .un])
    (di_r1 (de_var (i := 1) rfl) (by omega) M.range) (.eq (.eq (.eqd rfl (.eq (.eq (.eq (.eq .nil))))))) (fun pre x post e => dg_name 3 c__law_placements.nd) (fun pre x post e => ?_) ?_
  · obtain ⟨-, hlt, -⟩ := intsL_split e
    have hbig : (lawP last (pre.length + 1)).length ≤ 1000 := by
      have e1 := lawP_eq ⟨last, by omega⟩ ⟨pre.length + 1, by omega⟩
      have e2 := allP_few ⟨last, by omega⟩ ⟨pre.length + 1, by omega⟩
      simp only at e1 e2
      rw [e1]; exact e2
    have hmem : ∀ one ∈ lawP (last : Int) pre.length, one.length ≤ 4 := fun one ho => by
      have e1 := lawP_eq ⟨last, by omega⟩ ⟨pre.length, by omega⟩
      simp only at e1
      rw [e1] at ho
      have := (allP_mem (by omega) ho).1
      omega
    refine ds_set 4 (de_lst da_nil) ?_ c__law_placements.nd
    refine ds_forE (lawP last pre.length) encP (fun p2 => [.dat (.int last), .dat (.int items), .dat (.list ((lawP last pre.length).map encP)), .dat (.int x), .dat (.list ((p2.flatMap (lextP last)).map encP)), .un, .un])
      (fun p2 one => [.dat (.int last), .dat (.int items), .dat (.list ((lawP last pre.length).map encP)), .dat (.int x), .dat (.list ((p2.flatMap (lextP last)).map encP)), .dat (encP one), .un])
      (di_list (de_var (i := 2) rfl)) (.eq (.eq (.eq (.eq (.eqd rfl (.eq (.eq .nil))))))) (fun p2 one q2 e2 => dg_name 5 c__law_placements.nd) (fun p2 one q2 e2 => ?_) ?_
    · have hone : one ∈ lawP last pre.length := by rw [e2]; simp
      have hl1 := hmem one hone
      refine ds_set 4 (d := .list (((p2 ++ [one]).flatMap (lextP last)).map encP)) (de_is (de_ofL (dl_cat (de_var (i := 4) rfl) (de_ofL (dl_lc (intsL 0 ((last : Int) + 1).toNat) PyData.int (fun p => one.isEmpty || decide (lastP one ≤ p)) (fun p => encP (one ++ [p])) [("_law_place", 6)] (fun p => [.dat (.int last), .dat (.int items), .dat (.list ((lawP last pre.length).map encP)), .dat (.int x), .dat (.list ((p2.flatMap (lextP last)).map encP)), .dat (encP one), .dat (.int p)])
        (di_is (di_r1 (de_add (de_var (i := 0) rfl) de_int) (by omega) M.range) rfl) c__law_placements.nd (blkOk_by (N := n__law_placements) (sc := defScope s__law_placements) (by decide +kernel)) (fun _ _ _ _ _ _ _ => dgc_name 6 c__law_placements.nd)
        (fun _ _ _ _ _ p hp => dts_one (dt_w (dw_or (k := one.isEmpty) (dt_is (dt_eq hr.units (de_var (i := 5) (d := encP one) rfl) (de_tup da_nil) (sh_tupI.shaped) rfl) ?_) fun hne => dw_or1 (dt_is (dt_ge (de_var (i := 6) rfl) (de_ixT (ds := one.map .int) (de_var (i := 5) rfl) (de_neg de_int) (at_last (d := 0) PyData.int ?_))) ?_))))
        (fun _ _ _ _ _ p hp hk => de_is (de_catT (ds := one.map .int) (d2s := [.int p]) (de_var (i := 5) rfl) (de_tup (da_cons (de_var (i := 6) rfl) da_nil)) ?_) ?_) ?_)) ?_)) ?_) ?_ c__law_placements.nd
      · cases one <;> rfl
      · intro z; subst z; cases hne
      · exact rfl
      · simp only [List.length_map, List.length_singleton]; omega
      · unfold encP; rw [List.map_append]; rfl
      · rw [intsL_len]; omega
      · rw [List.length_map, List.length_map]
        have hsum : (p2.flatMap (lextP last)).length + (lextP last one).length ≤ (lawP last (pre.length + 1)).length := by
          show _ ≤ ((lawP last pre.length).flatMap (lextP last)).length
          rw [e2]
          simp only [List.flatMap_append, List.flatMap_cons, List.length_append]
          omega
        have : (lextP last one).length = ((intsL 0 ((last : Int) + 1).toNat).filter fun p => one.isEmpty || decide (lastP one ≤ p)).length := by unfold lextP; rw [List.length_map]
        omega
      · rw [List.flatMap_append, List.map_append]
        congr 2
        unfold lextP
        simp only [List.flatMap_cons, List.flatMap_nil, List.append_nil, List.map_map]
        rfl
      · exact ds_nil rfl (.eq (.eq (.eq (.eq (.eq (.un (.un .nil)))))))
    · refine ds_set 2 (de_var (i := 4) rfl) ?_ c__law_placements.nd
      exact ds_nil rfl (.eq (.eq (.eqd (by rw [List.length_append]; rfl) (.un (.un (.un (.un .nil)))))))
  · refine ds_ret (de_var (i := 2) rfl) ?_
    rw [intsL_len]
    exact congrArg (fun z => Out.ret (.list (z.map encP))) (lawP_eq ⟨last, by omega⟩ ⟨items, by omega⟩).symm
end
/-! ### _law_hidden -/
/-- what is told of a call's outcome -/
def OutH (CN CA : Addr) (o' o : Out) : Prop := (∃ d, o' = .ret d ∧ o = .ret d) ∨ (o' = .exc ⟨CN, none⟩ ∧ o = .ret (.str "number")) ∨ (o' = .exc ⟨CA, none⟩ ∧ o = .ret (.str "answers"))
def S__law_hidden (CN CA : Addr) (ds : List PyData) (o : Out) : Prop := ∃ (mode : Int) (l it an : PyData) (o' : Out), ds = [.int mode, l, it, an] ∧ (mode = 0 → S_candidates CN CA [l, it, an] o') ∧ (mode ≠ 0 → S_best_power CN CA [l, it, an] o') ∧ OutH CN CA o' o
section
variable {P : Program} {w : World} {K : PySem.W.Frag} {mg : Str → Option Value} {base : Heap} (M : Md K mg) {f : Addr} {fd : FuncData}
theorem f__law_hidden (F : Fun K "_law_hidden" "_law_hidden" s__law_hidden f fd) (F_candidates : FnIn P w K mg base 4 "candidates" (S_candidates M.C_InvalidNumber M.C_InvalidAnswers)) (F_best_power : FnIn P w K mg base 5 "best_power" (S_best_power M.C_InvalidNumber M.C_InvalidAnswers)) :
    FnOk P w K mg base (L2.CX P w) 6 f fd p__law_hidden (spD (S__law_hidden M.C_InvalidNumber M.C_InvalidAnswers)) := by
  refine fn_ok (k := 5) F c__law_hidden (fun ds o ⟨_, _, _, _, _, h, _⟩ => by rw [h]; rfl) (by decide) fun cdv A outer s H E ds o hr hS tk => ?_
  obtain ⟨mode, l, it, an, o', rfl, h1, h2, hO⟩ := hS
  show DS _ _ [.dat (.int mode), .dat l, .dat it, .dat an, .un] _ _
  refine ds_try 4 (.cons (c := .ref M.C_InvalidNumber) ⟨rfl, by decide, .inl M.E_InvalidNumber.g⟩ (.cons (c := .ref M.C_InvalidAnswers) ⟨rfl, by decide, .inl M.E_InvalidAnswers.g⟩ .nil)) tk (fun W' pn xe t1 t2 => ?_) c__law_hidden.nd
  refine ds_retX (o := o') (dx_if (k := decide (mode = 0)) (dt_eqI (de_var (i := 0) rfl) de_int) (fun hm => dx_call F_candidates (hr.mono (by decide)) t1 (da_cons (de_var (i := 1) rfl) (da_cons (de_var (i := 2) rfl) (da_cons (de_var (i := 3) rfl) da_nil))) (h1 (of_decide_eq_true hm)))
    (fun hm => dx_call F_best_power hr t1 (da_cons (de_var (i := 1) rfl) (da_cons (de_var (i := 2) rfl) (da_cons (de_var (i := 3) rfl) da_nil))) (h2 (of_decide_eq_false hm)))) ?_
  rcases hO with ⟨d, rfl, rfl⟩ | ⟨rfl, rfl⟩ | ⟨rfl, rfl⟩
  · exact rfl
  · exact ⟨true, M.R_InvalidNumber_InvalidNumber.ex, fun _ a oe pn d hz hl hv => ds_clause (i := 4) M.X_InvalidNumber hz (hl rfl) hv M.isinstance M.E_AverageError.g M.E_InvalidAnswers.g M.R_InvalidNumber_AverageError M.R_InvalidNumber_InvalidAnswers rfl rfl, fun z => by cases z⟩
  · exact ⟨false, M.R_InvalidAnswers_InvalidNumber.ex, (by intro z; cases z), fun _ => ⟨true, M.R_InvalidAnswers_InvalidAnswers.ex, fun _ a oe pn d hz hl hv => ds_clause (i := 4) M.X_InvalidAnswers hz (hl rfl) hv M.isinstance M.E_AverageError.g M.E_InvalidNumber.g M.R_InvalidAnswers_AverageError M.R_InvalidAnswers_InvalidNumber rfl rfl, fun z => by cases z⟩⟩
end
/-! ### _law_best -/
def S__law_best (ds : List PyData) (o : Out) : Prop := ∃ found : List (List Int), ds = [.list (found.map encP)] ∧ found.length ≤ 1000 ∧ (∀ pl ∈ found, pl.length ≤ 4 ∧ ∀ p ∈ pl, 0 ≤ p ∧ p ≤ 6) ∧ o = .ret (if found = [] then .str "answers" else bestOf found)
section
variable {P : Program} {w : World} {K : PySem.W.Frag} {mg : Str → Option Value} {base : Heap} (M : Md K mg) {f : Addr} {fd : FuncData}
include M
theorem f__law_best (F : Fun K "_law_best" "_law_best" s__law_best f fd) (F__law_power : FnIn P w K mg base 1 "_law_power" S_power) : FnOk P w K mg base (L2.CX P w) 2 f fd p__law_best (spD S__law_best) := by
  refine fn_ok (k := 1) F c__law_best (fun ds o ⟨_, h, _⟩ => by rw [h]; rfl) (by decide) fun cdv A outer s H E ds o hr hS tk => ?_
  obtain ⟨found, rfl, hbig, hmem, rfl⟩ := hS
  have hz2 : sizeLine = 16777216 := sizeLine_eq
  show DS _ _ [.dat (.list (found.map encP)), .un, .un, .un, .un, .un, .un, .un] _ _
  have hsh : SeqAt.shaped (.list (found.map encP)) = true := (sh_lst (n := 1) (sh_map fun _ _ => sh_tupI)).shaped
  by_cases hne : found = []
  · refine ds_T (dt_eq hr.units (de_var (i := 0) (d := .list (found.map encP)) rfl) (de_lst da_nil) hsh rfl) ?_ (by subst hne; rfl)
    refine ds_ret de_str ?_
    show Out.ret _ = Out.ret _
    rw [if_pos hne]
  · refine ds_F (dt_eq hr.units (de_var (i := 0) (d := .list (found.map encP)) rfl) (de_lst da_nil) hsh rfl) ?_ (by cases found with | nil => exact absurd rfl hne | cons a b => rfl)
    refine ds_set 1 de_non ?_ c__law_best.nd
    refine ds_forE (intsL 1 3) PyData.int (fun pre => [.dat (.list (found.map encP)), .dat (encB (pre.foldl (bestStep found) none)), .un, .un, .un, .un, .un, .un])
      (fun pre x => [.dat (.list (found.map encP)), .dat (encB (pre.foldl (bestStep found) none)), .dat (.int x), .un, .un, .un, .un, .un])
      (di_r2 de_int de_int (by decide) M.range) (.eq (.eqd rfl (.eq (.eq (.eq (.eq (.eq (.eq .nil)))))))) (fun pre x post e => dg_name 2 c__law_best.nd) (fun pre x post e => ?_) ?_
    · obtain ⟨ex, hlt, -⟩ := intsL_split e
      have hx : 1 ≤ x ∧ x ≤ 3 := by omega
      generalize hb : pre.foldl (bestStep found) none = b
      refine ds_set 3 (d := .list ((found.map (psum x.toNat)).map PyData.int)) (de_is (de_ofL (dl_lcM found encP (fun pl => .int (psum x.toNat pl)) [("_law_one", 5)] (fun pl => [.dat (.list (found.map encP)), .dat (encB b), .dat (.int x), .un, .un, .dat (encP pl), .un, .un]) (di_list (de_var (i := 0) rfl)) c__law_best.nd (blkOk_by (N := n__law_best) (sc := defScope s__law_best) (by decide +kernel)) (fun _ _ _ _ _ pl hx => dgc_name 5 c__law_best.nd)
        (fun _ _ _ _ _ pl hpl => de_is (de_sum (ns := pl.map (· ^ x.toNat)) M.sum (de_is (de_ofL (dl_lcM pl PyData.int (fun p => .int (p ^ x.toNat)) [("_law_place", 4)] (fun p => [.dat (.list (found.map encP)), .dat (encB b), .dat (.int x), .un, .dat (.int p), .dat (encP pl), .un, .un]) (di_tup (de_var (i := 5) rfl)) c__law_best.nd (blkOk_by (N := n__law_best) (sc := relS _ (defScope s__law_best)) (by decide +kernel)) (fun _ _ _ _ _ p hx => dgc_name 4 c__law_best.nd)
          (fun _ _ _ _ _ p hp => de_call F__law_power (hr.mono (by decide)) (da_cons (de_var (i := 4) rfl) (da_cons (de_var (i := 2) rfl) da_nil)) ⟨p, x.toNat, by simp only [Int.toNat_of_nonneg (show 0 ≤ x by omega)], by have := (hmem pl hpl).2 p hp; omega, by omega, rfl⟩) (by have := (hmem pl hpl).1; omega))) (by rw [List.map_map]; rfl))) rfl) (by omega))) (by rw [List.map_map]; rfl)) ?_ c__law_best.nd
      generalize hhere : found.map (psum x.toNat) = here
      have hlen : here.length = found.length := by rw [← hhere, List.length_map]
      refine ds_set 6 (d := .int (worst found x.toNat)) (de_maxL (ns := (here.map fun t => (here.count t : Nat)).map Int.ofNat) M.max (de_is (de_ofL (dl_lcM here PyData.int (fun t => .int (here.count t : Nat)) [("_law_told", 7)] (fun t => [.dat (.list (found.map encP)), .dat (encB b), .dat (.int x), .dat (.list (here.map .int)), .un, .un, .un, .dat (.int t)]) (di_list (de_var (i := 3) rfl)) c__law_best.nd (blkOk_by (N := n__law_best) (sc := defScope s__law_best) (by decide +kernel)) (fun _ _ _ _ _ pl hx => dgc_name 7 c__law_best.nd)
        (fun _ _ _ _ _ t ht => de_count (de_var (i := 3) rfl) (de_var (i := 7) rfl)) (by omega))) (by rw [List.map_map, List.map_map]; rfl)) ?_ ?_) ?_ c__law_best.nd
      · have := mx_in (xs := (here.map fun t => (here.count t : Nat)).map Int.ofNat) (by intro z; have := congrArg List.length z; simp at this; subst this; exact hne (List.length_eq_zero_iff.mp (by simpa using hlen.symm)))
        unfold worst
        rw [hhere]
        exact this.1
      · have := mx_in (xs := (here.map fun t => (here.count t : Nat)).map Int.ofNat) (by intro z; have := congrArg List.length z; simp at this; subst this; exact hne (List.length_eq_zero_iff.mp (by simpa using hlen.symm)))
        unfold worst
        rw [hhere]
        exact this.2
      have hfold : (pre ++ [x]).foldl (bestStep found) none = bestStep found (pre.foldl (bestStep found) none) x := by rw [List.foldl_append]; rfl
      rw [hb] at hfold
      let ρ0 : En := [.dat (.list (found.map encP)), .dat (encB b), .dat (.int x), .dat (.list (here.map .int)), .un, .un, .dat (.int (worst found x.toNat)), .un]
      have keep : bestStep found b x = b → Weak ρ0 [.dat (.list (found.map encP)), .dat (encB ((pre ++ [x]).foldl (bestStep found) none)), .un, .un, .un, .un, .un, .un] := fun h => .eq (.eqd (by rw [hfold, h]) (.un (.un (.un (.un (.un (.un .nil)))))))
      by_cases c1 : worst found x.toNat < found.length
      · have c1' : worst found x.toNat < ((found.map encP).length : Int) := by rw [List.length_map]; exact c1
        cases b with
        | none =>
          refine ds_T (k := true) (dt_w (dw_andT (dt_lt (de_var (i := 6) rfl) (de_lenL M.len (de_var (i := 0) rfl))) (dw_and1 (k := true) (dt_w (dw_orT (dt_isN (de_var (i := 1) rfl))))) (decide_eq_true c1'))) ?_
          refine ds_set 1 (de_tup (da_cons (de_var (i := 6) rfl) (da_cons (de_var (i := 2) rfl) da_nil))) ?_ c__law_best.nd
          refine ds_end (ds_nil rfl (.eq (.eqd ?_ (.un (.un (.un (.un (.un (.un .nil)))))))))
          rw [hfold]
          unfold bestStep
          rw [if_pos ⟨c1, rfl⟩]
          rfl
        | some z =>
          by_cases c2 : worst found x.toNat < z.1
          · refine ds_T (k := true) (dt_w (dw_andT (dt_lt (de_var (i := 6) rfl) (de_lenL M.len (de_var (i := 0) rfl))) (dw_and1 (k := true) (dt_w (dw_orF (dt_isN (de_var (i := 1) (d := encB (some z)) rfl)) (dw_or1 (k := true) (dt_is (dt_lt (de_var (i := 6) rfl) (de_ixT (ds := [.int z.1, .int z.2]) (de_var (i := 1) rfl) de_int rfl)) (decide_eq_true c2)))))) (decide_eq_true c1'))) ?_
            refine ds_set 1 (de_tup (da_cons (de_var (i := 6) rfl) (da_cons (de_var (i := 2) rfl) da_nil))) ?_ c__law_best.nd
            refine ds_end (ds_nil rfl (.eq (.eqd ?_ (.un (.un (.un (.un (.un (.un .nil)))))))))
            rw [hfold]
            unfold bestStep
            rw [if_pos ⟨c1, decide_eq_true c2⟩]
            rfl
          · refine ds_F (k := false) (dt_w (dw_andT (dt_lt (de_var (i := 6) rfl) (de_lenL M.len (de_var (i := 0) rfl))) (dw_and1 (k := false) (dt_w (dw_orF (dt_isN (de_var (i := 1) (d := encB (some z)) rfl)) (dw_or1 (k := false) (dt_is (dt_lt (de_var (i := 6) rfl) (de_ixT (ds := [.int z.1, .int z.2]) (de_var (i := 1) rfl) de_int rfl)) (decide_eq_false c2)))))) (decide_eq_true c1'))) ?_
            exact ds_nil rfl (keep (by unfold bestStep; rw [if_neg (fun q => c2 (of_decide_eq_true q.2))]))
      · have c1' : ¬ worst found x.toNat < ((found.map encP).length : Int) := by rw [List.length_map]; exact c1
        refine ds_F (k := false) (dt_w (dw_andF (dt_lt (de_var (i := 6) rfl) (de_lenL M.len (de_var (i := 0) rfl))) (decide_eq_false c1'))) ?_
        exact ds_nil rfl (keep (by unfold bestStep; rw [if_neg (fun q => c1 q.1)]))
    · have ho : Out.ret (if found = [] then .str "answers" else bestOf found) = .ret (bestOf found) := by rw [if_neg hne]
      cases hb : (intsL 1 3).foldl (bestStep found) none with
      | none =>
        refine ds_ret (de_ifT (dt_isN (de_var (i := 1) (d := encB none) rfl)) de_non) ?_
        refine ho.trans ?_
        unfold bestOf
        rw [hb]
      | some z =>
        refine ds_ret (de_ifF (dt_isN (de_var (i := 1) (d := encB (some z)) rfl)) (de_ixT (ds := [.int z.1, .int z.2]) (de_var (i := 1) rfl) de_int rfl)) ?_
        refine ho.trans ?_
        unfold bestOf
        rw [hb]
end
/-! ### law -/
/-- the draws as natural numbers -/
def dn (ns : List Int) (i : Nat) : Nat := (dr ns 4 i).toNat
theorem cand_one : ∀ l : Fin 7, ∀ n : Fin 4, ∀ hid ∈ allP (l.val : Int) n.val, cand (l.val : Int) n.val ((intsL 0 (min n.val 3)).map fun t => (t + 1, psum (t + 1).toNat hid)) = [hid] := by decide +kernel
theorem psum_small : ∀ l : Fin 7, ∀ n : Fin 5, ∀ hid ∈ allP (l.val : Int) n.val, ∀ e : Fin 4, 0 ≤ psum e.val hid ∧ psum e.val hid ≤ 900 := by decide +kernel
def wrongs : List PyData := [.tuple [.int 0, .int 1], .tuple [.int 4, .int 1], .tuple [.int 1, .int (-1)], .tuple [.int 1, .int 10000], .tuple [.int 1], .list [.int 1, .int 1], .none, .tuple [.int 1, .none]]
def wrongN : List PyData := [.none, .int 0, .int 5, .bool true]
theorem chk_wrong {last items : Nat} {as : List (Int × Int)} {x : PyData} (h1 : 1 ≤ last) (h2 : last ≤ 6) (h3 : 1 ≤ items) (h4 : items ≤ 4) (h : okA x = false) : chkA (.int last) (.int items) (.tuple (as.map encA ++ [x])) = some false := by
  unfold chkA
  rw [if_pos (inR_iff.mpr ⟨_, rfl, by omega, by omega⟩), if_pos (inR_iff.mpr ⟨_, rfl, by omega, by omega⟩)]
  show (if (as.map encA ++ [x]).all okA = true then none else some false) = some false
  rw [if_neg (by simp [h])]
theorem chk_list {last items : Nat} {ds : List PyData} (h1 : 1 ≤ last) (h2 : last ≤ 6) (h3 : 1 ≤ items) (h4 : items ≤ 4) : chkA (.int last) (.int items) (.list ds) = some false := by
  unfold chkA
  rw [if_pos (inR_iff.mpr ⟨_, rfl, by omega, by omega⟩), if_pos (inR_iff.mpr ⟨_, rfl, by omega, by omega⟩)]
theorem chk_num {last : Nat} {it an : PyData} (h1 : 1 ≤ last) (h2 : last ≤ 6) (h3 : inR it 1 4 = false) : chkA (.int last) it an = some true := by
  unfold chkA
  rw [if_pos (inR_iff.mpr ⟨_, rfl, by omega, by omega⟩), if_neg (by rw [h3]; decide)]
theorem hid_exc {CN CA : Addr} {mode : Int} {l it an : PyData} {b : Bool} (h : chkA l it an = some b) : S__law_hidden CN CA [.int mode, l, it, an] (.ret (.str (if b then "number" else "answers"))) := by
  refine ⟨mode, l, it, an, outC CN CA (some b), rfl, fun _ => ⟨_, _, _, rfl, .inl ⟨_, h, rfl⟩⟩, fun _ => ⟨_, _, _, rfl, .inl ⟨_, h, rfl⟩⟩, ?_⟩
  cases b with
  | true => exact .inr (.inl ⟨rfl, rfl⟩)
  | false => exact .inr (.inr ⟨rfl, rfl⟩)
def ansOf (ns : List Int) (hid : List Int) (t : Int) : Int × Int :=
  (((dn ns (4 + t.toNat) % 3 : Nat) : Int) + 1, psum (dn ns (4 + t.toNat) % 3 + 1) hid + if decide (dr ns 4 (10 + t.toNat) % 9 = 0) then 1 else 0)
theorem shaS : SeqAt.shaped (.str "answers") = true := by decide +kernel
theorem shnS : SeqAt.shaped (.str "number") = true := by decide +kernel
theorem eqS : (!PyData.eqv (.str "answers") (.str "answers")) = false := by decide +kernel
theorem eqN : (!PyData.eqv (.str "number") (.str "number")) = false := by decide +kernel
def S_law (ns : List Int) (ds : List PyData) (o : Out) : Prop := ds = [] ∧ o = .ret (.bool true)
theorem law_holds {ns : List Int} (_ : ns.length ≤ 63) : S_law ns [] (.ret (.bool true)) := ⟨rfl, rfl⟩
section
variable {P : Program} {w : World} {K : PySem.W.Frag} {mg : Str → Option Value} {base : Heap} (M : Md K mg) {f : Addr} {fd : FuncData}
theorem f_law (F : Fun K "law" "law" s_law f fd) (F__law_row : FnInP P w K mg base 2 "_law_row" S__law_row) (F__law_placements : FnIn P w K mg base 1 "_law_placements" S_all_placements) (F__law_power : FnIn P w K mg base 1 "_law_power" S_power)
    (F_candidates : FnIn P w K mg base 4 "candidates" (S_candidates M.C_InvalidNumber M.C_InvalidAnswers)) (F__law_hidden : FnIn P w K mg base 6 "_law_hidden" (S__law_hidden M.C_InvalidNumber M.C_InvalidAnswers)) (F__law_best : FnIn P w K mg base 2 "_law_best" S__law_best) :
    FnOk P w K mg base (L2.CX P w) 7 f fd p_law (spP K S_law) := by
  refine fnP_ok (k := 6) F c_law (fun ns ds o ⟨h, _⟩ => by rw [h]; rfl) (by decide) fun cdv A outer s H E a ns ds o hr hS tk => ?_
  obtain ⟨rfl, rfl⟩ := hS
  have hz2 : sizeLine = 16777216 := sizeLine_eq
  show DS _ _ [SV.scr K a ns, .un, .un, .un, .un, .un, .un, .un, .un, .un, .un, .un, .un, .un, .un, .un, .un, .un] _ _
  refine ds_set 1 (de_callP (i := 0) (a := a) (ns := ns) F__law_row (hr.mono (by decide)) rfl (da_cons de_int da_nil) ⟨4, rfl, by decide, rfl⟩) ?_ c_law.nd
  have hd : ∀ i, dr ns 4 i = (dn ns i : Int) ∧ dn ns i < 1000 := fun i => by have := dr_bd ns 4 i; unfold dn; omega
  generalize hL : 1 + dn ns 0 % 6 = L
  generalize hI : 1 + dn ns 1 % 4 = I
  have hL1 : 1 ≤ L ∧ L ≤ 6 := by omega
  have hI1 : 1 ≤ I ∧ I ≤ 4 := by omega
  --have D : ∀ {i : Nat} {X : Cx} {b : Expr} {ρ : En} {k : Int} {pos : Pos} {x : Str}, DE X ρ b (.int k) → ρ[1]? = some (.dat (.list ((rowM ns 4).map .int))) → k = (i : Int) → i < 60 → True := fun _ _ _ _ => trivial
  refine ds_par 2 3 (da_cons (de_is (z := .int (L : Int)) (de_add de_int (de_mod (de_ixL (ds := (rowM ns 4).map .int) (de_var (i := 1) rfl) de_int (dr_at ns 4 (i := 0) (by decide))) de_int (by decide))) (by congr 1; rw [(hd 0).1]; omega)) (da_cons (de_is (z := .int (I : Int)) (de_add de_int (de_mod (de_ixL (ds := (rowM ns 4).map .int) (de_var (i := 1) rfl) de_int (dr_at ns 4 (i := 1) (by decide))) de_int (by decide))) (by congr 1; rw [(hd 1).1]; omega)) da_nil)) ?_ c_law.nd
  refine ds_set 4 (d := .list ((allP L I).map encP)) (de_call F__law_placements (hr.mono (by decide)) (da_cons (de_var (i := 2) rfl) (da_cons (de_var (i := 3) rfl) da_nil)) ⟨L, I, rfl, hL1.2, hI1.2, rfl⟩) ?_ c_law.nd
  have hbig : (allP L I).length ≤ 1000 := allP_few ⟨L, by omega⟩ ⟨I, by omega⟩
  have hmem : ∀ pl ∈ allP (L : Int) I, pl.length = I ∧ ∀ p ∈ pl, 0 ≤ p ∧ p ≤ (L : Int) := fun pl hp => allP_mem (by omega) hp
  have hsmall : ∀ pl ∈ allP (L : Int) I, ∀ e, e ≤ 3 → 0 ≤ psum e pl ∧ psum e pl ≤ 900 := fun pl hp e he => psum_small ⟨L, by omega⟩ ⟨I, by omega⟩ pl hp ⟨e, by omega⟩
  have hone : I < 4 → ∀ pl ∈ allP (L : Int) I, cand L I ((intsL 0 (min I 3)).map fun t => (t + 1, psum (t + 1).toNat pl)) = [pl] := fun h pl hp => cand_one ⟨L, by omega⟩ ⟨I, h⟩ pl hp
  have hpos : 0 < (allP L I).length := by
    have : ∀ l : Fin 7, ∀ n : Fin 5, 0 < (allP (l.val : Int) n.val).length := by decide +kernel
    exact this ⟨L, by omega⟩ ⟨I, by omega⟩
  have hcand : cand L I = fun as => (allP L I).filter (agrees as) := rfl
  have hS1 : S_candidates M.C_InvalidNumber M.C_InvalidAnswers = ofA M.C_InvalidNumber M.C_InvalidAnswers fun last items as => .ret (.list ((cand last items as).map encP)) := rfl
  obtain ⟨hid, hhid, hin⟩ : ∃ hid, (allP (L : Int) I)[dn ns 2 % (allP (L : Int) I).length]? = some hid ∧ hid ∈ allP (L : Int) I := by
    have hlt := Nat.mod_lt (dn ns 2) hpos
    exact ⟨_, List.getElem?_eq_getElem hlt, List.getElem_mem hlt⟩
  generalize hev : allP (L : Int) I = every at hbig hmem hsmall hone hpos hhid hin hcand
  refine ds_set 5 (d := encP hid) (de_ixL (ds := every.map encP) (i := ((dn ns 2 % every.length : Nat) : Int)) (de_var (i := 4) rfl) (de_is (de_mod (de_ixL (ds := (rowM ns 4).map .int) (de_var (i := 1) rfl) de_int (dr_at ns 4 (i := 2) (by decide))) (de_lenL (ds := every.map encP) M.len (de_var (i := 4) rfl)) ?_) ?_) (atI_nat ?_)) ?_ c_law.nd
  · rw [List.length_map]; omega
  · rw [List.length_map, (hd 2).1]; congr 1
  · rw [List.getElem?_map, hhid]; rfl
  have hh := hmem hid hin
  have hhs := hsmall hid hin
  let σ1 : List Int := (intsL 1 3).map fun e => psum e.toNat hid
  let ρ1 : List SV → En := fun l => [SV.scr K a ns, .dat (.list ((rowM ns 4).map .int)), .dat (.int L), .dat (.int I), .dat (.list (every.map encP)), .dat (encP hid)] ++ l
  refine ds_set 6 (d := .list (σ1.map .int)) (de_is (de_ofL (dl_lcM (intsL 1 3) PyData.int (fun e => .int (psum e.toNat hid)) [("_law_exponent", 8)] (fun e => ρ1 [.un, .un, .dat (.int e), .un, .un, .un, .un, .un, .un, .un, .un, .un]) (di_r2 de_int de_int (by decide) M.range) c_law.nd (blkOk_by (N := n_law) (sc := defScope s_law) (by decide +kernel)) (fun _ _ _ _ _ _ _ => dgc_name 8 c_law.nd)
    (fun _ _ _ _ _ e he => de_is (de_sum (ns := hid.map (· ^ e.toNat)) M.sum (de_is (de_ofL (dl_lcM hid PyData.int (fun p => .int (p ^ e.toNat)) [("_law_place", 7)] (fun p => ρ1 [.un, .dat (.int p), .dat (.int e), .un, .un, .un, .un, .un, .un, .un, .un, .un]) (di_tup (de_var (i := 5) rfl)) c_law.nd (blkOk_by (N := n_law) (sc := relS _ (defScope s_law)) (by decide +kernel)) (fun _ _ _ _ _ _ _ => dgc_name 7 c_law.nd)
      (fun _ _ _ _ _ p hp => de_call F__law_power (hr.mono (by decide)) (da_cons (de_var (i := 7) rfl) (da_cons (de_var (i := 8) rfl) da_nil)) ⟨p, e.toNat, ?_, ?_, ?_, rfl⟩) ?_)) (by rw [List.map_map]; rfl))) rfl) ?_)) (by show PyData.list _ = PyData.list (((intsL 1 3).map _).map _); rw [List.map_map]; rfl)) ?_ c_law.nd
  · have := (intsL_mem he); simp only [Int.toNat_of_nonneg (show 0 ≤ e by omega)]
  · have := hh.2 p hp; omega
  · have := (intsL_mem he); omega
  · rw [hh.1]; omega
  · rw [intsL_len]; omega
  have hσ : ∀ t : Nat, t < 3 → atI (σ1.map PyData.int) (t : Int) = some (.int (psum (t + 1) hid)) := fun t ht => by
    refine atI_nat ?_
    rcases t with _ | _ | _ | t
    · rfl
    · rfl
    · rfl
    · omega
  let told : List (Int × Int) := (intsL 0 (min I 3)).map fun t => (t + 1, psum (t + 1).toNat hid)
  refine ds_set 9 (d := .tuple (told.map encA)) (de_tupleL M.tuple (de_is (de_ofL (dl_lcM (intsL 0 (min I 3)) PyData.int (fun t => encA (t + 1, psum (t + 1).toNat hid)) [("_law_at", 10)] (fun t => ρ1 [.dat (.list (σ1.map .int)), .un, .un, .un, .dat (.int t), .un, .un, .un, .un, .un, .un, .un]) (di_is (di_r1 (n := ((min I 3 : Nat) : Int)) (de_is (de_min2 M.min (de_var (i := 3) rfl) de_int) (by congr 1; omega)) (by omega) M.range) rfl) c_law.nd (blkOk_by (N := n_law) (sc := defScope s_law) (by decide +kernel)) (fun _ _ _ _ _ _ _ => dgc_name 10 c_law.nd)
    (fun _ _ _ _ _ t ht => de_is (de_tup (da_cons (de_add (de_var (i := 10) rfl) de_int) (da_cons (de_ixL (ds := σ1.map .int) (i := t) (d := .int (psum (t + 1).toNat hid)) (de_var (i := 6) rfl) (de_var (i := 10) rfl) ?_) da_nil))) rfl) ?_)) (by rw [List.map_map]; rfl))) ?_ c_law.nd
  · have := (intsL_mem ht)
    have h0 := hσ t.toNat (by omega)
    rw [Int.toNat_of_nonneg (by omega)] at h0
    rw [h0]
    congr 3
    omega
  · rw [intsL_len]; omega
  have htold : AnsOk told := fun z hz => by
    obtain ⟨t, ht, rfl⟩ := List.mem_map.mp hz
    have := (intsL_mem ht)
    have := hhs (t + 1).toNat (by omega)
    exact ⟨by show 1 ≤ t + 1; omega, by show t + 1 ≤ 3; omega, this.1, by show psum _ _ ≤ 9999; omega⟩
  have hsh : ∀ l : List (List Int), SeqAt.shaped (.list (l.map encP)) = true := fun l => (sh_lst (n := 1) (sh_map fun _ _ => sh_tupI)).shaped
  have hself : ∀ l : List (List Int), PyData.eqv (.list (l.map encP)) (.list (l.map encP)) = true := fun l => eqv_self (eq_lst (eq_tup DD.eq_int)) l
  have callC : ∀ as : List (Int × Int), AnsOk as → as.length ≤ 1000 → S_candidates M.C_InvalidNumber M.C_InvalidAnswers [.int L, .int I, .tuple (as.map encA)] (.ret (.list ((every.filter (agrees as)).map encP))) := fun as hA hAl => ⟨_, _, _, rfl, .inr ⟨L, I, as, rfl, rfl, rfl, hL1.1, hL1.2, hI1.1, hI1.2, hA, hAl, by show _ = Out.ret (.list ((cand L I as).map encP)); rw [hcand]⟩⟩
  refine ds_F (k := false) ?tst ?_
  case tst =>
    by_cases h4 : I < 4
    · exact dt_w (dw_andT (dt_lt (de_var (i := 3) rfl) de_int) (dw_and1 (k := false) (dt_is (dt_ne hr.units (de_call F_candidates (hr.mono (by decide)) (da_cons (de_var (i := 2) rfl) (da_cons (de_var (i := 3) rfl) (da_cons (de_var (i := 9) rfl) da_nil))) (callC told htold (by rw [List.length_map, intsL_len]; omega))) (de_lst (da_cons (de_var (i := 5) rfl) da_nil)) (hsh _) (hsh [hid])) (by
        have := hone h4 hid hin
        rw [hcand] at this
        have this : every.filter (agrees told) = [hid] := this
        rw [this]
        exact congrArg not (hself [hid])))) (decide_eq_true (by omega)))
    · exact dt_w (dw_andF (dt_lt (de_var (i := 3) rfl) de_int) (decide_eq_false (by omega)))
  refine ds_own 11 (dl_lst da_nil) ?_ c_law.nd
  let ρ2 : List SV → En := fun l => ρ1 ([.dat (.list (σ1.map .int)), .un, .un, .dat (.tuple (told.map encA))] ++ l)
  have hK : dn ns 3 % 3 < 3 := Nat.mod_lt _ (by decide)
  refine ds_forE (intsL 0 (dn ns 3 % 3)) PyData.int (fun pre => ρ2 [.un, .own ((pre.map (ansOf ns hid)).map encA), .un, .un, .un, .un, .un, .un]) (fun pre x => ρ2 [.un, .own ((pre.map (ansOf ns hid)).map encA), .dat (.int x), .un, .un, .un, .un, .un])
    (di_is (di_r1 (n := ((dn ns 3 % 3 : Nat) : Int)) (de_is (de_mod (de_ixL (ds := (rowM ns 4).map .int) (de_var (i := 1) rfl) de_int (dr_at ns 4 (i := 3) (by decide))) de_int (by decide)) (by congr 1; rw [(hd 3).1]; omega)) (by omega) M.range) (by rw [Int.toNat_natCast]))
    (.eq (.eq (.eq (.eq (.eq (.eq (.eq (.eq (.eq (.eq (.un (.eq (.un (.un (.un (.un (.un (.un .nil)))))))))))))))))) (fun pre x post e => dg_name 12 c_law.nd) (fun pre x post e => ?_) ?_
  · obtain ⟨ex, hlt, -⟩ := intsL_split e
    have hx : x = ((pre.length : Nat) : Int) := by omega
    have hxn : x.toNat = pre.length := by omega
    have ha := Nat.mod_lt (dn ns (4 + x.toNat)) (show 0 < 3 by decide)
    refine ds_set 10 (d := .int ((dn ns (4 + x.toNat) % 3 : Nat) : Int)) (de_is (de_mod (de_ixL (ds := (rowM ns 4).map .int) (i := ((4 + x.toNat : Nat) : Int)) (de_var (i := 1) rfl) (de_is (de_add de_int (de_var (i := 12) rfl)) (by congr 1; omega)) (dr_at ns 4 (i := 4 + x.toNat) (by omega))) de_int (by decide)) (by congr 1; rw [(hd _).1]; omega)) ?_ c_law.nd
    refine ds_app 11 (ds := (pre.map (ansOf ns hid)).map encA) (d := encA (ansOf ns hid x)) rfl (de_tup (da_cons (de_add (de_var (i := 10) rfl) de_int) (da_cons (de_add (de_ixL (ds := σ1.map .int) (i := ((dn ns (4 + x.toNat) % 3 : Nat) : Int)) (d := .int (psum (dn ns (4 + x.toNat) % 3 + 1) hid)) (de_var (i := 6) rfl) (de_var (i := 10) rfl) (hσ _ ha)) (de_intB M.int (de_eqI (de_mod (de_ixL (ds := (rowM ns 4).map .int) (i := ((10 + x.toNat : Nat) : Int)) (de_var (i := 1) rfl) (de_is (de_add de_int (de_var (i := 12) rfl)) (by congr 1; omega)) (dr_at ns 4 (i := 10 + x.toNat) (by omega))) de_int (by decide)) de_int))) da_nil))) ?_ ?_
    · rw [List.length_map, List.length_map]; omega
    · exact ds_nil rfl (.eq (.eq (.eq (.eq (.eq (.eq (.eq (.eq (.eq (.eq (.un (.eqo (by rw [List.map_append, List.map_append]; rfl) (.un (.un (.un (.un (.un (.un .nil))))))))))))))))))
  refine ds_freeze 11 rfl ?_
  have hA : AnsOk ((intsL 0 (dn ns 3 % 3)).map (ansOf ns hid)) := fun z hz => by
    obtain ⟨t, ht, rfl⟩ := List.mem_map.mp hz
    have := Nat.mod_lt (dn ns (4 + t.toNat)) (show 0 < 3 by decide)
    have h9 := hhs (dn ns (4 + t.toNat) % 3 + 1) (by omega)
    refine ⟨by show 1 ≤ (_ : Int) + 1; omega, by show (_ : Int) + 1 ≤ 3; omega, ?_, ?_⟩
    · show 0 ≤ psum _ hid + _
      split <;> omega
    · show psum _ hid + _ ≤ 9999
      split <;> omega
  have hAl : ((intsL 0 (dn ns 3 % 3)).map (ansOf ns hid)).length ≤ 1000 := by rw [List.length_map, intsL_len]; omega
  generalize (intsL 0 (dn ns 3 % 3)).map (ansOf ns hid) = as at hA hAl
  refine ds_set 11 (de_tupleL M.tuple (de_var (i := 11) rfl)) ?_ c_law.nd
  refine ds_own 13 (dl_lst da_nil) ?_ c_law.nd
  let ρ3 : List SV → En := fun l => ρ2 ([.un, .dat (.tuple (as.map encA)), .un] ++ l)
  refine ds_forE every encP (fun pre => ρ3 [.own ((pre.filter (agrees as)).map encP), .un, .un, .un, .un]) (fun pre x => ρ3 [.own ((pre.filter (agrees as)).map encP), .dat (encP x), .un, .un, .un])
    (di_list (de_var (i := 4) rfl)) (.eq (.eq (.eq (.eq (.eq (.eq (.eq (.eq (.eq (.eq (.un (.eq (.un (.eq (.un (.un (.un (.un .nil)))))))))))))))))) (fun pre x post e => dg_name 14 c_law.nd) (fun pre x post e => ?_) ?_
  · have hx : x ∈ every := by rw [e]; simp
    have x1 := hmem x hx
    have hnil : (as.filter fun z => !decide (psum z.1.toNat x = z.2)) = [] ↔ agrees as x = true := by
      rw [List.filter_eq_nil_iff]
      unfold agrees
      rw [List.all_eq_true]
      exact ⟨fun h z hz => by have := h z hz; simpa using this, fun h z hz => by have := h z hz; simpa using this⟩
    refine ds_if (agrees as x) (dt_is (dt_eq hr.units (de_ofL (dl_lc as encA (fun z => !decide (psum z.1.toNat x = z.2)) (fun z => .int 1) [("_law_at", 10), ("_law_told", 15)] (fun z => ρ2 [.dat (.int z.1), .dat (.tuple (as.map encA)), .un, .own ((pre.filter (agrees as)).map encP), .dat (encP x), .dat (.int z.2), .un, .un])
        (di_tup (de_var (i := 11) rfl)) c_law.nd (blkOk_by (N := n_law) (sc := defScope s_law) (by decide +kernel)) (fun _ _ _ _ _ z hz => dgc_tup2 10 15 c_law.nd)
        (fun _ _ _ _ _ z hz => dts_one (dt_neI (j := z.2) (de_is (de_sum (ns := x.map (· ^ z.1.toNat)) M.sum (de_is (de_ofL (dl_lcM x PyData.int (fun p => .int (p ^ z.1.toNat)) [("_law_place", 7)] (fun p => ρ1 [.dat (.list (σ1.map .int)), .dat (.int p), .un, .dat (.tuple (told.map encA)), .dat (.int z.1), .dat (.tuple (as.map encA)), .un, .own ((pre.filter (agrees as)).map encP), .dat (encP x), .dat (.int z.2), .un, .un]) (di_tup (de_var (i := 14) rfl)) c_law.nd (blkOk_by (N := n_law) (sc := relS _ (defScope s_law)) (by decide +kernel)) (fun _ _ _ _ _ _ _ => dgc_name 7 c_law.nd)
          (fun _ _ _ _ _ p hp => de_call F__law_power (hr.mono (by decide)) (da_cons (de_var (i := 7) rfl) (da_cons (de_var (i := 10) rfl) da_nil)) ⟨p, z.1.toNat, ?_, ?_, ?_, rfl⟩) ?_)) (by rw [List.map_map]; rfl))) rfl) (de_var (i := 15) rfl)))
        (fun _ _ _ _ _ z hz hk => de_int) ?_)) (de_lst da_nil) (sh_lst (n := 0) (sh_map fun _ _ => sh_int)).shaped rfl) ?_) (fun hg => ?_) (fun hg => ?_)
    · have := (hA z hz).1; simp only [Int.toNat_of_nonneg (show 0 ≤ z.1 by omega)]
    · have := x1.2 p hp; omega
    · have := (hA z hz).2.1; omega
    · rw [x1.1]; omega
    · omega
    · cases hg : agrees as x with
      | true => rw [hnil.mpr hg] <;> rfl
      | false =>
        cases hq : (as.filter fun z => !decide (psum z.1.toNat x = z.2)) with
        | nil => rw [hnil.mp hq] at hg; cases hg
        | cons a b => rfl
    · refine ds_app 13 (ds := (pre.filter (agrees as)).map encP) rfl (de_var (i := 14) rfl) ?_ ?_
      · have : (pre.filter (agrees as)).length ≤ pre.length := List.length_filter_le _ _
        have : pre.length ≤ every.length := by rw [e, List.length_append]; omega
        rw [List.length_map]; omega
      · refine ds_end (ds_nil rfl (.eq (.eq (.eq (.eq (.eq (.eq (.eq (.eq (.eq (.eq (.un (.eq (.un (.eqo ?_ (.un (.un (.un (.un .nil)))))))))))))))))))
        rw [List.filter_append, List.map_append, List.filter_cons, if_pos hg]
        rfl
    · refine ds_end (ds_nil rfl (.eq (.eq (.eq (.eq (.eq (.eq (.eq (.eq (.eq (.eq (.un (.eq (.un (.eqo ?_ (.un (.un (.un (.un .nil)))))))))))))))))))
      rw [List.filter_append, List.filter_cons, if_neg (by rw [hg]; decide), List.filter_nil, List.append_nil]
  refine ds_freeze 13 rfl ?_
  refine ds_F (dt_ne hr.units (de_call F_candidates (hr.mono (by decide)) (da_cons (de_var (i := 2) rfl) (da_cons (de_var (i := 3) rfl) (da_cons (de_var (i := 11) rfl) da_nil))) (callC as hA hAl)) (de_var (i := 13) rfl) (hsh _) (hsh _)) ?_ (by rw [hself]; rfl)
  have hdl : (every.filter (agrees as)).length ≤ 1000 := Nat.le_trans (List.length_filter_le _ _) hbig
  have hdm : ∀ pl ∈ every.filter (agrees as), pl.length ≤ 4 ∧ ∀ p ∈ pl, 0 ≤ p ∧ p ≤ 6 := fun pl hp => by
    have := hmem pl (List.mem_filter.mp hp).1
    exact ⟨by omega, fun p h => by have := this.2 p h; omega⟩
  have hbest : S_best_power M.C_InvalidNumber M.C_InvalidAnswers [.int L, .int I, .tuple (as.map encA)] (if every.filter (agrees as) = [] then .exc ⟨M.C_InvalidAnswers, none⟩ else .ret (bestOf (every.filter (agrees as)))) := ⟨_, _, _, rfl, .inr ⟨L, I, as, rfl, rfl, rfl, hL1.1, hL1.2, hI1.1, hI1.2, hA, hAl, by show _ = (if cand L I as = [] then _ else Out.ret (bestOf (cand L I as))); rw [hcand]⟩⟩
  generalize every.filter (agrees as) = due at hdl hdm hbest
  obtain ⟨wr, hwr, hwo⟩ : ∃ wr, wrongs[dn ns 20 % 8]? = some wr ∧ okA wr = false := by
    have hlt := Nat.mod_lt (dn ns 20) (show 0 < 8 by decide)
    have : ∀ x ∈ wrongs, okA x = false := by decide
    exact ⟨_, List.getElem?_eq_getElem (show dn ns 20 % 8 < wrongs.length from hlt), this _ (List.getElem_mem _)⟩
  refine ds_set 16 (d := wr) (de_ixL (ds := wrongs) (i := ((dn ns 20 % 8 : Nat) : Int)) (de_lst (da_cons (de_tup (da_cons de_int (da_cons de_int da_nil))) (da_cons (de_tup (da_cons de_int (da_cons de_int da_nil))) (da_cons (de_tup (da_cons de_int (da_cons (de_neg de_int) da_nil))) (da_cons (de_tup (da_cons de_int (da_cons de_int da_nil))) (da_cons (de_tup (da_cons de_int da_nil)) (da_cons (de_lst (da_cons de_int (da_cons de_int da_nil))) (da_cons de_non (da_cons (de_tup (da_cons de_int (da_cons de_non da_nil))) da_nil)))))))))
    (de_is (de_mod (de_ixL (ds := (rowM ns 4).map .int) (de_var (i := 1) rfl) de_int (dr_at ns 4 (i := 20) (by decide))) de_int (by decide)) (by congr 1; rw [(hd 20).1]; omega)) (atI_nat hwr)) ?_ c_law.nd
  refine ds_set 17 (de_mod (de_ixL (ds := (rowM ns 4).map .int) (de_var (i := 1) rfl) de_int (dr_at ns 4 (i := 21) (by decide))) de_int (by decide)) ?_ c_law.nd
  refine ds_F (dt_ne hr.units (de_call F__law_hidden (hr.mono (by decide)) (da_cons (de_var (i := 17) rfl) (da_cons (de_var (i := 2) rfl) (da_cons (de_var (i := 3) rfl) (da_cons (de_catT (ds := as.map encA) (d2s := [wr]) (de_var (i := 11) rfl) (de_tup (da_cons (de_var (i := 16) rfl) da_nil)) (by rw [List.length_map, List.length_singleton]; omega)) da_nil)))) (hid_exc (b := false) (chk_wrong hL1.1 hL1.2 hI1.1 hI1.2 hwo))) de_str shaS shaS) ?_ eqS
  refine ds_F (dt_ne hr.units (de_call F__law_hidden (hr.mono (by decide)) (da_cons (de_var (i := 17) rfl) (da_cons (de_var (i := 2) rfl) (da_cons (de_var (i := 3) rfl) (da_cons (de_ofL (dl_listT M.list (de_var (i := 11) rfl))) da_nil)))) (hid_exc (b := false) (chk_list hL1.1 hL1.2 hI1.1 hI1.2))) de_str shaS shaS) ?_ eqS
  obtain ⟨wn, hwn, hwno⟩ : ∃ wn, wrongN[dn ns 22 % 4]? = some wn ∧ inR wn 1 4 = false := by
    have hlt := Nat.mod_lt (dn ns 22) (show 0 < 4 by decide)
    have : ∀ x ∈ wrongN, inR x 1 4 = false := by decide
    exact ⟨_, List.getElem?_eq_getElem (show dn ns 22 % 4 < wrongN.length from hlt), this _ (List.getElem_mem _)⟩
  refine ds_F (dt_ne hr.units (de_call F__law_hidden (hr.mono (by decide)) (da_cons (de_var (i := 17) rfl) (da_cons (de_var (i := 2) rfl) (da_cons (de_ixL (ds := wrongN) (i := ((dn ns 22 % 4 : Nat) : Int)) (de_lst (da_cons de_non (da_cons de_int (da_cons de_int (da_cons de_bl da_nil))))) (de_is (de_mod (de_ixL (ds := (rowM ns 4).map .int) (de_var (i := 1) rfl) de_int (dr_at ns 4 (i := 22) (by decide))) de_int (by decide)) (by congr 1; rw [(hd 22).1]; omega)) (atI_nat hwn)) (da_cons de_non da_nil)))) (hid_exc (b := true) (chk_num hL1.1 hL1.2 hwno))) de_str shnS shnS) ?_ eqN
  by_cases hdue : due = []
  · rw [if_pos hdue] at hbest
    refine ds_ret (de_eq hr.units (de_call F__law_hidden (hr.mono (by decide)) (da_cons de_int (da_cons (de_var (i := 2) rfl) (da_cons (de_var (i := 3) rfl) (da_cons (de_var (i := 11) rfl) da_nil)))) ⟨1, _, _, _, _, rfl, fun z => absurd z (by decide), fun _ => hbest, .inr (.inr ⟨rfl, rfl⟩)⟩) (de_call F__law_best (hr.mono (by decide)) (da_cons (de_var (i := 13) rfl) da_nil) ⟨due, rfl, hdl, hdm, by rw [if_pos hdue]⟩) shaS shaS) ?_
    exact congrArg (fun b => Out.ret (.bool b)) (show true = PyData.eqv (.str "answers") (.str "answers") by decide +kernel)
  · rw [if_neg hdue] at hbest
    have hb : SeqAt.shaped (bestOf due) = true ∧ PyData.eqv (bestOf due) (bestOf due) = true := by
      unfold bestOf
      split
      · exact ⟨rfl, rfl⟩
      · exact ⟨shaped_int _, by rw [DD.eq_int]; exact decide_eq_true rfl⟩
    refine ds_ret (de_eq hr.units (de_call F__law_hidden (hr.mono (by decide)) (da_cons de_int (da_cons (de_var (i := 2) rfl) (da_cons (de_var (i := 3) rfl) (da_cons (de_var (i := 11) rfl) da_nil)))) ⟨1, _, _, _, _, rfl, fun z => absurd z (by decide), fun _ => hbest, .inl ⟨_, rfl, rfl⟩⟩) (de_call F__law_best (hr.mono (by decide)) (da_cons (de_var (i := 13) rfl) da_nil) ⟨due, rfl, hdl, hdm, by rw [if_neg hdue]⟩) hb.1 hb.1) ?_
    rw [hb.2]
    rfl
end
end My
namespace My
open PySem PySem.Spec PyProof.Rows L2 DD
theorem all_mk {w : World} {K : PySem.W.Frag} {h : Heap} {mg : Str → Option Value} {fa : Addr} (X : K.In h) (G : h.Ns mainGlobals mg) (hfa : mg "law" = some (.ref fa))
    {C_AverageError C_InvalidNumber C_InvalidAnswers f__law_cell' f__law_row' f__law_placements' f__law_power' f_in_range' f_check_last' f_check_answers' f_all_placements' f_power' f_power_sum' f_candidates' f_best_power' f__law_hidden' f__law_best' f_law' : Addr}
    {t_MAX_PLACE t_MAX_POWER : _}
    {od__law_cell an__law_cell od__law_row an__law_row od__law_placements an__law_placements od__law_power an__law_power od_in_range an_in_range od_check_last an_check_last od_check_answers an_check_answers od_all_placements an_all_placements od_power an_power od_power_sum an_power_sum od_candidates an_candidates od_best_power an_best_power od__law_hidden an__law_hidden od__law_best an__law_best od_law an_law : Option Addr} {sl__law_cell sl__law_row sl__law_placements sl__law_power sl_in_range sl_check_last sl_check_answers sl_all_placements sl_power sl_power_sum sl_candidates sl_best_power sl__law_hidden sl__law_best sl_law : Array (Option Value)} {oc__law_cell kV__law_cell dc__law_cell pm__law_cell cd__law_cell ct__law_cell oc__law_row kV__law_row dc__law_row pm__law_row cd__law_row ct__law_row oc__law_placements kV__law_placements dc__law_placements pm__law_placements cd__law_placements ct__law_placements oc__law_power kV__law_power dc__law_power pm__law_power cd__law_power ct__law_power oc_in_range kV_in_range dc_in_range pm_in_range cd_in_range ct_in_range oc_check_last kV_check_last dc_check_last pm_check_last cd_check_last ct_check_last oc_check_answers kV_check_answers dc_check_answers pm_check_answers cd_check_answers ct_check_answers oc_all_placements kV_all_placements dc_all_placements pm_all_placements cd_all_placements ct_all_placements oc_power kV_power dc_power pm_power cd_power ct_power oc_power_sum kV_power_sum dc_power_sum pm_power_sum cd_power_sum ct_power_sum oc_candidates kV_candidates dc_candidates pm_candidates cd_candidates ct_candidates oc_best_power kV_best_power dc_best_power pm_best_power cd_best_power ct_best_power oc__law_hidden kV__law_hidden dc__law_hidden pm__law_hidden cd__law_hidden ct__law_hidden oc__law_best kV__law_best dc__law_best pm__law_best cd__law_best ct__law_best oc_law kV_law dc_law pm_law cd_law ct_law : Value}
    (z_isinstance : PySem.W.nsIn K mainGlobals "isinstance" = some none)
    (z_int : PySem.W.nsIn K mainGlobals "int" = some none)
    (z_bool : PySem.W.nsIn K mainGlobals "bool" = some none)
    (z_tuple : PySem.W.nsIn K mainGlobals "tuple" = some none)
    (z_list : PySem.W.nsIn K mainGlobals "list" = some none)
    (z_range : PySem.W.nsIn K mainGlobals "range" = some none)
    (z_len : PySem.W.nsIn K mainGlobals "len" = some none)
    (z_sum : PySem.W.nsIn K mainGlobals "sum" = some none)
    (z_min : PySem.W.nsIn K mainGlobals "min" = some none)
    (z_max : PySem.W.nsIn K mainGlobals "max" = some none)
    (v_MAX_PLACE : PySem.W.nsIn K mainGlobals "MAX_PLACE" = some (some (.int 6 t_MAX_PLACE)))
    (v_MAX_POWER : PySem.W.nsIn K mainGlobals "MAX_POWER" = some (some (.int 3 t_MAX_POWER)))
    (e_AverageError : PySem.W.nsIn K mainGlobals "AverageError" = some (some (.ref C_AverageError)))
    (eq_AverageError : PySem.W.excIn K C_AverageError [.type "ValueError", .type "Exception", .type "BaseException", .type "object"] "ValueError.__new__" = true)
    (ek_AverageError : PySem.W.keepIn K (.ref C_AverageError) = true)
    (eb_AverageError : PySem.W.subIn K (.ref C_AverageError) (.type "BaseException") = some true)
    (et_AverageError : PySem.W.typeIn K (.ref C_AverageError) = some (.type "type"))
    (e_InvalidNumber : PySem.W.nsIn K mainGlobals "InvalidNumber" = some (some (.ref C_InvalidNumber)))
    (eq_InvalidNumber : PySem.W.excIn K C_InvalidNumber [.type "ValueError", .type "Exception", .type "BaseException", .type "object"] "ValueError.__new__" = true)
    (ek_InvalidNumber : PySem.W.keepIn K (.ref C_InvalidNumber) = true)
    (eb_InvalidNumber : PySem.W.subIn K (.ref C_InvalidNumber) (.type "BaseException") = some true)
    (et_InvalidNumber : PySem.W.typeIn K (.ref C_InvalidNumber) = some (.type "type"))
    (e_InvalidAnswers : PySem.W.nsIn K mainGlobals "InvalidAnswers" = some (some (.ref C_InvalidAnswers)))
    (eq_InvalidAnswers : PySem.W.excIn K C_InvalidAnswers [.type "ValueError", .type "Exception", .type "BaseException", .type "object"] "ValueError.__new__" = true)
    (ek_InvalidAnswers : PySem.W.keepIn K (.ref C_InvalidAnswers) = true)
    (eb_InvalidAnswers : PySem.W.subIn K (.ref C_InvalidAnswers) (.type "BaseException") = some true)
    (et_InvalidAnswers : PySem.W.typeIn K (.ref C_InvalidAnswers) = some (.type "type"))
    (y1_InvalidNumber : PySem.W.subIn K (.ref C_InvalidNumber) (.type "BaseException") = some true)
    (y2_InvalidNumber : PySem.W.hasDictIn K C_InvalidNumber = true)
    (y3_InvalidNumber : PySem.W.typeIn K (.ref C_InvalidNumber) = some (.type "type"))
    (y1_AverageError : PySem.W.subIn K (.ref C_AverageError) (.type "BaseException") = some true)
    (y2_AverageError : PySem.W.hasDictIn K C_AverageError = true)
    (y3_AverageError : PySem.W.typeIn K (.ref C_AverageError) = some (.type "type"))
    (y1_InvalidAnswers : PySem.W.subIn K (.ref C_InvalidAnswers) (.type "BaseException") = some true)
    (y2_InvalidAnswers : PySem.W.hasDictIn K C_InvalidAnswers = true)
    (y3_InvalidAnswers : PySem.W.typeIn K (.ref C_InvalidAnswers) = some (.type "type"))
    (r_InvalidNumber_InvalidNumber : PySem.W.subIn K (.ref C_InvalidNumber) (.ref C_InvalidNumber) = some true)
    (r_InvalidNumber_AverageError : PySem.W.subIn K (.ref C_InvalidNumber) (.ref C_AverageError) = some true)
    (r_InvalidNumber_InvalidAnswers : PySem.W.subIn K (.ref C_InvalidNumber) (.ref C_InvalidAnswers) = some false)
    (n_InvalidNumber_InvalidAnswers : C_InvalidNumber ≠ C_InvalidAnswers)
    (r_InvalidAnswers_InvalidNumber : PySem.W.subIn K (.ref C_InvalidAnswers) (.ref C_InvalidNumber) = some false)
    (n_InvalidAnswers_InvalidNumber : C_InvalidAnswers ≠ C_InvalidNumber)
    (r_InvalidAnswers_AverageError : PySem.W.subIn K (.ref C_InvalidAnswers) (.ref C_AverageError) = some true)
    (r_InvalidAnswers_InvalidAnswers : PySem.W.subIn K (.ref C_InvalidAnswers) (.ref C_InvalidAnswers) = some true)
    (xhg_InvalidNumber : PySem.W.findIn K (.ref C_InvalidNumber) "__getattribute__" = some (some (.builtin "BaseException.__getattribute__")))
    (xhk_InvalidNumber : PySem.W.findIn K (.ref C_InvalidNumber) "__getattr__" = some none)
    (xhs_InvalidNumber : PySem.W.subIn K (.ref C_InvalidNumber) (.type "BaseException") = some true)
    (xhd_InvalidNumber : PySem.W.hasDictIn K C_InvalidNumber = true)
    (xha_InvalidNumber : PySem.W.findIn K (.ref C_InvalidNumber) "__class__" = some (some (.builtin "object.__class__")))
    (xhn_InvalidNumber : PySem.W.specialIn K (.builtin "object.__class__") "__get__" = some (some (.builtin "getset_descriptor.__get__")))
    (xht_InvalidNumber : PySem.W.takesIn K (.builtin "object.__class__") = some true)
    (xhm_InvalidNumber : PySem.W.mroIn K C_InvalidNumber (.type "object") = some true)
    (xhg_InvalidAnswers : PySem.W.findIn K (.ref C_InvalidAnswers) "__getattribute__" = some (some (.builtin "BaseException.__getattribute__")))
    (xhk_InvalidAnswers : PySem.W.findIn K (.ref C_InvalidAnswers) "__getattr__" = some none)
    (xhs_InvalidAnswers : PySem.W.subIn K (.ref C_InvalidAnswers) (.type "BaseException") = some true)
    (xhd_InvalidAnswers : PySem.W.hasDictIn K C_InvalidAnswers = true)
    (xha_InvalidAnswers : PySem.W.findIn K (.ref C_InvalidAnswers) "__class__" = some (some (.builtin "object.__class__")))
    (xhn_InvalidAnswers : PySem.W.specialIn K (.builtin "object.__class__") "__get__" = some (some (.builtin "getset_descriptor.__get__")))
    (xht_InvalidAnswers : PySem.W.takesIn K (.builtin "object.__class__") = some true)
    (xhm_InvalidAnswers : PySem.W.mroIn K C_InvalidAnswers (.type "object") = some true)
    (a__law_cell : PySem.W.nsIn K mainGlobals "_law_cell" = some (some (.ref f__law_cell')))
    (l__law_cell : K.lookup f__law_cell' = some ⟨oc__law_cell, od__law_cell, .func (PySem.W.fnOf "_law_cell" "_law_cell" (defArgs s__law_cell) (defBody s__law_cell) (defScope s__law_cell) .none kV__law_cell dc__law_cell pm__law_cell an__law_cell cd__law_cell ct__law_cell), sl__law_cell⟩)
    (c__law_cell' : PySem.W.codeIn K cd__law_cell "_law_cell" = true)
    (k__law_cell : PySem.W.keepIn K (.ref f__law_cell') = true)
    (a__law_row : PySem.W.nsIn K mainGlobals "_law_row" = some (some (.ref f__law_row')))
    (l__law_row : K.lookup f__law_row' = some ⟨oc__law_row, od__law_row, .func (PySem.W.fnOf "_law_row" "_law_row" (defArgs s__law_row) (defBody s__law_row) (defScope s__law_row) .none kV__law_row dc__law_row pm__law_row an__law_row cd__law_row ct__law_row), sl__law_row⟩)
    (c__law_row' : PySem.W.codeIn K cd__law_row "_law_row" = true)
    (k__law_row : PySem.W.keepIn K (.ref f__law_row') = true)
    (a__law_placements : PySem.W.nsIn K mainGlobals "_law_placements" = some (some (.ref f__law_placements')))
    (l__law_placements : K.lookup f__law_placements' = some ⟨oc__law_placements, od__law_placements, .func (PySem.W.fnOf "_law_placements" "_law_placements" (defArgs s__law_placements) (defBody s__law_placements) (defScope s__law_placements) .none kV__law_placements dc__law_placements pm__law_placements an__law_placements cd__law_placements ct__law_placements), sl__law_placements⟩)
    (c__law_placements' : PySem.W.codeIn K cd__law_placements "_law_placements" = true)
    (k__law_placements : PySem.W.keepIn K (.ref f__law_placements') = true)
    (a__law_power : PySem.W.nsIn K mainGlobals "_law_power" = some (some (.ref f__law_power')))
    (l__law_power : K.lookup f__law_power' = some ⟨oc__law_power, od__law_power, .func (PySem.W.fnOf "_law_power" "_law_power" (defArgs s__law_power) (defBody s__law_power) (defScope s__law_power) .none kV__law_power dc__law_power pm__law_power an__law_power cd__law_power ct__law_power), sl__law_power⟩)
    (c__law_power' : PySem.W.codeIn K cd__law_power "_law_power" = true)
    (k__law_power : PySem.W.keepIn K (.ref f__law_power') = true)
    (a_in_range : PySem.W.nsIn K mainGlobals "in_range" = some (some (.ref f_in_range')))
    (l_in_range : K.lookup f_in_range' = some ⟨oc_in_range, od_in_range, .func (PySem.W.fnOf "in_range" "in_range" (defArgs s_in_range) (defBody s_in_range) (defScope s_in_range) .none kV_in_range dc_in_range pm_in_range an_in_range cd_in_range ct_in_range), sl_in_range⟩)
    (c_in_range' : PySem.W.codeIn K cd_in_range "in_range" = true)
    (k_in_range : PySem.W.keepIn K (.ref f_in_range') = true)
    (a_check_last : PySem.W.nsIn K mainGlobals "check_last" = some (some (.ref f_check_last')))
    (l_check_last : K.lookup f_check_last' = some ⟨oc_check_last, od_check_last, .func (PySem.W.fnOf "check_last" "check_last" (defArgs s_check_last) (defBody s_check_last) (defScope s_check_last) .none kV_check_last dc_check_last pm_check_last an_check_last cd_check_last ct_check_last), sl_check_last⟩)
    (c_check_last' : PySem.W.codeIn K cd_check_last "check_last" = true)
    (k_check_last : PySem.W.keepIn K (.ref f_check_last') = true)
    (a_check_answers : PySem.W.nsIn K mainGlobals "check_answers" = some (some (.ref f_check_answers')))
    (l_check_answers : K.lookup f_check_answers' = some ⟨oc_check_answers, od_check_answers, .func (PySem.W.fnOf "check_answers" "check_answers" (defArgs s_check_answers) (defBody s_check_answers) (defScope s_check_answers) .none kV_check_answers dc_check_answers pm_check_answers an_check_answers cd_check_answers ct_check_answers), sl_check_answers⟩)
    (c_check_answers' : PySem.W.codeIn K cd_check_answers "check_answers" = true)
    (k_check_answers : PySem.W.keepIn K (.ref f_check_answers') = true)
    (a_all_placements : PySem.W.nsIn K mainGlobals "all_placements" = some (some (.ref f_all_placements')))
    (l_all_placements : K.lookup f_all_placements' = some ⟨oc_all_placements, od_all_placements, .func (PySem.W.fnOf "all_placements" "all_placements" (defArgs s_all_placements) (defBody s_all_placements) (defScope s_all_placements) .none kV_all_placements dc_all_placements pm_all_placements an_all_placements cd_all_placements ct_all_placements), sl_all_placements⟩)
    (c_all_placements' : PySem.W.codeIn K cd_all_placements "all_placements" = true)
    (k_all_placements : PySem.W.keepIn K (.ref f_all_placements') = true)
    (a_power : PySem.W.nsIn K mainGlobals "power" = some (some (.ref f_power')))
    (l_power : K.lookup f_power' = some ⟨oc_power, od_power, .func (PySem.W.fnOf "power" "power" (defArgs s_power) (defBody s_power) (defScope s_power) .none kV_power dc_power pm_power an_power cd_power ct_power), sl_power⟩)
    (c_power' : PySem.W.codeIn K cd_power "power" = true)
    (k_power : PySem.W.keepIn K (.ref f_power') = true)
    (a_power_sum : PySem.W.nsIn K mainGlobals "power_sum" = some (some (.ref f_power_sum')))
    (l_power_sum : K.lookup f_power_sum' = some ⟨oc_power_sum, od_power_sum, .func (PySem.W.fnOf "power_sum" "power_sum" (defArgs s_power_sum) (defBody s_power_sum) (defScope s_power_sum) .none kV_power_sum dc_power_sum pm_power_sum an_power_sum cd_power_sum ct_power_sum), sl_power_sum⟩)
    (c_power_sum' : PySem.W.codeIn K cd_power_sum "power_sum" = true)
    (k_power_sum : PySem.W.keepIn K (.ref f_power_sum') = true)
    (a_candidates : PySem.W.nsIn K mainGlobals "candidates" = some (some (.ref f_candidates')))
    (l_candidates : K.lookup f_candidates' = some ⟨oc_candidates, od_candidates, .func (PySem.W.fnOf "candidates" "candidates" (defArgs s_candidates) (defBody s_candidates) (defScope s_candidates) .none kV_candidates dc_candidates pm_candidates an_candidates cd_candidates ct_candidates), sl_candidates⟩)
    (c_candidates' : PySem.W.codeIn K cd_candidates "candidates" = true)
    (k_candidates : PySem.W.keepIn K (.ref f_candidates') = true)
    (a_best_power : PySem.W.nsIn K mainGlobals "best_power" = some (some (.ref f_best_power')))
    (l_best_power : K.lookup f_best_power' = some ⟨oc_best_power, od_best_power, .func (PySem.W.fnOf "best_power" "best_power" (defArgs s_best_power) (defBody s_best_power) (defScope s_best_power) .none kV_best_power dc_best_power pm_best_power an_best_power cd_best_power ct_best_power), sl_best_power⟩)
    (c_best_power' : PySem.W.codeIn K cd_best_power "best_power" = true)
    (k_best_power : PySem.W.keepIn K (.ref f_best_power') = true)
    (a__law_hidden : PySem.W.nsIn K mainGlobals "_law_hidden" = some (some (.ref f__law_hidden')))
    (l__law_hidden : K.lookup f__law_hidden' = some ⟨oc__law_hidden, od__law_hidden, .func (PySem.W.fnOf "_law_hidden" "_law_hidden" (defArgs s__law_hidden) (defBody s__law_hidden) (defScope s__law_hidden) .none kV__law_hidden dc__law_hidden pm__law_hidden an__law_hidden cd__law_hidden ct__law_hidden), sl__law_hidden⟩)
    (c__law_hidden' : PySem.W.codeIn K cd__law_hidden "_law_hidden" = true)
    (k__law_hidden : PySem.W.keepIn K (.ref f__law_hidden') = true)
    (a__law_best : PySem.W.nsIn K mainGlobals "_law_best" = some (some (.ref f__law_best')))
    (l__law_best : K.lookup f__law_best' = some ⟨oc__law_best, od__law_best, .func (PySem.W.fnOf "_law_best" "_law_best" (defArgs s__law_best) (defBody s__law_best) (defScope s__law_best) .none kV__law_best dc__law_best pm__law_best an__law_best cd__law_best ct__law_best), sl__law_best⟩)
    (c__law_best' : PySem.W.codeIn K cd__law_best "_law_best" = true)
    (k__law_best : PySem.W.keepIn K (.ref f__law_best') = true)
    (a_law : PySem.W.nsIn K mainGlobals "law" = some (some (.ref f_law')))
    (l_law : K.lookup f_law' = some ⟨oc_law, od_law, .func (PySem.W.fnOf "law" "law" (defArgs s_law) (defBody s_law) (defScope s_law) .none kV_law dc_law pm_law an_law cd_law ct_law), sl_law⟩)
    (c_law' : PySem.W.codeIn K cd_law "law" = true)
    (k_law : PySem.W.keepIn K (.ref f_law') = true)
    : ∃ fd : FuncData, (∀ (s : Shared) (v : Value), BindsTo s fd ⟨[v], []⟩ [("_law_script", v)]) ∧ ∀ base : Heap, K.In base → base.Ns mainGlobals mg → FnOk PySem.Challenge.pw_toldaverages_k10_whole_candidates w K mg base (L2.CX PySem.Challenge.pw_toldaverages_k10_whole_candidates w) 7 fa fd p_law (spP K S_law) := by
  have e := hfa.symm.trans (PySem.W.mg_of X G a_law)
  cases e
  obtain ⟨M⟩ : Nonempty (Md K mg) := ⟨{ isinstance := PySem.W.mg_none_of X G z_isinstance, int := PySem.W.mg_none_of X G z_int, bool := PySem.W.mg_none_of X G z_bool, tuple := PySem.W.mg_none_of X G z_tuple, list := PySem.W.mg_none_of X G z_list, range := PySem.W.mg_none_of X G z_range, len := PySem.W.mg_none_of X G z_len, sum := PySem.W.mg_none_of X G z_sum, min := PySem.W.mg_none_of X G z_min, max := PySem.W.mg_none_of X G z_max, g_MAX_PLACE := ⟨t_MAX_PLACE, PySem.W.mg_of X G v_MAX_PLACE⟩, g_MAX_POWER := ⟨t_MAX_POWER, PySem.W.mg_of X G v_MAX_POWER⟩, C_AverageError := C_AverageError, E_AverageError := ⟨eq_AverageError, PySem.W.mg_of X G e_AverageError, ek_AverageError, eb_AverageError, et_AverageError⟩, C_InvalidNumber := C_InvalidNumber, E_InvalidNumber := ⟨eq_InvalidNumber, PySem.W.mg_of X G e_InvalidNumber, ek_InvalidNumber, eb_InvalidNumber, et_InvalidNumber⟩, C_InvalidAnswers := C_InvalidAnswers, E_InvalidAnswers := ⟨eq_InvalidAnswers, PySem.W.mg_of X G e_InvalidAnswers, ek_InvalidAnswers, eb_InvalidAnswers, et_InvalidAnswers⟩, R_InvalidNumber_InvalidNumber := relC_mk y1_InvalidNumber y2_InvalidNumber y3_InvalidNumber r_InvalidNumber_InvalidNumber (.inl rfl), R_InvalidNumber_AverageError := relC_mk y1_AverageError y2_AverageError y3_AverageError r_InvalidNumber_AverageError (.inl rfl), R_InvalidNumber_InvalidAnswers := relC_mk y1_InvalidAnswers y2_InvalidAnswers y3_InvalidAnswers r_InvalidNumber_InvalidAnswers (.inr n_InvalidNumber_InvalidAnswers), R_InvalidAnswers_InvalidNumber := relC_mk y1_InvalidNumber y2_InvalidNumber y3_InvalidNumber r_InvalidAnswers_InvalidNumber (.inr n_InvalidAnswers_InvalidNumber), R_InvalidAnswers_AverageError := relC_mk y1_AverageError y2_AverageError y3_AverageError r_InvalidAnswers_AverageError (.inl rfl), R_InvalidAnswers_InvalidAnswers := relC_mk y1_InvalidAnswers y2_InvalidAnswers y3_InvalidAnswers r_InvalidAnswers_InvalidAnswers (.inl rfl), X_InvalidNumber := ⟨xhg_InvalidNumber, xhk_InvalidNumber, xhs_InvalidNumber, xhd_InvalidNumber, xha_InvalidNumber, xhn_InvalidNumber, xht_InvalidNumber, xhm_InvalidNumber⟩, X_InvalidAnswers := ⟨xhg_InvalidAnswers, xhk_InvalidAnswers, xhs_InvalidAnswers, xhd_InvalidAnswers, xha_InvalidAnswers, xhn_InvalidAnswers, xht_InvalidAnswers, xhm_InvalidAnswers⟩ }⟩
  have F__law_cell := fun_mk (st := s__law_cell) l__law_cell c__law_cell' k__law_cell
  have F__law_row := fun_mk (st := s__law_row) l__law_row c__law_row' k__law_row
  have F__law_placements := fun_mk (st := s__law_placements) l__law_placements c__law_placements' k__law_placements
  have F__law_power := fun_mk (st := s__law_power) l__law_power c__law_power' k__law_power
  have F_in_range := fun_mk (st := s_in_range) l_in_range c_in_range' k_in_range
  have F_check_last := fun_mk (st := s_check_last) l_check_last c_check_last' k_check_last
  have F_check_answers := fun_mk (st := s_check_answers) l_check_answers c_check_answers' k_check_answers
  have F_all_placements := fun_mk (st := s_all_placements) l_all_placements c_all_placements' k_all_placements
  have F_power := fun_mk (st := s_power) l_power c_power' k_power
  have F_power_sum := fun_mk (st := s_power_sum) l_power_sum c_power_sum' k_power_sum
  have F_candidates := fun_mk (st := s_candidates) l_candidates c_candidates' k_candidates
  have F_best_power := fun_mk (st := s_best_power) l_best_power c_best_power' k_best_power
  have F__law_hidden := fun_mk (st := s__law_hidden) l__law_hidden c__law_hidden' k__law_hidden
  have F__law_best := fun_mk (st := s__law_best) l__law_best c__law_best' k__law_best
  have F_law := fun_mk (st := s_law) l_law c_law' k_law
  refine ⟨PySem.W.fnOf "law" "law" (defArgs s_law) (defBody s_law) (defScope s_law) .none kV_law dc_law pm_law an_law cd_law ct_law, fun s v => .of_eq rfl, fun base _ _ => ?_⟩
  have I__law_cell : FnInP PySem.Challenge.pw_toldaverages_k10_whole_candidates w K mg base 1 "_law_cell" S__law_cell := ⟨_, _, _, (f__law_cell (P := PySem.Challenge.pw_toldaverages_k10_whole_candidates) (w := w) (base := base) M F__law_cell), PySem.W.mg_of X G a__law_cell, k__law_cell, (F__law_cell.binds (ps := p__law_cell) fun _ _ _ _ _ _ us hl => match us, hl with | [_, _], _ => rfl)⟩
  have I__law_row : FnInP PySem.Challenge.pw_toldaverages_k10_whole_candidates w K mg base 2 "_law_row" S__law_row := ⟨_, _, _, (f__law_row (P := PySem.Challenge.pw_toldaverages_k10_whole_candidates) (w := w) (base := base) M F__law_row I__law_cell), PySem.W.mg_of X G a__law_row, k__law_row, (F__law_row.binds (ps := p__law_row) fun _ _ _ _ _ _ us hl => match us, hl with | [_, _], _ => rfl)⟩
  have I__law_placements := fn_in (name := "_law_placements") F__law_placements (PySem.W.mg_of X G a__law_placements) (F__law_placements.binds (ps := p__law_placements) fun _ _ _ _ _ _ us hl => match us, hl with | [_, _], _ => rfl) (f__law_placements (P := PySem.Challenge.pw_toldaverages_k10_whole_candidates) (w := w) (base := base) M F__law_placements)
  have I__law_power := fn_in (name := "_law_power") F__law_power (PySem.W.mg_of X G a__law_power) (F__law_power.binds (ps := p__law_power) fun _ _ _ _ _ _ us hl => match us, hl with | [_, _], _ => rfl) (f__law_power (P := PySem.Challenge.pw_toldaverages_k10_whole_candidates) (w := w) (base := base) M F__law_power)
  have I_in_range := fn_in (name := "in_range") F_in_range (PySem.W.mg_of X G a_in_range) (F_in_range.binds (ps := p_in_range) fun _ _ _ _ _ _ us hl => match us, hl with | [_, _, _], _ => rfl) (f_in_range (P := PySem.Challenge.pw_toldaverages_k10_whole_candidates) (w := w) (base := base) M F_in_range)
  have I_check_last := fn_in (name := "check_last") F_check_last (PySem.W.mg_of X G a_check_last) (F_check_last.binds (ps := p_check_last) fun _ _ _ _ _ _ us hl => match us, hl with | [_], _ => rfl) (f_check_last (P := PySem.Challenge.pw_toldaverages_k10_whole_candidates) (w := w) (base := base) M F_check_last I_in_range)
  have I_check_answers := fn_in (name := "check_answers") F_check_answers (PySem.W.mg_of X G a_check_answers) (F_check_answers.binds (ps := p_check_answers) fun _ _ _ _ _ _ us hl => match us, hl with | [_, _, _], _ => rfl) (f_check_answers (P := PySem.Challenge.pw_toldaverages_k10_whole_candidates) (w := w) (base := base) M F_check_answers I_in_range I_check_last)
  have I_all_placements := fn_in (name := "all_placements") F_all_placements (PySem.W.mg_of X G a_all_placements) (F_all_placements.binds (ps := p_all_placements) fun _ _ _ _ _ _ us hl => match us, hl with | [_, _], _ => rfl) (f_all_placements (P := PySem.Challenge.pw_toldaverages_k10_whole_candidates) (w := w) (base := base) M F_all_placements)
  have I_power := fn_in (name := "power") F_power (PySem.W.mg_of X G a_power) (F_power.binds (ps := p_power) fun _ _ _ _ _ _ us hl => match us, hl with | [_, _], _ => rfl) (f_power (P := PySem.Challenge.pw_toldaverages_k10_whole_candidates) (w := w) (base := base) M F_power)
  have I_power_sum := fn_in (name := "power_sum") F_power_sum (PySem.W.mg_of X G a_power_sum) (F_power_sum.binds (ps := p_power_sum) fun _ _ _ _ _ _ us hl => match us, hl with | [_, _], _ => rfl) (f_power_sum (P := PySem.Challenge.pw_toldaverages_k10_whole_candidates) (w := w) (base := base) M F_power_sum I_power)
  have I_candidates := fn_in (name := "candidates") F_candidates (PySem.W.mg_of X G a_candidates) (F_candidates.binds (ps := p_candidates) fun _ _ _ _ _ _ us hl => match us, hl with | [_, _, _], _ => rfl) (f_candidates (P := PySem.Challenge.pw_toldaverages_k10_whole_candidates) (w := w) (base := base) M F_candidates I_check_answers I_all_placements I_power_sum)
  have I_best_power := fn_in (name := "best_power") F_best_power (PySem.W.mg_of X G a_best_power) (F_best_power.binds (ps := p_best_power) fun _ _ _ _ _ _ us hl => match us, hl with | [_, _, _], _ => rfl) (f_best_power (P := PySem.Challenge.pw_toldaverages_k10_whole_candidates) (w := w) (base := base) M F_best_power I_candidates I_power_sum)
  have I__law_hidden := fn_in (name := "_law_hidden") F__law_hidden (PySem.W.mg_of X G a__law_hidden) (F__law_hidden.binds (ps := p__law_hidden) fun _ _ _ _ _ _ us hl => match us, hl with | [_, _, _, _], _ => rfl) (f__law_hidden (P := PySem.Challenge.pw_toldaverages_k10_whole_candidates) (w := w) (base := base) M F__law_hidden I_candidates I_best_power)
  have I__law_best := fn_in (name := "_law_best") F__law_best (PySem.W.mg_of X G a__law_best) (F__law_best.binds (ps := p__law_best) fun _ _ _ _ _ _ us hl => match us, hl with | [_], _ => rfl) (f__law_best (P := PySem.Challenge.pw_toldaverages_k10_whole_candidates) (w := w) (base := base) M F__law_best I__law_power)
  exact f_law (P := PySem.Challenge.pw_toldaverages_k10_whole_candidates) (w := w) (base := base) M F_law I__law_row I__law_placements I__law_power I_candidates I__law_hidden I__law_best
end My
open PySem PySem.W PyProof.Rows DD
set_option maxHeartbeats 0 in
theorem PySem.Challenge.cw_toldaverages_k10_whole_candidates_holds : PySem.Challenge.rw_toldaverages_k10_whole_candidates.Holds := by
  w_on; o_law; k_head; (case hw => w_witness2)
  k_fill
  refine L2.walk_of (l := PySem.Challenge.rw_toldaverages_k10_whole_candidates) (n := 63) (k := 7) (x := "_law_script") (CX := fun w => L2.CX PySem.Challenge.pw_toldaverages_k10_whole_candidates w) (sp := fun w => spP _ My.S_law) rfl (by decide) rfl ⟨rfl, by decide, by decide⟩ (fun w h Y => PySem.W.kIn_of Y) ?F (fun w H a ns hl _ hS => ⟨a, ns, [], fun _ => none, [], .ret (.bool true), rfl, hS, (fun _ _ z => by cases z), .nil, My.law_holds hl, fun v G2 H2 e r => by cases r; rfl⟩) (fun w H s e s2 h => ?hCX)
  case hCX => exact cx_none h
  case F =>
    intro w mg fa h KX G hmg
    refine' My.all_mk KX G hmg ?H0 ?H1 ?H2 ?H3 ?H4 ?H5 ?H6 ?H7 ?H8 ?H9 ?H10 ?H11 ?H12 ?H13 ?H14 ?H15 ?H16 ?H17 ?H18 ?H19 ?H20 ?H21 ?H22 ?H23 ?H24 ?H25 ?H26 ?H27 ?H28 ?H29 ?H30 ?H31 ?H32 ?H33 ?H34 ?H35 ?H36 ?H37 ?H38 ?H39 ?H40 ?H41 ?H42 ?H43 ?H44 ?H45 ?H46 ?H47 ?H48 ?H49 ?H50 ?H51 ?H52 ?H53 ?H54 ?H55 ?H56 ?H57 ?H58 ?H59 ?H60 ?H61 ?H62 ?H63 ?H64 ?H65 ?H66 ?H67 ?H68 ?H69 ?H70 ?H71 ?H72 ?H73 ?H74 ?H75 ?H76 ?H77 ?H78 ?H79 ?H80 ?H81 ?H82 ?H83 ?H84 ?H85 ?H86 ?H87 ?H88 ?H89 ?H90 ?H91 ?H92 ?H93 ?H94 ?H95 ?H96 ?H97 ?H98 ?H99 ?H100 ?H101 ?H102 ?H103 ?H104 ?H105 ?H106 ?H107 ?H108 ?H109 ?H110 ?H111 ?H112 ?H113 ?H114 ?H115 ?H116 ?H117 ?H118 ?H119
    (case H0 => k_is)
    (case H1 => k_is)
    (case H2 => k_is)
    (case H3 => k_is)
    (case H4 => k_is)
    (case H5 => k_is)
    (case H6 => k_is)
    (case H7 => k_is)
    (case H8 => k_is)
    (case H9 => k_is)
    (case H10 => k_is)
    (case H11 => k_is)
    (case H12 => k_is)
    (case H13 => k_exc)
    (case H14 => k_is)
    (case H15 => k_is)
    (case H16 => k_is)
    (case H17 => k_is)
    (case H18 => k_exc)
    (case H19 => k_is)
    (case H20 => k_is)
    (case H21 => k_is)
    (case H22 => k_is)
    (case H23 => k_exc)
    (case H24 => k_is)
    (case H25 => k_is)
    (case H26 => k_is)
    (case H27 => k_is)
    (case H28 => k_is)
    (case H29 => k_is)
    (case H30 => k_is)
    (case H31 => k_is)
    (case H32 => k_is)
    (case H33 => k_is)
    (case H34 => k_is)
    (case H35 => k_is)
    (case H36 => k_is)
    (case H37 => k_is)
    (case H38 => k_is)
    (case H39 => decide)
    (case H40 => k_is)
    (case H41 => decide)
    (case H42 => k_is)
    (case H43 => k_is)
    (case H44 => k_is)
    (case H45 => k_is)
    (case H46 => k_is)
    (case H47 => k_is)
    (case H48 => k_is)
    (case H49 => k_is)
    (case H50 => k_is)
    (case H51 => k_is)
    (case H52 => k_is)
    (case H53 => k_is)
    (case H54 => k_is)
    (case H55 => k_is)
    (case H56 => k_is)
    (case H57 => k_is)
    (case H58 => k_is)
    (case H59 => k_is)
    (case H60 => k_is)
    (case H61 => k_is)
    (case H62 => k_is)
    (case H63 => k_is)
    (case H64 => k_is)
    (case H65 => k_is)
    (case H66 => k_is)
    (case H67 => k_is)
    (case H68 => k_is)
    (case H69 => k_is)
    (case H70 => k_is)
    (case H71 => k_is)
    (case H72 => k_is)
    (case H73 => k_is)
    (case H74 => k_is)
    (case H75 => k_is)
    (case H76 => k_is)
    (case H77 => k_is)
    (case H78 => k_is)
    (case H79 => k_is)
    (case H80 => k_is)
    (case H81 => k_is)
    (case H82 => k_is)
    (case H83 => k_is)
    (case H84 => k_is)
    (case H85 => k_is)
    (case H86 => k_is)
    (case H87 => k_is)
    (case H88 => k_is)
    (case H89 => k_is)
    (case H90 => k_is)
    (case H91 => k_is)
    (case H92 => k_is)
    (case H93 => k_is)
    (case H94 => k_is)
    (case H95 => k_is)
    (case H96 => k_is)
    (case H97 => k_is)
    (case H98 => k_is)
    (case H99 => k_is)
    (case H100 => k_is)
    (case H101 => k_is)
    (case H102 => k_is)
    (case H103 => k_is)
    (case H104 => k_is)
    (case H105 => k_is)
    (case H106 => k_is)
    (case H107 => k_is)
    (case H108 => k_is)
    (case H109 => k_is)
    (case H110 => k_is)
    (case H111 => k_is)
    (case H112 => k_is)
    (case H113 => k_is)
    (case H114 => k_is)
    (case H115 => k_is)
    (case H116 => k_is)
    (case H117 => k_is)
    (case H118 => k_is)
    (case H119 => k_is)
