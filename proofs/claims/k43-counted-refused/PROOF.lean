import PyProof.Rows.All
import PySem.Challenge.RW_turnroots_k43_counted_refused
import HandS.EndBits
import Wide.All
import OpenK.AllK
import Wide.FinOn
import HandS.ForMost
import HandS.ForExc
import HandS.Wide
import HandS.SortInts
import HandS.Conv
import HandS.IsInst
import HandS.Style
import HandS.TupLe
import HandS.Deep
import HandS.More
import HandS.Small
import HandS.SetFor
import HandS.WideMore
import HandS.SortKw
import KE.SortData
import KE.SortLaws
import HandS.ExcIs
import HandS.Call
import HandS.Strs
import HandS.TupLen
import HandS.ExcValue
import KE.KExcStr
set_option Elab.async false
set_option linter.all false
set_option maxRecDepth 100000
set_option maxHeartbeats 4000000
/-! TL1: values as trees with owned and frozen parts, over the abstract heap of HandS. -/
namespace TL
open PySem PySem.Spec PyProof.Rows L2

inductive T where
  | non | bl (b : Bool) | int (i : Int) | str (x : Str)
  | lst (xs : List T) | tup (xs : List T)
  | dk (ks : List Key) (ts : List T)
  | dt (ks : List (List Key)) (ts : List T)
  | fz (t : T)
  | hole (v : V)
  | scr (ns : List Int)
  | exc (C : Addr)
  | ty (n : String)
  | cls (C : Addr)

/-- nothing owned in it -/
def T.shr : T → Bool
  | .lst _ | .tup _ | .dk _ _ | .dt _ _ => false
  | _ => true
/-- frozen -/
def T.frz : T → T
  | .lst xs => .fz (.lst xs)
  | .tup xs => .fz (.tup xs)
  | .dk ks ts => .fz (.dk ks ts)
  | .dt ks ts => .fz (.dt ks ts)
  | t => t

/-- what an exception of the class at C is, by its object at a -/
def excO (C a : Addr) : HO := .ext fun h => ∃ oe, h.get? a = some oe ∧ Zc (.ref C) none oe ∧ ∃ vs, oe.data = .fields vs

abbrev Ev := List (Option T)

section
variable (K : PySem.W.Frag)
/-- what needs no cells of its own -/
def Flat (F : Addr → Prop) (H : Hp) : T → V → Prop
  | .non, v => v = .non
  | .bl b, v => v = .bl b
  | .int i, v => v = .int i
  | .str x, v => v = .str x
  | .hole u, v => v = u
  | .scr ns, v => ∃ a, v = .ref a ∧ ((F a ∧ Rd H a (.lst (ns.map V.int))) ∨ ∀ H' : Hp, SqL K H' a (ns.map V.int))
  | .exc C, v => ∃ a, v = .ref a ∧ F a ∧ H a = some (excO C a)
  | .ty n, v => v = .ty n
  | .cls C, v => v = .ref C
  | _, _ => False
mutual
def Rep (F : Addr → Prop) (H : Hp) : T → V → Prop
  | .lst xs, v => ∃ a vs, v = .ref a ∧ F a ∧ H a = some (.lst vs) ∧ Reps F H xs vs
  | .tup xs, v => ∃ a vs, v = .ref a ∧ F a ∧ H a = some (.tup vs) ∧ Reps F H xs vs
  | .dk ks ts, v => ∃ a vs, v = .ref a ∧ F a ∧ Rd H a (.dK (ks.zip vs)) ∧ ks.length = ts.length ∧ Reps F H ts vs
  | .dt ks ts, v => ∃ a vs, v = .ref a ∧ F a ∧ H a = some (.dT (ks.zip vs)) ∧ ks.length = ts.length ∧ Reps F H ts vs
  | .fz t, v => Rep F H t v
  | .non, v => Flat K F H .non v
  | .bl b, v => Flat K F H (.bl b) v
  | .int i, v => Flat K F H (.int i) v
  | .str x, v => Flat K F H (.str x) v
  | .hole u, v => Flat K F H (.hole u) v
  | .scr ns, v => Flat K F H (.scr ns) v
  | .exc C, v => Flat K F H (.exc C) v
  | .ty n, v => Flat K F H (.ty n) v
  | .cls C, v => Flat K F H (.cls C) v
def Reps (F : Addr → Prop) (H : Hp) : List T → List V → Prop
  | [], vs => vs = []
  | t :: ts, vs => ∃ v vs', vs = v :: vs' ∧ Rep F H t v ∧ Reps F H ts vs'
end
mutual
def Own (F : Addr → Prop) (H : Hp) : T → V → List Addr → Prop
  | .lst xs, v, L => ∃ a vs L', v = .ref a ∧ L = a :: L' ∧ H a = some (.lst vs) ∧ Owns F H xs vs L'
  | .tup xs, v, L => ∃ a vs L', v = .ref a ∧ L = a :: L' ∧ H a = some (.tup vs) ∧ Owns F H xs vs L'
  | .dk ks ts, v, L => ∃ a vs L', v = .ref a ∧ L = a :: L' ∧ H a = some (.dK (ks.zip vs)) ∧ ks.length = ts.length ∧ Owns F H ts vs L'
  | .dt ks ts, v, L => ∃ a vs L', v = .ref a ∧ L = a :: L' ∧ H a = some (.dT (ks.zip vs)) ∧ ks.length = ts.length ∧ Owns F H ts vs L'
  | .fz t, v, L => L = [] ∧ Rep K F H t v
  | .non, v, L => L = [] ∧ Flat K F H .non v
  | .bl b, v, L => L = [] ∧ Flat K F H (.bl b) v
  | .int i, v, L => L = [] ∧ Flat K F H (.int i) v
  | .str x, v, L => L = [] ∧ Flat K F H (.str x) v
  | .hole u, v, L => L = [] ∧ Flat K F H (.hole u) v
  | .scr ns, v, L => L = [] ∧ Flat K F H (.scr ns) v
  | .exc C, v, L => L = [] ∧ Flat K F H (.exc C) v
  | .ty n, v, L => L = [] ∧ Flat K F H (.ty n) v
  | .cls C, v, L => L = [] ∧ Flat K F H (.cls C) v
def Owns (F : Addr → Prop) (H : Hp) : List T → List V → List Addr → Prop
  | [], vs, L => vs = [] ∧ L = []
  | t :: ts, vs, L => ∃ v vs' L1 L2, vs = v :: vs' ∧ L = L1 ++ L2 ∧ Own F H t v L1 ∧ Owns F H ts vs' L2
end
def OwnE (F : Addr → Prop) (H : Hp) : Ev → L2.St → List Addr → Prop
  | [], σ, L => σ = [] ∧ L = []
  | none :: ev, σ, L => ∃ x σ', σ = x :: σ' ∧ OwnE F H ev σ' L
  | some t :: ev, σ, L => ∃ v σ' L1 L2, σ = some v :: σ' ∧ L = L1 ++ L2 ∧ Own K F H t v L1 ∧ OwnE F H ev σ' L2
end

section
variable {K : PySem.W.Frag} {F F' : Addr → Prop} {H H' : Hp}
theorem Flat.mono {t : T} {v : V} (h : Flat K F H t v) (hF : ∀ a, F a → F' a) (hH : ∀ a o, F a → H a = some o → H' a = some o) : Flat K F' H' t v := by
  cases t <;> try exact h
  · obtain ⟨a, e, h⟩ := h
    refine ⟨a, e, ?_⟩
    rcases h with ⟨fa, h | ⟨o, h⟩⟩ | h
    · exact .inl ⟨hF a fa, .inl (hH a _ fa h)⟩
    · exact .inl ⟨hF a fa, .inr ⟨o, hH a _ fa h⟩⟩
    · exact .inr h
  · obtain ⟨a, e, fa, h⟩ := h
    exact ⟨a, e, hF a fa, hH a _ fa h⟩
mutual
theorem Rep.mono : ∀ {t : T} {v : V}, Rep K F H t v → (∀ a, F a → F' a) → (∀ a o, F a → H a = some o → H' a = some o) → Rep K F' H' t v
  | .lst xs, v, ⟨a, vs, e, fa, h, r⟩, hF, hH => ⟨a, vs, e, hF a fa, hH a _ fa h, Reps.mono r hF hH⟩
  | .tup xs, v, ⟨a, vs, e, fa, h, r⟩, hF, hH => ⟨a, vs, e, hF a fa, hH a _ fa h, Reps.mono r hF hH⟩
  | .dk ks ts, v, ⟨a, vs, e, fa, h, l, r⟩, hF, hH => ⟨a, vs, e, hF a fa, h.imp (hH a _ fa) fun ⟨o, q⟩ => ⟨o, hH a _ fa q⟩, l, Reps.mono r hF hH⟩
  | .dt ks ts, v, ⟨a, vs, e, fa, h, l, r⟩, hF, hH => ⟨a, vs, e, hF a fa, hH a _ fa h, l, Reps.mono r hF hH⟩
  | .fz t, v, h, hF, hH => Rep.mono (t := t) h hF hH
  | .non, v, h, hF, hH => Flat.mono (t := .non) h hF hH
  | .bl b, v, h, hF, hH => Flat.mono (t := .bl b) h hF hH
  | .int i, v, h, hF, hH => Flat.mono (t := .int i) h hF hH
  | .str x, v, h, hF, hH => Flat.mono (t := .str x) h hF hH
  | .hole u, v, h, hF, hH => Flat.mono (t := .hole u) h hF hH
  | .scr ns, v, h, hF, hH => Flat.mono (t := .scr ns) h hF hH
  | .exc C, v, h, hF, hH => Flat.mono (t := .exc C) h hF hH
  | .ty n, v, h, hF, hH => Flat.mono (t := .ty n) h hF hH
  | .cls C, v, h, hF, hH => Flat.mono (t := .cls C) h hF hH
theorem Reps.mono : ∀ {ts : List T} {vs : List V}, Reps K F H ts vs → (∀ a, F a → F' a) → (∀ a o, F a → H a = some o → H' a = some o) → Reps K F' H' ts vs
  | [], vs, h, _, _ => h
  | t :: ts, vs, ⟨v, vs', e, r, rs⟩, hF, hH => ⟨v, vs', e, Rep.mono r hF hH, Reps.mono rs hF hH⟩
end
mutual
theorem Own.mono : ∀ {t : T} {v : V} {L : List Addr}, Own K F H t v L → (∀ a, F a → F' a) → (∀ a o, F a ∨ a ∈ L → H a = some o → H' a = some o) → Own K F' H' t v L
  | .lst xs, v, L, ⟨a, vs, L', e, el, h, r⟩, hF, hH => ⟨a, vs, L', e, el, hH a _ (.inr (by rw [el]; exact List.mem_cons_self)) h, Owns.mono r hF fun b o hb => hH b o (hb.imp_right fun q => by rw [el]; exact List.mem_cons_of_mem _ q)⟩
  | .tup xs, v, L, ⟨a, vs, L', e, el, h, r⟩, hF, hH => ⟨a, vs, L', e, el, hH a _ (.inr (by rw [el]; exact List.mem_cons_self)) h, Owns.mono r hF fun b o hb => hH b o (hb.imp_right fun q => by rw [el]; exact List.mem_cons_of_mem _ q)⟩
  | .dk ks ts, v, L, ⟨a, vs, L', e, el, h, l, r⟩, hF, hH => ⟨a, vs, L', e, el, hH a _ (.inr (by rw [el]; exact List.mem_cons_self)) h, l, Owns.mono r hF fun b o hb => hH b o (hb.imp_right fun q => by rw [el]; exact List.mem_cons_of_mem _ q)⟩
  | .dt ks ts, v, L, ⟨a, vs, L', e, el, h, l, r⟩, hF, hH => ⟨a, vs, L', e, el, hH a _ (.inr (by rw [el]; exact List.mem_cons_self)) h, l, Owns.mono r hF fun b o hb => hH b o (hb.imp_right fun q => by rw [el]; exact List.mem_cons_of_mem _ q)⟩
  | .fz t, v, L, ⟨e, h⟩, hF, hH => ⟨e, Rep.mono (t := t) h hF fun a o fa => hH a o (.inl fa)⟩
  | .non, v, L, ⟨e, h⟩, hF, hH => ⟨e, Flat.mono (t := .non) h hF fun a o fa => hH a o (.inl fa)⟩
  | .bl b, v, L, ⟨e, h⟩, hF, hH => ⟨e, Flat.mono (t := .bl b) h hF fun a o fa => hH a o (.inl fa)⟩
  | .int i, v, L, ⟨e, h⟩, hF, hH => ⟨e, Flat.mono (t := .int i) h hF fun a o fa => hH a o (.inl fa)⟩
  | .str x, v, L, ⟨e, h⟩, hF, hH => ⟨e, Flat.mono (t := .str x) h hF fun a o fa => hH a o (.inl fa)⟩
  | .hole u, v, L, ⟨e, h⟩, hF, hH => ⟨e, Flat.mono (t := .hole u) h hF fun a o fa => hH a o (.inl fa)⟩
  | .scr ns, v, L, ⟨e, h⟩, hF, hH => ⟨e, Flat.mono (t := .scr ns) h hF fun a o fa => hH a o (.inl fa)⟩
  | .exc C, v, L, ⟨e, h⟩, hF, hH => ⟨e, Flat.mono (t := .exc C) h hF fun a o fa => hH a o (.inl fa)⟩
  | .ty n, v, L, ⟨e, h⟩, hF, hH => ⟨e, Flat.mono (t := .ty n) h hF fun a o fa => hH a o (.inl fa)⟩
  | .cls C, v, L, ⟨e, h⟩, hF, hH => ⟨e, Flat.mono (t := .cls C) h hF fun a o fa => hH a o (.inl fa)⟩
theorem Owns.mono : ∀ {ts : List T} {vs : List V} {L : List Addr}, Owns K F H ts vs L → (∀ a, F a → F' a) → (∀ a o, F a ∨ a ∈ L → H a = some o → H' a = some o) → Owns K F' H' ts vs L
  | [], vs, L, h, _, _ => h
  | t :: ts, vs, L, ⟨v, vs', L1, L2, e, el, r, rs⟩, hF, hH => ⟨v, vs', L1, L2, e, el, Own.mono r hF fun b o hb => hH b o (hb.imp_right fun q => by rw [el]; exact List.mem_append_left _ q), Owns.mono rs hF fun b o hb => hH b o (hb.imp_right fun q => by rw [el]; exact List.mem_append_right _ q)⟩
end
theorem OwnE.mono : ∀ {ev : Ev} {σ : L2.St} {L : List Addr}, OwnE K F H ev σ L → (∀ a, F a → F' a) → (∀ a o, F a ∨ a ∈ L → H a = some o → H' a = some o) → OwnE K F' H' ev σ L
  | [], _, _, h, _, _ => h
  | none :: ev, σ, L, ⟨x, σ', e, h⟩, hF, hH => ⟨x, σ', e, OwnE.mono h hF hH⟩
  | some t :: ev, σ, L, ⟨v, σ', L1, L2, e, el, r, rs⟩, hF, hH => ⟨v, σ', L1, L2, e, el, Own.mono r hF fun b o hb => hH b o (hb.imp_right fun q => by rw [el]; exact List.mem_append_left _ q), OwnE.mono rs hF fun b o hb => hH b o (hb.imp_right fun q => by rw [el]; exact List.mem_append_right _ q)⟩

theorem ne_none_of {a : Addr} {o : HO} (h : H a = some o) : H a ≠ none := fun e => by rw [h] at e; cases e
mutual
theorem Own.dom : ∀ {t : T} {v : V} {L : List Addr}, Own K F H t v L → ∀ a ∈ L, H a ≠ none
  | .lst xs, v, L, ⟨a, vs, L', e, el, h, r⟩, b, hb => by
    rw [el] at hb
    rcases List.mem_cons.mp hb with rfl | hb
    · exact ne_none_of h
    · exact Owns.dom r b hb
  | .tup xs, v, L, ⟨a, vs, L', e, el, h, r⟩, b, hb => by
    rw [el] at hb
    rcases List.mem_cons.mp hb with rfl | hb
    · exact ne_none_of h
    · exact Owns.dom r b hb
  | .dk ks ts, v, L, ⟨a, vs, L', e, el, h, _, r⟩, b, hb => by
    rw [el] at hb
    rcases List.mem_cons.mp hb with rfl | hb
    · exact ne_none_of h
    · exact Owns.dom r b hb
  | .dt ks ts, v, L, ⟨a, vs, L', e, el, h, _, r⟩, b, hb => by
    rw [el] at hb
    rcases List.mem_cons.mp hb with rfl | hb
    · exact ne_none_of h
    · exact Owns.dom r b hb
  | .fz t, v, L, ⟨e, h⟩, b, hb => by rw [e] at hb; cases hb
  | .non, v, L, ⟨e, h⟩, b, hb => by rw [e] at hb; cases hb
  | .bl _, v, L, ⟨e, h⟩, b, hb => by rw [e] at hb; cases hb
  | .int _, v, L, ⟨e, h⟩, b, hb => by rw [e] at hb; cases hb
  | .str _, v, L, ⟨e, h⟩, b, hb => by rw [e] at hb; cases hb
  | .hole _, v, L, ⟨e, h⟩, b, hb => by rw [e] at hb; cases hb
  | .scr _, v, L, ⟨e, h⟩, b, hb => by rw [e] at hb; cases hb
  | .exc _, v, L, ⟨e, h⟩, b, hb => by rw [e] at hb; cases hb
  | .ty _, v, L, ⟨e, h⟩, b, hb => by rw [e] at hb; cases hb
  | .cls _, v, L, ⟨e, h⟩, b, hb => by rw [e] at hb; cases hb
theorem Owns.dom : ∀ {ts : List T} {vs : List V} {L : List Addr}, Owns K F H ts vs L → ∀ a ∈ L, H a ≠ none
  | [], vs, L, ⟨_, e⟩, b, hb => by rw [e] at hb; cases hb
  | t :: ts, vs, L, ⟨v, vs', L1, L2, e, el, r, rs⟩, b, hb => by
    rw [el] at hb
    rcases List.mem_append.mp hb with hb | hb
    · exact Own.dom r b hb
    · exact Owns.dom rs b hb
end
theorem OwnE.dom : ∀ {ev : Ev} {σ : L2.St} {L : List Addr}, OwnE K F H ev σ L → ∀ a ∈ L, H a ≠ none
  | [], _, L, ⟨_, e⟩, b, hb => by rw [e] at hb; cases hb
  | none :: ev, σ, L, ⟨x, σ', e, h⟩, b, hb => OwnE.dom h b hb
  | some t :: ev, σ, L, ⟨v, σ', L1, L2, e, el, r, rs⟩, b, hb => by
    rw [el] at hb
    rcases List.mem_append.mp hb with hb | hb
    · exact Own.dom r b hb
    · exact OwnE.dom rs b hb

mutual
theorem Own.rep : ∀ {t : T} {v : V} {L : List Addr}, Own K F H t v L → (∀ a, F a → F' a) → (∀ a ∈ L, F' a) → Rep K F' H t v
  | .lst xs, v, L, ⟨a, vs, L', e, el, h, r⟩, hF, hL => ⟨a, vs, e, hL a (by rw [el]; exact List.mem_cons_self), h, Owns.rep r hF fun b hb => hL b (by rw [el]; exact List.mem_cons_of_mem _ hb)⟩
  | .tup xs, v, L, ⟨a, vs, L', e, el, h, r⟩, hF, hL => ⟨a, vs, e, hL a (by rw [el]; exact List.mem_cons_self), h, Owns.rep r hF fun b hb => hL b (by rw [el]; exact List.mem_cons_of_mem _ hb)⟩
  | .dk ks ts, v, L, ⟨a, vs, L', e, el, h, l, r⟩, hF, hL => ⟨a, vs, e, hL a (by rw [el]; exact List.mem_cons_self), .inl h, l, Owns.rep r hF fun b hb => hL b (by rw [el]; exact List.mem_cons_of_mem _ hb)⟩
  | .dt ks ts, v, L, ⟨a, vs, L', e, el, h, l, r⟩, hF, hL => ⟨a, vs, e, hL a (by rw [el]; exact List.mem_cons_self), h, l, Owns.rep r hF fun b hb => hL b (by rw [el]; exact List.mem_cons_of_mem _ hb)⟩
  | .fz t, v, L, ⟨e, h⟩, hF, hL => Rep.mono (t := t) h hF fun _ _ _ q => q
  | .non, v, L, ⟨e, h⟩, hF, hL => Flat.mono (t := .non) h hF fun _ _ _ q => q
  | .bl b, v, L, ⟨e, h⟩, hF, hL => Flat.mono (t := .bl b) h hF fun _ _ _ q => q
  | .int i, v, L, ⟨e, h⟩, hF, hL => Flat.mono (t := .int i) h hF fun _ _ _ q => q
  | .str x, v, L, ⟨e, h⟩, hF, hL => Flat.mono (t := .str x) h hF fun _ _ _ q => q
  | .hole u, v, L, ⟨e, h⟩, hF, hL => Flat.mono (t := .hole u) h hF fun _ _ _ q => q
  | .scr ns, v, L, ⟨e, h⟩, hF, hL => Flat.mono (t := .scr ns) h hF fun _ _ _ q => q
  | .exc C, v, L, ⟨e, h⟩, hF, hL => Flat.mono (t := .exc C) h hF fun _ _ _ q => q
  | .ty n, v, L, ⟨e, h⟩, hF, hL => Flat.mono (t := .ty n) h hF fun _ _ _ q => q
  | .cls C, v, L, ⟨e, h⟩, hF, hL => Flat.mono (t := .cls C) h hF fun _ _ _ q => q
theorem Owns.rep : ∀ {ts : List T} {vs : List V} {L : List Addr}, Owns K F H ts vs L → (∀ a, F a → F' a) → (∀ a ∈ L, F' a) → Reps K F' H ts vs
  | [], vs, L, h, _, _ => h.1
  | t :: ts, vs, L, ⟨v, vs', L1, L2, e, el, r, rs⟩, hF, hL => ⟨v, vs', e, Own.rep r hF fun b hb => hL b (by rw [el]; exact List.mem_append_left _ hb), Owns.rep rs hF fun b hb => hL b (by rw [el]; exact List.mem_append_right _ hb)⟩
end
theorem Own.shr {t : T} {v : V} {L : List Addr} (h : Own K F H t v L) (s : t.shr = true) : L = [] := by
  cases t <;> first | exact h.1 | (cases s)
theorem Own.frz {t : T} {v : V} {L : List Addr} (h : Own K F H t v L) (hF : ∀ a, F a → F' a) (hL : ∀ a ∈ L, F' a) : Own K F' H t.frz v [] := by
  cases t with
  | lst xs => exact ⟨rfl, h.rep hF hL⟩
  | tup xs => exact ⟨rfl, h.rep hF hL⟩
  | dk ks ts => exact ⟨rfl, h.rep hF hL⟩
  | dt ks ts => exact ⟨rfl, h.rep hF hL⟩
  | fz t => exact ⟨rfl, Rep.mono (t := t) h.2 hF fun _ _ _ q => q⟩
  | non => exact ⟨rfl, Flat.mono (t := .non) h.2 hF fun _ _ _ q => q⟩
  | bl b => exact ⟨rfl, Flat.mono (t := .bl b) h.2 hF fun _ _ _ q => q⟩
  | int i => exact ⟨rfl, Flat.mono (t := .int i) h.2 hF fun _ _ _ q => q⟩
  | str x => exact ⟨rfl, Flat.mono (t := .str x) h.2 hF fun _ _ _ q => q⟩
  | hole u => exact ⟨rfl, Flat.mono (t := .hole u) h.2 hF fun _ _ _ q => q⟩
  | scr ns => exact ⟨rfl, Flat.mono (t := .scr ns) h.2 hF fun _ _ _ q => q⟩
  | exc C => exact ⟨rfl, Flat.mono (t := .exc C) h.2 hF fun _ _ _ q => q⟩
  | ty n => exact ⟨rfl, Flat.mono (t := .ty n) h.2 hF fun _ _ _ q => q⟩
  | cls C => exact ⟨rfl, Flat.mono (t := .cls C) h.2 hF fun _ _ _ q => q⟩
theorem Rep.frz : ∀ {t : T} {v : V}, Rep K F H t v → Own K F H t.frz v []
  | .lst xs, v, h => ⟨rfl, h⟩
  | .tup xs, v, h => ⟨rfl, h⟩
  | .dk ks ts, v, h => ⟨rfl, h⟩
  | .dt ks ts, v, h => ⟨rfl, h⟩
  | .fz t, v, h => ⟨rfl, h⟩
  | .non, v, h => ⟨rfl, h⟩
  | .bl b, v, h => ⟨rfl, h⟩
  | .int i, v, h => ⟨rfl, h⟩
  | .str x, v, h => ⟨rfl, h⟩
  | .hole u, v, h => ⟨rfl, h⟩
  | .scr ns, v, h => ⟨rfl, h⟩
  | .exc C, v, h => ⟨rfl, h⟩
  | .ty n, v, h => ⟨rfl, h⟩
  | .cls C, v, h => ⟨rfl, h⟩
theorem T.frz_shr (t : T) : t.frz.shr = true := by cases t <;> rfl
theorem T.frz_of {t : T} (h : t.shr = true) : t.frz = t := by cases t <;> first | rfl | cases h

/-! ### lists of owned things -/
theorem Owns.len : ∀ {ts : List T} {vs : List V} {L : List Addr}, Owns K F H ts vs L → ts.length = vs.length
  | [], vs, L, ⟨e, _⟩ => by rw [e]; rfl
  | t :: ts, vs, L, ⟨v, vs', L1, L2, e, el, r, rs⟩ => by rw [e]; simp [Owns.len rs]
theorem Reps.len : ∀ {ts : List T} {vs : List V}, Reps K F H ts vs → ts.length = vs.length
  | [], vs, e => by rw [show vs = [] from e]; rfl
  | t :: ts, vs, ⟨v, vs', e, r, rs⟩ => by rw [e]; simp [Reps.len rs]
theorem Owns.app : ∀ {ts : List T} {vs : List V} {L : List Addr} {us : List T} {ws : List V} {M : List Addr}, Owns K F H ts vs L → Owns K F H us ws M → Owns K F H (ts ++ us) (vs ++ ws) (L ++ M)
  | [], vs, L, us, ws, M, ⟨e, el⟩, h => by rw [e, el]; exact h
  | t :: ts, vs, L, us, ws, M, ⟨v, vs', L1, L2, e, el, r, rs⟩, h => ⟨v, vs' ++ ws, L1, L2 ++ M, by rw [e]; rfl, by rw [el, List.append_assoc], r, Owns.app rs h⟩
theorem Owns.one {t : T} {v : V} {L : List Addr} (h : Own K F H t v L) : Owns K F H [t] [v] L := ⟨v, [], L, [], rfl, by simp, h, rfl, rfl⟩
/-- the item at i taken out -/
theorem Owns.get : ∀ {ts : List T} {vs : List V} {L : List Addr} {i : Nat} {t : T}, Owns K F H ts vs L → ts[i]? = some t →
    ∃ v L0 L1 L2, vs[i]? = some v ∧ L = L0 ++ L1 ++ L2 ∧ Own K F H t v L1 ∧ ∀ t' v' L1', Own K F H t' v' L1' → Owns K F H (ts.set i t') (vs.set i v') (L0 ++ L1' ++ L2)
  | [], _, _, _, _, _, h => by simp at h
  | t :: ts, vs, L, 0, u, ⟨v, vs', L1, L2, e, el, r, rs⟩, h => by
    simp at h; subst h
    refine ⟨v, [], L1, L2, by rw [e]; rfl, by simpa using el, r, fun t' v' L1' r' => ?_⟩
    exact ⟨v', vs', L1', L2, by rw [e]; rfl, by simp, r', rs⟩
  | t :: ts, vs, L, i + 1, u, ⟨v, vs', L1, L2, e, el, r, rs⟩, h => by
    obtain ⟨v2, M0, M1, M2, e2, el2, r2, k⟩ := Owns.get (i := i) (t := u) rs (by simpa using h)
    refine ⟨v2, L1 ++ M0, M1, M2, by rw [e]; simpa using e2, by rw [el, el2]; simp [List.append_assoc], r2, fun t' v' L1' r' => ?_⟩
    exact ⟨v, vs'.set i v', L1, M0 ++ L1' ++ M2, by rw [e]; rfl, by simp [List.append_assoc], r, k t' v' L1' r'⟩
theorem Owns.shr : ∀ {ts : List T} {vs : List V} {L : List Addr}, Owns K F H ts vs L → ts.all T.shr = true → L = []
  | [], vs, L, ⟨_, e⟩, _ => e
  | t :: ts, vs, L, ⟨v, vs', L1, L2, e, el, r, rs⟩, h => by
    rw [List.all_cons, Bool.and_eq_true] at h
    rw [el, r.shr h.1, rs.shr h.2]; rfl
theorem Reps.owns : ∀ {ts : List T} {vs : List V}, Reps K F H ts vs → Owns K F H (ts.map T.frz) vs []
  | [], vs, e => ⟨e, rfl⟩
  | t :: ts, vs, ⟨v, vs', e, r, rs⟩ => ⟨v, vs', [], [], e, rfl, r.frz, rs.owns⟩
/-- a permuted or smaller choice of shared things -/
theorem Owns.pick {ts : List T} {vs : List V} (h : Owns K F H ts vs []) {i : Nat} {t : T} (e : ts[i]? = some t) : ∃ v, vs[i]? = some v ∧ Own K F H t v [] := by
  obtain ⟨v, L0, L1, L2, e1, el, r, _⟩ := h.get e
  have z : L1 = [] := by
    have q := congrArg List.length el
    simp at q
    exact List.eq_nil_of_length_eq_zero (by omega)
  subst z
  exact ⟨v, e1, r⟩
end
end TL

/-! TL2: the state, arguments, lifting. -/
namespace TL
open PySem PySem.Spec PyProof.Rows L2

/-- as often at most -/
def Sub (A B : List Addr) : Prop := ∀ a : Nat, A.count a ≤ B.count a
theorem Sub.refl (A : List Addr) : Sub A A := fun _ => Nat.le_refl _
theorem Sub.trans {A B C : List Addr} (h : Sub A B) (k : Sub B C) : Sub A C := fun a => Nat.le_trans (h a) (k a)
theorem Sub.mem {A B : List Addr} (h : Sub A B) {a : Addr} (m : a ∈ A) : a ∈ B := by
  have := h a
  have q : 0 < A.count a := List.count_pos_iff.mpr m
  exact List.count_pos_iff.mp (Nat.lt_of_lt_of_le q this)
theorem mem_iff_count {A : List Addr} {a : Addr} : a ∈ A ↔ 0 < A.count a := List.count_pos_iff.symm

/-! ### a state -/
structure St (K : PySem.W.Frag) (F : Addr → Prop) (H : Hp) (ev : Ev) (σ : L2.St) (L : List Addr) : Prop where
  own : OwnE K F H ev σ L
  nd : ∀ a : Nat, L.count a ≤ 1
  dj : ∀ a ∈ L, ¬ F a
  dom : ∀ a, F a → H a ≠ none
structure Ext (F : Addr → Prop) (H : Hp) (L : List Addr) (F' : Addr → Prop) (H' : Hp) (L' : List Addr) : Prop where
  fr : ∀ a, F a → F' a
  keep : ∀ a o, a ∉ L → H a = some o → H' a = some o
  new : ∀ a, (F' a ∨ a ∈ L') → F a ∨ a ∈ L ∨ H a = none
theorem Ext.refl {F : Addr → Prop} {H : Hp} {L : List Addr} : Ext F H L F H L := ⟨fun _ h => h, fun _ _ _ h => h, fun _ h => h.elim .inl fun h => .inr (.inl h)⟩
theorem Ext.trans {F F1 F2 : Addr → Prop} {H H1 H2 : Hp} {L L1 L2 : List Addr} (h1 : Ext F H L F1 H1 L1) (h2 : Ext F1 H1 L1 F2 H2 L2) (dj1 : ∀ a ∈ L1, ¬ F1 a) : Ext F H L F2 H2 L2 where
  fr := fun a h => h2.fr a (h1.fr a h)
  keep := fun a o hn e => by
    refine h2.keep a o (fun m => ?_) (h1.keep a o hn e)
    rcases h1.new a (.inr m) with q | q | q
    · exact dj1 a m (h1.fr a q)
    · exact hn q
    · rw [e] at q; cases q
  new := fun a h => by
    rcases h2.new a h with q | q | q
    · exact h1.new a (.inl q)
    · exact h1.new a (.inr q)
    · by_cases m : a ∈ L
      · exact .inr (.inl m)
      · refine .inr (.inr ?_)
        cases e : H a with
        | none => rfl
        | some o =>
          have := h1.keep a o m e
          rw [this] at q; cases q
/-- fewer owned behind, more ahead -/
theorem Ext.sub {F F' : Addr → Prop} {H H' : Hp} {L L' M M' : List Addr} (h : Ext F H L F' H' L') (h1 : ∀ a, a ∈ L → a ∈ M) (h2 : ∀ a, a ∈ M' → a ∈ L' ∨ a ∈ M) : Ext F H M F' H' M' where
  fr := h.fr
  keep := fun a o hn e => h.keep a o (fun m => hn (h1 a m)) e
  new := fun a q => by
    have q' : (F' a ∨ a ∈ L') ∨ a ∈ M := by
      rcases q with q | q
      · exact .inl (.inl q)
      · exact (h2 a q).imp_left .inr
    rcases q' with q | q
    · exact (h.new a q).imp_right fun z => z.imp_left (h1 a)
    · exact .inr (.inl q)

section
variable {K : PySem.W.Frag} {F F' : Addr → Prop} {H H' : Hp}
theorem OwnE.len : ∀ {ev : Ev} {σ : L2.St} {L : List Addr}, OwnE K F H ev σ L → ev.length = σ.length
  | [], _, _, ⟨e, _⟩ => by rw [e]; rfl
  | none :: ev, σ, L, ⟨x, σ', e, h⟩ => by rw [e]; simp [OwnE.len h]
  | some t :: ev, σ, L, ⟨v, σ', L1, L2, e, el, r, rs⟩ => by rw [e]; simp [OwnE.len rs]
theorem OwnE.one {t : T} {v : V} {L : List Addr} (h : Own K F H t v L) : OwnE K F H [some t] [some v] L := ⟨v, [], L, [], rfl, by simp, h, rfl, rfl⟩
theorem OwnE.none1 {x : Option V} : OwnE K F H [none] [x] [] := ⟨x, [], rfl, rfl, rfl⟩
theorem OwnE.of_one {t : T} {x : Option V} {L : List Addr} (h : OwnE K F H [some t] [x] L) : ∃ v, x = some v ∧ Own K F H t v L := by
  obtain ⟨v, σ', L1, L2, e, el, r, e2, e3⟩ := h
  subst e2 e3
  simp at e el
  exact ⟨v, e, by rw [el]; exact r⟩
theorem OwnE.get : ∀ {ev : Ev} {σ : L2.St} {L : List Addr} {i : Nat} {t : T}, OwnE K F H ev σ L → ev[i]? = some (some t) →
    ∃ v L1 L2, σ[i]? = some (some v) ∧ (∀ a : Nat, L2.count a + L1.count a = L.count a) ∧ Own K F H t v L1 ∧ OwnE K F H (ev.set i none) σ L2
  | [], _, _, _, _, _, h => by simp at h
  | none :: ev, σ, L, 0, u, _, h => by simp at h
  | none :: ev, σ, L, i + 1, u, ⟨x, σ', e, r⟩, h => by
    obtain ⟨v, L1, L2, e1, ec, r1, r2⟩ := OwnE.get (i := i) (t := u) r (by simpa using h)
    exact ⟨v, L1, L2, by rw [e]; simpa using e1, ec, r1, x, σ', e, r2⟩
  | some t :: ev, σ, L, 0, u, ⟨v, σ', L1, L2, e, el, r, rs⟩, h => by
    simp at h; subst h
    exact ⟨v, L1, L2, by rw [e]; rfl, fun a => by rw [el, List.count_append]; omega, r, some v, σ', e, rs⟩
  | some t :: ev, σ, L, i + 1, u, ⟨v, σ', L1, L2, e, el, r, rs⟩, h => by
    obtain ⟨v2, M1, M2, e1, ec, r1, r2⟩ := OwnE.get (i := i) (t := u) rs (by simpa using h)
    exact ⟨v2, M1, L1 ++ M2, by rw [e]; simpa using e1, fun a => by have := ec a; rw [el, List.count_append, List.count_append]; omega, r1, v, σ', L1, M2, e, rfl, r, r2⟩
theorem OwnE.set : ∀ {ev : Ev} {σ : L2.St} {L : List Addr} {i : Nat} {ot : Option T} {x : Option V} {L1 : List Addr}, OwnE K F H ev σ L → i < ev.length → OwnE K F H [ot] [x] L1 →
    ∃ L', OwnE K F H (ev.set i ot) (σ.set i x) L' ∧ Sub L' (L ++ L1)
  | [], _, _, _, _, _, _, _, h, _ => by simp at h
  | none :: ev, σ, L, 0, ot, x, L1, ⟨y, σ', e, r⟩, _, q => by
    cases ot with
    | none => exact ⟨L, ⟨x, σ', by rw [e]; rfl, r⟩, fun a => by rw [List.count_append]; omega⟩
    | some t =>
      obtain ⟨v, rfl, o⟩ := q.of_one
      exact ⟨L1 ++ L, ⟨v, σ', L1, L, by rw [e]; rfl, rfl, o, r⟩, fun a => by rw [List.count_append, List.count_append]; omega⟩
  | some u :: ev, σ, L, 0, ot, x, L1, ⟨v, σ', M1, M2, e, el, r, rs⟩, _, q => by
    cases ot with
    | none => exact ⟨M2, ⟨x, σ', by rw [e]; rfl, rs⟩, fun a => by rw [el, List.count_append, List.count_append]; omega⟩
    | some t =>
      obtain ⟨v', rfl, o⟩ := q.of_one
      exact ⟨L1 ++ M2, ⟨v', σ', L1, M2, by rw [e]; rfl, rfl, o, rs⟩, fun a => by rw [el, List.count_append, List.count_append, List.count_append]; omega⟩
  | none :: ev, σ, L, i + 1, ot, x, L1, ⟨y, σ', e, r⟩, hi, q => by
    obtain ⟨L', r', s⟩ := OwnE.set (i := i) r (by simpa using hi) q
    exact ⟨L', ⟨y, σ'.set i x, by rw [e]; rfl, r'⟩, s⟩
  | some u :: ev, σ, L, i + 1, ot, x, L1, ⟨v, σ', M1, M2, e, el, r, rs⟩, hi, q => by
    obtain ⟨L', r', s⟩ := OwnE.set (i := i) rs (by simpa using hi) q
    exact ⟨M1 ++ L', ⟨v, σ'.set i x, M1, L', by rw [e]; rfl, rfl, r, r'⟩, fun a => by have := s a; rw [el, List.count_append, List.count_append, List.count_append]; rw [List.count_append] at this; omega⟩
/-- the slot's value stays -/
theorem OwnE.put {ev : Ev} {σ : L2.St} {L : List Addr} {i : Nat} {ot : Option T} {x : Option V} {L1 : List Addr} (h : OwnE K F H ev σ L) (hx : σ[i]? = some x) (q : OwnE K F H [ot] [x] L1) :
    ∃ L', OwnE K F H (ev.set i ot) σ L' ∧ Sub L' (L ++ L1) := by
  have hi : i < ev.length := by
    rw [h.len]; exact (List.getElem?_eq_some_iff.mp hx).1
  obtain ⟨L', r, s⟩ := h.set hi q
  obtain ⟨h1, h2⟩ := List.getElem?_eq_some_iff.mp hx
  rw [← h2, List.set_getElem_self h1] at r
  exact ⟨L', r, s⟩
theorem OwnE.slot {ev : Ev} {σ : L2.St} {L : List Addr} {i : Nat} {t : T} (h : OwnE K F H ev σ L) (e : ev[i]? = some (some t)) : ∃ v, σ[i]? = some (some v) :=
  let ⟨v, _, _, e1, _⟩ := h.get e; ⟨v, e1⟩
theorem OwnE.app : ∀ {ev : Ev} {σ : L2.St} {L : List Addr} {ev2 : Ev} {σ2 : L2.St} {M : List Addr}, OwnE K F H ev σ L → OwnE K F H ev2 σ2 M → OwnE K F H (ev ++ ev2) (σ ++ σ2) (L ++ M)
  | [], σ, L, _, _, _, ⟨e, el⟩, h => by rw [e, el]; exact h
  | none :: ev, σ, L, ev2, σ2, M, ⟨x, σ', e, r⟩, h => ⟨x, σ' ++ σ2, by rw [e]; rfl, OwnE.app r h⟩
  | some t :: ev, σ, L, ev2, σ2, M, ⟨v, σ', L1, L2, e, el, r, rs⟩, h => ⟨v, σ' ++ σ2, L1, L2 ++ M, by rw [e]; rfl, by rw [el, List.append_assoc], r, OwnE.app rs h⟩
theorem OwnE.nones : ∀ (σ : L2.St), OwnE K F H (List.replicate σ.length none) σ []
  | [] => ⟨rfl, rfl⟩
  | x :: σ => ⟨x, σ, rfl, OwnE.nones σ⟩
theorem Owns.env : ∀ {ts : List T} {vs : List V} {L : List Addr}, Owns K F H ts vs L → OwnE K F H (ts.map some) (vs.map some) L
  | [], vs, L, ⟨e, el⟩ => by rw [e, el]; exact ⟨rfl, rfl⟩
  | t :: ts, vs, L, ⟨v, vs', L1, L2, e, el, r, rs⟩ => ⟨v, vs'.map some, L1, L2, by rw [e]; rfl, el, r, rs.env⟩
end

/-! ### arguments -/
abbrev XP := Addr → Ev → Prop
abbrev WE := Ev → (T → Ev → Prop) → XP → Prop
abbrev WT := Ev → (Bool → Ev → Prop) → XP → Prop
inductive Arg where
  | pl (i : Nat)
  | vl (w : WE)
inductive ArgV where
  | pl (i : Nat)
  | vl (t : T)
def wArgs : List Arg → Ev → (List ArgV → Ev → Prop) → XP → Prop
  | [], ev, Q, _ => Q [] ev
  | .pl i :: r, ev, Q, X => (∃ t, ev[i]? = some (some t)) ∧ wArgs r ev (fun as ev' => Q (.pl i :: as) ev') X
  | .vl w :: r, ev, Q, X => w ev (fun t ev1 => wArgs r ev1 (fun as ev' => Q (.vl t :: as) ev') X) X
def takeA : List ArgV → Ev → Option (List T × Ev)
  | [], ev => some ([], ev)
  | .pl i :: as, ev => match ev[i]? with
    | some (some t) => match takeA as (ev.set i none) with
      | some p => some (t :: p.1, p.2)
      | none => none
    | _ => none
  | .vl t :: as, ev => match takeA as ev with
    | some p => some (t :: p.1, p.2)
    | none => none
def giveA : List ArgV → List (Option T) → Ev → Ev
  | .pl i :: as, t :: ts, ev => giveA as ts (ev.set i t)
  | .vl _ :: as, _ :: ts, ev => giveA as ts ev
  | _, _, ev => ev
/-- a promise over trees: the arguments, what is wanted of the answer and of what the arguments became, of an exception -/
abbrev SpT := List T → (T → List (Option T) → Prop) → (Addr → List (Option T) → Prop) → Prop

section
variable (K : PySem.W.Frag)
def OwnA (F : Addr → Prop) (H : Hp) (σ : L2.St) : List ArgV → List V → List Addr → Prop
  | [], vs, L => vs = [] ∧ L = []
  | .pl i :: as, vs, L => ∃ v vs', vs = v :: vs' ∧ σ[i]? = some (some v) ∧ OwnA F H σ as vs' L
  | .vl t :: as, vs, L => ∃ v vs' L1 L2, vs = v :: vs' ∧ L = L1 ++ L2 ∧ Own K F H t v L1 ∧ OwnA F H σ as vs' L2
end
section
variable {K : PySem.W.Frag} {F F' : Addr → Prop} {H H' : Hp} {σ : L2.St}
theorem OwnA.mono : ∀ {as : List ArgV} {vs : List V} {L : List Addr}, OwnA K F H σ as vs L → (∀ a, F a → F' a) → (∀ a o, F a ∨ a ∈ L → H a = some o → H' a = some o) → OwnA K F' H' σ as vs L
  | [], _, _, h, _, _ => h
  | .pl i :: as, vs, L, ⟨v, vs', e, e1, h⟩, hF, hH => ⟨v, vs', e, e1, OwnA.mono h hF hH⟩
  | .vl t :: as, vs, L, ⟨v, vs', L1, L2, e, el, r, rs⟩, hF, hH => ⟨v, vs', L1, L2, e, el, Own.mono r hF fun b o hb => hH b o (hb.imp_right fun q => by rw [el]; exact List.mem_append_left _ q), OwnA.mono rs hF fun b o hb => hH b o (hb.imp_right fun q => by rw [el]; exact List.mem_append_right _ q)⟩
theorem OwnA.dom : ∀ {as : List ArgV} {vs : List V} {L : List Addr}, OwnA K F H σ as vs L → ∀ a ∈ L, H a ≠ none
  | [], _, L, ⟨_, e⟩, b, hb => by rw [e] at hb; cases hb
  | .pl i :: as, vs, L, ⟨v, vs', e, e1, h⟩, b, hb => OwnA.dom h b hb
  | .vl t :: as, vs, L, ⟨v, vs', L1, L2, e, el, r, rs⟩, b, hb => by
    rw [el] at hb
    rcases List.mem_append.mp hb with hb | hb
    · exact Own.dom r b hb
    · exact OwnA.dom rs b hb
theorem OwnA.app : ∀ {as : List ArgV} {vs : List V} {L : List Addr} {bs : List ArgV} {ws : List V} {M : List Addr}, OwnA K F H σ as vs L → OwnA K F H σ bs ws M → OwnA K F H σ (as ++ bs) (vs ++ ws) (L ++ M)
  | [], vs, L, _, _, _, ⟨e, el⟩, h => by rw [e, el]; exact h
  | .pl i :: as, vs, L, bs, ws, M, ⟨v, vs', e, e1, r⟩, h => ⟨v, vs' ++ ws, by rw [e]; rfl, e1, OwnA.app r h⟩
  | .vl t :: as, vs, L, bs, ws, M, ⟨v, vs', L1, L2, e, el, r, rs⟩, h => ⟨v, vs' ++ ws, L1, L2 ++ M, by rw [e]; rfl, by rw [el, List.append_assoc], r, OwnA.app rs h⟩
theorem take_ok : ∀ {as : List ArgV} {vs : List V} {ev ev2 : Ev} {L Lt : List Addr} {ts : List T}, OwnE K F H ev σ L → OwnA K F H σ as vs Lt → takeA as ev = some (ts, ev2) →
    ∃ L2 Lts, OwnE K F H ev2 σ L2 ∧ Owns K F H ts vs Lts ∧ ∀ a : Nat, L2.count a + Lts.count a = L.count a + Lt.count a
  | [], vs, ev, ev2, L, Lt, ts, h, ⟨e, el⟩, ht => by
    simp [takeA] at ht
    obtain ⟨e1, e2⟩ := ht
    subst e1 e2 e el
    exact ⟨L, [], h, ⟨rfl, rfl⟩, fun a => by simp⟩
  | .pl i :: as, vs, ev, ev2, L, Lt, ts, h, ⟨v, vs', e, e1, r⟩, ht => by
    unfold takeA at ht
    split at ht
    · rename_i t et
      split at ht
      · rename_i p ep
        simp at ht
        obtain ⟨h1, h2⟩ := ht
        obtain ⟨w, L1, L2, ew, ec, o, hE⟩ := h.get et
        rw [ew] at e1
        cases e1
        obtain ⟨M2, Ms, q1, q2, q3⟩ := take_ok hE r (show takeA as (ev.set i none) = some (p.1, p.2) by rw [ep])
        refine ⟨M2, L1 ++ Ms, by rw [← h2]; exact q1, by rw [← h1, e]; exact ⟨_, _, L1, Ms, rfl, rfl, o, q2⟩, fun a => ?_⟩
        have := q3 a; have := ec a
        rw [List.count_append]; omega
      · cases ht
    · cases ht
  | .vl t :: as, vs, ev, ev2, L, Lt, ts, h, ⟨v, vs', L1, L2, e, el, o, r⟩, ht => by
    unfold takeA at ht
    split at ht
    · rename_i p ep
      simp at ht
      obtain ⟨h1, h2⟩ := ht
      obtain ⟨M2, Ms, q1, q2, q3⟩ := take_ok h r (show takeA as ev = some (p.1, p.2) by rw [ep])
      refine ⟨M2, L1 ++ Ms, by rw [← h2]; exact q1, by rw [← h1, e]; exact ⟨_, _, L1, Ms, rfl, rfl, o, q2⟩, fun a => ?_⟩
      have := q3 a
      rw [el, List.count_append, List.count_append]; omega
    · cases ht
theorem give_ok : ∀ {as : List ArgV} {vs : List V} {ev : Ev} {L L3 Lt : List Addr} {ts : List (Option T)} {F0 : Addr → Prop} {H0 : Hp}, OwnE K F H ev σ L → OwnA K F0 H0 σ as vs Lt → OwnE K F H ts (vs.map some) L3 →
    ∃ L4, OwnE K F H (giveA as ts ev) σ L4 ∧ Sub L4 (L ++ L3)
  | [], vs, ev, L, L3, Lt, ts, F0, H0, h, _, ht => ⟨L, by cases ts <;> exact h, fun a => by rw [List.count_append]; omega⟩
  | .pl i :: as, vs, ev, L, L3, Lt, [], F0, H0, h, _, ht => ⟨L, h, fun a => by rw [List.count_append]; omega⟩
  | .vl _ :: as, vs, ev, L, L3, Lt, [], F0, H0, h, _, ht => ⟨L, h, fun a => by rw [List.count_append]; omega⟩
  | .pl i :: as, vs, ev, L, L3, Lt, none :: ts, F0, H0, h, ⟨v, vs', e, e1, r⟩, ht => by
    subst e
    obtain ⟨x, σ', e2, hts⟩ := ht
    cases e2
    obtain ⟨L', q1, q2⟩ := h.put (ot := none) e1 OwnE.none1
    obtain ⟨L4, q3, q4⟩ := give_ok q1 r hts
    refine ⟨L4, q3, fun a => ?_⟩
    have := q4 a; have := q2 a
    simp only [List.count_append, List.count_nil] at *; omega
  | .pl i :: as, vs, ev, L, L3, Lt, some t :: ts, F0, H0, h, ⟨v, vs', e, e1, r⟩, ht => by
    subst e
    obtain ⟨w, σ', M1, M2, e2, el, o, hts⟩ := ht
    cases e2
    obtain ⟨L', q1, q2⟩ := h.put (ot := some t) e1 (OwnE.one o)
    obtain ⟨L4, q3, q4⟩ := give_ok q1 r hts
    refine ⟨L4, q3, fun a => ?_⟩
    have := q4 a; have := q2 a
    rw [el]
    simp only [List.count_append] at *; omega
  | .vl u :: as, vs, ev, L, L3, Lt, none :: ts, F0, H0, h, ⟨v, vs', L1, L2, e, el, o, r⟩, ht => by
    subst e
    obtain ⟨x, σ', e2, hts⟩ := ht
    cases e2
    obtain ⟨L4, q3, q4⟩ := give_ok (as := as) h r hts
    exact ⟨L4, q3, q4⟩
  | .vl u :: as, vs, ev, L, L3, Lt, some t :: ts, F0, H0, h, ⟨v, vs', L1, L2, e, el, o, r⟩, ht => by
    subst e
    obtain ⟨w, σ', M1, M2, e2, el2, o2, hts⟩ := ht
    cases e2
    obtain ⟨L4, q3, q4⟩ := give_ok h r hts
    refine ⟨L4, q3, fun a => ?_⟩
    have := q4 a
    rw [el2]
    simp only [List.count_append] at *; omega
end
end TL

/-! TL3: lifting: expressions, operands, arguments, promises. -/
namespace TL
open PySem PySem.Spec PyProof.Rows L2

section
variable (K : PySem.W.Frag)
def liftE (W : WX) (w : WE) : TE := fun σ H Q => ∃ ev F L Q0 X0, St K F H ev σ L ∧ w ev Q0 X0 ∧
  (∀ t ev' v F' H' L', Q0 t ev' → Ext F H L F' H' L' → St K F' H' (some t :: ev') (some v :: σ) L' → Q v H') ∧
  (∀ C ev' F' H' L', X0 C ev' → Ext F H L F' H' L' → St K F' H' ev' σ L' → W (.ref C) none σ H')
def liftT (W : WX) (w : WT) : TT := fun σ H Q => ∃ ev F L Q0 X0, St K F H ev σ L ∧ w ev Q0 X0 ∧
  (∀ b ev' F' H' L', Q0 b ev' → Ext F H L F' H' L' → St K F' H' ev' σ L' → Q b H') ∧
  (∀ C ev' F' H' L', X0 C ev' → Ext F H L F' H' L' → St K F' H' ev' σ L' → W (.ref C) none σ H')
def tOf (W : WX) : Arg → TE
  | .pl i => tVar i
  | .vl w => liftE K W w
def tL (W : WX) : List Arg → TA
  | [] => tNil
  | a :: as => tCons (tOf K W a) (tL W as)
end
def DE (X : Cx) (W : WX) (e : Expr) (w : WE) : Prop := PE X e (liftE X.K W w)
def DT (X : Cx) (W : WX) (e : Expr) (w : WT) : Prop := PT X e (liftT X.K W w)
def DW (X : Cx) (W : WX) (e : Expr) (w : WT) : Prop := PW X e (liftT X.K W w)
def DO (X : Cx) (W : WX) (e : Expr) (o : Arg) : Prop := PE X e (tOf X.K W o)
def DA (X : Cx) (W : WX) (es : List Expr) (as : List Arg) : Prop := PA X es (tL X.K W as)

theorem PE.imp {X : Cx} {e : Expr} {t t' : TE} (h : PE X e t) (k : ∀ σ H Q, t' σ H Q → t σ H Q) : PE X e t' := ⟨fun pins s σ H Q I q => h.run pins s σ H Q I (k σ H Q q)⟩
theorem PT.imp {X : Cx} {e : Expr} {t t' : TT} (h : PT X e t) (k : ∀ σ H Q, t' σ H Q → t σ H Q) : PT X e t' := ⟨fun pins s σ H Q I q => h.run pins s σ H Q I (k σ H Q q)⟩
theorem PW.imp {X : Cx} {e : Expr} {t t' : TT} (h : PW X e t) (k : ∀ σ H Q, t' σ H Q → t σ H Q) : PW X e t' := ⟨fun whole pins s σ H Q I q => h.run whole pins s σ H Q I (k σ H Q q)⟩
theorem PS.imp {X : Cx} {e : Stmt} {t t' : TS} (h : PS X e t) (k : ∀ D σ H, t' D σ H → t D σ H) : PS X e t' := ⟨fun pins s σ H D I q => h.run pins s σ H D I (k D σ H q)⟩
theorem PSs.imp {X : Cx} {e : List Stmt} {t t' : TS} (h : PSs X e t) (k : ∀ D σ H, t' D σ H → t D σ H) : PSs X e t' := ⟨fun pins s σ H D I q => h.run pins s σ H D I (k D σ H q)⟩

section
variable (K : PySem.W.Frag)
structure StA (F : Addr → Prop) (H : Hp) (ev : Ev) (σ : L2.St) (as : List ArgV) (vs : List V) (L Lt : List Addr) : Prop where
  own : OwnE K F H ev σ L
  tmp : OwnA K F H σ as vs Lt
  nd : ∀ a : Nat, L.count a + Lt.count a ≤ 1
  dj : ∀ a, a ∈ L ∨ a ∈ Lt → ¬ F a
  dom : ∀ a, F a → H a ≠ none
structure StL (F : Addr → Prop) (H : Hp) (ts : List T) (vs : List V) (L : List Addr) : Prop where
  own : Owns K F H ts vs L
  nd : ∀ a : Nat, L.count a ≤ 1
  dj : ∀ a ∈ L, ¬ F a
  dom : ∀ a, F a → H a ≠ none
/-- a promise over trees as a promise over the heap -/
def spT (S : SpT) : Sp := fun vs H Q E => ∃ ts F L Q0 X0, StL K F H ts vs L ∧ S ts Q0 X0 ∧
  (∀ t ts' v F' H' L', Q0 t ts' → Ext F H L F' H' L' → St K F' H' (some t :: ts') (some v :: vs.map some) L' → Q v H') ∧
  (∀ C ts' F' H' L', X0 C ts' → Ext F H L F' H' L' → St K F' H' ts' (vs.map some) L' → E (.ref C) none H')
end

section
variable {K : PySem.W.Frag} {F F' : Addr → Prop} {H H' : Hp} {σ : L2.St} {ev : Ev} {L L' : List Addr}
theorem St.a0 (h : St K F H ev σ L) : StA K F H ev σ [] [] L [] := ⟨h.own, ⟨rfl, rfl⟩, fun a => by have := h.nd a; simpa using this, fun a q => q.elim (h.dj a) (fun z => nomatch z), h.dom⟩
/-- what stands apart is kept -/
theorem Ext.apart {a : Addr} (x : Ext F H L F' H' L') (hn : a ∉ L) (hF : ¬ F a) (hd : H a ≠ none) : a ∉ L' ∧ ¬ F' a := by
  refine ⟨fun m => ?_, fun m => ?_⟩
  · rcases x.new a (.inr m) with q | q | q
    · exact hF q
    · exact hn q
    · exact hd q
  · rcases x.new a (.inl m) with q | q | q
    · exact hF q
    · exact hn q
    · exact hd q
theorem count_zero_of_not_mem {A : List Addr} {a : Addr} (h : a ∉ A) : A.count a = 0 := List.count_eq_zero.mpr h

theorem run_args {W : WX} {R : List V → Hp → Prop} {Qx : XP} : ∀ {args : List Arg} {ev : Ev} {as0 : List ArgV} {vs0 : List V} {L Lt : List Addr} {F : Addr → Prop} {H : Hp} {Q0 : List ArgV → Ev → Prop}, StA K F H ev σ as0 vs0 L Lt → wArgs args ev Q0 Qx →
    (∀ as vs ev' F' H' L' Lt', Q0 as ev' → Ext F H (L ++ Lt) F' H' (L' ++ Lt') → StA K F' H' ev' σ (as0 ++ as) (vs0 ++ vs) L' Lt' → R vs H') →
    (∀ C ev' F' H' L', Qx C ev' → Ext F H (L ++ Lt) F' H' L' → St K F' H' ev' σ L' → W (.ref C) none σ H') → tL K W args σ H R
  | [], ev, as0, vs0, L, Lt, F, H, Q0, S, w, k, kx => k [] [] ev F H L Lt w Ext.refl (by simpa using S)
  | .pl i :: r, ev, as0, vs0, L, Lt, F, H, Q0, S, w, k, kx => by
    obtain ⟨⟨t, et⟩, w⟩ := w
    obtain ⟨v, ev1⟩ := S.own.slot et
    refine ⟨v, ev1, ?_⟩
    have S1 : StA K F H ev σ (as0 ++ [.pl i]) (vs0 ++ [v]) L (Lt ++ []) := ⟨S.own, S.tmp.app ⟨v, [], rfl, ev1, rfl, rfl⟩, fun a => by have := S.nd a; simpa using this, fun a q => S.dj a (by simpa using q), S.dom⟩
    rw [List.append_nil] at S1
    refine run_args S1 w (fun as vs ev' F' H' L' Lt' q x S' => ?_) kx
    refine k (.pl i :: as) (v :: vs) ev' F' H' L' Lt' q x ?_
    simpa using S'
  | .vl w1 :: r, ev, as0, vs0, L, Lt, F, H, Q0, S, w, k, kx => by
    have hLt : ∀ a ∈ Lt, a ∉ L ∧ ¬ F a ∧ H a ≠ none := fun a m => ⟨fun m2 => by
      have := S.nd a
      have h1 := List.count_pos_iff.mpr m
      have h2 := List.count_pos_iff.mpr m2
      omega, S.dj a (.inr m), S.tmp.dom a m⟩
    refine ⟨ev, F, L, _, Qx, ⟨S.own, fun a => by have := S.nd a; omega, fun a m => S.dj a (.inl m), S.dom⟩, w, ?_, ?_⟩
    · intro t ev1 v F1 H1 L1 q x S1
      obtain ⟨v', σ', M1, M2, e, el, o, oe⟩ := S1.own
      cases e
      have S2 : StA K F1 H1 ev1 σ (as0 ++ [.vl t]) (vs0 ++ [v]) M2 (Lt ++ M1) := by
        refine ⟨oe, (S.tmp.mono x.fr fun a o ha e => ?_).app ⟨v, [], M1, [], rfl, by simp, o, rfl, rfl⟩, fun a => ?_, fun a q => ?_, S1.dom⟩
        · rcases ha with ha | ha
          · exact x.keep a o (fun m => S.dj a (.inl m) ha) e
          · exact x.keep a o (hLt a ha).1 e
        · have h1 := S1.nd a
          rw [el, List.count_append] at h1
          rw [List.count_append]
          by_cases m : a ∈ Lt
          · have z := (x.apart (hLt a m).1 (hLt a m).2.1 (hLt a m).2.2).1
            rw [el] at z
            have z1 := count_zero_of_not_mem (fun y => z (List.mem_append_left _ y))
            have z2 := count_zero_of_not_mem (fun y => z (List.mem_append_right _ y))
            have := S.nd a
            omega
          · have := count_zero_of_not_mem m
            omega
        · rcases q with q | q
          · exact S1.dj a (by rw [el]; exact List.mem_append_right _ q)
          · rcases List.mem_append.mp q with q | q
            · exact (x.apart (hLt a q).1 (hLt a q).2.1 (hLt a q).2.2).2
            · exact S1.dj a (by rw [el]; exact List.mem_append_left _ q)
      have x1 : Ext F H (L ++ Lt) F1 H1 (M2 ++ (Lt ++ M1)) := x.sub (fun a m => List.mem_append_left _ m) fun a m => by
        rcases List.mem_append.mp m with m | m
        · exact .inl (by rw [el]; exact List.mem_append_right _ m)
        · rcases List.mem_append.mp m with m | m
          · exact .inr (List.mem_append_right _ m)
          · exact .inl (by rw [el]; exact List.mem_append_left _ m)
      have dj1 : ∀ a ∈ M2 ++ (Lt ++ M1), ¬ F1 a := fun a m => S2.dj a (List.mem_append.mp m)
      refine run_args S2 q (fun as vs ev' F' H' L' Lt' q' x' S' => ?_) fun C ev' F' H' L' q' x' S' => kx C ev' F' H' L' q' (x1.trans x' dj1) S'
      refine k (.vl t :: as) (v :: vs) ev' F' H' L' Lt' q' (x1.trans x' dj1) ?_
      simpa using S'
    · intro C ev' F' H' L' q x S'
      exact kx C ev' F' H' L' q (x.sub (fun a m => List.mem_append_left _ m) fun a m => .inl m) S'

theorem call_args {S : SpT} {as : List ArgV} {vs : List V} {ts : List T} {ev2 : Ev} {Lt : List Addr} {R : VK} {E : XK} {Q0 : T → List (Option T) → Prop} {X0 : Addr → List (Option T) → Prop} (A : StA K F H ev σ as vs L Lt) (ht : takeA as ev = some (ts, ev2)) (h : S ts Q0 X0)
    (k : ∀ t ts' v F' H' L', Q0 t ts' → Ext F H (L ++ Lt) F' H' L' → St K F' H' (some t :: giveA as ts' ev2) (some v :: σ) L' → R v H')
    (kx : ∀ C ts' F' H' L', X0 C ts' → Ext F H (L ++ Lt) F' H' L' → St K F' H' (giveA as ts' ev2) σ L' → E (.ref C) none H') : spT K S vs H R E := by
  obtain ⟨L2, Ls, hE, hS, hc⟩ := take_ok A.own A.tmp ht
  have nd2 : ∀ a : Nat, L2.count a + Ls.count a ≤ 1 := fun a => by have := A.nd a; have := hc a; omega
  have mem2 : ∀ a, a ∈ L2 ∨ a ∈ Ls → a ∈ L ∨ a ∈ Lt := fun a m => by
    rw [mem_iff_count, mem_iff_count] at m
    rw [mem_iff_count, mem_iff_count]
    have := hc a
    omega
  have ap : ∀ a ∈ L2, a ∉ Ls ∧ ¬ F a ∧ H a ≠ none := fun a m => ⟨fun m2 => by
    have h1 := List.count_pos_iff.mpr m
    have h2 := List.count_pos_iff.mpr m2
    have := nd2 a
    omega, A.dj a (mem2 a (.inl m)), hE.dom a m⟩
  refine ⟨ts, F, Ls, Q0, X0, ⟨hS, fun a => by have := nd2 a; omega, fun a m => A.dj a (mem2 a (.inr m)), A.dom⟩, h, fun t ts' v F' H' L' q x S' => ?_, fun C ts' F' H' L' q x S' => ?_⟩
  · obtain ⟨v', σ', M1, M2, e, el, o, oe⟩ := S'.own
    cases e
    have hE' : OwnE K F' H' ev2 σ L2 := hE.mono x.fr fun a o ha e => by
      rcases ha with ha | ha
      · exact x.keep a o (fun m => A.dj a (mem2 a (.inr m)) ha) e
      · exact x.keep a o (ap a ha).1 e
    obtain ⟨L4, g1, g2⟩ := give_ok hE' A.tmp oe
    refine k t ts' v F' H' (M1 ++ L4) q (x.sub (fun a m => ?_) fun a m => ?_) ⟨⟨v, σ, M1, L4, rfl, rfl, o, g1⟩, fun a => ?_, fun a m => ?_, S'.dom⟩
    · exact List.mem_append.mpr (mem2 a (.inr m))
    · rcases List.mem_append.mp m with m | m
      · exact .inl (by rw [el]; exact List.mem_append_left _ m)
      · rcases List.mem_append.mp (g2.mem m) with m | m
        · exact .inr (List.mem_append.mpr (mem2 a (.inl m)))
        · exact .inl (by rw [el]; exact List.mem_append_right _ m)
    · have h1 := S'.nd a
      have h2 := g2 a
      have h3 := nd2 a
      rw [List.count_append] at h2 ⊢
      rw [el, List.count_append] at h1
      by_cases m : a ∈ L2
      · have z := (x.apart (ap a m).1 (ap a m).2.1 (ap a m).2.2).1
        rw [el] at z
        have z1 := count_zero_of_not_mem (fun y => z (List.mem_append_left _ y))
        have z2 := count_zero_of_not_mem (fun y => z (List.mem_append_right _ y))
        omega
      · have := count_zero_of_not_mem m
        omega
    · rcases List.mem_append.mp m with m | m
      · exact S'.dj a (by rw [el]; exact List.mem_append_left _ m)
      · rcases List.mem_append.mp (g2.mem m) with m | m
        · exact (x.apart (ap a m).1 (ap a m).2.1 (ap a m).2.2).2
        · exact S'.dj a (by rw [el]; exact List.mem_append_right _ m)
  · have hE' : OwnE K F' H' ev2 σ L2 := hE.mono x.fr fun a o ha e => by
      rcases ha with ha | ha
      · exact x.keep a o (fun m => A.dj a (mem2 a (.inr m)) ha) e
      · exact x.keep a o (ap a ha).1 e
    obtain ⟨L4, g1, g2⟩ := give_ok hE' A.tmp S'.own
    refine kx C ts' F' H' L4 q (x.sub (fun a m => ?_) fun a m => ?_) ⟨g1, fun a => ?_, fun a m => ?_, S'.dom⟩
    · exact List.mem_append.mpr (mem2 a (.inr m))
    · rcases List.mem_append.mp (g2.mem m) with m | m
      · exact .inr (List.mem_append.mpr (mem2 a (.inl m)))
      · exact .inl m
    · have h1 := S'.nd a
      have h2 := g2 a
      have h3 := nd2 a
      rw [List.count_append] at h2
      by_cases m : a ∈ L2
      · have z := (x.apart (ap a m).1 (ap a m).2.1 (ap a m).2.2).1
        have z1 := count_zero_of_not_mem z
        omega
      · have := count_zero_of_not_mem m
        omega
    · rcases List.mem_append.mp (g2.mem m) with m | m
      · exact (x.apart (ap a m).1 (ap a m).2.1 (ap a m).2.2).2
      · exact S'.dj a m

/-- an operation over operands -/
def wOp (S : SpT) (args : List Arg) : WE := fun ev Q X => wArgs args ev (fun as ev1 => ∃ ts ev2, takeA as ev1 = some (ts, ev2) ∧ S ts (fun t ts' => Q t (giveA as ts' ev2)) fun C ts' => X C (giveA as ts' ev2)) X
theorem wOp_run {W : WX} {S : SpT} {args : List Arg} {R : VK} {Hq : Hp} (h : liftE K W (wOp S args) σ Hq R) : tL K W args σ Hq fun vs H' => spT K S vs H' R (fun c d H2 => W c d σ H2) := by
  obtain ⟨ev, F, L, Q0, X0, S0, w, k, kx⟩ := h
  refine run_args S0.a0 w (fun as vs ev' F' H' L' Lt' q x A => ?_) fun C ev' F' H' L' q x S' => kx C ev' F' H' L' q (by simpa using x) S'
  obtain ⟨ts, ev2, ht, hs⟩ := q
  have dj1 : ∀ a ∈ L' ++ Lt', ¬ F' a := fun a m => A.dj a (List.mem_append.mp m)
  rw [List.append_nil] at x
  refine call_args (by simpa using A) ht hs (fun t ts' v F2 H2 L2 q x2 S2 => ?_) fun C ts' F2 H2 L2 q x2 S2 => ?_
  · exact k t _ v F2 H2 L2 q (x.trans x2 dj1) S2
  · exact kx C _ F2 H2 L2 q (x.trans x2 dj1) S2
end
end TL

/-! TL4: expressions in general, statements, defs. -/
namespace TL
open PySem PySem.Spec PyProof.Rows L2

/-! ### expressions -/
def wC (t : T) : WE := fun ev Q _ => Q t ev
/-- a name read: what it holds is frozen -/
def wV (i : Nat) : WE := fun ev Q _ => ∃ t, ev[i]? = some (some t) ∧ Q t.frz (ev.set i (some t.frz))
/-- a name read whose thing is shared already -/
def wS (i : Nat) : WE := fun ev Q _ => ∃ t, ev[i]? = some (some t) ∧ t.shr = true ∧ Q t ev
/-- a name read for the last time: what it holds goes on -/
def wM (i : Nat) : WE := fun ev Q _ => ∃ t, ev[i]? = some (some t) ∧ Q t (ev.set i none)
def wTst (w : WE) : WT := fun ev Q X => w ev (fun t ev' => ∃ b, t = .bl b ∧ Q b ev') X
def wAnd (w u : WT) : WT := fun ev Q X => w ev (fun b ev1 => if b = true then u ev1 Q X else Q false ev1) X
def wOr (w u : WT) : WT := fun ev Q X => w ev (fun b ev1 => if b = true then Q true ev1 else u ev1 Q X) X
def wNot (w : WT) : WT := fun ev Q X => w ev (fun b ev1 => Q (!b) ev1) X
def wOfT (w : WT) : WE := fun ev Q X => w ev (fun b ev1 => Q (.bl b) ev1) X
def wIf (c : WT) (a b : WE) : WE := fun ev Q X => c ev (fun k ev1 => if k = true then a ev1 Q X else b ev1 Q X) X

def Br2 (K : PySem.W.Frag) (S : SpT) (r : R2) : Prop := ∀ x y H Q E, spT K S [x, y] H Q E → r x y H Q
def BrU (K : PySem.W.Frag) (S : SpT) (r : V → Hp → VK → Prop) : Prop := ∀ x H Q E, spT K S [x] H Q E → r x H Q
def BrL (K : PySem.W.Frag) (S : SpT) (r : List V → Hp → VK → Prop) : Prop := ∀ vs H Q E, spT K S vs H Q E → r vs H Q
def BrM (K : PySem.W.Frag) (S : SpT) (r : V → List V → Hp → VK → Prop) : Prop := ∀ x vs H Q E, spT K S (x :: vs) H Q E → r x vs H Q

section
variable {X : Cx} {W : WX} {e : Expr}
theorem tOf_mono {K : PySem.W.Frag} {o : Arg} {σ : L2.St} {H : Hp} {Q Q' : VK} (h : tOf K W o σ H Q) (k : ∀ v H', Q v H' → Q' v H') : tOf K W o σ H Q' := by
  cases o with
  | pl i => obtain ⟨v, e, q⟩ := h; exact ⟨v, e, k _ _ q⟩
  | vl w =>
    obtain ⟨ev, F, L, Q0, X0, S, hw, k1, k2⟩ := h
    exact ⟨ev, F, L, Q0, X0, S, hw, fun t ev' v F' H' L' q x S' => k _ _ (k1 t ev' v F' H' L' q x S'), k2⟩
theorem tL_mono {K : PySem.W.Frag} : ∀ {as : List Arg} {σ : L2.St} {H : Hp} {Q Q' : List V → Hp → Prop}, tL K W as σ H Q → (∀ v H', Q v H' → Q' v H') → tL K W as σ H Q'
  | [], σ, H, Q, Q', h, k => k _ _ h
  | a :: as, σ, H, Q, Q', h, k => tOf_mono h fun v H' q => tL_mono q fun vs H2 z => k _ _ z

theorem do_vl {w : WE} (h : DE X W e w) : DO X W e (.vl w) := h
theorem do_pl (i : Nat) {x : Str} {pos : Pos} (hN : X.N[i]? = some x := by rfl) (hv : Vis X.env.scope x := by first | exact Or.inl rfl | exact Or.inr (Or.inl rfl) | exact Or.inr (Or.inr rfl)) (hd : (x == ("__debug__" : Str)) = false := by decide)
    (hcd : (x == ("__classdict__" : Str)) = false := by decide) : DO X W (.Name x pos) (.pl i) := pe_var hN hv hd hcd
theorem da_nil : DA X W [] [] := pa_nil
theorem da_cons {es : List Expr} {a : Arg} {as : List Arg} (h : DO X W e a) (r : DA X W es as) (hs : starEach (e :: es) X.env = (false, eval e X.env) :: starEach es X.env := by rfl) : DA X W (e :: es) (a :: as) := pa_cons h r hs

/-- a constant -/
theorem DE.const {v : V} {t : T} (h : PE X e (tC v)) (o : ∀ F H, Own X.K F H t v []) : DE X W e (wC t) := PE.imp h fun σ H Q q => by
  obtain ⟨ev, F, L, Q0, X0, S, hw, k1, _⟩ := q
  exact k1 t ev v F H ([] ++ L) hw Ext.refl ⟨⟨v, σ, [], L, rfl, rfl, o F H, S.own⟩, S.nd, S.dj, S.dom⟩
theorem de_int {i j pos} : DE X W (.Constant (.int i) j pos) (wC (.int i)) := DE.const pe_int fun _ _ => ⟨rfl, rfl⟩
theorem de_bl {b j pos} : DE X W (.Constant (.bool b) j pos) (wC (.bl b)) := DE.const pe_bl fun _ _ => ⟨rfl, rfl⟩
theorem de_non {j pos} : DE X W (.Constant .none j pos) (wC .non) := DE.const pe_non fun _ _ => ⟨rfl, rfl⟩
theorem de_str {x j pos} : DE X W (.Constant (.str x) j pos) (wC (.str x)) := DE.const pe_str fun _ _ => ⟨rfl, rfl⟩
/-- names -/
theorem DE.v {i : Nat} (h : PE X e (tVar i)) : DE X W e (wV i) := PE.imp h fun σ H Q q => by
  obtain ⟨ev, F, L, Q0, X0, S, ⟨t, et, hw⟩, k1, _⟩ := q
  obtain ⟨v, L1, L2, ev1, ec, o, oE⟩ := S.own.get et
  refine ⟨v, ev1, ?_⟩
  have dj1 : ∀ a ∈ L1, a ∈ L := fun a m => by
    rw [mem_iff_count] at m ⊢
    have := ec a
    omega
  have dj2 : ∀ a ∈ L2, a ∈ L := fun a m => by
    rw [mem_iff_count] at m ⊢
    have := ec a
    omega
  have o' : Own X.K (fun a => F a ∨ a ∈ L1) H t.frz v [] := o.frz (fun _ => .inl) (fun _ => .inr)
  have oE' : OwnE X.K (fun a => F a ∨ a ∈ L1) H (ev.set i none) σ L2 := oE.mono (fun _ => .inl) fun _ _ _ z => z
  obtain ⟨L3, r3, s3⟩ := oE'.put (ot := some t.frz) ev1 (OwnE.one o')
  rw [List.set_set] at r3
  have sub : ∀ a ∈ L3, a ∈ L2 := fun a m => by simpa using s3.mem m
  refine k1 t.frz _ v _ H ([] ++ L3) hw ⟨fun _ => .inl, fun _ _ _ z => z, fun a q => ?_⟩ ⟨⟨v, σ, [], L3, rfl, rfl, o', r3⟩, fun a => ?_, fun a m q => ?_, fun a q => ?_⟩
  · rcases q with (q | q) | q
    · exact .inl q
    · exact .inr (.inl (dj1 a q))
    · exact .inr (.inl (dj2 a (sub a q)))
  · have h1 := s3 a
    have h2 := S.nd a
    have h3 := ec a
    simp only [List.append_nil, List.nil_append] at *
    omega
  · have m2 := sub a m
    rcases q with q | q
    · exact S.dj a (dj2 a m2) q
    · have h1 := List.count_pos_iff.mpr m2
      have h2 := List.count_pos_iff.mpr q
      have h3 := ec a
      have h4 := S.nd a
      omega
  · rcases q with q | q
    · exact S.dom a q
    · exact o.dom a q
theorem DE.s {i : Nat} (h : PE X e (tVar i)) : DE X W e (wS i) := PE.imp h fun σ H Q q => by
  obtain ⟨ev, F, L, Q0, X0, S, ⟨t, et, hs, hw⟩, k1, _⟩ := q
  obtain ⟨v, L1, L2, ev1, ec, o, oE⟩ := S.own.get et
  have e1 := o.shr hs
  subst e1
  exact ⟨v, ev1, k1 t ev v F H ([] ++ L) hw Ext.refl ⟨⟨v, σ, [], L, rfl, rfl, o, S.own⟩, S.nd, S.dj, S.dom⟩⟩
theorem DE.m {i : Nat} (h : PE X e (tVar i)) : DE X W e (wM i) := PE.imp h fun σ H Q q => by
  obtain ⟨ev, F, L, Q0, X0, S, ⟨t, et, hw⟩, k1, _⟩ := q
  obtain ⟨v, L1, L2, ev1, ec, o, oE⟩ := S.own.get et
  have sub : ∀ a, a ∈ L1 ++ L2 ↔ a ∈ L := fun a => by
    rw [mem_iff_count, mem_iff_count, List.count_append]
    have := ec a
    omega
  refine ⟨v, ev1, k1 t _ v F H (L1 ++ L2) hw ⟨fun _ z => z, fun _ _ _ z => z, fun a q => ?_⟩ ⟨⟨v, σ, L1, L2, rfl, rfl, o, oE⟩, fun a => ?_, fun a m => S.dj a ((sub a).mp m), S.dom⟩⟩
  · rcases q with q | q
    · exact .inl q
    · exact .inr (.inl ((sub a).mp q))
  · have := S.nd a; have := ec a
    rw [List.count_append]; omega
/-- tests -/
theorem wTst_run {K : PySem.W.Frag} {w : WE} {σ : L2.St} {H : Hp} {Q : Bool → Hp → Prop} (h : liftT K W (wTst w) σ H Q) : liftE K W w σ H fun x H1 => ∃ c, x = .bl c ∧ Q c H1 := by
  obtain ⟨ev, F, L, Q0, X0, S, hw, k1, k2⟩ := h
  refine ⟨ev, F, L, _, X0, S, hw, fun t ev' v F' H' L' q x S' => ?_, k2⟩
  obtain ⟨b, rfl, q⟩ := q
  obtain ⟨v', σ', M1, M2, e, el, ⟨e1, e2⟩, oe⟩ := S'.own
  cases e
  subst e1
  exact ⟨b, e2, k1 b ev' F' H' M2 q (by rw [el] at x; exact x) ⟨oe, by rw [el] at S'; exact S'.nd, by rw [el] at S'; exact S'.dj, S'.dom⟩⟩
theorem DT.of {w : WE} (h : DE X W e w) (he : ∀ whole, isTrue e X.env whole = (do let v ← whole; standAt e.pos; holding [v] (truthy v)) := by intro _; rfl) : DT X W e (wTst w) := PT.imp (pt_val h he) fun σ H Q q => wTst_run q
theorem DE.ofT {w : WT} (h : DE X W e (wOfT w)) : DE X W e (wOfT w) := h
theorem DT.not {a : Expr} {w : WT} {pos : Pos} (h : DT X W a w) : DT X W (.UnaryOp .Not a pos) (wNot w) := PT.imp (pt_not h) fun σ H Q q => by
  obtain ⟨ev, F, L, Q0, X0, S, hw, k1, k2⟩ := q
  exact ⟨ev, F, L, _, X0, S, hw, fun b ev' F' H' L' q x S' => k1 (!b) ev' F' H' L' q x S', k2⟩
theorem DW.and1 {a : Expr} {w : WT} {pos : Pos} (h : DT X W a w) : DW X W (.BoolOp .And [a] pos) w := pw_and1 h
theorem DW.or1 {a : Expr} {w : WT} {pos : Pos} (h : DT X W a w) : DW X W (.BoolOp .Or [a] pos) w := pw_or1 h
theorem liftT_if {K : PySem.W.Frag} {w u1 u2 : WT} {σ : L2.St} {H : Hp} {Q : Bool → Hp → Prop} {t : TT} (hc : t = liftT K W w) {t1 t2 : (Bool → Hp → Prop) → Hp → Prop}
    (h : liftT K W (fun ev Q X => w ev (fun b ev1 => if b = true then u1 ev1 Q X else u2 ev1 Q X) X) σ H Q)
    (h1 : ∀ H', liftT K W u1 σ H' Q → t1 Q H') (h2 : ∀ H', liftT K W u2 σ H' Q → t2 Q H') : t σ H fun b H1 => if b = true then t1 Q H1 else t2 Q H1 := by
  subst hc
  obtain ⟨ev, F, L, Q0, X0, S, hw, k1, k2⟩ := h
  refine ⟨ev, F, L, _, X0, S, hw, fun b ev' F' H' L' q x S' => ?_, k2⟩
  cases b with
  | true =>
    rw [if_pos rfl] at q ⊢
    exact h1 H' ⟨ev', F', L', Q0, X0, S', q, fun b2 ev2 F2 H2 L2 q2 x2 S2 => k1 b2 ev2 F2 H2 L2 q2 (x.trans x2 S'.dj) S2, fun C ev2 F2 H2 L2 q2 x2 S2 => k2 C ev2 F2 H2 L2 q2 (x.trans x2 S'.dj) S2⟩
  | false =>
    rw [if_neg Bool.false_ne_true] at q ⊢
    exact h2 H' ⟨ev', F', L', Q0, X0, S', q, fun b2 ev2 F2 H2 L2 q2 x2 S2 => k1 b2 ev2 F2 H2 L2 q2 (x.trans x2 S'.dj) S2, fun C ev2 F2 H2 L2 q2 x2 S2 => k2 C ev2 F2 H2 L2 q2 (x.trans x2 S'.dj) S2⟩
theorem liftT_c {K : PySem.W.Frag} {c : Bool} {σ : L2.St} {H : Hp} {Q : Bool → Hp → Prop} (h : liftT K W (fun ev Q _ => Q c ev) σ H Q) : Q c H := by
  obtain ⟨ev, F, L, Q0, X0, S, hw, k1, k2⟩ := h
  exact k1 c ev F H L hw Ext.refl S
theorem DW.and {a b : Expr} {rest : List Expr} {w u : WT} {pos : Pos} (ha : DT X W a w) (hb : DW X W (.BoolOp .And (b :: rest) pos) u) : DW X W (.BoolOp .And (a :: b :: rest) pos) (wAnd w u) := PW.imp (pw_and ha hb) fun σ H Q q =>
  liftT_if (t1 := fun Q H1 => liftT X.K W u σ H1 Q) (t2 := fun Q H1 => Q false H1) (u2 := fun ev Q _ => Q false ev) rfl q (fun _ z => z) (fun _ z => liftT_c z)
theorem DW.or {a b : Expr} {rest : List Expr} {w u : WT} {pos : Pos} (ha : DT X W a w) (hb : DW X W (.BoolOp .Or (b :: rest) pos) u) : DW X W (.BoolOp .Or (a :: b :: rest) pos) (wOr w u) := PW.imp (pw_or ha hb) fun σ H Q q =>
  liftT_if (t1 := fun Q H1 => Q true H1) (t2 := fun Q H1 => liftT X.K W u σ H1 Q) (u1 := fun ev Q _ => Q true ev) rfl q (fun _ z => liftT_c z) (fun _ z => z)
theorem DW.dt {w : WT} (h : DW X W e w) : DT X W e w := PW.pt h

/-! ### operations -/
theorem op2_run {K : PySem.W.Frag} {S : SpT} {r : R2} {oa ob : Arg} {σ : L2.St} {H : Hp} {Q : VK} (br : Br2 K S r) (h : liftE K W (wOp S [oa, ob]) σ H Q) : tOp r (tOf K W oa) (tOf K W ob) σ H Q :=
  tOf_mono (wOp_run h) fun x H1 q => tOf_mono q fun y H2 z => br x y H2 Q (fun c d H' => W c d σ H') z
theorem DE.op2 {r : R2} {S : SpT} {oa ob : Arg} (h : PE X e (tOp r (tOf X.K W oa) (tOf X.K W ob))) (br : Br2 X.K S r) : DE X W e (wOp S [oa, ob]) := PE.imp h fun _ _ _ q => op2_run br q
theorem DT.op2 {r : R2} {S : SpT} {oa ob : Arg} (h : PT X e (tTest (tOp r (tOf X.K W oa) (tOf X.K W ob)))) (br : Br2 X.K S r) : DT X W e (wTst (wOp S [oa, ob])) := PT.imp h fun _ _ _ q => op2_run br (wTst_run q)
theorem DE.un {r : V → Hp → VK → Prop} {S : SpT} {oa : Arg} (h : PE X e (tUn r (tOf X.K W oa))) (br : BrU X.K S r) : DE X W e (wOp S [oa]) := PE.imp h fun σ _ Q q => tOf_mono (wOp_run q) fun x H1 z => br x H1 Q (fun c d H' => W c d σ H') z
theorem DE.call {r : List V → Hp → VK → Prop} {S : SpT} {as : List Arg} (h : PE X e (tCB r (tL X.K W as))) (br : BrL X.K S r) : DE X W e (wOp S as) := PE.imp h fun _ _ Q q => tL_mono (wOp_run q) fun x H1 z => br x H1 Q _ z
theorem DE.fn {S : SpT} {as : List Arg} (h : PE X e (tCallS (spT X.K S) (L2.WE W) (tL X.K W as))) : DE X W e (wOp S as) := PE.imp h fun _ _ Q q => tL_mono (wOp_run q) fun x H1 z => z
/-- a built-in method: the receiver's type is asked ahead of the arguments -/
def T.tyR : T → String
  | .lst _ => "list"
  | .tup _ => "tuple"
  | .dt _ _ => "dict"
  | .str _ => "str"
  | .int _ => "int"
  | .fz t => t.tyR
  | _ => ""
/-- what is frozen may be locked: a dict of one's own alone has a type -/
def T.tyN : T → String
  | .dk _ _ => "dict"
  | t => t.tyR
end
end TL

/-! TL5: statements, defs. -/
namespace TL
open PySem PySem.Spec PyProof.Rows L2

structure EndT where
  nx : Ev → Prop
  rt : T → Ev → Prop
  bk : Ev → Prop
  ct : Ev → Prop
  xc : XP
abbrev WS := Ev → EndT → Prop
abbrev KP := Nat → Option V
def pin (kp : KP) (σ : L2.St) : Prop := ∀ j v, kp j = some v → σ[j]? = some (some v)
section
variable (K : PySem.W.Frag)
def liftS (W : WX) (kp : KP) (w : WS) : TS := fun D σ H => ∃ ev F L E0, St K F H ev σ L ∧ pin kp σ ∧ w ev E0 ∧
  (∀ ev' σ' F' H' L', E0.nx ev' → Ext F H L F' H' L' → St K F' H' ev' σ' L' → pin kp σ' → D.nx σ' H') ∧
  (∀ t ev' v σ' F' H' L', E0.rt t ev' → Ext F H L F' H' L' → St K F' H' (some t :: ev') (some v :: σ') L' → pin kp σ' → D.rt v H') ∧
  (∀ ev' σ' F' H' L', E0.bk ev' → Ext F H L F' H' L' → St K F' H' ev' σ' L' → pin kp σ' → D.bk σ' H') ∧
  (∀ ev' σ' F' H' L', E0.ct ev' → Ext F H L F' H' L' → St K F' H' ev' σ' L' → pin kp σ' → D.ct σ' H') ∧
  (∀ C ev' σ' F' H' L', E0.xc C ev' → Ext F H L F' H' L' → St K F' H' ev' σ' L' → pin kp σ' → W (.ref C) none σ' H')
end
def DS (X : Cx) (W : WX) (A : List Nat) (st : Stmt) (w : WS) : Prop := ∀ kp : KP, (∀ j ∈ A, kp j = none) → PS X st (liftS X.K W kp w)
def DSs (X : Cx) (W : WX) (A : List Nat) (sts : List Stmt) (w : WS) : Prop := ∀ kp : KP, (∀ j ∈ A, kp j = none) → PSs X sts (liftS X.K W kp w)

def sPass : WS := fun ev E => E.nx ev
def sBreak : WS := fun ev E => E.bk ev
def sCont : WS := fun ev E => E.ct ev
def sSeq (w u : WS) : WS := fun ev E => w ev { E with nx := fun ev' => u ev' E }
def sE (w : WE) : WS := fun ev E => w ev (fun _ ev' => E.nx ev') E.xc
def sRet (w : WE) : WS := fun ev E => w ev (fun t ev' => E.rt t ev') E.xc
def sRetN : WS := fun ev E => E.rt .non ev
def sSet (i : Nat) (w : WE) : WS := fun ev E => w ev (fun t ev' => i < ev'.length ∧ E.nx (ev'.set i (some t))) E.xc
def sIf (c : WT) (a b : WS) : WS := fun ev E => c ev (fun k ev1 => if k = true then a ev1 E else b ev1 E) E.xc
def sNever : WS := fun _ _ => False
def sWhile (c : WT) (b : WS) : WS := fun ev E => ∃ I : Nat → Ev → Prop, (∃ m, I m ev) ∧ ∀ m ev, I m ev → c ev (fun k ev1 => if k = true then
  b ev1 { nx := fun ev' => ∃ m', m' < m ∧ I m' ev', ct := fun ev' => ∃ m', m' < m ∧ I m' ev', bk := E.nx, rt := E.rt, xc := E.xc } else E.nx ev1) E.xc

section
variable {X : Cx} {W : WX} {K : PySem.W.Frag} {kp : KP}
theorem pin.set {σ : L2.St} {i : Nat} {x : Option V} (h : pin kp σ) (hi : kp i = none) : pin kp (σ.set i x) := fun j v e => by
  by_cases z : i = j
  · subst z; rw [hi] at e; cases e
  · rw [List.getElem?_set_ne z]; exact h j v e
theorem ds_pass {pos : Pos} : DS X W [] (.Pass pos) sPass := fun kp _ => PS.imp ps_pass fun D σ H q => by
  obtain ⟨ev, F, L, E0, S, p, w, k1, _⟩ := q
  exact k1 ev σ F H L w Ext.refl S p
theorem ds_break {pos : Pos} : DS X W [] (.Break pos) sBreak := fun kp _ => PS.imp ps_break fun D σ H q => by
  obtain ⟨ev, F, L, E0, S, p, w, _, _, k1, _⟩ := q
  exact k1 ev σ F H L w Ext.refl S p
theorem ds_cont {pos : Pos} : DS X W [] (.Continue pos) sCont := fun kp _ => PS.imp ps_continue fun D σ H q => by
  obtain ⟨ev, F, L, E0, S, p, w, _, _, _, k1, _⟩ := q
  exact k1 ev σ F H L w Ext.refl S p
theorem ds_never {st : Stmt} : DS X W [] st sNever := fun kp _ => PS.imp ps_never fun D σ H q => by
  obtain ⟨ev, F, L, E0, S, p, w, _⟩ := q
  exact w.elim
theorem dss_nil : DSs X W [] [] sPass := fun kp _ => PSs.imp pss_nil fun D σ H q => by
  obtain ⟨ev, F, L, E0, S, p, w, k1, _⟩ := q
  exact k1 ev σ F H L w Ext.refl S p
theorem seq_run {w u : WS} {D : Ends} {σ : L2.St} {H : Hp} (q : liftS K W kp (sSeq w u) D σ H) : liftS K W kp w { D with nx := liftS K W kp u D } σ H := by
  obtain ⟨ev, F, L, E0, S, p, w, k1, k2, k3, k4, k5⟩ := q
  refine ⟨ev, F, L, _, S, p, w, fun ev' σ' F' H' L' q x S' p' => ?_, k2, k3, k4, k5⟩
  exact ⟨ev', F', L', E0, S', p', q, fun ev2 σ2 F2 H2 L2 q2 x2 => k1 ev2 σ2 F2 H2 L2 q2 (x.trans x2 S'.dj), fun t ev2 v σ2 F2 H2 L2 q2 x2 => k2 t ev2 v σ2 F2 H2 L2 q2 (x.trans x2 S'.dj),
    fun ev2 σ2 F2 H2 L2 q2 x2 => k3 ev2 σ2 F2 H2 L2 q2 (x.trans x2 S'.dj), fun ev2 σ2 F2 H2 L2 q2 x2 => k4 ev2 σ2 F2 H2 L2 q2 (x.trans x2 S'.dj), fun C ev2 σ2 F2 H2 L2 q2 x2 => k5 C ev2 σ2 F2 H2 L2 q2 (x.trans x2 S'.dj)⟩
theorem dss_cons {st : Stmt} {rest : List Stmt} {A B : List Nat} {w u : WS} (h : DS X W A st w) (r : DSs X W B rest u) : DSs X W (A ++ B) (st :: rest) (sSeq w u) := fun kp hk =>
  PSs.imp (pss_cons (h kp fun j m => hk j (List.mem_append_left _ m)) (r kp fun j m => hk j (List.mem_append_right _ m))) fun D σ H q => seq_run q
theorem dss_one {st : Stmt} {A : List Nat} {w : WS} (h : DS X W A st w) : DSs X W A [st] w := fun kp hk => pss_one (h kp hk)
/-- an expression and then -/
theorem e_run {w : WE} {Q : T → Ev → EndT → Prop} {D : Ends} {σ : L2.St} {H : Hp} {R : VK} (q : liftS K W kp (fun ev E => w ev (fun t ev' => Q t ev' E) E.xc) D σ H)
    (k : ∀ t v ev' F' H' L', St K F' H' (some t :: ev') (some v :: σ) L' → liftS K W kp (fun ev1 E => ev1 = ev' ∧ Q t ev' E) D σ H' → R v H') : liftE K W w σ H R := by
  obtain ⟨ev, F, L, E0, S, p, w, k1, k2, k3, k4, k5⟩ := q
  refine ⟨ev, F, L, _, _, S, w, fun t ev' v F' H' L' q x S' => ?_, fun C ev' F' H' L' q x S' => k5 C ev' σ F' H' L' q x S' p⟩
  obtain ⟨v', σ', M1, M2, e, el, o, oe⟩ := id S'.own
  cases e
  have Se : St K F' H' ev' σ M2 := ⟨oe, fun a => by have := S'.nd a; rw [el, List.count_append] at this; omega, fun a m => S'.dj a (by rw [el]; exact List.mem_append_right _ m), S'.dom⟩
  have xe : Ext F H L F' H' M2 := x.sub (fun _ m => m) fun a m => .inl (by rw [el]; exact List.mem_append_right _ m)
  refine k t v ev' F' H' L' S' ⟨ev', F', M2, E0, Se, p, ⟨rfl, q⟩, fun ev2 σ2 F2 H2 L2 q2 x2 => k1 ev2 σ2 F2 H2 L2 q2 (xe.trans x2 Se.dj), fun t ev2 v σ2 F2 H2 L2 q2 x2 => k2 t ev2 v σ2 F2 H2 L2 q2 (xe.trans x2 Se.dj),
    fun ev2 σ2 F2 H2 L2 q2 x2 => k3 ev2 σ2 F2 H2 L2 q2 (xe.trans x2 Se.dj), fun ev2 σ2 F2 H2 L2 q2 x2 => k4 ev2 σ2 F2 H2 L2 q2 (xe.trans x2 Se.dj), fun C ev2 σ2 F2 H2 L2 q2 x2 => k5 C ev2 σ2 F2 H2 L2 q2 (xe.trans x2 Se.dj)⟩
theorem ds_expr {e : Expr} {w : WE} {pos : Pos} (h : DE X W e w) (hs : swapsWith e none pos.line X.env = pure false := by rfl) : DS X W [] (.Expr e pos) (sE w) := fun kp _ => PS.imp (ps_expr h hs) fun D σ H q => by
  obtain ⟨ev, F, L, E0, S, p, w, k1, k2, k3, k4, k5⟩ := q
  refine ⟨ev, F, L, _, _, S, w, fun t ev' v F' H' L' q x S' => ?_, fun C ev' F' H' L' q x S' => k5 C ev' σ F' H' L' q x S' p⟩
  obtain ⟨v', σ', M1, M2, e, el, o, oe⟩ := id S'.own
  cases e
  exact k1 ev' σ F' H' M2 q (x.sub (fun _ m => m) fun a m => .inl (by rw [el]; exact List.mem_append_right _ m))
    ⟨oe, fun a => by have := S'.nd a; rw [el, List.count_append] at this; omega, fun a m => S'.dj a (by rw [el]; exact List.mem_append_right _ m), S'.dom⟩ p
theorem ds_ret {e : Expr} {w : WE} {pos : Pos} (h : DE X W e w) : DS X W [] (.Return (some e) pos) (sRet w) := fun kp _ => PS.imp (ps_ret h) fun D σ H q => by
  obtain ⟨ev, F, L, E0, S, p, w, k1, k2, k3, k4, k5⟩ := q
  exact ⟨ev, F, L, _, _, S, w, fun t ev' v F' H' L' q x S' => k2 t ev' v σ F' H' L' q x S' p, fun C ev' F' H' L' q x S' => k5 C ev' σ F' H' L' q x S' p⟩
theorem ds_retN {pos : Pos} : DS X W [] (.Return none pos) sRetN := fun kp _ => PS.imp ps_retN fun D σ H q => by
  obtain ⟨ev, F, L, E0, S, p, w, k1, k2, k3, k4, k5⟩ := q
  exact k2 .non ev .non σ F H ([] ++ L) w Ext.refl ⟨⟨.non, σ, [], L, rfl, rfl, ⟨rfl, rfl⟩, S.own⟩, S.nd, S.dj, S.dom⟩ p
/-- the answer goes into a slot -/
theorem St.store {F : Addr → Prop} {H : Hp} {ev : Ev} {σ : L2.St} {L : List Addr} {t : T} {v : V} {i : Nat} (S : St K F H (some t :: ev) (some v :: σ) L) (hi : i < ev.length) :
    ∃ L', St K F H (ev.set i (some t)) (σ.set i (some v)) L' ∧ ∀ a ∈ L', a ∈ L := by
  obtain ⟨v', σ', M1, M2, e, el, o, oe⟩ := id S.own
  cases e
  obtain ⟨L', r, s⟩ := oe.set hi (OwnE.one o)
  have sub : ∀ a : Nat, L'.count a ≤ L.count a := fun a => by
    have := s a
    rw [List.count_append] at this
    rw [el, List.count_append]; omega
  have mem : ∀ a ∈ L', a ∈ L := fun a m => Sub.mem (A := L') (B := L) sub m
  exact ⟨L', ⟨r, fun a => Nat.le_trans (sub a) (S.nd a), fun a m => S.dj a (mem a m), S.dom⟩, mem⟩
theorem ds_set {i : Nat} {x : Str} {e : Expr} {w : WE} {pos pos' : Pos} (hN : X.N.Nodup) (hi : X.N[i]? = some x) (hx : Loc X.env.scope x) (h : DE X W e w) (hs : swapsWith e (some (.Name x pos')) pos.line X.env = pure false := by rfl)
    (hf : X.fn x = true ∨ X.env.scope.names.lookup x = some .local := by first | exact .inl rfl | exact .inr rfl | assumption) : DS X W [i] (.Assign [.Name x pos'] e pos) (sSet i w) := fun kp hk => PS.imp (ps_set hN hi hx h hs hf) fun D σ H q => by
  obtain ⟨ev, F, L, E0, S, p, w, k1, k2, k3, k4, k5⟩ := q
  refine ⟨ev, F, L, _, _, S, w, fun t ev' v F' H' L' q x S' => ?_, fun C ev' F' H' L' q x S' => k5 C ev' σ F' H' L' q x S' p⟩
  obtain ⟨S2, S', m⟩ := S'.store q.1
  exact k1 _ _ F' H' _ q.2 (x.sub (fun _ m => m) fun a z => .inl (m a z)) S' (p.set (hk i (List.mem_singleton.mpr rfl)))
theorem if_run {c : WT} {a b : WS} {D : Ends} {σ : L2.St} {H : Hp} (q : liftS K W kp (sIf c a b) D σ H) : liftT K W c σ H fun k H1 => if k = true then liftS K W kp a D σ H1 else liftS K W kp b D σ H1 := by
  obtain ⟨ev, F, L, E0, S, p, w, k1, k2, k3, k4, k5⟩ := q
  refine ⟨ev, F, L, _, _, S, w, fun k ev' F' H' L' q x S' => ?_, fun C ev' F' H' L' q x S' => k5 C ev' σ F' H' L' q x S' p⟩
  have mk : ∀ u : WS, u ev' E0 → liftS K W kp u D σ H' := fun u q => ⟨ev', F', L', E0, S', p, q, fun ev2 σ2 F2 H2 L2 q2 x2 => k1 ev2 σ2 F2 H2 L2 q2 (x.trans x2 S'.dj), fun t ev2 v σ2 F2 H2 L2 q2 x2 => k2 t ev2 v σ2 F2 H2 L2 q2 (x.trans x2 S'.dj),
    fun ev2 σ2 F2 H2 L2 q2 x2 => k3 ev2 σ2 F2 H2 L2 q2 (x.trans x2 S'.dj), fun ev2 σ2 F2 H2 L2 q2 x2 => k4 ev2 σ2 F2 H2 L2 q2 (x.trans x2 S'.dj), fun C ev2 σ2 F2 H2 L2 q2 x2 => k5 C ev2 σ2 F2 H2 L2 q2 (x.trans x2 S'.dj)⟩
  cases k with
  | true => rw [if_pos rfl] at q; exact iteT (mk a q)
  | false => rw [if_neg Bool.false_ne_true] at q; exact iteF (mk b q)
theorem ds_if {c : Expr} {a b : List Stmt} {wc : WT} {wa wb : WS} {A B : List Nat} {pos : Pos} (hc : DT X W c wc) (ha : DSs X W A a wa) (hb : DSs X W B b wb) : DS X W (A ++ B) (.If c a b pos) (sIf wc wa wb) := fun kp hk =>
  PS.imp (ps_if hc (ha kp fun j m => hk j (List.mem_append_left _ m)) (hb kp fun j m => hk j (List.mem_append_right _ m))) fun D σ H q => by
    show liftT X.K W wc σ H fun b H1 => if b = true then _ else _
    exact if_run q
theorem ds_while {c : Expr} {b : List Stmt} {wc : WT} {wb : WS} {A : List Nat} {pos : Pos} (hp : PassesOwn (model X.prog X.w) X.A X.env X.xe) (hc : DT X W c wc) (hb : DSs X W A b wb) : DS X W A (.While c b [] pos) (sWhile wc wb) := fun kp hk =>
  PS.imp (ps_while hp hc (hb kp hk)) fun D σ H q => by
    obtain ⟨ev, F, L, E0, S, p, ⟨I, ⟨m0, i0⟩, turn⟩, k1, k2, k3, k4, k5⟩ := q
    refine ⟨fun m σ' H' => ∃ ev' F' L', I m ev' ∧ Ext F H L F' H' L' ∧ St X.K F' H' ev' σ' L' ∧ pin kp σ', ⟨m0, ev, F, L, i0, Ext.refl, S, p⟩, ?_⟩
    rintro m σ1 H1 ⟨ev1, F1, L1, i1, x1, S1, p1⟩
    refine ⟨ev1, F1, L1, _, _, S1, turn m ev1 i1, fun k ev2 F2 H2 L2 q x2 S2 => ?_, fun C ev2 F2 H2 L2 q x2 S2 => k5 C ev2 σ1 F2 H2 L2 q (x1.trans x2 S1.dj) S2 p1⟩
    have x12 := x1.trans x2 S1.dj
    cases k with
    | false =>
      rw [if_neg Bool.false_ne_true] at q
      exact iteF (k1 ev2 σ1 F2 H2 L2 q x12 S2 p1)
    | true =>
      rw [if_pos rfl] at q
      refine iteT ⟨fun σ' H' => ∃ m' ev' F' L', m' < m ∧ I m' ev' ∧ Ext F H L F' H' L' ∧ St X.K F' H' ev' σ' L' ∧ pin kp σ', fun σ' H' ⟨m', ev', F', L', hm, i', x', S', p'⟩ => ⟨m', hm, ev', F', L', i', x', S', p'⟩, ?_⟩
      refine ⟨ev2, F2, L2, _, S2, p1, q, fun ev' σ' F' H' L' z x S' p' => ?_, fun t ev' v σ' F' H' L' z x S' p' => k2 t ev' v σ' F' H' L' z (x12.trans x S2.dj) S' p', fun ev' σ' F' H' L' z x S' p' => k1 ev' σ' F' H' L' z (x12.trans x S2.dj) S' p',
        fun ev' σ' F' H' L' z x S' p' => ?_, fun C ev' σ' F' H' L' z x S' p' => k5 C ev' σ' F' H' L' z (x12.trans x S2.dj) S' p'⟩
      · obtain ⟨m', hm, i'⟩ := z
        exact ⟨m', ev', F', L', hm, i', x12.trans x S2.dj, S', p'⟩
      · obtain ⟨m', hm, i'⟩ := z
        exact ⟨m', ev', F', L', hm, i', x12.trans x S2.dj, S', p'⟩
end

/-! ### defs -/
def parm (A : List Nat) : Nat → Nat → Ev → List (Option T)
  | _, 0, _ => []
  | j, n + 1, [] => none :: parm A (j + 1) n []
  | j, n + 1, t :: ev => (if A.contains j then none else t) :: parm A (j + 1) n ev
def fnEnd (n : Nat) (A : List Nat) (Q : T → List (Option T) → Prop) (Xc : Addr → List (Option T) → Prop) : EndT where
  nx := fun ev => Q .non (parm A 0 n ev)
  rt := fun t ev => Q t (parm A 0 n ev)
  bk := fun _ => False
  ct := fun _ => False
  xc := fun C ev => Xc C (parm A 0 n ev)
def sp0 (n m : Nat) (ts : List T) : Ev := ts.map some ++ List.replicate (m - n) none
/-- the promise of a def whose body is w -/
def spW (n m : Nat) (A : List Nat) (w : WS) : SpT := fun ts Q Xc => ts.length = n ∧ w (sp0 n m ts) (fnEnd n A Q Xc)
theorem parm_ok {K : PySem.W.Frag} {F : Addr → Prop} {H : Hp} {A : List Nat} : ∀ {vs : List V} {ev : Ev} {σ : L2.St} {L : List Addr} {j : Nat}, OwnE K F H ev σ L → (∀ i v, vs[i]? = some v → A.contains (j + i) = false → σ[i]? = some (some v)) →
    ∃ L', OwnE K F H (parm A j vs.length ev) (vs.map some) L' ∧ ∀ a : Nat, L'.count a ≤ L.count a
  | [], ev, σ, L, j, h, p => ⟨[], by cases ev <;> exact ⟨rfl, rfl⟩, fun a => by simp⟩
  | v :: vs, [], σ, L, j, h, p => by
    obtain ⟨L', r, s⟩ := parm_ok (vs := vs) (j := j + 1) (ev := []) h (fun i u e1 e2 => by
      obtain ⟨e, _⟩ := h
      have := p (i + 1) u (by simpa using e1) (by rw [← e2]; congr 1; omega)
      rw [e] at this; simp at this)
    exact ⟨L', ⟨some v, vs.map some, rfl, r⟩, s⟩
  | v :: vs, none :: ev, σ, L, j, ⟨x, σ', e, h⟩, p => by
    obtain ⟨L', r, s⟩ := parm_ok (vs := vs) (j := j + 1) h (fun i u e1 e2 => by
      have := p (i + 1) u (by simpa using e1) (by rw [← e2]; congr 1; omega)
      rw [e] at this; simpa using this)
    refine ⟨L', ?_, s⟩
    show OwnE K F H ((if A.contains j = true then none else none) :: _) _ _
    rw [ite_self]
    exact ⟨some v, vs.map some, rfl, r⟩
  | v :: vs, some t :: ev, σ, L, j, ⟨u, σ', L1, L2, e, el, o, h⟩, p => by
    obtain ⟨L', r, s⟩ := parm_ok (vs := vs) (j := j + 1) h (fun i u e1 e2 => by
      have := p (i + 1) u (by simpa using e1) (by rw [← e2]; congr 1; omega)
      rw [e] at this; simpa using this)
    cases hc : A.contains j with
    | true =>
      refine ⟨L', ?_, fun a => by have := s a; rw [el, List.count_append]; omega⟩
      show OwnE K F H ((if A.contains j = true then none else some t) :: _) _ _
      rw [hc, if_pos rfl]
      exact ⟨some v, vs.map some, rfl, r⟩
    | false =>
      have q := p 0 v rfl (by simpa using hc)
      rw [e] at q
      have e2 : u = v := by simpa using q
      subst e2
      refine ⟨L1 ++ L', ?_, fun a => by have := s a; rw [el, List.count_append, List.count_append]; omega⟩
      show OwnE K F H ((if A.contains j = true then none else some t) :: _) _ _
      rw [hc, if_neg Bool.false_ne_true]
      exact ⟨u, vs.map some, L1, L', rfl, rfl, o, r⟩
/-- the context of a def's body -/
abbrev cxT (P : Program) (w : World) (K : PySem.W.Frag) (mg : Str → Option Value) (base : Heap) (N : List Str) (qual : Str) (st : Stmt) (f : Addr) (cdv : Value) (A : Around) (outer : List Env) (s : Shared) (H : Hp) (E : XK) : Cx :=
  cxOf (L2.CX P w) P w K mg base N qual (defScope st) f cdv A outer s H E
theorem fn_T {P : Program} {w : World} {K : PySem.W.Frag} {mg : Str → Option Value} {base : Heap} {x qual : Str} {st : Stmt} {f : Addr} {fd : FuncData} {N ps : List Str} {k : Nat} {A : List Nat} {wb : WS}
    (F : Fun K x qual st f fd) (S : FnScope N ps (defScope st))
    (hbody : ∀ (cdv : Value) (Ar : Around) (outer : List Env) (s : Shared) (H : Hp) (E : XK), Room k (Ar.deeper (envOfC qual (defScope st) s.heap.objs.size f cdv)) →
      Takes (cxT P w K mg base N qual st f cdv Ar outer s H E) (fun cls d _ H => E cls d H) → DSs (cxT P w K mg base N qual st f cdv Ar outer s H E) (fun cls d _ H => E cls d H) A (defBody st) wb)
    (hl : ps.length ≤ N.length := by decide) :
    FnOk P w K mg base (L2.CX P w) (k + 1) f fd ps (spT K (spW ps.length N.length A wb)) := by
  refine F.okX S (fun vs H Q E h => ?_) (fun cdv Ar outer s H vs Q E hr h => ?_)
  · obtain ⟨ts, F, L, Q0, X0, S0, ⟨hl, _⟩, _⟩ := h
    rw [← S0.own.len]; exact hl
  · obtain ⟨ts, F0, L, Q0, X0, S0, ⟨hlen, hw⟩, k1, k2⟩ := h
    have hv : vs.length = ps.length := by rw [← S0.own.len]; exact hlen
    let kp : KP := fun j => if A.contains j then none else vs[j]?
    refine ⟨_, hbody cdv Ar outer s H E hr (takes_of rfl rfl rfl rfl) kp (fun j m => ?_), ?_⟩
    · show (if A.contains j = true then none else vs[j]?) = none
      rw [List.contains_iff_mem.mpr m, if_pos rfl]
    have oe : OwnE K F0 H (sp0 ps.length N.length ts) (L2.start N vs) (L ++ []) := by
      unfold sp0 L2.start
      refine S0.own.env.app ?_
      have := OwnE.nones (K := K) (F := F0) (H := H) (List.replicate (N.length - vs.length) (none : Option V))
      rw [List.length_replicate, hv] at this
      rw [hv]; exact this
    rw [List.append_nil] at oe
    have pinOk : pin kp (L2.start N vs) := fun j v e => by
      have e' : (if A.contains j = true then none else vs[j]?) = some v := e
      split at e'
      · cases e'
      · obtain ⟨hj, ej⟩ := List.getElem?_eq_some_iff.mp e'
        unfold L2.start
        rw [List.getElem?_append_left (by simpa using hj), List.getElem?_map, e']
        rfl
    have back : ∀ {F' : Addr → Prop} {H' : Hp} {ev' : Ev} {σ' : L2.St} {L' : List Addr}, OwnE K F' H' ev' σ' L' → pin kp σ' → ∃ M, OwnE K F' H' (parm A 0 ps.length ev') (vs.map some) M ∧ ∀ a : Nat, M.count a ≤ L'.count a := fun {F' H' ev' σ' L'} o p => by
      have := parm_ok (A := A) (vs := vs) (j := 0) o (fun i v e1 e2 => p i v (by
        show (if A.contains i = true then none else vs[i]?) = some v
        rw [show A.contains i = false by simpa using e2, if_neg Bool.false_ne_true]; exact e1))
      rw [hv] at this
      exact this
    refine ⟨sp0 ps.length N.length ts, F0, L, fnEnd ps.length A Q0 X0, ⟨oe, S0.nd, S0.dj, S0.dom⟩, pinOk, hw, fun ev' σ' F' H' L' q x S' p' => ?_, fun t ev' v σ' F' H' L' q x S' p' => ?_, fun ev' σ' F' H' L' q => q.elim, fun ev' σ' F' H' L' q => q.elim, fun C ev' σ' F' H' L' q x S' p' => ?_⟩
    · obtain ⟨M, r, s⟩ := back S'.own p'
      have mem : ∀ a ∈ M, a ∈ L' := fun a m => Sub.mem (A := M) (B := L') s m
      exact k1 .non _ .non F' H' ([] ++ M) q (x.sub (fun _ m => m) fun a m => .inl (mem a m)) ⟨⟨.non, vs.map some, [], M, rfl, rfl, ⟨rfl, rfl⟩, r⟩, fun a => Nat.le_trans (s a) (S'.nd a), fun a m => S'.dj a (mem a m), S'.dom⟩
    · obtain ⟨v', σ'', M1, M2, e, el, o, oe'⟩ := id S'.own
      cases e
      obtain ⟨M, r, s⟩ := back oe' p'
      have sub : ∀ a : Nat, (M1 ++ M).count a ≤ L'.count a := fun a => by have := s a; rw [el, List.count_append, List.count_append]; omega
      have mem : ∀ a ∈ M1 ++ M, a ∈ L' := fun a m => Sub.mem (A := M1 ++ M) (B := L') sub m
      exact k1 t _ v F' H' (M1 ++ M) q (x.sub (fun _ m => m) fun a m => .inl (mem a m)) ⟨⟨v, vs.map some, M1, M, rfl, rfl, o, r⟩, fun a => Nat.le_trans (sub a) (S'.nd a), fun a m => S'.dj a (mem a m), S'.dom⟩
    · obtain ⟨M, r, s⟩ := back S'.own p'
      have mem : ∀ a ∈ M, a ∈ L' := fun a m => Sub.mem (A := M) (B := L') s m
      exact k2 C _ F' H' M q (x.sub (fun _ m => m) fun a m => .inl (mem a m)) ⟨r, fun a => Nat.le_trans (s a) (S'.nd a), fun a m => S'.dj a (mem a m), S'.dom⟩
/-- a weaker promise -/
theorem spT_imp {K : PySem.W.Frag} {S S' : SpT} (h : ∀ ts Q Xc, S' ts Q Xc → S ts Q Xc) : ∀ vs H Q E, spT K S' vs H Q E → spT K S vs H Q E := fun vs H Q E ⟨ts, F, L, Q0, X0, S0, hs, k1, k2⟩ => ⟨ts, F, L, Q0, X0, S0, h _ _ _ hs, k1, k2⟩
theorem FnOk.promise {P : Program} {w : World} {K : PySem.W.Frag} {mg : Str → Option Value} {base : Heap} {CX : CXT} {k : Nat} {f : Addr} {fd : FuncData} {ps : List Str} {S S' : SpT} (F : FnOk P w K mg base CX k f fd ps (spT K S)) (h : ∀ ts Q Xc, S' ts Q Xc → S ts Q Xc) :
    FnOk P w K mg base CX k f fd ps (spT K S') := F.imp (spT_imp h)
end TL

/-! TL6: targets, what is walked, for, list comprehensions. -/
namespace TL
open PySem PySem.Spec PyProof.Rows L2

/-- children, given out shared -/
def T.kids : T → Option (List T)
  | .lst xs => if xs.all T.shr then some xs else none
  | .tup xs => if xs.all T.shr then some xs else none
  | .fz (.lst xs) => some (xs.map T.frz)
  | .fz (.tup xs) => some (xs.map T.frz)
  | _ => none
/-- children, given away -/
def T.moved : T → Option (List T)
  | .lst xs => some xs
  | .tup xs => some xs
  | .fz (.lst xs) => some (xs.map T.frz)
  | .fz (.tup xs) => some (xs.map T.frz)
  | _ => none
abbrev WG := T → Ev → (Ev → Prop) → Prop
structure TgOk (K : PySem.W.Frag) (A : List Nat) (g : TG) (wg : WG) : Prop where
  run : ∀ (t : T) (v : V) (ev : Ev) (σ : L2.St) (F : Addr → Prop) (H : Hp) (L : List Addr) (Q : Ev → Prop) (R : L2.St → Hp → Prop), St K F H (some t :: ev) (some v :: σ) L → wg t ev Q →
    (∀ ev' σ' F' H' L', Q ev' → Ext F H L F' H' L' → St K F' H' ev' σ' L' → (∀ j, j ∉ A → σ'[j]? = σ[j]?) → σ'.length = σ.length → R σ' H') → g v σ H R
structure DG (X : Cx) (A : List Nat) (tg : Expr) (g : TG) (wg : WG) : Prop where
  pg : PG X tg g
  ok : TgOk X.K A g wg
def gN (i : Nat) : WG := fun t ev Q => i < ev.length ∧ Q (ev.set i (some t))
def setAll : List Nat → List T → Ev → Ev
  | i :: is, t :: ts, ev => setAll is ts (ev.set i (some t))
  | _, _, ev => ev
def gNs (is : List Nat) : WG := fun t ev Q => ∃ ts, t.moved = some ts ∧ ts.length = is.length ∧ (is.all fun i => decide (i < ev.length)) = true ∧ Q (setAll is ts ev)

section
variable {X : Cx} {K : PySem.W.Frag} {F F' : Addr → Prop} {H H' : Hp} {σ : L2.St} {ev : Ev} {L L' : List Addr}
theorem gN_ok {i : Nat} : TgOk K [i] (gName i) (gN i) := ⟨fun t v ev σ F H L Q R S w k => by
  obtain ⟨L', S', m⟩ := S.store w.1
  exact k _ _ F H L' w.2 ⟨fun _ z => z, fun _ _ _ z => z, fun a q => q.elim .inl fun z => .inr (.inl (m a z))⟩ S' (fun j hj => List.getElem?_set_ne (fun e => hj (by rw [e]; exact List.mem_singleton.mpr rfl))) (by simp)⟩
theorem dg_name {i : Nat} {x : Str} {pos : Pos} (hN : X.N.Nodup) (hi : X.N[i]? = some x) (hx : Loc X.env.scope x) (hf : X.fn x = true ∨ X.env.scope.names.lookup x = some .local := by first | exact .inl rfl | exact .inr rfl | assumption) : DG X [i] (.Name x pos) (gName i) (gN i) := ⟨pg_name hN hi hx hf, gN_ok⟩
/-- several names -/
def gNamesT : List Nat → TGs
  | [] => gNil
  | i :: is => gCons (gName i) (gNamesT is)
theorem setAll_len : ∀ {is : List Nat} {ts : List T} {ev : Ev}, (setAll is ts ev).length = ev.length
  | [], _, _ => by unfold setAll; rfl
  | i :: is, [], ev => by unfold setAll; rfl
  | i :: is, t :: ts, ev => by
    show (setAll is ts (ev.set i (some t))).length = _
    rw [setAll_len]; simp
theorem names_run : ∀ {is : List Nat} {ts : List T} {vs : List V} {ev : Ev} {σ : L2.St} {L Lt : List Addr} {R : L2.St → Hp → Prop}, OwnE K F H ev σ L → Owns K F H ts vs Lt → (∀ a : Nat, L.count a + Lt.count a ≤ 1) → ts.length = is.length → (is.all fun i => decide (i < ev.length)) = true →
    (∀ σ' L', OwnE K F H (setAll is ts ev) σ' L' → (∀ a : Nat, L'.count a ≤ L.count a + Lt.count a) → (∀ j, j ∉ is → σ'[j]? = σ[j]?) → σ'.length = σ.length → R σ' H) → gNamesT is vs σ H R
  | [], [], vs, ev, σ, L, Lt, R, h, ⟨e, el⟩, nd, hl, hi, k => ⟨e, k σ L h (fun a => by omega) (fun j _ => rfl) rfl⟩
  | [], t :: ts, _, _, _, _, _, _, _, _, _, hl, _, _ => by simp at hl
  | i :: is, [], _, _, _, _, _, _, _, _, _, hl, _, _ => by simp at hl
  | i :: is, t :: ts, vs, ev, σ, L, Lt, R, h, ⟨v, vs', L1, L2, e, el, o, r⟩, nd, hl, hi, k => by
    simp only [List.all_cons, Bool.and_eq_true, decide_eq_true_eq] at hi
    refine ⟨v, vs', e, ?_⟩
    obtain ⟨L', q1, q2⟩ := h.set hi.1 (OwnE.one o)
    refine names_run (ts := ts) q1 r (fun a => ?_) (by simpa using hl) (by simpa using hi.2) fun σ' L'' q3 q4 q5 q6 => k σ' L'' q3 (fun a => ?_) (fun j hj => ?_) (by rw [q6]; simp)
    · have h1 := q2 a; have h2 := nd a
      rw [el] at h2
      simp only [List.count_append] at *; omega
    · have h1 := q2 a; have h2 := q4 a
      rw [el]
      simp only [List.count_append] at *; omega
    · rw [q5 j (fun m => hj (List.mem_cons_of_mem _ m)), List.getElem?_set_ne (fun e => hj (by rw [e]; exact List.mem_cons_self))]
theorem St.pop {t : T} {v : V} (S : St K F H (some t :: ev) (some v :: σ) L) : ∃ L1 L2, L = L1 ++ L2 ∧ Own K F H t v L1 ∧ OwnE K F H ev σ L2 := by
  obtain ⟨v', σ', M1, M2, e, el, o, oe⟩ := S.own
  cases e
  exact ⟨M1, M2, el, o, oe⟩
theorem St.tail {t : T} {v : V} (S : St K F H (some t :: ev) (some v :: σ) L) : ∃ L2, St K F H ev σ L2 ∧ ∀ a ∈ L2, a ∈ L := by
  obtain ⟨L1, L2, el, o, oe⟩ := S.pop
  exact ⟨L2, ⟨oe, fun a => by have := S.nd a; rw [el, List.count_append] at this; omega, fun a m => S.dj a (by rw [el]; exact List.mem_append_right _ m), S.dom⟩, fun a m => by rw [el]; exact List.mem_append_right _ m⟩
/-- the children of what is moved -/
theorem moved_seq {t : T} {v : V} {ts : List T} (o : Own K F H t v L) (h : t.moved = some ts) : ∃ a vs Lc, v = .ref a ∧ (H a = some (.lst vs) ∨ H a = some (.tup vs)) ∧ Owns K F H ts vs Lc ∧ ∀ a : Nat, Lc.count a ≤ L.count a := by
  unfold T.moved at h
  split at h <;> try cases h
  · obtain ⟨a, vs, L', e, el, hH, r⟩ := o
    exact ⟨a, vs, L', e, .inl hH, r, fun b => by rw [el, List.count_cons]; omega⟩
  · obtain ⟨a, vs, L', e, el, hH, r⟩ := o
    exact ⟨a, vs, L', e, .inr hH, r, fun b => by rw [el, List.count_cons]; omega⟩
  · obtain ⟨el, a, vs, e, fa, hH, r⟩ := o
    exact ⟨a, vs, [], e, .inl hH, r.owns, fun b => by simp⟩
  · obtain ⟨el, a, vs, e, fa, hH, r⟩ := o
    exact ⟨a, vs, [], e, .inr hH, r.owns, fun b => by simp⟩
def T.isTup : T → Bool
  | .tup _ => true
  | .fz (.tup _) => true
  | _ => false
def T.isLst : T → Bool
  | .lst _ => true
  | .fz (.lst _) => true
  | _ => false
theorem isTup_seq {t : T} {v : V} (o : Own K F H t v L) (h : t.isTup = true) : ∃ a vs, v = .ref a ∧ H a = some (.tup vs) := by
  unfold T.isTup at h
  split at h <;> try cases h
  · obtain ⟨a, vs, L', e, el, hH, r⟩ := o
    exact ⟨a, vs, e, hH⟩
  · obtain ⟨el, a, vs, e, fa, hH, r⟩ := o
    exact ⟨a, vs, e, hH⟩
theorem isLst_seq {t : T} {v : V} (o : Own K F H t v L) (h : t.isLst = true) : ∃ a vs, v = .ref a ∧ H a = some (.lst vs) := by
  unfold T.isLst at h
  split at h <;> try cases h
  · obtain ⟨a, vs, L', e, el, hH, r⟩ := o
    exact ⟨a, vs, e, hH⟩
  · obtain ⟨el, a, vs, e, fa, hH, r⟩ := o
    exact ⟨a, vs, e, hH⟩
def gTp (is : List Nat) : WG := fun t ev Q => t.isTup = true ∧ gNs is t ev Q
def gLs (is : List Nat) : WG := fun t ev Q => t.isLst = true ∧ gNs is t ev Q
theorem unpack_ok {is : List Nat} {t : T} {v : V} {Q : Ev → Prop} {R : L2.St → Hp → Prop} (S : St K F H (some t :: ev) (some v :: σ) L) (w : gNs is t ev Q)
    (k : ∀ ev' σ' F' H' L', Q ev' → Ext F H L F' H' L' → St K F' H' ev' σ' L' → (∀ j, j ∉ is → σ'[j]? = σ[j]?) → σ'.length = σ.length → R σ' H') : ∃ a vs, v = .ref a ∧ (H a = some (.lst vs) ∨ H a = some (.tup vs)) ∧ vs.length = is.length ∧ gNamesT is vs σ H R := by
  obtain ⟨ts, hm, hl, hi, hq⟩ := w
  obtain ⟨L1, L2, el, o, oe⟩ := S.pop
  obtain ⟨a, vs, Lc, e, hH, r, hc⟩ := moved_seq o hm
  refine ⟨a, vs, e, hH, by rw [← r.len]; exact hl, names_run oe r (fun b => ?_) hl hi fun σ' L' q1 q2 q3 q6 => k _ σ' F H L' hq ⟨fun _ z => z, fun _ _ _ z => z, fun b q => ?_⟩ ⟨q1, fun b => ?_, fun b m => ?_, S.dom⟩ q3 q6⟩
  · have h1 := S.nd b; have h2 := hc b
    rw [el, List.count_append] at h1; omega
  · rcases q with q | q
    · exact .inl q
    · refine .inr (.inl ?_)
      rw [mem_iff_count] at q ⊢
      have h1 := q2 b; have h2 := hc b
      rw [el, List.count_append]; omega
  · have h1 := S.nd b; have h2 := hc b; have h3 := q2 b
    rw [el, List.count_append] at h1; omega
  · refine S.dj b ?_
    rw [mem_iff_count] at m ⊢
    have h1 := q2 b; have h2 := hc b
    rw [el, List.count_append]; omega
theorem gTp_ok {is : List Nat} {n : Nat} (hn : is.length = n) : TgOk K is (gTup K n (gNamesT is)) (gTp is) := ⟨fun t v ev σ F H L Q R S w k => by
  obtain ⟨L1, L2, el, o, oe⟩ := S.pop
  obtain ⟨a1, vs1, e1, h1⟩ := isTup_seq o w.1
  obtain ⟨a, vs, e, hH, hl, q⟩ := unpack_ok S w.2 k
  rw [e1] at e; cases e
  rcases hH with hH | hH
  · rw [h1] at hH; cases hH
  · exact ⟨a1, vs, e1, SqT.of hH, by rw [hl, hn], q⟩⟩
theorem gLs_ok {is : List Nat} {n : Nat} (hn : is.length = n) : TgOk K is (gLst K n (gNamesT is)) (gLs is) := ⟨fun t v ev σ F H L Q R S w k => by
  obtain ⟨L1, L2, el, o, oe⟩ := S.pop
  obtain ⟨a1, vs1, e1, h1⟩ := isLst_seq o w.1
  obtain ⟨a, vs, e, hH, hl, q⟩ := unpack_ok S w.2 k
  rw [e1] at e; cases e
  rcases hH with hH | hH
  · exact ⟨a1, vs, e1, SqL.of hH, by rw [hl, hn], q⟩
  · rw [h1] at hH; cases hH⟩
theorem dg_tup {is : List Nat} {n k : Nat} {es : List Expr} {pos : Pos} (hc : X.calm = true) (h : PGs X es (gNamesT is)) (hl : is.length = n := by rfl) (hn : (assignEach es X.env).length = n := by rfl) (hst : (assignEach es X.env).findIdx? (·.1) = none := by rfl) :
    DG X is (.Tuple es k pos) (gTup X.K n (gNamesT is)) (gTp is) := ⟨pg_tup hc h hn hst, gTp_ok hl⟩
theorem dg_lst {is : List Nat} {n k : Nat} {es : List Expr} {pos : Pos} (hc : X.calm = true) (h : PGs X es (gNamesT is)) (hl : is.length = n := by rfl) (hn : (assignEach es X.env).length = n := by rfl) (hst : (assignEach es X.env).findIdx? (·.1) = none := by rfl) :
    DG X is (.Tuple es k pos) (gLst X.K n (gNamesT is)) (gLs is) := ⟨pg_lst hc h hn hst, gLs_ok hl⟩
end

/-! ### what is walked -/
structure IterT where
  n : Nat
  Y : Nat → T
  stay : Ev → Prop
abbrev WI := Ev → (IterT → Ev → Prop) → XP → Prop
def pinx (px : List Nat) (σ σ' : L2.St) : Prop := ∀ x ∈ px, ∀ v, σ[x]? = some (some v) → σ'[x]? = some (some v)
section
variable (K : PySem.W.Frag)
def ItOk (J : It) (it : IterT) (px : List Nat) (σ : L2.St) (F1 : Addr → Prop) (H1 : Hp) (L1 : List Addr) : Prop :=
  ∀ (k : Nat) (ev : Ev) (σ' : L2.St) (F : Addr → Prop) (H : Hp) (L : List Addr), pinx px σ σ' → Ext F1 H1 L1 F H L → St K F H ev σ' L → it.stay ev →
    (k < it.n → J.go k H ∧ ∀ x H', J.yld k H x H' → ∃ F' L', Ext F H L F' H' L' ∧ St K F' H' (some (it.Y k) :: ev) (some x :: σ') L') ∧ (k = it.n → J.stop k H)
def liftI (W : WX) (px : List Nat) (wi : WI) : TI := fun σ H R => ∃ ev F L Q0 X0, St K F H ev σ L ∧ wi ev Q0 X0 ∧
  (∀ it ev' J F' H' L', Q0 it ev' → Ext F H L F' H' L' → St K F' H' ev' σ L' → ItOk K J it px σ F' H' L' → R J H') ∧
  (∀ C ev' F' H' L', X0 C ev' → Ext F H L F' H' L' → St K F' H' ev' σ L' → W (.ref C) none σ H')
end
def DI (X : Cx) (W : WX) (px : List Nat) (tg iter : Expr) (wi : WI) : Prop := PI X tg iter (liftI X.K W px wi)
def sFor (wi : WI) (wg : WG) (wb : WS) : WS := fun ev E => wi ev (fun it ev1 => ∃ I : Nat → Ev → Prop, I 0 ev1 ∧ (∀ k ev, k ≤ it.n → I k ev → it.stay ev) ∧
  (∀ k ev, k < it.n → I k ev → wg (it.Y k) ev (fun ev2 => wb ev2 { nx := I (k + 1), ct := I (k + 1), bk := E.nx, rt := E.rt, xc := E.xc })) ∧ (∀ ev, I it.n ev → E.nx ev)) E.xc
section
variable {X : Cx} {W : WX}
theorem PI.imp {tg iter : Expr} {t t' : TI} (h : PI X tg iter t) (k : ∀ σ H R, t' σ H R → t σ H R) : PI X tg iter t' := ⟨fun pins s σ H R I q => h.run pins s σ H R I (k σ H R q)⟩
theorem pinx.refl {px : List Nat} {σ : L2.St} : pinx px σ σ := fun _ _ _ e => e
theorem ds_for {tg iter : Expr} {body : List Stmt} {wi : WI} {g : TG} {wg : WG} {wb : WS} {A B px : List Nat} {pos : Pos} (hp : PassesOwn (model X.prog X.w) X.A X.env X.xe) (hc : X.calm = true) (hi : DI X W px tg iter wi) (hg : DG X A tg g wg) (hb : DSs X W B body wb)
    (hpx : (px.all fun x => !(A ++ B).contains x) = true := by rfl) (hs : ∀ x, foldedSetIterable iter X.env x = pure x := by intro _; rfl) : DS X W (A ++ B) (.For tg iter body [] pos) (sFor wi wg wb) := fun kp hk => by
  have hb' : PSs X body (fun D σ H => ∃ kp' : KP, (∀ j ∈ B, kp' j = none) ∧ liftS X.K W kp' wb D σ H) := ⟨fun pins s σ H D I ⟨kp', h1, h2⟩ => (hb kp' h1).run pins s σ H D I h2⟩
  refine PS.imp (ps_for hp hc hi hg.pg hb' hs) fun D σ H q => ?_
  obtain ⟨ev, F, L, E0, S, p, w, k1, k2, k3, k4, k5⟩ := q
  have npx : ∀ x ∈ px, x ∉ A ∧ x ∉ B := fun x m => by
    have := List.all_eq_true.mp hpx x m
    simp at this
    exact this
  refine ⟨ev, F, L, _, _, S, w, fun it ev1 J F1 H1 L1 q x1 S1 ok => ?_, fun C ev' F' H' L' q x S' => k5 C ev' σ F' H' L' q x S' p⟩
  obtain ⟨I, i0, st, turn, fin⟩ := q
  refine ⟨fun i m σ' H' => m = it.n - i ∧ i ≤ it.n ∧ ∃ ev' F' L', I i ev' ∧ Ext F1 H1 L1 F' H' L' ∧ St X.K F' H' ev' σ' L' ∧ pin kp σ' ∧ pinx px σ σ', ⟨it.n, by simp, Nat.zero_le _, ev1, F1, L1, i0, Ext.refl, S1, p, pinx.refl⟩, ?_⟩
  rintro i m σ2 H2 ⟨rfl, hi, ev2, F2, L2, i2, x2, S2, p2, px2⟩
  obtain ⟨hgo, hstop⟩ := ok i ev2 σ2 F2 H2 L2 px2 x2 S2 (st i ev2 hi i2)
  have x12 := x1.trans x2 S1.dj
  by_cases hlt : i < it.n
  · obtain ⟨go, yl⟩ := hgo hlt
    refine .inr ⟨go, fun σ' H' => ∃ ev' F' L', I (i + 1) ev' ∧ Ext F1 H1 L1 F' H' L' ∧ St X.K F' H' ev' σ' L' ∧ pin kp σ' ∧ pinx px σ σ', fun σ' H' z => ⟨it.n - (i + 1), by omega, rfl, hlt, z⟩, fun x H3 hy => ?_⟩
    obtain ⟨F3, L3, x3, S3⟩ := yl x H3 hy
    have x23 := x2.trans x3 S2.dj
    refine hg.ok.run (it.Y i) x ev2 σ2 F3 H3 L3 _ _ S3 (turn i ev2 hlt i2) fun ev4 σ4 F4 H4 L4 q4 x4 S4 hj _ => ?_
    have x24 := x23.trans x4 S3.dj
    have x14 := x1.trans x24 S1.dj
    -- the body
    let kp' : KP := fun j => if px.contains j then (σ[j]?).join else kp j
    have hσ4 : ∀ j ∈ px, ∀ v, σ[j]? = some (some v) → σ4[j]? = some (some v) := fun j m v e => by rw [hj j (npx j m).1]; exact px2 j m v e
    have pk : ∀ σ' : _root_.L2.St, pin kp' σ' → pin kp σ' ∧ pinx px σ σ' := fun σ' h => by
      have h2 : pinx px σ σ' := fun j m v e => h j v (by
        show (if px.contains j = true then (σ[j]?).join else kp j) = some v
        rw [List.contains_iff_mem.mpr m, if_pos rfl, e]; rfl)
      refine ⟨fun j v e => ?_, h2⟩
      by_cases m : j ∈ px
      · exact h2 j m v (p j v e)
      · exact h j v (by
          show (if px.contains j = true then (σ[j]?).join else kp j) = some v
          rw [if_neg (by simpa using m)]; exact e)
    refine ⟨kp', fun j m => ?_, ev4, F4, L4, _, S4, fun j v e => ?_, q4, fun ev' σ' F' H' L' z x S' p' => ?_, fun t ev' v σ' F' H' L' z x S' p' => k2 t ev' v σ' F' H' L' z (x14.trans x S4.dj) S' (pk _ p').1, fun ev' σ' F' H' L' z x S' p' => k1 ev' σ' F' H' L' z (x14.trans x S4.dj) S' (pk _ p').1,
      fun ev' σ' F' H' L' z x S' p' => ?_, fun C ev' σ' F' H' L' z x S' p' => k5 C ev' σ' F' H' L' z (x14.trans x S4.dj) S' (pk _ p').1⟩
    · show (if px.contains j = true then (σ[j]?).join else kp j) = none
      rw [if_neg (by simp; exact fun m2 => (npx j m2).2 m)]
      exact hk j (List.mem_append_right _ m)
    · have e' : (if px.contains j = true then (σ[j]?).join else kp j) = some v := e
      by_cases m : j ∈ px
      · rw [List.contains_iff_mem.mpr m, if_pos rfl] at e'
        refine hσ4 j m v ?_
        cases e2 : σ[j]? with
        | none => rw [e2] at e'; cases e'
        | some u => rw [e2] at e'; exact congrArg some e'
      · rw [if_neg (by simpa using m)] at e'
        by_cases ma : j ∈ A
        · rw [hk j (List.mem_append_left _ ma)] at e'; cases e'
        · rw [hj j ma]; exact p2 j v e'
    · exact ⟨ev', F', L', z, x24.trans x S4.dj, S', (pk _ p').1, (pk _ p').2⟩
    · exact ⟨ev', F', L', z, x24.trans x S4.dj, S', (pk _ p').1, (pk _ p').2⟩
  · have e : i = it.n := by omega
    subst e
    exact .inl ⟨hstop rfl, k1 ev2 σ2 F2 H2 L2 (fin ev2 i2) x12 S2 p2⟩
end
end TL

/-! TL7: lists, tuples, enumerate, zip, range as what is walked; comprehensions. -/
namespace TL
open PySem PySem.Spec PyProof.Rows L2
section
variable {K : PySem.W.Frag} {F F' : Addr → Prop} {H H' : Hp} {σ : L2.St} {ev : Ev} {L L' : List Addr} {W : WX}
/-- a new object beside -/
theorem keep_new {p : Addr} {o : HO} (hp : H p = none) : ∀ a u, H a = some u → upd H p o a = some u := fun a u e => by rw [upd_ne (ne_of_none e hp)]; exact e
theorem St.new {p : Addr} (S : St K F H ev σ L) (hp : H p = none) (o : HO) : St K F (upd H p o) ev σ L ∧ Ext F H L F (upd H p o) L :=
  ⟨⟨S.own.mono (fun _ z => z) fun a u _ e => keep_new hp a u e, S.nd, S.dj, fun a fa e => by
    cases q : H a with
    | none => exact S.dom a fa q
    | some u => rw [keep_new hp a u q] at e; cases e⟩, fun _ z => z, fun a u _ e => keep_new hp a u e, fun a q => q.elim .inl fun z => .inr (.inl z)⟩
theorem St.apart_new {p : Addr} (S : St K F H ev σ L) (hp : H p = none) : p ∉ L ∧ ¬ F p := ⟨fun m => S.own.dom p m hp, fun m => S.dom p m hp⟩
/-- a new owned cell over shared children -/
theorem St.cell {p : Addr} {o : HO} {t : T} (S : St K F H ev σ L) (hp : H p = none) (h : Own K F (upd H p o) t (.ref p) [p]) :
    ∃ L', Ext F H L F (upd H p o) L' ∧ St K F (upd H p o) (some t :: ev) (some (.ref p) :: σ) L' := by
  obtain ⟨S', x⟩ := S.new hp o
  obtain ⟨n1, n2⟩ := S.apart_new hp
  refine ⟨[p] ++ L, ⟨x.fr, x.keep, fun a q => ?_⟩, ⟨_, σ, [p], L, rfl, rfl, h, S'.own⟩, fun a => ?_, fun a m => ?_, S'.dom⟩
  · rcases q with q | q
    · exact .inl q
    · rcases List.mem_append.mp q with q | q
      · rw [List.mem_singleton.mp q]; exact .inr (.inr hp)
      · exact .inr (.inl q)
  · rw [List.count_append]
    have h1 := S.nd a
    by_cases e : a = p
    · subst e
      have := count_zero_of_not_mem n1
      simp; omega
    · have : [p].count a = 0 := List.count_eq_zero.mpr (fun m => e (List.mem_singleton.mp m))
      omega
  · rcases List.mem_append.mp m with m | m
    · rw [List.mem_singleton.mp m]; exact n2
    · exact S.dj a m

theorem kids_seq {t : T} {v : V} {items : List T} (o : Own K F H t v L) (h : t.kids = some items) : ∃ a vs, v = .ref a ∧ (t.isLst = true → H a = some (.lst vs)) ∧ (t.isTup = true → H a = some (.tup vs)) ∧ Owns K F H items vs [] := by
  unfold T.kids at h
  split at h
  · rename_i xs
    split at h <;> cases h
    rename_i hs
    obtain ⟨a, vs, L', e, el, hH, r⟩ := o
    have z := r.shr hs
    subst z
    exact ⟨a, vs, e, fun _ => hH, (fun z => nomatch z), r⟩
  · rename_i xs
    split at h <;> cases h
    rename_i hs
    obtain ⟨a, vs, L', e, el, hH, r⟩ := o
    have z := r.shr hs
    subst z
    exact ⟨a, vs, e, (fun z => nomatch z), fun _ => hH, r⟩
  · cases h
    obtain ⟨el, a, vs, e, fa, hH, r⟩ := o
    exact ⟨a, vs, e, fun _ => hH, (fun z => nomatch z), r.owns⟩
  · cases h
    obtain ⟨el, a, vs, e, fa, hH, r⟩ := o
    exact ⟨a, vs, e, (fun z => nomatch z), fun _ => hH, r.owns⟩
  · cases h

/-! ### a list or a tuple that is walked -/
def T.isSeq (b : Bool) (t : T) : Bool := if b then t.isTup else t.isLst
def HSeq (b : Bool) (H : Hp) (a : Addr) (vs : List V) : Prop := if b then H a = some (.tup vs) else H a = some (.lst vs)
def wSrc (b : Bool) : Arg → (List T → (Ev → Prop) → Ev → Prop) → XP → Ev → Prop
  | .pl x, Q, _, ev => ∃ t items, ev[x]? = some (some t) ∧ t.kids = some items ∧ t.isSeq b = true ∧ Q items (fun ev' => ev'[x]? = some (some t)) ev
  | .vl w, Q, X, ev => w ev (fun t ev' => ∃ items, t.frz.kids = some items ∧ t.isSeq b = true ∧ Q items (fun _ => True) ev') X
def pxOf : Arg → List Nat
  | .pl x => [x]
  | .vl _ => []
variable (K) in
def SrcOk (b : Bool) (a : Addr) (items : List T) (px : List Nat) (σ : L2.St) (stay : Ev → Prop) (F1 : Addr → Prop) (H1 : Hp) (L1 : List Addr) : Prop :=
  ∀ (ev : Ev) (σ' : L2.St) (F : Addr → Prop) (H : Hp) (L : List Addr), pinx px σ σ' → Ext F1 H1 L1 F H L → St K F H ev σ' L → stay ev → ∃ vs, HSeq b H a vs ∧ Owns K F H items vs []
theorem SrcOk.later {b : Bool} {a : Addr} {items : List T} {px qx : List Nat} {stay stay' : Ev → Prop} {F1 F2 : Addr → Prop} {H1 H2 : Hp} {L1 L2 : List Addr} (s : SrcOk K b a items px σ stay F1 H1 L1) (x : Ext F1 H1 L1 F2 H2 L2) (dj : ∀ a ∈ L2, ¬ F2 a) (hp : ∀ y ∈ px, y ∈ qx) (hs : ∀ ev, stay' ev → stay ev) :
    SrcOk K b a items qx σ stay' F2 H2 L2 := fun ev σ' F H L p x2 S st => s ev σ' F H L (fun y m v e => p y (hp y m) v e) (x.trans x2 dj) S (hs ev st)
theorem src_run {b : Bool} {o : Arg} {Q : List T → (Ev → Prop) → Ev → Prop} {Xc : XP} {R : VK} (S : St K F H ev σ L) (w : wSrc b o Q Xc ev)
    (k : ∀ a items stay ev' F' H' L', Q items stay ev' → Ext F H L F' H' L' → St K F' H' ev' σ L' → stay ev' → SrcOk K b a items (pxOf o) σ stay F' H' L' → R (.ref a) H')
    (kx : ∀ C ev' F' H' L', Xc C ev' → Ext F H L F' H' L' → St K F' H' ev' σ L' → W (.ref C) none σ H') : tOf K W o σ H R := by
  cases o with
  | pl x =>
    obtain ⟨t, items, et, hk, hb, q⟩ := w
    obtain ⟨v, e1⟩ := S.own.slot et
    have src : ∀ (ev2 : Ev) (σ' : L2.St) (F2 : Addr → Prop) (H2 : Hp) (M : List Addr), pinx [x] σ σ' → St K F2 H2 ev2 σ' M → ev2[x]? = some (some t) → ∃ a vs, v = .ref a ∧ HSeq b H2 a vs ∧ Owns K F2 H2 items vs [] := fun ev2 σ' F2 H2 M p S2 e2 => by
      obtain ⟨v', L1, L2, e3, _, o, _⟩ := S2.own.get e2
      have := p x (List.mem_singleton.mpr rfl) v e1
      rw [e3] at this
      cases this
      obtain ⟨a, vs, ea, h1, h2, r⟩ := kids_seq o hk
      refine ⟨a, vs, ea, ?_, r⟩
      cases b with
      | true => exact h2 hb
      | false => exact h1 hb
    obtain ⟨a, vs, ea, _, _⟩ := src ev σ F H L pinx.refl S et
    refine ⟨v, e1, ?_⟩
    subst ea
    refine k a items _ ev F H L q Ext.refl S et fun ev2 σ' F2 H2 M p x2 S2 st => ?_
    obtain ⟨a2, vs2, ea2, h2, r2⟩ := src ev2 σ' F2 H2 M p S2 st
    cases ea2
    exact ⟨vs2, h2, r2⟩
  | vl w1 =>
    refine ⟨ev, F, L, _, Xc, S, w, fun t ev1 v F1 H1 L1 q x1 S1 => ?_, kx⟩
    obtain ⟨items, hk, hb, q⟩ := q
    obtain ⟨M1, M2, el, o, oe⟩ := S1.pop
    -- freeze it
    have o' : Own K (fun a => F1 a ∨ a ∈ M1) H1 t.frz v [] := o.frz (fun _ => .inl) (fun _ => .inr)
    have S2 : St K (fun a => F1 a ∨ a ∈ M1) H1 ev1 σ M2 := ⟨oe.mono (fun _ => .inl) fun _ _ _ z => z, fun a => by have := S1.nd a; rw [el, List.count_append] at this; omega, fun a m q => by
      rcases q with q | q
      · exact S1.dj a (by rw [el]; exact List.mem_append_right _ m) q
      · have h1 := List.count_pos_iff.mpr m
        have h2 := List.count_pos_iff.mpr q
        have h3 := S1.nd a
        rw [el, List.count_append] at h3; omega, fun a q => q.elim (S1.dom a) (o.dom a)⟩
    have x2 : Ext F H L (fun a => F1 a ∨ a ∈ M1) H1 M2 := ⟨fun a z => .inl (x1.fr a z), x1.keep, fun a q => by
      rcases q with (q | q) | q
      · exact x1.new a (.inl q)
      · exact x1.new a (.inr (by rw [el]; exact List.mem_append_left _ q))
      · exact x1.new a (.inr (by rw [el]; exact List.mem_append_right _ q))⟩
    have hb' : t.frz.isSeq b = true := by
      cases b <;> cases t <;> first | exact hb | (cases hb)
    have src : ∀ (F2 : Addr → Prop) (H2 : Hp) (M : List Addr), Ext (fun a => F1 a ∨ a ∈ M1) H1 M2 F2 H2 M → ∃ a vs, v = .ref a ∧ HSeq b H2 a vs ∧ Owns K F2 H2 items vs [] := fun F2 H2 M x => by
      have o2 : Own K F2 H2 t.frz v [] := o'.mono x.fr fun a u ha e => by
        rcases ha with ha | ha
        · exact x.keep a u (fun m => S2.dj a m ha) e
        · cases ha
      obtain ⟨a, vs, ea, h1, h2, r⟩ := kids_seq o2 hk
      refine ⟨a, vs, ea, ?_, r⟩
      cases b with
      | true => exact h2 hb'
      | false => exact h1 hb'
    obtain ⟨a, vs, ea, _, _⟩ := src _ H1 M2 Ext.refl
    subst ea
    refine k a items _ ev1 _ H1 M2 q x2 S2 trivial fun ev2 σ' F3 H3 M p x3 S3 _ => ?_
    obtain ⟨a2, vs2, ea2, h2, r2⟩ := src F3 H3 M x3
    cases ea2
    exact ⟨vs2, h2, r2⟩

theorem seqL {b : Bool} {a : Addr} {vs : List V} (h : HSeq false H a vs) : SqL K H a vs := SqL.of h
theorem seqT {a : Addr} {vs : List V} (h : HSeq true H a vs) : SqT K H a vs := SqT.of h
theorem getD_of {items : List T} {k : Nat} (h : k < items.length) : items[k]? = some (items.getD k .non) := by
  rw [List.getD_eq_getElem?_getD, List.getElem?_eq_getElem h]; rfl
/-- an item comes -/
theorem St.item {items : List T} {vs : List V} {k : Nat} {x : V} (S : St K F H ev σ L) (r : Owns K F H items vs []) (h : k < items.length) (e : vs[k]? = some x) : St K F H (some (items.getD k .non) :: ev) (some x :: σ) L := by
  obtain ⟨v, e1, o⟩ := r.pick (getD_of h)
  rw [e] at e1; cases e1
  exact ⟨⟨x, σ, [], L, rfl, rfl, o, S.own⟩, S.nd, S.dj, S.dom⟩
def itL (items : List T) (stay : Ev → Prop) : IterT := ⟨items.length, fun k => items.getD k .non, stay⟩
def wList (b : Bool) (o : Arg) : WI := fun ev Q X => wSrc b o (fun items stay ev' => Q (itL items stay) ev') X ev
theorem SrcOk.list {a : Addr} {items : List T} {px : List Nat} {stay : Ev → Prop} (s : SrcOk K false a items px σ stay F H L) : ItOk K (Itl K a) (itL items stay) px σ F H L := fun k ev2 σ' F2 H2 L2 p x S st => by
  obtain ⟨vs, hv, r⟩ := s ev2 σ' F2 H2 L2 p x S st
  have hl := r.len
  refine ⟨fun hk => ?_, fun hk => ⟨vs, SqL.of hv, by rw [hk, ← hl]; exact Nat.le_refl _⟩⟩
  have hk' : k < items.length := hk
  have hkv : k < vs.length := by omega
  refine ⟨⟨vs, vs[k], SqL.of hv, List.getElem?_eq_getElem hkv⟩, fun y H' hy => ?_⟩
  obtain ⟨rfl, hy⟩ := hy
  exact ⟨F2, L2, Ext.refl, S.item r hk' (hy vs (SqL.of hv))⟩
theorem SrcOk.tuple {a : Addr} {items : List T} {px : List Nat} {stay : Ev → Prop} (s : SrcOk K true a items px σ stay F H L) : ItOk K (Itt K a) (itL items stay) px σ F H L := fun k ev2 σ' F2 H2 L2 p x S st => by
  obtain ⟨vs, hv, r⟩ := s ev2 σ' F2 H2 L2 p x S st
  have hl := r.len
  refine ⟨fun hk => ?_, fun hk => ⟨vs, SqT.of hv, by rw [hk, ← hl]; exact Nat.le_refl _⟩⟩
  have hk' : k < items.length := hk
  have hkv : k < vs.length := by omega
  refine ⟨⟨vs, vs[k], SqT.of hv, List.getElem?_eq_getElem hkv⟩, fun y H' hy => ?_⟩
  obtain ⟨rfl, hy⟩ := hy
  exact ⟨F2, L2, Ext.refl, S.item r hk' (hy vs (SqT.of hv))⟩
end
section
variable {X : Cx} {W : WX} {tg e : Expr}
theorem di_list {o : Arg} (h : DO X W e o) : DI X W (pxOf o) tg e (wList false o) := PI.imp (pi_list h) fun σ H R q => by
  obtain ⟨ev, F, L, Q0, X0, S, w, k, kx⟩ := q
  refine src_run S w (fun a items stay ev' F' H' L' q x S' st src => ?_) kx
  obtain ⟨vs, hv, _⟩ := src ev' σ F' H' L' pinx.refl Ext.refl S' st
  exact ⟨a, rfl, ⟨vs, SqL.of hv⟩, k _ ev' _ F' H' L' q x S' src.list⟩
theorem di_tup {o : Arg} (h : DO X W e o) : DI X W (pxOf o) tg e (wList true o) := PI.imp (pi_tup h) fun σ H R q => by
  obtain ⟨ev, F, L, Q0, X0, S, w, k, kx⟩ := q
  refine src_run S w (fun a items stay ev' F' H' L' q x S' st src => ?_) kx
  obtain ⟨vs, hv, _⟩ := src ev' σ F' H' L' pinx.refl Ext.refl S' st
  exact ⟨a, rfl, ⟨vs, SqT.of hv⟩, k _ ev' _ F' H' L' q x S' src.tuple⟩
def itE (items : List T) (stay : Ev → Prop) : IterT := ⟨items.length, fun k => .tup [.int k, items.getD k .non], stay⟩
def wEnum (o : Arg) : WI := fun ev Q X => wSrc false o (fun items stay ev' => Q (itE items stay) ev') X ev
theorem di_enum {o : Arg} {p pos tpos : Pos} {elts : List Expr} {kk : Nat} (hg : Gl X "enumerate") (hm : X.mg "enumerate" = none) (h : DO X W e o) (hs : starEach [e] X.env = [(false, eval e X.env)] := by rfl) :
    DI X W (pxOf o) (.Tuple elts kk tpos) (.Call (.Name "enumerate" p) [e] [] pos) (wEnum o) := PI.imp (pi_enum hg hm (da_cons (as := []) h da_nil hs) hs) fun σ H R q => by
  obtain ⟨ev, F, L, Q0, X0, S, w, k, kx⟩ := q
  refine src_run S w (fun a items stay ev' F' H' L' q x S' st src => ?_) kx
  obtain ⟨vs, hv, _⟩ := src ev' σ F' H' L' pinx.refl Ext.refl S' st
  refine ⟨a, vs, rfl, SqL.of hv, k _ ev' _ F' H' L' q x S' fun n ev2 σ' F2 H2 L2 p2 x2 S2 st2 => ?_⟩
  obtain ⟨ws, hw, r⟩ := src ev2 σ' F2 H2 L2 p2 x2 S2 st2
  have hl := r.len
  refine ⟨fun hn => ?_, fun hn => ⟨ws, SqL.of hw, by rw [hn, ← hl]; exact Nat.le_refl _⟩⟩
  have hn' : n < items.length := hn
  have hnv : n < ws.length := by omega
  refine ⟨⟨ws, ws[n], SqL.of hw, List.getElem?_eq_getElem hnv⟩, fun y H3 hy => ?_⟩
  obtain ⟨P, z, rfl, hP, rfl, hz⟩ := hy
  have ez := hz ws (SqL.of hw)
  obtain ⟨v, e1, o⟩ := r.pick (getD_of hn')
  rw [ez] at e1; cases e1
  obtain ⟨L3, x3, S3⟩ := S2.cell (o := .tup [.int (n : Nat), z]) (t := .tup [.int n, items.getD n .non]) hP
    ⟨P, _, [], rfl, rfl, upd_same, .int n, [z], [], [], rfl, rfl, ⟨rfl, rfl⟩, z, [], [], [], rfl, rfl, o.mono (fun _ z => z) fun a u _ e => keep_new hP a u e, rfl, rfl⟩
  exact ⟨F2, L3, x3, S3⟩
def itZ (xs ys : List T) (stay : Ev → Prop) : IterT := ⟨min xs.length ys.length, fun k => .tup [xs.getD k .non, ys.getD k .non], stay⟩
def wZip (o1 o2 : Arg) : WI := fun ev Q X => wSrc false o1 (fun xs stay ev1 => wSrc false o2 (fun ys stay2 ev2 => stay ev2 ∧ Q (itZ xs ys (fun ev => stay ev ∧ stay2 ev)) ev2) X ev1) X ev
theorem di_zip {e2 : Expr} {o1 o2 : Arg} {p pos tpos : Pos} {elts : List Expr} {kk : Nat} (hg : Gl X "zip") (hm : X.mg "zip" = none) (h1 : DO X W e o1) (h2 : DO X W e2 o2) (hs : starEach [e, e2] X.env = (false, eval e X.env) :: starEach [e2] X.env := by rfl) (hs2 : starEach [e2] X.env = (false, eval e2 X.env) :: starEach [] X.env := by rfl)
    (hpl : (backTo pos (starEach [e2] X.env)).any (·.1) = false := by rfl) : DI X W (pxOf o1 ++ pxOf o2) (.Tuple elts kk tpos) (.Call (.Name "zip" p) [e, e2] [] pos) (wZip o1 o2) := PI.imp (pi_zip hg hm (da_cons h1 (da_cons (as := []) h2 da_nil hs2) hs) hs hpl) fun σ H R q => by
  obtain ⟨ev, F, L, Q0, X0, S, w, k, kx⟩ := q
  refine src_run S w (fun a xs stay ev1 F1 H1 L1 w1 x1 S1 st1 src1 => ?_) kx
  refine src_run S1 w1 (fun b ys stay2 ev2 F2 H2 L2 q x2 S2 st2 src2 => ?_) fun C ev' F' H' L' q x S' => kx C ev' F' H' L' q (x1.trans x S1.dj) S'
  obtain ⟨q0, q⟩ := q
  have s1 : SrcOk X.K false a xs (pxOf o1 ++ pxOf o2) σ (fun ev => stay ev ∧ stay2 ev) F2 H2 L2 := src1.later x2 S2.dj (fun y m => List.mem_append_left _ m) fun _ z => z.1
  have s2 : SrcOk X.K false b ys (pxOf o1 ++ pxOf o2) σ (fun ev => stay ev ∧ stay2 ev) F2 H2 L2 := src2.later Ext.refl S2.dj (fun y m => List.mem_append_right _ m) fun _ z => z.2
  obtain ⟨us, hu, _⟩ := s1 ev2 σ F2 H2 L2 pinx.refl Ext.refl S2 ⟨q0, st2⟩
  obtain ⟨vs, hv, _⟩ := s2 ev2 σ F2 H2 L2 pinx.refl Ext.refl S2 ⟨q0, st2⟩
  refine ⟨a, b, us, vs, rfl, SqL.of hu, SqL.of hv, k _ ev2 _ F2 H2 L2 q (x1.trans x2 S1.dj) S2 fun n ev3 σ' F3 H3 L3 p3 x3 S3 st3 => ?_⟩
  obtain ⟨us, hu, ru⟩ := s1 ev3 σ' F3 H3 L3 p3 x3 S3 st3
  obtain ⟨vs, hv, rv⟩ := s2 ev3 σ' F3 H3 L3 p3 x3 S3 st3
  have l1 := ru.len
  have l2 := rv.len
  refine ⟨fun hn => ?_, fun hn => ⟨us, vs, SqL.of hu, SqL.of hv, ?_⟩⟩
  · have hn' : n < min xs.length ys.length := hn
    have n1 : n < xs.length := by omega
    have n2 : n < ys.length := by omega
    refine ⟨⟨us, vs, us[n], vs[n], SqL.of hu, SqL.of hv, List.getElem?_eq_getElem (by omega), List.getElem?_eq_getElem (by omega)⟩, fun y H4 hy => ?_⟩
    obtain ⟨P, z1, z2, rfl, hP, rfl, hz1, hz2⟩ := hy
    have ez1 := hz1 us (SqL.of hu)
    have ez2 := hz2 vs (SqL.of hv)
    obtain ⟨v1, e1, oo1⟩ := ru.pick (getD_of n1)
    obtain ⟨v2, e2, oo2⟩ := rv.pick (getD_of n2)
    rw [ez1] at e1; cases e1
    rw [ez2] at e2; cases e2
    obtain ⟨L4, x4, S4⟩ := S3.cell (o := .tup [z1, z2]) (t := .tup [xs.getD n .non, ys.getD n .non]) hP
      ⟨P, _, [], rfl, rfl, upd_same, z1, [z2], [], [], rfl, rfl, oo1.mono (fun _ z => z) fun a u _ e => keep_new hP a u e, z2, [], [], [], rfl, rfl, oo2.mono (fun _ z => z) fun a u _ e => keep_new hP a u e, rfl, rfl⟩
    exact ⟨F3, L4, x4, S4⟩
  · have hn' : n = min xs.length ys.length := hn
    omega
/-- ranges -/
def itR (lo : Int) (n : Nat) : IterT := ⟨n, fun k => .int (lo + k), fun _ => True⟩
theorem itR_ok {K : PySem.W.Frag} {lo : Int} {n : Nat} {σ : L2.St} {F : Addr → Prop} {H : Hp} {L : List Addr} : ItOk K (Itr lo n) (itR lo n) [] σ F H L := fun k ev σ' F2 H2 L2 _ _ S _ =>
  ⟨fun hk => ⟨hk, fun y H' hy => by
    obtain ⟨rfl, rfl⟩ := hy
    exact ⟨F2, [] ++ L2, Ext.refl, ⟨_, σ', [], L2, rfl, rfl, ⟨rfl, rfl⟩, S.own⟩, S.nd, S.dj, S.dom⟩⟩, fun hk => Nat.le_of_eq hk.symm⟩
theorem itR0_ok {K : PySem.W.Frag} {n : Nat} {σ : L2.St} {F : Addr → Prop} {H : Hp} {L : List Addr} : ItOk K (Itr 0 n) ⟨n, fun k => .int k, fun _ => True⟩ [] σ F H L := fun k ev σ' F2 H2 L2 _ _ S _ =>
  ⟨fun hk => ⟨hk, fun y H' hy => by
    obtain ⟨rfl, rfl⟩ := hy
    exact ⟨F2, [] ++ L2, Ext.refl, ⟨_, σ', [], L2, rfl, rfl, ⟨rfl, by show V.int (0 + (k : Int)) = .int k; rw [Int.zero_add]⟩, S.own⟩, S.nd, S.dj, S.dom⟩⟩, fun hk => Nat.le_of_eq hk.symm⟩
theorem StA.back {K : PySem.W.Frag} {F : Addr → Prop} {H : Hp} {ev ev2 : Ev} {σ : L2.St} {as : List ArgV} {vs : List V} {L Lt : List Addr} {ts : List T} (A : StA K F H ev σ as vs L Lt) (ht : takeA as ev = some (ts, ev2)) :
    ∃ L', St K F H (giveA as (ts.map some) ev2) σ L' ∧ (∀ a ∈ L', a ∈ L ++ Lt) ∧ ∃ Ls, Owns K F H ts vs Ls := by
  obtain ⟨L2, Ls, hE, hS, hc⟩ := take_ok A.own A.tmp ht
  obtain ⟨L4, g1, g2⟩ := give_ok hE A.tmp hS.env
  have cnt : ∀ a : Nat, L4.count a ≤ (L ++ Lt).count a := fun a => by
    have h1 := g2 a; have h2 := hc a
    rw [List.count_append] at h1 ⊢; omega
  have mem : ∀ a ∈ L4, a ∈ L ++ Lt := fun a m => Sub.mem (A := L4) (B := L ++ Lt) cnt m
  exact ⟨L4, ⟨g1, fun a => by have h1 := cnt a; have h2 := A.nd a; rw [List.count_append] at h1; omega, fun a m => A.dj a (List.mem_append.mp (mem a m)), A.dom⟩, mem, Ls, hS⟩
def wRng1 (a : Arg) : WI := fun ev Q X => wArgs [a] ev (fun as ev1 => ∃ (j : Int) (ev2 : Ev), takeA as ev1 = some ([.int j], ev2) ∧ -(2 ^ 62) ≤ j ∧ j < 2 ^ 62 ∧ Q ⟨j.toNat, fun k => .int k, fun _ => True⟩ (giveA as [some (.int j)] ev2)) X
def wRng2 (a b : Arg) : WI := fun ev Q X => wArgs [a, b] ev (fun as ev1 => ∃ (i j : Int) (ev2 : Ev), takeA as ev1 = some ([.int i, .int j], ev2) ∧ (-(2 ^ 62) ≤ i ∧ i < 2 ^ 62 ∧ -(2 ^ 62) ≤ j ∧ j < 2 ^ 62) ∧ Q (itR i (j - i).toNat) (giveA as [some (.int i), some (.int j)] ev2)) X
theorem di_rng1 {a : Expr} {o : Arg} {p pos : Pos} (hg : Gl X "range") (hm : X.mg "range" = none) (h : DO X W a o) (hs : starEach [a] X.env = [(false, eval a X.env)] := by rfl) : DI X W [] tg (.Call (.Name "range" p) [a] [] pos) (wRng1 o) := PI.imp (pi_range1 hg hm (da_cons (as := []) h da_nil hs) hs) fun σ H R q => by
  obtain ⟨ev, F, L, Q0, X0, S, w, k, kx⟩ := q
  refine run_args S.a0 w (fun as vs ev' F' H' L' Lt' q x A => ?_) fun C ev' F' H' L' q x S' => kx C ev' F' H' L' q (by simpa using x) S'
  obtain ⟨j, ev2, ht, b1, b2, q⟩ := q
  have A' : StA X.K F' H' ev' σ as vs L' Lt' := by simpa using A
  obtain ⟨L2, S2, m2, Ls, r⟩ := A'.back ht
  obtain ⟨v, vs', M1, M2, e, el, ⟨_, e1⟩, e2, _⟩ := r
  subst e2
  have e1' : v = .int j := e1
  subst e1'
  rw [List.append_nil] at x
  exact ⟨j, e, b1, b2, k _ _ _ F' H' L2 q (x.sub (fun _ m => m) fun a m => .inl (m2 a m)) S2 itR0_ok⟩
theorem di_rng2 {a b : Expr} {o1 o2 : Arg} {p pos : Pos} (hg : Gl X "range") (hm : X.mg "range" = none) (h1 : DO X W a o1) (h2 : DO X W b o2) (hs : starEach [a, b] X.env = [(false, eval a X.env), (false, eval b X.env)] := by rfl) (hs2 : starEach [b] X.env = [(false, eval b X.env)] := by rfl) :
    DI X W [] tg (.Call (.Name "range" p) [a, b] [] pos) (wRng2 o1 o2) := PI.imp (pi_range2 hg hm (da_cons h1 (da_cons (as := []) h2 da_nil hs2) (hs.trans (by rw [hs2]))) hs hs2) fun σ H R q => by
  obtain ⟨ev, F, L, Q0, X0, S, w, k, kx⟩ := q
  refine run_args S.a0 w (fun as vs ev' F' H' L' Lt' q x A => ?_) fun C ev' F' H' L' q x S' => kx C ev' F' H' L' q (by simpa using x) S'
  obtain ⟨i, j, ev2, ht, b, q⟩ := q
  have A' : StA X.K F' H' ev' σ as vs L' Lt' := by simpa using A
  obtain ⟨L2, S2, m2, Ls, r⟩ := A'.back ht
  obtain ⟨v, vs', M1, M2, e, el, ⟨_, e1⟩, v', vs'', N1, N2, e2, _, ⟨_, e3⟩, e4, _⟩ := r
  have e1' : v = .int i := e1
  have e3' : v' = .int j := e3
  subst e1' e3' e4 e2
  rw [List.append_nil] at x
  exact ⟨i, j, e, b, k _ _ _ F' H' L2 q (x.sub (fun _ m => m) fun a m => .inl (m2 a m)) S2 itR_ok⟩
end
end TL

/-! TL8: list comprehensions. -/
namespace TL
open PySem PySem.Spec PyProof.Rows L2
def wipeE (ev : Ev) : List Nat → Ev
  | [] => ev
  | i :: is => (wipeE ev is).set i none
def restE (ev0 : Ev) : List Nat → Ev → Ev
  | [], ev => ev
  | i :: is, ev => restE ev0 is (ev.set i (ev0[i]?).join)
def shrO : Option T → Bool
  | none => true
  | some t => t.shr
abbrev noW : WX := fun _ _ _ _ => False
abbrev noX : XP := fun _ _ => False
def wYes : WT := fun ev Q _ => Q true ev
def wLc (wi : WI) (wg : WG) (wt : WT) (we : WE) (own : List Nat) : WE := fun ev Q X => wi ev (fun it ev1 => (own.all fun i => shrO (ev1[i]?).join) = true ∧ it.n ≤ sizeLine ∧ ∃ I : Nat → List T → Ev → Prop, I 0 [] (wipeE ev1 own) ∧ (∀ k acc ev, k ≤ it.n → I k acc ev → it.stay ev) ∧
  (∀ k acc ev, k < it.n → I k acc ev → wg (it.Y k) ev (fun ev2 => wt ev2 (fun b ev3 => if b = true then we ev3 (fun y ev4 => I (k + 1) (acc ++ [y]) (wipeE ev4 own)) noX else I (k + 1) acc (wipeE ev3 own)) noX)) ∧
  ∀ acc ev, I it.n acc ev → Q (.lst acc) (restE ev1 own ev)) X
section
variable {K : PySem.W.Frag} {F F' : Addr → Prop} {H H' : Hp} {σ : L2.St} {ev : Ev} {L L' : List Addr} {W : WX}
theorem OwnE.wiped (h : OwnE K F H ev σ L) : ∀ own : List Nat, ∃ L', OwnE K F H (wipeE ev own) (wipe σ own) L' ∧ ∀ a : Nat, L'.count a ≤ L.count a
  | [] => ⟨L, h, fun _ => Nat.le_refl _⟩
  | i :: is => by
    obtain ⟨L', q, s⟩ := OwnE.wiped h is
    by_cases hi : i < (wipeE ev is).length
    · obtain ⟨L2, q2, s2⟩ := q.set hi (ot := none) (x := none) OwnE.none1
      exact ⟨L2, q2, fun a => by have h1 := s a; have h2 := s2 a; simp only [List.append_nil] at h2; omega⟩
    · refine ⟨L', ?_, s⟩
      show OwnE K F H ((wipeE ev is).set i none) ((_root_.L2.wipe σ is).set i none) L'
      rw [List.set_eq_of_length_le (by omega), List.set_eq_of_length_le (by rw [← q.len]; omega)]
      exact q
theorem OwnE.restore {ev0 : Ev} : ∀ {own : List Nat} {ev : Ev} {L : List Addr}, OwnE K F H ev (wipe σ own) L → own.Nodup → (∀ i ∈ own, OwnE K F H [(ev0[i]?).join] [(σ[i]?).join] []) → ∃ L', OwnE K F H (restE ev0 own ev) σ L' ∧ ∀ a : Nat, L'.count a ≤ L.count a
  | [], ev, L, h, _, _ => ⟨L, h, fun _ => Nat.le_refl _⟩
  | i :: is, ev, L, h, nd, k => by
    have ni : i ∉ is := (List.nodup_cons.mp nd).1
    have h' : OwnE K F H ev ((_root_.L2.wipe σ is).set i none) L := h
    by_cases hi : i < ev.length
    · obtain ⟨L2, q2, s2⟩ := h'.set hi (k i List.mem_cons_self)
      rw [List.set_set] at q2
      have hl : i < (_root_.L2.wipe σ is).length := by have := h'.len; rw [List.length_set] at this; omega
      have e : (_root_.L2.wipe σ is).set i (σ[i]?).join = _root_.L2.wipe σ is := by
        have e1 : (_root_.L2.wipe σ is)[i] = (σ[i]?).join := by
          have := wipe_out (σ := σ) ni
          rw [List.getElem?_eq_getElem hl] at this
          rw [← this]; rfl
        rw [← e1, List.set_getElem_self hl]
      rw [e] at q2
      obtain ⟨L3, q3, s3⟩ := OwnE.restore q2 (List.nodup_cons.mp nd).2 fun j m => k j (List.mem_cons_of_mem _ m)
      exact ⟨L3, q3, fun a => by have h1 := s3 a; have h2 := s2 a; simp only [List.append_nil] at h2; omega⟩
    · have hl : ¬ i < (_root_.L2.wipe σ is).length := by have := h'.len; rw [List.length_set] at this; omega
      rw [List.set_eq_of_length_le (by omega)] at h'
      obtain ⟨L3, q3, s3⟩ := OwnE.restore h' (List.nodup_cons.mp nd).2 fun j m => k j (List.mem_cons_of_mem _ m)
      refine ⟨L3, ?_, s3⟩
      show OwnE K F H (restE ev0 is (ev.set i (ev0[i]?).join)) σ L3
      rw [List.set_eq_of_length_le (by omega)]
      exact q3
theorem wipe_getElem {own : List Nat} {j : Nat} (m : j ∈ own) : (wipe σ own)[j]? = none ∨ (wipe σ own)[j]? = some none := by
  cases e : (wipe σ own)[j]? with
  | none => exact .inl rfl
  | some x =>
    cases x with
    | none => exact .inr rfl
    | some v => exact absurd m (wipe_some e).2
theorem wipe_eq {own A : List Nat} {τ : L2.St} (hA : ∀ j ∈ A, j ∈ own) (h : ∀ j, j ∉ A → τ[j]? = (wipe σ own)[j]?) (hl : τ.length = (wipe σ own).length) : wipe τ own = wipe σ own := by
  apply List.ext_getElem?
  intro j
  have l1 : (wipe τ own).length = (wipe σ own).length := by rw [wipe_length, hl]
  by_cases m : j ∈ own
  · by_cases hj : j < (wipe σ own).length
    · have h1 := wipe_getElem (σ := τ) m
      have h2 := wipe_getElem (σ := σ) m
      rcases h1 with h1 | h1
      · rw [List.getElem?_eq_none_iff] at h1; omega
      · rcases h2 with h2 | h2
        · rw [List.getElem?_eq_none_iff] at h2; omega
        · rw [h1, h2]
    · rw [List.getElem?_eq_none (by omega), List.getElem?_eq_none (by omega)]
  · rw [wipe_out m, h j (fun z => m (hA j z))]

theorem lc_run {wi : WI} {g : TG} {wg : WG} {wt : WT} {we : WE} {own A px : List Nat} {Q : VK} {σ : L2.St} {H : Hp} (hg : TgOk K A g wg) (hA : (A.all fun j => own.contains j) = true) (hnd : own.Nodup) (hpx : (px.all fun x => !own.contains x) = true)
    (h : liftE K W (wLc wi wg wt we own) σ H Q) : tLc (liftI K W px wi) g (liftT K noW wt) (liftE K noW we) own σ H Q := by
  obtain ⟨ev, F, L, Q0, X0, S, w, k1, kx⟩ := h
  have hA' : ∀ j ∈ A, j ∈ own := fun j m => by have := List.all_eq_true.mp hA j m; simpa using this
  have hpx' : ∀ x ∈ px, x ∉ own := fun x m => by have := List.all_eq_true.mp hpx x m; simpa using this
  unfold wLc at w
  refine ⟨ev, F, L, _, X0, S, w, fun it ev1 J F1 H1 L1 q x1 S1 ok => ?_, kx⟩
  obtain ⟨hsh, hsz, I, i0, st, turn, fin⟩ := q
  intro D hD
  obtain ⟨Lw, ow, sw⟩ := S1.own.wiped own
  have mw : ∀ a ∈ Lw, a ∈ L1 := fun a m => Sub.mem (A := Lw) (B := L1) sw m
  have apD := S1.apart_new hD
  refine ⟨fun i m H' => m = it.n - i ∧ i ≤ it.n ∧ ∃ (acc : List T) (vacc : List V) (Lacc : List Addr) (ev' : Ev) (F' : Addr → Prop) (L' : List Addr), I i acc ev' ∧ vacc.length ≤ i ∧ Ext F1 H1 L1 F' H' (L' ++ D :: Lacc) ∧ St K F' H' ev' (wipe σ own) L' ∧
    H' D = some (.lst vacc) ∧ Owns K F' H' acc vacc Lacc ∧ (∀ a : Nat, L'.count a + (D :: Lacc).count a ≤ 1) ∧ ∀ a ∈ D :: Lacc, ¬ F' a, ⟨it.n, by simp, Nat.zero_le _, [], [], [], wipeE ev1 own, F1, Lw, i0, Nat.le_refl _, ?_, ?_, upd_same, ⟨rfl, rfl⟩, ?_, ?_⟩, ?_⟩
  · exact ⟨fun _ z => z, fun a o _ e => keep_new hD a o e, fun a q => by
      rcases q with q | q
      · exact .inl q
      · rcases List.mem_append.mp q with q | q
        · exact .inr (.inl (mw a q))
        · rw [List.mem_singleton.mp q]; exact .inr (.inr hD)⟩
  · have Sw : St K F1 H1 (wipeE ev1 own) (wipe σ own) Lw := ⟨ow, fun a => Nat.le_trans (sw a) (S1.nd a), fun a m => S1.dj a (mw a m), S1.dom⟩
    exact (Sw.new hD _).1
  · intro a
    have h1 := sw a
    have h2 := S1.nd a
    by_cases e : a = D
    · subst e
      have := count_zero_of_not_mem apD.1
      simp; omega
    · have : [D].count a = 0 := List.count_eq_zero.mpr (fun m => e (List.mem_singleton.mp m))
      omega
  · intro a m
    rw [List.mem_singleton.mp m]; exact apD.2
  rintro i m H2 ⟨rfl, hi, acc, vacc, Lacc, ev2, F2, L2, i2, hvl, x2, S2, hD2, oa, nd2, dj2⟩
  have x2' : Ext F1 H1 L1 F2 H2 L2 := x2.sub (fun _ m => m) fun a m => .inl (List.mem_append_left _ m)
  have pw : pinx px σ (wipe σ own) := fun x m v e => by rw [wipe_out (hpx' x m)]; exact e
  obtain ⟨hgo, hstop⟩ := ok i ev2 (wipe σ own) F2 H2 L2 pw x2' S2 (st i acc ev2 hi i2)
  have djT : ∀ a ∈ L2 ++ D :: Lacc, ¬ F2 a := fun a m => (List.mem_append.mp m).elim (S2.dj a) (dj2 a)
  by_cases hlt : i < it.n
  · obtain ⟨go, yl⟩ := hgo hlt
    refine .inr ⟨go, fun H' => ∃ (acc : List T) (vacc : List V) (Lacc : List Addr) (ev' : Ev) (F' : Addr → Prop) (L' : List Addr), I (i + 1) acc ev' ∧ vacc.length ≤ i + 1 ∧ Ext F1 H1 L1 F' H' (L' ++ D :: Lacc) ∧ St K F' H' ev' (wipe σ own) L' ∧
      H' D = some (.lst vacc) ∧ Owns K F' H' acc vacc Lacc ∧ (∀ a : Nat, L'.count a + (D :: Lacc).count a ≤ 1) ∧ ∀ a ∈ D :: Lacc, ¬ F' a, fun H' z => ⟨it.n - (i + 1), by omega, rfl, hlt, z⟩, fun x H3 hy => ?_⟩
    obtain ⟨F3, L3, x3, S3⟩ := yl x H3 hy
    -- what the list made so far is apart from
    have ap2 : ∀ a ∈ D :: Lacc, a ∉ L2 ∧ ¬ F2 a ∧ H2 a ≠ none := fun a m => ⟨fun z => by
      have h1 := List.count_pos_iff.mpr m
      have h2 := List.count_pos_iff.mpr z
      have h3 := nd2 a
      omega, dj2 a m, by
      rcases List.mem_cons.mp m with rfl | m
      · exact ne_none_of hD2
      · exact oa.dom a m⟩
    -- behind steps of the block
    have later : ∀ {F4 : Addr → Prop} {H4 : Hp} {L4 : List Addr}, Ext F2 H2 L2 F4 H4 L4 → H4 D = some (.lst vacc) ∧ Owns K F4 H4 acc vacc Lacc ∧ ∀ a ∈ D :: Lacc, a ∉ L4 ∧ ¬ F4 a := fun {F4 H4 L4} x => by
      refine ⟨x.keep D _ (ap2 D List.mem_cons_self).1 hD2, oa.mono x.fr fun a o ha e => ?_, fun a m => x.apart (ap2 a m).1 (ap2 a m).2.1 (ap2 a m).2.2⟩
      rcases ha with ha | ha
      · exact x.keep a o (fun z => S2.dj a z ha) e
      · exact x.keep a o (ap2 a (List.mem_cons_of_mem _ ha)).1 e
    have extT : ∀ {F4 : Addr → Prop} {H4 : Hp} {L4 : List Addr}, Ext F2 H2 L2 F4 H4 L4 → Ext F1 H1 L1 F4 H4 (L4 ++ D :: Lacc) := fun {F4 H4 L4} x =>
      x2.trans (x.sub (fun a m => List.mem_append_left _ m) fun a m => (List.mem_append.mp m).imp id fun z => List.mem_append_right _ z) djT
    have wEnd : ∀ {F4 : Addr → Prop} {H4 : Hp} {L4 : List Addr} {ev4 : Ev} {σ4 : _root_.L2.St}, Ext F2 H2 L2 F4 H4 L4 → St K F4 H4 ev4 σ4 L4 → wipe σ4 own = wipe σ own → ∃ L5, St K F4 H4 (wipeE ev4 own) (wipe σ own) L5 ∧ (∀ a : Nat, L5.count a ≤ L4.count a) ∧ ∀ a ∈ L5, a ∈ L4 := fun {F4 H4 L4 ev4 σ4} x S4 e => by
      obtain ⟨L5, o5, s5⟩ := S4.own.wiped own
      rw [e] at o5
      have m5 : ∀ a ∈ L5, a ∈ L4 := fun a m => Sub.mem (A := L5) (B := L4) s5 m
      exact ⟨L5, ⟨o5, fun a => Nat.le_trans (s5 a) (S4.nd a), fun a m => S4.dj a (m5 a m), S4.dom⟩, s5, m5⟩
    refine hg.run (it.Y i) x ev2 (wipe σ own) F3 H3 L3 _ _ S3 (turn i acc ev2 hlt i2) fun ev4 σ4 F4 H4 L4 q4 x4 S4 hj hl => ?_
    have ew : wipe σ4 own = wipe σ own := wipe_eq hA' hj hl
    refine ⟨ew, ev4, F4, L4, _, noX, S4, q4, fun b ev5 F5 H5 L5 q5 x5 S5 => ?_, fun _ _ _ _ _ z => z.elim⟩
    have x25 : Ext F2 H2 L2 F5 H5 L5 := (x3.trans x4 S3.dj).trans x5 S4.dj
    cases b with
    | false =>
      rw [if_neg Bool.false_ne_true] at q5
      refine iteF ?_
      obtain ⟨l1, l2, l3⟩ := later x25
      obtain ⟨M, SM, sM, mM⟩ := wEnd x25 S5 ew
      refine ⟨acc, vacc, Lacc, _, F5, M, q5, by omega, (extT x25).sub (fun _ m => m) fun a m => .inl ((List.mem_append.mp m).elim (fun z => List.mem_append_left _ (mM a z)) fun z => List.mem_append_right _ z), SM, l1, l2, fun a => ?_, fun a m => (l3 a m).2⟩
      have h1 := sM a
      have h2 := S5.nd a
      by_cases m : a ∈ D :: Lacc
      · have := count_zero_of_not_mem (l3 a m).1
        have := nd2 a
        omega
      · have := count_zero_of_not_mem m
        omega
    | true =>
      rw [if_pos rfl] at q5
      refine iteT ⟨ev5, F5, L5, _, noX, S5, q5, fun y ev6 v F6 H6 L6 q6 x6 S6 => ?_, fun _ _ _ _ _ z => z.elim⟩
      have x26 : Ext F2 H2 L2 F6 H6 L6 := x25.trans x6 S5.dj
      obtain ⟨l1, l2, l3⟩ := later x26
      refine ⟨vacc, l1, by omega, ?_⟩
      obtain ⟨M1, M2, el, o, oe⟩ := S6.pop
      have S6' : St K F6 H6 ev6 σ4 M2 := ⟨oe, fun a => by have := S6.nd a; rw [el, List.count_append] at this; omega, fun a m => S6.dj a (by rw [el]; exact List.mem_append_right _ m), S6.dom⟩
      have x26' : Ext F2 H2 L2 F6 H6 M2 := x26.sub (fun _ m => m) fun a m => .inl (by rw [el]; exact List.mem_append_right _ m)
      obtain ⟨M, SM, sM, mM⟩ := wEnd x26' S6' ew
      have nD : ∀ a, F6 a ∨ a ∈ M ∨ a ∈ Lacc ++ M1 → a ≠ D := fun a q e => by
        subst e
        have apd := l3 a List.mem_cons_self
        rcases q with q | q | q
        · exact apd.2 q
        · exact apd.1 (by rw [el]; exact List.mem_append_right _ (mM a q))
        · rcases List.mem_append.mp q with q | q
          · have h1 := nd2 a
            have h2 := List.count_pos_iff.mpr q
            simp at h1; omega
          · exact apd.1 (by rw [el]; exact List.mem_append_left _ q)
      have up : ∀ a u, a ≠ D → H6 a = some u → upd H6 D (.lst (vacc ++ [v])) a = some u := fun a u n e => by rw [upd_ne n]; exact e
      refine ⟨acc ++ [y], vacc ++ [v], Lacc ++ M1, _, F6, M, q6, by simp; omega, ?_, ⟨SM.own.mono (fun _ z => z) fun a u ha e => up a u (nD a (ha.imp id .inl)) e, SM.nd, SM.dj, fun a fa e => ?_⟩, upd_same, ?_, fun a => ?_, fun a m => ?_⟩
      · refine (extT x26).trans ⟨fun _ z => z, fun a u hn e => ?_, fun a q => ?_⟩ fun a m => (List.mem_append.mp m).elim (S6.dj a) fun z => (l3 a z).2
        · exact up a u (fun z => hn (by rw [z]; exact List.mem_append_right _ List.mem_cons_self)) e
        · rcases q with q | q
          · exact .inl q
          · refine .inr (.inl ?_)
            rw [el]
            simp only [List.mem_append, List.mem_cons] at q ⊢
            rcases q with q | q | q | q
            · exact .inl (.inr (mM a q))
            · exact .inr (.inl q)
            · exact .inr (.inr q)
            · exact .inl (.inl q)
      · rw [upd_ne (nD a (.inl fa))] at e
        exact S6.dom a fa e
      · refine (l2.mono (fun _ z => z) fun a u ha e => up a u (nD a (ha.imp id fun z => .inr (List.mem_append_left _ z))) e).app (Owns.one (o.mono (fun _ z => z) fun a u ha e => up a u (nD a (ha.imp id fun z => .inr (List.mem_append_right _ z))) e))
      · have h1 := sM a
        have h2 := S6.nd a
        rw [el, List.count_append] at h2
        rw [← List.cons_append, List.count_append]
        by_cases m : a ∈ D :: Lacc
        · have h3 := (l3 a m).1
          rw [el] at h3
          have := count_zero_of_not_mem (fun z => h3 (List.mem_append_left _ z))
          have := count_zero_of_not_mem (fun z => h3 (List.mem_append_right _ z))
          have := nd2 a
          omega
        · have := count_zero_of_not_mem m
          omega
      · rw [← List.cons_append] at m
        rcases List.mem_append.mp m with m | m
        · exact (l3 a m).2
        · exact S6.dj a (by rw [el]; exact List.mem_append_left _ m)
  · have e : i = it.n := by omega
    subst e
    refine .inl ⟨hstop rfl, ?_⟩
    have x12 := x1.trans x2 S1.dj
    obtain ⟨L5, o5, s5⟩ := OwnE.restore (K := K) (F := F2) (H := H2) (σ := σ) (ev0 := ev1) (own := own) (ev := ev2) (L := L2) S2.own hnd (fun j m => by
      have hs := List.all_eq_true.mp hsh j m
      cases e1 : (ev1[j]?).join with
      | none => exact OwnE.none1
      | some t =>
        have e2 : ev1[j]? = some (some t) := by
          cases e3 : ev1[j]? with
          | none => rw [e3] at e1; cases e1
          | some u => rw [e3] at e1; exact congrArg some e1
        obtain ⟨v, M1, M2, e4, _, o, _⟩ := S1.own.get e2
        rw [e1] at hs
        have z := o.shr hs
        subst z
        rw [e4]
        exact OwnE.one (o.mono x2.fr fun a u ha e => by
          rcases ha with ha | ha
          · exact x2.keep a u (fun z => S1.dj a z ha) e
          · cases ha))
    have m5 : ∀ a ∈ L5, a ∈ L2 := fun a m => Sub.mem (A := L5) (B := L2) s5 m
    refine k1 (.lst acc) _ (.ref D) F2 H2 ((D :: Lacc) ++ L5) (fin acc ev2 i2) (x12.sub (fun _ m => m) fun a m => .inl ?_) ⟨⟨_, σ, D :: Lacc, L5, rfl, rfl, ⟨D, vacc, Lacc, rfl, rfl, hD2, oa⟩, o5⟩, fun a => ?_, fun a m => ?_, S2.dom⟩
    · rcases List.mem_append.mp m with m | m
      · exact List.mem_append_right _ m
      · exact List.mem_append_left _ (m5 a m)
    · have h1 := s5 a; have h2 := nd2 a
      rw [List.count_append]; omega
    · rcases List.mem_append.mp m with m | m
      · exact dj2 a m
      · exact S2.dj a (m5 a m)
end
section
variable {X : Cx} {W : WX}
def DTs (X : Cx) (W : WX) (ifs : List Expr) (w : WT) : Prop := PTs X ifs (liftT X.K W w)
theorem dts_nil : DTs X W [] wYes := ⟨fun pins s σ H Q I h => by
  obtain ⟨ev, F, L, Q0, X0, S, w, k, _⟩ := h
  exact pts_nil.run pins s σ H Q I (k true ev F H L w Ext.refl S)⟩
theorem dts_one {c : Expr} {w : WT} (h : DT X W c w) : DTs X W [c] w := pts_one h
theorem de_lc {elt tg iter : Expr} {ifs : List Expr} {scope : Scope} {own : List (Str × Nat)} {pos : Pos} {wi : WI} {g : TG} {wg : WG} {wt : WT} {we : WE} {A px : List Nat} (hc : X.calm = true) (hN : X.N.Nodup) (hi : DI X W px tg iter wi) (ok : BlkOk X.N X.env.scope scope own) (hgo : TgOk X.K A g wg)
    (hg : ∀ (s : Shared) (H : Hp) (C : Addr) (cl : List (Str × Addr)) (fp : List Addr), PG (X.blk s H scope (compEnvC scope cl C X.env) fp) tg g) (ht : ∀ (s : Shared) (H : Hp) (C : Addr) (cl : List (Str × Addr)) (fp : List Addr), DTs (X.blk s H scope (compEnvC scope cl C X.env) fp) noW ifs wt)
    (he : ∀ (s : Shared) (H : Hp) (C : Addr) (cl : List (Str × Addr)) (fp : List Addr), DE (X.blk s H scope (compEnvC scope cl C X.env) fp) noW elt we) (hA : (A.all fun j => (own.map (·.2)).contains j) = true := by rfl) (hnd : (own.map (·.2)).Nodup := by decide)
    (hpx : (px.all fun x => !(own.map (·.2)).contains x) = true := by rfl) (hs : ∀ x, foldedSetIterable iter X.env x = pure x := by intro _; rfl) :
    DE X W (.ListComp elt [⟨tg, iter, ifs, 0⟩] scope pos) (wLc wi wg wt we (own.map (·.2))) := PE.imp (pe_lc (tt := liftT X.K noW wt) (te := liftE X.K noW we) hc hN hi ok hg ht he hs) fun σ H Q q => lc_run hgo hA hnd hpx q
/-- y = [..] -/
theorem ds_setLc {i : Nat} {y : Str} {py : Pos} {elt tg iter : Expr} {ifs : List Expr} {scope : Scope} {own : List (Str × Nat)} {pos spos : Pos} {wi : WI} {g : TG} {wg : WG} {wt : WT} {we : WE} {A px : List Nat} (hc : X.calm = true) (hN : X.N.Nodup) (hy : X.N[i]? = some y) (hyl : X.env.scope.names.lookup y = some .local)
    (hsw : swapsWith (.ListComp elt [⟨tg, iter, ifs, 0⟩] scope pos) (some (.Name y py)) spos.line X.env = pure true) (hi : DI X W px tg iter wi) (ok : BlkOk X.N X.env.scope scope own) (hgo : TgOk X.K A g wg)
    (hg : ∀ (s : Shared) (H : Hp) (C : Addr) (cl : List (Str × Addr)) (fp : List Addr), PG (X.blk s H scope (compEnvC scope cl C X.env) fp) tg g) (ht : ∀ (s : Shared) (H : Hp) (C : Addr) (cl : List (Str × Addr)) (fp : List Addr), DTs (X.blk s H scope (compEnvC scope cl C X.env) fp) noW ifs wt)
    (he : ∀ (s : Shared) (H : Hp) (C : Addr) (cl : List (Str × Addr)) (fp : List Addr), DE (X.blk s H scope (compEnvC scope cl C X.env) fp) noW elt we) (hA : (A.all fun j => (own.map (·.2)).contains j) = true := by rfl) (hnd : (own.map (·.2)).Nodup := by decide)
    (hpx : (px.all fun x => !(own.map (·.2)).contains x) = true := by rfl) (hs : ∀ x, foldedSetIterable iter X.env x = pure x := by intro _; rfl) :
    DS X W [i] (.Assign [.Name y py] (.ListComp elt [⟨tg, iter, ifs, 0⟩] scope pos) spos) (sSet i (wLc wi wg wt we (own.map (·.2)))) := fun kp hk => PS.imp (ps_setLc (tt := liftT X.K noW wt) (te := liftE X.K noW we) hc hN hy hyl hsw hi ok hg ht he hs) fun D σ H q => by
  obtain ⟨ev, F, L, E0, S, p, w, k1, k2, k3, k4, k5⟩ := q
  refine lc_run (Q := fun x H1 => gName i x σ H1 D.nx) hgo hA hnd hpx ⟨ev, F, L, _, _, S, w, fun t ev' v F' H' L' q x S' => ?_, fun C ev' F' H' L' q x S' => k5 C ev' σ F' H' L' q x S' p⟩
  obtain ⟨S2, S', m⟩ := S'.store q.1
  exact k1 _ _ F' H' _ q.2 (x.sub (fun _ m => m) fun a z => .inl (m a z)) S' (p.set (hk i (List.mem_singleton.mpr rfl)))
end
end TL

/-! TL9: the built-in operations over trees. -/
namespace TL
open PySem PySem.Spec PyProof.Rows L2
section
variable {K : PySem.W.Frag} {F F' : Addr → Prop} {H H' : Hp} {L L' : List Addr} {ts : List T} {vs : List V}
theorem StL.env (S : StL K F H ts vs L) : St K F H (ts.map some) (vs.map some) L := ⟨S.own.env, S.nd, S.dj, S.dom⟩
theorem StL.ret (S : StL K F H ts vs L) {t : T} {v : V} (o : Own K F H t v []) : St K F H (some t :: ts.map some) (some v :: vs.map some) L :=
  ⟨⟨v, _, [], L, rfl, rfl, o, S.own.env⟩, S.nd, S.dj, S.dom⟩
/-- the answer is what the i-th argument's part holds: given away -/
theorem nones_own : ∀ (vs : List V), OwnE K F H (vs.map fun _ => none) (vs.map some) []
  | [] => ⟨rfl, rfl⟩
  | v :: vs => ⟨some v, vs.map some, rfl, nones_own vs⟩
/-- a new cell, over shared things -/
theorem StL.cell (S : StL K F H ts vs L) {p : Addr} {o : HO} {t : T} (hp : H p = none) (h : Own K F (upd H p o) t (.ref p) [p]) :
    ∃ L', Ext F H L F (upd H p o) L' ∧ St K F (upd H p o) (some t :: ts.map some) (some (.ref p) :: vs.map some) L' := S.env.cell hp h
theorem Owns.new {p : Addr} {o : HO} (r : Owns K F H ts vs L) (hp : H p = none) : Owns K F (upd H p o) ts vs L := r.mono (fun _ z => z) fun a u _ e => keep_new hp a u e
theorem own_lst_new {xs : List T} {us : List V} {p : Addr} (r : Owns K F H xs us []) (hp : H p = none) : Own K F (upd H p (.lst us)) (.lst xs) (.ref p) [p] := ⟨p, us, [], rfl, rfl, upd_same, r.new hp⟩
theorem own_tup_new {xs : List T} {us : List V} {p : Addr} (r : Owns K F H xs us []) (hp : H p = none) : Own K F (upd H p (.tup us)) (.tup xs) (.ref p) [p] := ⟨p, us, [], rfl, rfl, upd_same, r.new hp⟩
theorem own_int {i : Int} : Own K F H (.int i) (.int i) [] := ⟨rfl, rfl⟩
theorem own_bl {b : Bool} : Own K F H (.bl b) (.bl b) [] := ⟨rfl, rfl⟩
theorem own_non : Own K F H .non .non [] := ⟨rfl, rfl⟩
theorem own_str {x : Str} : Own K F H (.str x) (.str x) [] := ⟨rfl, rfl⟩
theorem Owns.one' {t : T} (h : Owns K F H [t] vs L) : ∃ v, vs = [v] ∧ Own K F H t v L := by
  obtain ⟨v, vs', L1, L2, e, el, o, e2, e3⟩ := h
  subst e2 e3
  exact ⟨v, e, by rw [el, List.append_nil]; exact o⟩
theorem Owns.two' {t u : T} (h : Owns K F H [t, u] vs L) : ∃ v w L1 L2, vs = [v, w] ∧ L = L1 ++ L2 ∧ Own K F H t v L1 ∧ Own K F H u w L2 := by
  obtain ⟨v, vs', L1, L2, e, el, o, r⟩ := h
  obtain ⟨w, e2, o2⟩ := r.one'
  subst e2
  exact ⟨v, w, L1, L2, e, el, o, o2⟩
theorem Owns.three' {t u x : T} (h : Owns K F H [t, u, x] vs L) : ∃ v w y L1 L2 L3, vs = [v, w, y] ∧ L = L1 ++ (L2 ++ L3) ∧ Own K F H t v L1 ∧ Own K F H u w L2 ∧ Own K F H x y L3 := by
  obtain ⟨v, vs', L1, L2, e, el, o, r⟩ := h
  obtain ⟨w, y, M1, M2, e2, el2, o2, o3⟩ := r.two'
  subst e2
  exact ⟨v, w, y, L1, M1, M2, e, by rw [el, el2], o, o2, o3⟩
end

/-! ### ints -/
def sII (C : Int → Int → Prop) (g : Int → Int → T) : SpT := fun ts Q _ => ∃ i j, ts = [.int i, .int j] ∧ C i j ∧ Q (g i j) [some (.int i), some (.int j)]
def sII0 (g : Int → Int → T) : SpT := fun ts Q _ => ∃ i j, ts = [.int i, .int j] ∧ Q (g i j) [some (.int i), some (.int j)]
def sI1 (g : Int → T) : SpT := fun ts Q _ => ∃ i, ts = [.int i] ∧ Q (g i) [some (.int i)]
theorem br_II {K : PySem.W.Frag} {C : Int → Int → Prop} {g : Int → Int → T} {gv : Int → Int → V} (hg : ∀ i j F H, Own K F H (g i j) (gv i j) []) : Br2 K (sII C g) (rI C gv) := fun x y H Q E ⟨ts, F, L, Q0, X0, S, ⟨i, j, e, c, q⟩, k, _⟩ => by
  subst e
  obtain ⟨v, w, L1, L2, e1, el, ⟨_, o1⟩, ⟨_, o2⟩⟩ := S.own.two'
  cases e1
  exact ⟨i, j, o1, o2, c, k _ _ _ F H L q Ext.refl (S.ret (hg i j F H))⟩
theorem br_II0 {K : PySem.W.Frag} {g : Int → Int → T} {gv : Int → Int → V} (hg : ∀ i j F H, Own K F H (g i j) (gv i j) []) : Br2 K (sII0 g) (rI0 gv) := fun x y H Q E ⟨ts, F, L, Q0, X0, S, ⟨i, j, e, q⟩, k, _⟩ => by
  subst e
  obtain ⟨v, w, L1, L2, e1, el, ⟨_, o1⟩, ⟨_, o2⟩⟩ := S.own.two'
  cases e1
  exact ⟨i, j, o1, o2, k _ _ _ F H L q Ext.refl (S.ret (hg i j F H))⟩
theorem br_I1 {K : PySem.W.Frag} {g : Int → T} {gv : Int → V} (hg : ∀ i F H, Own K F H (g i) (gv i) []) : BrU K (sI1 g) (rU gv) := fun x H Q E ⟨ts, F, L, Q0, X0, S, ⟨i, e, q⟩, k, _⟩ => by
  subst e
  obtain ⟨v, e1, ⟨_, o1⟩⟩ := S.own.one'
  cases e1
  exact ⟨i, o1, k _ _ _ F H L q Ext.refl (S.ret (hg i F H))⟩
abbrev sAdd : SpT := sII0 fun i j => .int (i + j)
abbrev sSub : SpT := sII0 fun i j => .int (i - j)
abbrev sMul : SpT := sII CMulW fun i j => .int (i * j)
abbrev sDiv : SpT := sII CDivW fun i j => .int (i / j)
abbrev sMod : SpT := sII (fun _ j => 0 < j) fun i j => .int (i % j)
abbrev sPow : SpT := sII CPow fun i j => .int (i ^ j.toNat)
abbrev sLt : SpT := sII0 fun i j => .bl (decide (i < j))
abbrev sLe : SpT := sII0 fun i j => .bl (decide (i ≤ j))
abbrev sGt : SpT := sII0 fun i j => .bl (decide (j < i))
abbrev sGe : SpT := sII0 fun i j => .bl (decide (j ≤ i))
abbrev sNeg : SpT := sI1 fun i => .int (-i)
section
variable {X : Cx} {W : WX} {a b : Expr} {oa ob : Arg} {pos : Pos}
theorem de_add (ha : DO X W a oa) (hb : DO X W b ob) : DE X W (.BinOp a .Add b pos) (wOp sAdd [oa, ob]) := DE.op2 (pe_op op_add ha hb) (br_II0 fun _ _ _ _ => own_int)
theorem de_sub (ha : DO X W a oa) (hb : DO X W b ob) : DE X W (.BinOp a .Sub b pos) (wOp sSub [oa, ob]) := DE.op2 (pe_op op_sub ha hb) (br_II0 fun _ _ _ _ => own_int)
theorem de_mul (ha : DO X W a oa) (hb : DO X W b ob) : DE X W (.BinOp a .Mult b pos) (wOp sMul [oa, ob]) := DE.op2 (pe_op op_mulW ha hb) (br_II fun _ _ _ _ => own_int)
theorem de_div (ha : DO X W a oa) (hb : DO X W b ob) : DE X W (.BinOp a .FloorDiv b pos) (wOp sDiv [oa, ob]) := DE.op2 (pe_op op_fdivW ha hb) (br_II fun _ _ _ _ => own_int)
theorem de_mod (ha : DO X W a oa) (hb : DO X W b ob) : DE X W (.BinOp a .Mod b pos) (wOp sMod [oa, ob]) := DE.op2 (pe_op op_mod ha hb) (br_II fun _ _ _ _ => own_int)
theorem de_pow (ha : DO X W a oa) (hb : DO X W b ob) : DE X W (.BinOp a .Pow b pos) (wOp sPow [oa, ob]) := DE.op2 (pe_op op_pow ha hb) (br_II fun _ _ _ _ => own_int)
theorem de_neg (ha : DO X W a oa) : DE X W (.UnaryOp .USub a pos) (wOp sNeg [oa]) := DE.un (pe_un un_neg ha) (br_I1 fun _ _ _ => own_int)
theorem dt_lt (ha : DO X W a oa) (hb : DO X W b ob) (hm : behindInMarks .Lt b = false := by first | exact nomark _ | rfl) : DT X W (.Compare a [.Lt] [b] pos) (wTst (wOp sLt [oa, ob])) := DT.op2 (pt_cmpR op_lt ha hb hm) (br_II0 fun _ _ _ _ => own_bl)
theorem dt_le (ha : DO X W a oa) (hb : DO X W b ob) (hm : behindInMarks .LtE b = false := by first | exact nomark _ | rfl) : DT X W (.Compare a [.LtE] [b] pos) (wTst (wOp sLe [oa, ob])) := DT.op2 (pt_cmpR op_le ha hb hm) (br_II0 fun _ _ _ _ => own_bl)
theorem dt_gt (ha : DO X W a oa) (hb : DO X W b ob) (hm : behindInMarks .Gt b = false := by first | exact nomark _ | rfl) : DT X W (.Compare a [.Gt] [b] pos) (wTst (wOp sGt [oa, ob])) := DT.op2 (pt_cmpR op_gt ha hb hm) (br_II0 fun _ _ _ _ => own_bl)
theorem dt_ge (ha : DO X W a oa) (hb : DO X W b ob) (hm : behindInMarks .GtE b = false := by first | exact nomark _ | rfl) : DT X W (.Compare a [.GtE] [b] pos) (wTst (wOp sGe [oa, ob])) := DT.op2 (pt_cmpR op_ge ha hb hm) (br_II0 fun _ _ _ _ => own_bl)
theorem de_lt (ha : DO X W a oa) (hb : DO X W b ob) (hm : behindInMarks .Lt b = false := by first | exact nomark _ | rfl) : DE X W (.Compare a [.Lt] [b] pos) (wOp sLt [oa, ob]) := DE.op2 (pe_cmpR op_lt ha hb hm) (br_II0 fun _ _ _ _ => own_bl)
theorem de_le (ha : DO X W a oa) (hb : DO X W b ob) (hm : behindInMarks .LtE b = false := by first | exact nomark _ | rfl) : DE X W (.Compare a [.LtE] [b] pos) (wOp sLe [oa, ob]) := DE.op2 (pe_cmpR op_le ha hb hm) (br_II0 fun _ _ _ _ => own_bl)
theorem de_gt (ha : DO X W a oa) (hb : DO X W b ob) (hm : behindInMarks .Gt b = false := by first | exact nomark _ | rfl) : DE X W (.Compare a [.Gt] [b] pos) (wOp sGt [oa, ob]) := DE.op2 (pe_cmpR op_gt ha hb hm) (br_II0 fun _ _ _ _ => own_bl)
theorem de_ge (ha : DO X W a oa) (hb : DO X W b ob) (hm : behindInMarks .GtE b = false := by first | exact nomark _ | rfl) : DE X W (.Compare a [.GtE] [b] pos) (wOp sGe [oa, ob]) := DE.op2 (pe_cmpR op_ge ha hb hm) (br_II0 fun _ _ _ _ => own_bl)
end

/-! ### data: == -/
mutual
def T.D : T → PyData
  | .non => .none
  | .bl b => .bool b
  | .int i => .int i
  | .str x => .str x
  | .lst xs => .list (T.Ds xs)
  | .tup xs => .tuple (T.Ds xs)
  | .fz t => T.D t
  | .scr ns => .list (ns.map PyData.int)
  | .dk _ _ => .dict []
  | .dt _ _ => .dict []
  | .hole _ => .dict []
  | .exc _ => .dict []
  | .ty _ => .dict []
  | .cls _ => .dict []
def T.Ds : List T → List PyData
  | [] => []
  | t :: ts => T.D t :: T.Ds ts
end
theorem T.Ds_map : ∀ ts : List T, T.Ds ts = ts.map T.D
  | [] => rfl
  | t :: ts => by rw [T.Ds, T.Ds_map ts]; rfl
section
variable {K : PySem.W.Frag} {F : Addr → Prop} {H : Hp}
theorem dp_ints {ns : List Int} : DpAll K H (ns.map V.int) (ns.map PyData.int) := by
  induction ns with
  | nil => exact .nil
  | cons n ns ih => exact .cons (.int n) ih
mutual
theorem Rep.dp : ∀ {t : T} {v : V}, Rep K F H t v → t.D.canLay0 = true → Dp K H v t.D
  | .non, v, h, _ => by rw [show v = .non from h]; exact .non
  | .bl b, v, h, _ => by rw [show v = .bl b from h]; exact .bl b
  | .int i, v, h, _ => by rw [show v = .int i from h]; exact .int i
  | .str x, v, h, _ => by rw [show v = .str x from h]; exact .str x
  | .lst xs, v, ⟨a, vs, e, _, h, r⟩, c => by rw [e]; exact .lst (SqL.of h) (Reps.dp r c)
  | .tup xs, v, ⟨a, vs, e, _, h, r⟩, c => by rw [e]; exact .tup (SqT.of h) (Reps.dp r c)
  | .fz t, v, h, c => Rep.dp (t := t) h c
  | .scr ns, v, ⟨a, e, h⟩, c => by
    rw [e]
    refine .lst (xs := ns.map V.int) ?_ dp_ints
    rcases h with ⟨_, h⟩ | h
    · exact .inl h
    · exact h H
  | .dk _ _, _, _, c => by cases c
  | .dt _ _, _, _, c => by cases c
  | .hole _, _, _, c => by cases c
  | .exc _, _, _, c => by cases c
  | .ty _, _, _, c => by cases c
  | .cls _, _, _, c => by cases c
theorem Reps.dp : ∀ {ts : List T} {vs : List V}, Reps K F H ts vs → PyData.canLayAll0 (T.Ds ts) = true → DpAll K H vs (T.Ds ts)
  | [], vs, h, _ => by rw [show vs = [] from h]; exact .nil
  | t :: ts, vs, ⟨v, vs', e, r, rs⟩, c => by
    have c' : ((T.D t).canLay0 && PyData.canLayAll0 (T.Ds ts)) = true := c
    rw [Bool.and_eq_true] at c'
    rw [e]; exact .cons (Rep.dp r c'.1) (Reps.dp rs c'.2)
end
mutual
theorem Own.dp : ∀ {t : T} {v : V} {L : List Addr}, Own K F H t v L → t.D.canLay0 = true → Dp K H v t.D
  | .lst xs, v, L, ⟨a, vs, L', e, _, h, r⟩, c => by rw [e]; exact .lst (SqL.of h) (Owns.dp r c)
  | .tup xs, v, L, ⟨a, vs, L', e, _, h, r⟩, c => by rw [e]; exact .tup (SqT.of h) (Owns.dp r c)
  | .fz t, v, L, ⟨_, h⟩, c => Rep.dp (t := t) h c
  | .non, v, L, ⟨_, h⟩, c => Rep.dp (t := .non) h c
  | .bl b, v, L, ⟨_, h⟩, c => Rep.dp (t := .bl b) h c
  | .int i, v, L, ⟨_, h⟩, c => Rep.dp (t := .int i) h c
  | .str x, v, L, ⟨_, h⟩, c => Rep.dp (t := .str x) h c
  | .scr ns, v, L, ⟨_, h⟩, c => Rep.dp (t := .scr ns) h c
  | .dk _ _, _, _, _, c => by cases c
  | .dt _ _, _, _, _, c => by cases c
  | .hole _, _, _, _, c => by cases c
  | .exc _, _, _, _, c => by cases c
  | .ty _, _, _, _, c => by cases c
  | .cls _, _, _, _, c => by cases c
theorem Owns.dp : ∀ {ts : List T} {vs : List V} {L : List Addr}, Owns K F H ts vs L → PyData.canLayAll0 (T.Ds ts) = true → DpAll K H vs (T.Ds ts)
  | [], vs, L, ⟨e, _⟩, _ => by rw [e]; exact .nil
  | t :: ts, vs, L, ⟨v, vs', L1, L2, e, _, r, rs⟩, c => by
    have c' : ((T.D t).canLay0 && PyData.canLayAll0 (T.Ds ts)) = true := c
    rw [Bool.and_eq_true] at c'
    rw [e]; exact .cons (Own.dp r c'.1) (Owns.dp rs c'.2)
end
end
def sEq : SpT := fun ts Q _ => ∃ t u, ts = [t, u] ∧ SeqAt.shaped t.D = true ∧ SeqAt.shaped u.D = true ∧ Q (.bl (PyData.eqv t.D u.D)) [some t, some u]
def sNe : SpT := fun ts Q _ => ∃ t u, ts = [t, u] ∧ SeqAt.shaped t.D = true ∧ SeqAt.shaped u.D = true ∧ Q (.bl (!PyData.eqv t.D u.D)) [some t, some u]
theorem br_eq {K : PySem.W.Frag} : Br2 K sEq (rEqD K) := fun x y H Q E ⟨ts, F, L, Q0, X0, S, ⟨t, u, e, c1, c2, q⟩, k, _⟩ => by
  subst e
  obtain ⟨v, w, L1, L2, e1, el, o1, o2⟩ := S.own.two'
  cases e1
  exact ⟨t.D, u.D, o1.dp (SeqAt.canLay_of_shaped c1), o2.dp (SeqAt.canLay_of_shaped c2), c1, c2, k _ _ _ F H L q Ext.refl (S.ret own_bl)⟩
theorem br_ne {K : PySem.W.Frag} : Br2 K sNe (rNeD K) := fun x y H Q E ⟨ts, F, L, Q0, X0, S, ⟨t, u, e, c1, c2, q⟩, k, _⟩ => by
  subst e
  obtain ⟨v, w, L1, L2, e1, el, o1, o2⟩ := S.own.two'
  cases e1
  exact ⟨t.D, u.D, o1.dp (SeqAt.canLay_of_shaped c1), o2.dp (SeqAt.canLay_of_shaped c2), c1, c2, k _ _ _ F H L q Ext.refl (S.ret own_bl)⟩
section
variable {X : Cx} {W : WX} {a b : Expr} {oa ob : Arg} {pos : Pos}
theorem hu64 {A : Around} {k : Nat} (hr : Room k A) : A.units + 64 < cLine := hr.units
theorem dt_eq (hu : X.A.units + 64 < cLine) (ha : DO X W a oa) (hb : DO X W b ob) (hm : behindInMarks .Eq b = false := by first | exact nomark _ | rfl) : DT X W (.Compare a [.Eq] [b] pos) (wTst (wOp sEq [oa, ob])) := DT.op2 (pt_cmpR (op_eqD hu) ha hb hm) br_eq
theorem dt_ne (hu : X.A.units + 64 < cLine) (ha : DO X W a oa) (hb : DO X W b ob) (hm : behindInMarks .NotEq b = false := by first | exact nomark _ | rfl) : DT X W (.Compare a [.NotEq] [b] pos) (wTst (wOp sNe [oa, ob])) := DT.op2 (pt_cmpR (op_neD hu) ha hb hm) br_ne
theorem de_eq (hu : X.A.units + 64 < cLine) (ha : DO X W a oa) (hb : DO X W b ob) (hm : behindInMarks .Eq b = false := by first | exact nomark _ | rfl) : DE X W (.Compare a [.Eq] [b] pos) (wOp sEq [oa, ob]) := DE.op2 (pe_cmpR (op_eqD hu) ha hb hm) br_eq
theorem de_ne (hu : X.A.units + 64 < cLine) (ha : DO X W a oa) (hb : DO X W b ob) (hm : behindInMarks .NotEq b = false := by first | exact nomark _ | rfl) : DE X W (.Compare a [.NotEq] [b] pos) (wOp sNe [oa, ob]) := DE.op2 (pe_cmpR (op_neD hu) ha hb hm) br_ne
end

/-! ### items, lengths, slices, sums of lists -/
def T.atT : T → Int → Option T
  | .lst xs, i => (atI xs i).bind fun t => if t.shr then some t else none
  | .tup xs, i => (atI xs i).bind fun t => if t.shr then some t else none
  | .fz (.lst xs), i => (atI xs i).map T.frz
  | .fz (.tup xs), i => (atI xs i).map T.frz
  | .scr ns, i => (atI ns i).map T.int
  | _, _ => none
def T.len : T → Option Nat
  | .lst xs => some xs.length
  | .tup xs => some xs.length
  | .fz (.lst xs) => some xs.length
  | .fz (.tup xs) => some xs.length
  | .scr ns => some ns.length
  | _ => none
theorem atI_map {α β : Type} (f : α → β) (xs : List α) (i : Int) : atI (xs.map f) i = (atI xs i).map f := by
  unfold atI
  rw [List.length_map]
  cases ixN xs.length i with
  | none => rfl
  | some j => simp
theorem atI_some {α : Type} {xs : List α} {i : Int} {t : α} (h : atI xs i = some t) : ∃ j, ixN xs.length i = some j ∧ xs[j]? = some t := by
  unfold atI at h
  cases e : ixN xs.length i with
  | none => rw [e] at h; cases h
  | some j => rw [e] at h; exact ⟨j, rfl, h⟩
section
variable {K : PySem.W.Frag} {F : Addr → Prop} {H : Hp}
theorem Owns.atI {xs : List T} {vs : List V} {L : List Addr} {i : Int} {t : T} (r : Owns K F H xs vs L) (h : _root_.L2.atI xs i = some t) (s : t.shr = true) : ∃ v, _root_.L2.atI vs i = some v ∧ Own K F H t v [] := by
  obtain ⟨j, e1, e2⟩ := atI_some h
  obtain ⟨v, L0, L1, L2, e3, el, o, _⟩ := r.get e2
  have z := o.shr s
  subst z
  refine ⟨v, ?_, o⟩
  unfold _root_.L2.atI
  rw [← r.len, e1]
  exact e3
theorem Flat.scr {ns : List Int} {v : V} (h : Flat K F H (.scr ns) v) : ∃ a, v = .ref a ∧ SqL K H a (ns.map V.int) := by
  obtain ⟨a, e, h⟩ := h
  refine ⟨a, e, ?_⟩
  rcases h with ⟨_, h⟩ | h
  · exact .inl h
  · exact h H
theorem Own.at {t u : T} {v : V} {L : List Addr} {i : Int} (o : Own K F H t v L) (h : t.atT i = some u) : ∃ p xs w, v = .ref p ∧ (SqL K H p xs ∨ SqT K H p xs) ∧ _root_.L2.atI xs i = some w ∧ Own K F H u w [] := by
  unfold T.atT at h
  split at h
  · rename_i xs j
    obtain ⟨t1, e1, e2⟩ := Option.bind_eq_some_iff.mp h
    split at e2 <;> cases e2
    rename_i hs
    obtain ⟨a, vs, L', e, el, hH, r⟩ := o
    obtain ⟨w, e3, o3⟩ := r.atI e1 hs
    exact ⟨a, vs, w, e, .inl (SqL.of hH), e3, o3⟩
  · rename_i xs j
    obtain ⟨t1, e1, e2⟩ := Option.bind_eq_some_iff.mp h
    split at e2 <;> cases e2
    rename_i hs
    obtain ⟨a, vs, L', e, el, hH, r⟩ := o
    obtain ⟨w, e3, o3⟩ := r.atI e1 hs
    exact ⟨a, vs, w, e, .inr (SqT.of hH), e3, o3⟩
  · rename_i xs j
    obtain ⟨_, a, vs, e, fa, hH, r⟩ := o
    rw [← atI_map] at h
    obtain ⟨w, e3, o3⟩ := r.owns.atI h (by
      obtain ⟨j, _, e2⟩ := atI_some h
      rw [List.getElem?_map] at e2
      obtain ⟨t0, _, e4⟩ := Option.map_eq_some_iff.mp e2
      rw [← e4]; exact T.frz_shr t0)
    exact ⟨a, vs, w, e, .inl (SqL.of hH), e3, o3⟩
  · rename_i xs j
    obtain ⟨_, a, vs, e, fa, hH, r⟩ := o
    rw [← atI_map] at h
    obtain ⟨w, e3, o3⟩ := r.owns.atI h (by
      obtain ⟨j, _, e2⟩ := atI_some h
      rw [List.getElem?_map] at e2
      obtain ⟨t0, _, e4⟩ := Option.map_eq_some_iff.mp e2
      rw [← e4]; exact T.frz_shr t0)
    exact ⟨a, vs, w, e, .inr (SqT.of hH), e3, o3⟩
  · rename_i j ns
    obtain ⟨a, e, hs⟩ := Flat.scr o.2
    obtain ⟨n, e1, e2⟩ := Option.map_eq_some_iff.mp h
    exact ⟨a, ns.map V.int, .int n, e, .inl hs, by rw [atI_map, e1]; rfl, by rw [← e2]; exact own_int⟩
  · cases h
theorem Own.len {t : T} {v : V} {L : List Addr} {n : Nat} (o : Own K F H t v L) (h : t.len = some n) : ∃ p xs, v = .ref p ∧ (SqL K H p xs ∨ SqT K H p xs) ∧ xs.length = n := by
  unfold T.len at h
  split at h
  · cases h
    obtain ⟨a, vs, L', e, el, hH, r⟩ := o
    exact ⟨a, vs, e, .inl (SqL.of hH), r.len.symm⟩
  · cases h
    obtain ⟨a, vs, L', e, el, hH, r⟩ := o
    exact ⟨a, vs, e, .inr (SqT.of hH), r.len.symm⟩
  · cases h
    obtain ⟨_, a, vs, e, fa, hH, r⟩ := o
    exact ⟨a, vs, e, .inl (SqL.of hH), r.len.symm⟩
  · cases h
    obtain ⟨_, a, vs, e, fa, hH, r⟩ := o
    exact ⟨a, vs, e, .inr (SqT.of hH), r.len.symm⟩
  · cases h
    obtain ⟨a, e, hs⟩ := Flat.scr o.2
    exact ⟨a, _, e, .inl hs, by simp⟩
  · cases h
end
def sAt : SpT := fun ts Q _ => ∃ t i u, ts = [t, .int i] ∧ t.atT i = some u ∧ Q u [some t, some (.int i)]
def sLen : SpT := fun ts Q _ => ∃ t n, ts = [t] ∧ t.len = some n ∧ Q (.int n) [some t]
theorem br_at {K : PySem.W.Frag} : Br2 K sAt (fun x y H Q => rIxL K x y H Q ∨ rIxT K x y H Q) := fun x y H Q E ⟨ts, F, L, Q0, X0, S, ⟨t, i, u, e, h, q⟩, k, _⟩ => by
  subst e
  obtain ⟨v, w, L1, L2, e1, el, o1, ⟨_, o2⟩⟩ := S.own.two'
  cases e1
  obtain ⟨p, xs, w', e2, hs, ha, o⟩ := o1.at h
  have z := k _ _ _ F H L q Ext.refl (S.ret o)
  rcases hs with hs | hs
  · exact .inl ⟨p, xs, i, w', e2, o2, hs, ha, z⟩
  · exact .inr ⟨p, xs, i, w', e2, o2, hs, ha, z⟩
theorem br_len {K : PySem.W.Frag} : BrL K sLen (fun xs H Q => ∃ p ys, xs = [.ref p] ∧ (SqL K H p ys ∨ SqT K H p ys) ∧ Q (.int ys.length) H) := fun vs H Q E ⟨ts, F, L, Q0, X0, S, ⟨t, n, e, h, q⟩, k, _⟩ => by
  subst e
  obtain ⟨v, e1, o⟩ := S.own.one'
  subst e1
  obtain ⟨p, xs, e2, hs, hl⟩ := o.len h
  subst e2
  exact ⟨p, xs, rfl, hs, k _ _ _ F H L q Ext.refl (S.ret (by rw [hl]; exact own_int))⟩
/-- shared children, of a list or a tuple, the script too -/
def T.kidL : T → Option (List T)
  | .lst xs => if xs.all T.shr then some xs else none
  | .fz (.lst xs) => some (xs.map T.frz)
  | _ => none
def T.kidS : T → Option (List T)
  | .scr ns => some (ns.map T.int)
  | t => t.kids
section
variable {K : PySem.W.Frag} {F : Addr → Prop} {H : Hp}
theorem ints_own : ∀ {ns : List Int}, Owns K F H (ns.map T.int) (ns.map V.int) []
  | [] => ⟨rfl, rfl⟩
  | n :: ns => ⟨.int n, ns.map V.int, [], [], rfl, rfl, own_int, ints_own⟩
theorem kidL_of {t : T} {xs : List T} (h : t.kidL = some xs) : t.kids = some xs ∧ t.isLst = true := by
  unfold T.kidL at h
  split at h
  · exact ⟨by unfold T.kids; exact h, rfl⟩
  · exact ⟨by unfold T.kids; exact h, rfl⟩
  · cases h
theorem Own.kidL {t : T} {v : V} {L : List Addr} {xs : List T} (o : Own K F H t v L) (h : t.kidL = some xs) : ∃ a vs, v = .ref a ∧ H a = some (.lst vs) ∧ Owns K F H xs vs [] := by
  obtain ⟨h1, h2⟩ := kidL_of h
  obtain ⟨a, vs, e, h3, _, r⟩ := kids_seq o h1
  exact ⟨a, vs, e, h3 h2, r⟩
theorem Own.kidS {t : T} {v : V} {L : List Addr} {xs : List T} (o : Own K F H t v L) (h : t.kidS = some xs) : ∃ a vs, v = .ref a ∧ (SqL K H a vs ∨ SqT K H a vs) ∧ Owns K F H xs vs [] := by
  unfold T.kidS at h
  split at h
  · cases h
    obtain ⟨a, e, hs⟩ := Flat.scr o.2
    exact ⟨a, _, e, .inl hs, ints_own⟩
  · obtain ⟨a, vs, e, h1, h2, r⟩ := kids_seq o h
    refine ⟨a, vs, e, ?_, r⟩
    unfold T.kids at h
    split at h
    · exact .inl (SqL.of (h1 rfl))
    · exact .inr (SqT.of (h2 rfl))
    · exact .inl (SqL.of (h1 rfl))
    · exact .inr (SqT.of (h2 rfl))
    · cases h
end
def sCat : SpT := fun ts Q _ => ∃ t u xs ys, ts = [t, u] ∧ t.kidL = some xs ∧ u.kidL = some ys ∧ xs.length + ys.length ≤ sizeLine ∧ Q (.lst (xs ++ ys)) [some t, some u]
def sRep : SpT := fun ts Q _ => ∃ t k xs, ts = [t, .int k] ∧ t.kidL = some xs ∧ -(2 ^ 63) ≤ k ∧ k < 2 ^ 63 ∧ xs.length * k.toNat ≤ sizeLine ∧ Q (.lst (List.replicate k.toNat xs).flatten) [some t, some (.int k)]
def sList : SpT := fun ts Q _ => ∃ t xs, ts = [t] ∧ t.kidS = some xs ∧ Q (.lst xs) [some t]
theorem br_cat {K : PySem.W.Frag} : Br2 K sCat rCat := fun x y H Q E ⟨ts, F, L, Q0, X0, S, ⟨t, u, xs, ys, e, h1, h2, hz, q⟩, k, _⟩ => by
  subst e
  obtain ⟨v, w, L1, L2, e1, el, o1, o2⟩ := S.own.two'
  cases e1
  obtain ⟨a, us, ea, ha, ra⟩ := o1.kidL h1
  obtain ⟨b, ws, eb, hb, rb⟩ := o2.kidL h2
  refine ⟨a, b, us, ws, ea, eb, ha, hb, by rw [← ra.len, ← rb.len]; exact hz, fun p hp => ?_⟩
  obtain ⟨L', x, S'⟩ := S.cell hp (own_lst_new (ra.app rb) hp)
  exact k _ _ _ F _ L' q x S'
theorem Owns.reps {K : PySem.W.Frag} {F : Addr → Prop} {H : Hp} {xs : List T} {vs : List V} (r : Owns K F H xs vs []) : ∀ n : Nat, Owns K F H (List.replicate n xs).flatten (List.replicate n vs).flatten []
  | 0 => ⟨rfl, rfl⟩
  | n + 1 => by
    rw [List.replicate_succ, List.replicate_succ, List.flatten_cons, List.flatten_cons]
    exact r.app (Owns.reps r n)
theorem br_rep {K : PySem.W.Frag} : Br2 K sRep rRep := fun x y H Q E ⟨ts, F, L, Q0, X0, S, ⟨t, n, xs, e, h1, b1, b2, hz, q⟩, k, _⟩ => by
  subst e
  obtain ⟨v, w, L1, L2, e1, el, o1, ⟨_, o2⟩⟩ := S.own.two'
  cases e1
  obtain ⟨a, us, ea, ha, ra⟩ := o1.kidL h1
  refine ⟨a, n, us, ea, o2, ha, b1, b2, by rw [← ra.len]; exact hz, fun p hp => ?_⟩
  obtain ⟨L', x, S'⟩ := S.cell hp (own_lst_new (ra.reps n.toNat) hp)
  exact k _ _ _ F _ L' q x S'
theorem br_list {K : PySem.W.Frag} : BrL K sList (fun xs H Q => ∃ p ys, xs = [.ref p] ∧ (SqL K H p ys ∨ SqT K H p ys) ∧ ∀ l, H l = none → Q (.ref l) (upd H l (.lst ys))) := fun vs H Q E ⟨ts, F, L, Q0, X0, S, ⟨t, xs, e, h, q⟩, k, _⟩ => by
  subst e
  obtain ⟨v, e1, o⟩ := S.own.one'
  subst e1
  obtain ⟨a, us, ea, ha, ra⟩ := o.kidS h
  subst ea
  refine ⟨a, us, rfl, ha, fun p hp => ?_⟩
  obtain ⟨L', x, S'⟩ := S.cell hp (own_lst_new ra hp)
  exact k _ _ _ F _ L' q x S'
section
variable {X : Cx} {W : WX} {a b e : Expr} {oa ob : Arg} {pos p : Pos}
theorem ix_lt : IxR X (fun x y H Q => rIxL X.K x y H Q ∨ rIxT X.K x y H Q) := ix_list.or ix_tup
theorem de_at (ha : DO X W a oa) (hb : DO X W b ob) (hs : PlainIx b := by exact fun _ _ => rfl) : DE X W (.Subscript a b pos) (wOp sAt [oa, ob]) := DE.op2 (pe_ix ix_lt ha hb hs) br_at
theorem de_len (hg : Gl X "len") (hm : X.mg "len" = none) (h : DO X W e oa) (he : starEach [e] X.env = (false, eval e X.env) :: starEach [] X.env := by rfl) : DE X W (.Call (.Name "len" p) [e] [] pos) (wOp sLen [oa]) :=
  DE.call (pe_callB call_len_seq hg hm PySem.boot_len (da_cons (as := []) h da_nil he) (by decide) (by decide) he) br_len
theorem de_cat (ha : DO X W a oa) (hb : DO X W b ob) : DE X W (.BinOp a .Add b pos) (wOp sCat [oa, ob]) := DE.op2 (pe_op op_cat ha hb) br_cat
theorem de_rep (ha : DO X W a oa) (hb : DO X W b ob) : DE X W (.BinOp a .Mult b pos) (wOp sRep [oa, ob]) := DE.op2 (pe_op op_rep ha hb) br_rep
theorem de_list (hg : Gl X "list") (hm : X.mg "list" = none) (h : DO X W e oa) (he : starEach [e] X.env = (false, eval e X.env) :: starEach [] X.env := by rfl) : DE X W (.Call (.Name "list" p) [e] [] pos) (wOp sList [oa]) :=
  DE.call (pe_callTy call_list_of hg hm (by decide +kernel) (da_cons (as := []) h da_nil he) (by decide) (by decide) he) br_list
end
end TL

/-! TL10: methods, stores, displays, slices, sorted, isinstance. -/
namespace TL
open PySem PySem.Spec PyProof.Rows L2
/-! ### methods -/
def tyA (n : String) : List ArgV → Ev → Prop
  | [.pl i], ev => ∃ t, ev[i]? = some (some t) ∧ t.tyN = n
  | [.vl t], _ => t.tyN = n
  | _, _ => False
def wMeth (n : String) (S : SpT) (o : Arg) (args : List Arg) : WE := fun ev Q X => wArgs [o] ev (fun as1 ev1 => tyA n as1 ev1 ∧ wArgs args ev1 (fun as ev2 => ∃ ts ev3, takeA (as1 ++ as) ev2 = some (ts, ev3) ∧
  S ts (fun t ts' => Q t (giveA (as1 ++ as) ts' ev3)) fun C ts' => X C (giveA (as1 ++ as) ts' ev3)) X) X
def goodTy (n : String) : Bool := n == "list" || n == "dict" || n == "str"
section
variable {K : PySem.W.Frag} {F : Addr → Prop} {H : Hp}
theorem Rep.tyV {n : String} : ∀ {t : T} {v : V}, Rep K F H t v → t.tyR = n → goodTy n = true → tyV K n v H ∧ (n = "dict" → ∃ a, v = .ref a ∧ IsD H a)
  | .str x, v, h, e, g => by
    rw [show v = .str x from h]; subst e
    exact ⟨rfl, fun z => absurd (show ("str" : String) = "dict" from z) (by decide)⟩
  | .lst xs, v, ⟨a, vs, ea, fa, hH, r⟩, e, g => by
    rw [ea]; subst e
    exact ⟨.inl ⟨rfl, vs, SqL.of hH⟩, fun z => absurd (show ("list" : String) = "dict" from z) (by decide)⟩
  | .dk _ _, v, h, e, g => by subst e; cases g
  | .dt ks ts, v, ⟨a, vs, ea, fa, hH, l, r⟩, e, g => by
    rw [ea]; subst e
    exact ⟨.inr (.inr (.inl ⟨rfl, .inr ⟨_, hH⟩⟩)), fun _ => ⟨a, rfl, .inr ⟨_, .inl hH⟩⟩⟩
  | .fz t, v, h, e, g => Rep.tyV (t := t) h e g
  | .tup _, v, h, e, g => by subst e; cases g
  | .int _, v, h, e, g => by subst e; cases g
  | .non, v, h, e, g => by subst e; cases g
  | .bl _, v, h, e, g => by subst e; cases g
  | .hole _, v, h, e, g => by subst e; cases g
  | .scr _, v, h, e, g => by subst e; cases g
  | .exc _, v, h, e, g => by subst e; cases g
  | .ty _, v, h, e, g => by subst e; cases g
  | .cls _, v, h, e, g => by subst e; cases g
theorem Own.tyV {n : String} {t : T} {v : V} {L : List Addr} (o : Own K F H t v L) (e : t.tyN = n) (g : goodTy n = true) : tyV K n v H ∧ (n = "dict" → ∃ a, v = .ref a ∧ IsD H a) := by
  have o' : Rep K (fun a => F a ∨ a ∈ L) H t v := o.rep (fun _ => .inl) (fun _ => .inr)
  cases t with
  | dk ks ts =>
    obtain ⟨a, vs, L', ea, el, hH, l, r⟩ := o
    have e : "dict" = n := e
    rw [ea]; subst e
    exact ⟨.inr (.inr (.inl ⟨rfl, .inl ⟨_, hH⟩⟩)), fun _ => ⟨a, rfl, .inl ⟨_, .inl hH⟩⟩⟩
  | _ => exact o'.tyV e g
theorem meth_run {W : WX} {n : String} {S : SpT} {o : Arg} {args : List Arg} {σ : L2.St} {Hq : Hp} {R : VK} (g : goodTy n = true) (h : liftE K W (wMeth n S o args) σ Hq R) :
    tOf K W o σ Hq fun x H1 => (tyV K n x H1 ∧ (n = "dict" → ∃ a, x = .ref a ∧ IsD H1 a)) ∧ tL K W args σ H1 fun xs H2 => spT K S (x :: xs) H2 R fun c d H2 => W c d σ H2 := by
  obtain ⟨ev, F, L, Q0, X0, S0, w, k, kx⟩ := h
  have main : tL K W [o] σ Hq fun vs H1 => ∀ x, vs = [x] → (tyV K n x H1 ∧ (n = "dict" → ∃ a, x = .ref a ∧ IsD H1 a)) ∧ tL K W args σ H1 fun xs H2 => spT K S (x :: xs) H2 R fun c d H2 => W c d σ H2 := by
    unfold wMeth at w
    refine run_args S0.a0 w (fun as vs ev1 F1 H1 L1 Lt1 q x1 A => ?_) fun C ev' F' H' L' q x S' => kx C ev' F' H' L' q (by simpa using x) S'
    obtain ⟨ty, q⟩ := q
    rw [List.append_nil] at x1
    have A1 : StA K F1 H1 ev1 σ as vs L1 Lt1 := by simpa using A
    have dj1 : ∀ a ∈ L1 ++ Lt1, ¬ F1 a := fun a m => A1.dj a (List.mem_append.mp m)
    intro x ex
    subst ex
    refine ⟨?_, ?_⟩
    · cases as with
      | nil => exact ty.elim
      | cons a0 r =>
        cases r with
        | cons b r => cases a0 <;> exact ty.elim
        | nil =>
          cases a0 with
          | pl i =>
            obtain ⟨t, et, e⟩ := ty
            obtain ⟨v, L2, L3, e1, _, o1, _⟩ := A1.own.get et
            obtain ⟨v', vs', e2, e3, _⟩ := A1.tmp
            cases e2
            rw [e1] at e3; cases e3
            exact o1.tyV e g
          | vl t =>
            obtain ⟨v', vs', L2, L3, e2, _, o1, _⟩ := A1.tmp
            cases e2
            exact o1.tyV ty g
    · refine run_args A1 q (fun bs ws ev2 F2 H2 L2 Lt2 q2 x2 A2 => ?_) fun C ev' F' H' L' q x S' => kx C ev' F' H' L' q (x1.trans x dj1) S'
      obtain ⟨ts, ev3, ht, hs⟩ := q2
      have dj2 : ∀ a ∈ L2 ++ Lt2, ¬ F2 a := fun a m => A2.dj a (List.mem_append.mp m)
      have x12 := x1.trans x2 dj1
      exact call_args A2 ht hs (fun t ts' v F3 H3 L3 q x3 S3 => k t _ v F3 H3 L3 q (x12.trans x3 dj2) S3) fun C ts' F3 H3 L3 q x3 S3 => kx C _ F3 H3 L3 q (x12.trans x3 dj2) S3
  exact tOf_mono main fun x H1 q => q x rfl
end
section
variable {X : Cx} {W : WX} {e : Expr}
theorem DE.meth {n : String} {r : V → List V → Hp → VK → Prop} {S : SpT} {o : Arg} {args : List Arg} (g : goodTy n = true) (h : PE X e (tBM X.K n r (tOf X.K W o) (tL X.K W args))) (br : BrM X.K S r) : DE X W e (wMeth n S o args) := PE.imp h fun σ H Q q =>
  tOf_mono (meth_run g q) fun x H1 z => ⟨z.1.1, tL_mono z.2 fun xs H2 z => br x xs H2 Q (fun c d H' => W c d σ H') z⟩
theorem DE.meth0 {n : String} {r : V → List V → Hp → VK → Prop} {S : SpT} {o : Arg} (g : goodTy n = true) (h : PE X e (tBM0 X.K n r (tOf X.K W o))) (br : BrM X.K S r) : DE X W e (wMeth n S o []) := PE.imp h fun σ H Q q =>
  tOf_mono (meth_run g q) fun x H1 z => ⟨z.1.1, br x [] H1 Q (fun c d H' => W c d σ H') z.2⟩
end

/-! ### a list is written -/
section
variable {K : PySem.W.Frag} {F : Addr → Prop} {H : Hp} {L : List Addr} {ts : List T} {vs : List V}
/-- the object at a gets new content; t is what is answered -/
theorem StL.write (S : StL K F H ts vs L) {a : Addr} {o : HO} {t t' : T} {v : V} {Lx M : List Addr} {rest : List V} (ht : Own K F H t v Lx) (hn : H a ≠ none) (hc : ∀ b : Nat, (Lx ++ a :: M).count b ≤ L.count b)
    (hw : ∀ H' : Hp, H' a = some o → (∀ b u, b ≠ a → H b = some u → H' b = some u) → Own K F H' t' (.ref a) (a :: M)) :
    Ext F H L F (upd H a o) (Lx ++ a :: M) ∧ St K F (upd H a o) (some t :: some t' :: rest.map fun _ => none) (some v :: some (.ref a) :: rest.map some) (Lx ++ a :: M) := by
  have mem : ∀ b ∈ Lx ++ a :: M, b ∈ L := fun b m => Sub.mem (A := Lx ++ a :: M) (B := L) hc m
  have ma : a ∈ L := mem a (List.mem_append_right _ List.mem_cons_self)
  have nf : ¬ F a := S.dj a ma
  have nx : ∀ b, F b ∨ b ∈ Lx → b ≠ a := fun b q e => by
    subst e
    rcases q with q | q
    · exact nf q
    · have h1 := hc b
      have h2 := S.nd b
      have h3 := List.count_pos_iff.mpr q
      rw [List.count_append, List.count_cons_self] at h1
      omega
  have k : ∀ b u, b ≠ a → H b = some u → upd H a o b = some u := fun b u n e => by rw [upd_ne n]; exact e
  refine ⟨⟨fun _ z => z, fun b u hb e => k b u (fun z => hb (by rw [z]; exact ma)) e, fun b q => q.elim .inl fun z => .inr (.inl (mem b z))⟩, ⟨?_, fun b => Nat.le_trans (hc b) (S.nd b), fun b m => S.dj b (mem b m), fun b fb e => ?_⟩⟩
  · refine ⟨v, _, Lx, a :: M, rfl, rfl, ht.mono (fun _ z => z) fun b u hb e => k b u (nx b hb) e, .ref a, rest.map some, a :: M, [], rfl, by simp, hw _ upd_same k, nones_own rest⟩
  · rw [upd_ne (nx b (.inl fb))] at e
    exact S.dom b fb e
theorem lst_hw {a : Addr} {xs : List T} {us : List V} {M : List Addr} (r : Owns K F H xs us M) (nf : ¬ F a) (na : a ∉ M) : ∀ H' : Hp, H' a = some (.lst us) → (∀ b u, b ≠ a → H b = some u → H' b = some u) → Own K F H' (.lst xs) (.ref a) (a :: M) :=
  fun H' e k => ⟨a, us, M, rfl, rfl, e, r.mono (fun _ z => z) fun b u hb e => k b u (fun z => by subst z; exact hb.elim nf na) e⟩
end
def sAppend : SpT := fun ts Q _ => ∃ xs y, ts = [.lst xs, y] ∧ xs.length < sizeLine ∧ Q .non [some (.lst (xs ++ [y])), none]
def sPop : SpT := fun ts Q _ => ∃ xs t, ts = [.lst xs] ∧ xs[xs.length - 1]? = some t ∧ Q t [some (.lst xs.dropLast)]
def sPopAt : SpT := fun ts Q _ => ∃ xs i k t, ts = [.lst xs, .int i] ∧ -(2 ^ 63) ≤ i ∧ i < 2 ^ 63 ∧ seqIndex? i xs.length = some k ∧ xs[k]? = some t ∧ Q t [some (.lst (xs.eraseIdx k)), none]
def sInsert : SpT := fun ts Q _ => ∃ xs i y, ts = [.lst xs, .int i, y] ∧ xs.length < sizeLine ∧ 0 ≤ i ∧ i < 2 ^ 63 ∧ Q .non [some (.lst (xs.take i.toNat ++ [y] ++ xs.drop i.toNat)), none, none]
def T.movL : T → Option (List T)
  | .lst xs => some xs
  | .fz (.lst xs) => some (xs.map T.frz)
  | _ => none
def sExtend : SpT := fun ts Q _ => ∃ xs y ys, ts = [.lst xs, y] ∧ y.movL = some ys ∧ xs.length + ys.length ≤ sizeLine ∧ Q .non [some (.lst (xs ++ ys)), none]
section
variable {K : PySem.W.Frag}
theorem cnt_nd {F : Addr → Prop} {H : Hp} {ts : List T} {vs : List V} {L : List Addr} (S : StL K F H ts vs L) {a : Addr} {M : List Addr} (h : (a :: M).count a ≤ L.count a) : a ∉ M := fun m => by
  have h1 := S.nd a
  have h2 := List.count_pos_iff.mpr m
  rw [List.count_cons_self] at h
  omega
theorem br_append : BrM K sAppend rAppend := fun x vs H Q E ⟨ts, F, L, Q0, X0, S, ⟨xs, y, e, hz, q⟩, k, _⟩ => by
  subst e
  obtain ⟨v, w, L1, L2, e1, el, ⟨a, us, M, ea, em, ha, r⟩, o2⟩ := S.own.two'
  cases e1
  have hc : ∀ b : Nat, ([] ++ a :: (M ++ L2)).count b ≤ L.count b := fun b => by rw [el, em]; simp
  have na : a ∉ M ++ L2 := cnt_nd S (by simpa using hc a)
  have nf : ¬ F a := S.dj a (by rw [el, em]; simp)
  obtain ⟨x1, S1⟩ := S.write (o := .lst (us ++ [w])) (rest := [w]) own_non (ne_none_of ha) hc (lst_hw (r.app (Owns.one o2)) nf na)
  refine ⟨a, us, w, ea, rfl, ha, by rw [← r.len]; exact hz, ?_⟩
  subst ea
  exact k _ _ _ F _ _ q x1 S1
theorem Owns.last : ∀ {ts : List T} {vs : List V} {L : List Addr} {F : Addr → Prop} {H : Hp} {t : T}, Owns K F H ts vs L → ts[ts.length - 1]? = some t → ∃ v L1 L2, vs[vs.length - 1]? = some v ∧ (∀ b : Nat, L1.count b + L2.count b = L.count b) ∧ Own K F H t v L1 ∧ Owns K F H ts.dropLast vs.dropLast L2
  | [], vs, L, F, H, t, _, h => by simp at h
  | [u], vs, L, F, H, t, ⟨v, vs', L1, L2, e, el, o, e2, e3⟩, h => by
    subst e2 e3
    simp at h; subst h
    exact ⟨v, L1, [], by rw [e]; rfl, fun b => by rw [el]; simp, o, by rw [e]; exact ⟨rfl, rfl⟩⟩
  | u :: w :: r, vs, L, F, H, t, ⟨v, vs', L1, L2, e, el, o, rs⟩, h => by
    obtain ⟨v2, M1, M2, e1, ec, o2, r2⟩ := Owns.last (ts := w :: r) (t := t) rs (by simpa using h)
    obtain ⟨z, zs, _, _, ez, _⟩ := rs
    subst ez
    refine ⟨v2, M1, L1 ++ M2, by rw [e]; simpa using e1, fun b => by have := ec b; rw [el, List.count_append, List.count_append]; omega, o2, ?_⟩
    rw [e]
    exact ⟨v, _, L1, M2, rfl, rfl, o, r2⟩
theorem Owns.erase : ∀ {ts : List T} {vs : List V} {L : List Addr} {F : Addr → Prop} {H : Hp} {i : Nat} {t : T}, Owns K F H ts vs L → ts[i]? = some t → ∃ v L1 L2, vs[i]? = some v ∧ (∀ b : Nat, L1.count b + L2.count b = L.count b) ∧ Own K F H t v L1 ∧ Owns K F H (ts.eraseIdx i) (vs.eraseIdx i) L2
  | [], vs, L, F, H, i, t, _, h => by simp at h
  | u :: r, vs, L, F, H, 0, t, ⟨v, vs', L1, L2, e, el, o, rs⟩, h => by
    simp at h; subst h
    exact ⟨v, L1, L2, by rw [e]; rfl, fun b => by rw [el, List.count_append], o, by rw [e]; exact rs⟩
  | u :: r, vs, L, F, H, i + 1, t, ⟨v, vs', L1, L2, e, el, o, rs⟩, h => by
    obtain ⟨v2, M1, M2, e1, ec, o2, r2⟩ := Owns.erase (ts := r) (i := i) (t := t) rs (by simpa using h)
    exact ⟨v2, M1, L1 ++ M2, by rw [e]; simpa using e1, fun b => by have := ec b; rw [el, List.count_append, List.count_append]; omega, o2, by rw [e]; exact ⟨v, _, L1, M2, rfl, rfl, o, r2⟩⟩
theorem br_pop : BrM K sPop rPop := fun x vs H Q E ⟨ts, F, L, Q0, X0, S, ⟨xs, t, e, ht, q⟩, k, _⟩ => by
  subst e
  obtain ⟨v, e1, ⟨a, us, M, ea, em, ha, r⟩⟩ := S.own.one'
  cases e1
  obtain ⟨w, M1, M2, e2, ec, o, r2⟩ := r.last ht
  have hc : ∀ b : Nat, (M1 ++ a :: M2).count b ≤ L.count b := fun b => by have := ec b; rw [em, List.count_append, List.count_cons, List.count_cons]; omega
  have na : a ∉ M2 := cnt_nd S (by have := hc a; rw [List.count_append] at this; omega)
  have nf : ¬ F a := S.dj a (by rw [em]; simp)
  obtain ⟨x1, S1⟩ := S.write (o := .lst us.dropLast) (rest := []) o (ne_none_of ha) hc (lst_hw r2 nf na)
  refine ⟨a, us, w, ea, rfl, ha, e2, ?_⟩
  subst ea
  exact k _ _ _ F _ _ q x1 S1
theorem br_popAt : BrM K sPopAt rPopAt := fun x vs H Q E ⟨ts, F, L, Q0, X0, S, ⟨xs, i, j, t, e, b1, b2, hj, ht, q⟩, k, _⟩ => by
  subst e
  obtain ⟨v, w, L1, L2, e1, el, ⟨a, us, M, ea, em, ha, r⟩, ⟨eL2, o2⟩⟩ := S.own.two'
  cases e1
  obtain ⟨z, M1, M2, e2, ec, o, r2⟩ := r.erase ht
  subst eL2
  have hc : ∀ b : Nat, (M1 ++ a :: M2).count b ≤ L.count b := fun b => by have := ec b; rw [el, em, List.append_nil, List.count_append, List.count_cons, List.count_cons]; omega
  have na : a ∉ M2 := cnt_nd S (by have := hc a; rw [List.count_append] at this; omega)
  have nf : ¬ F a := S.dj a (by rw [el, em]; simp)
  obtain ⟨x1, S1⟩ := S.write (o := .lst (us.eraseIdx j)) (rest := [w]) o (ne_none_of ha) hc (lst_hw r2 nf na)
  have o2' : w = .int i := o2
  subst o2'
  refine ⟨a, us, i, j, z, ea, rfl, ha, b1, b2, by rw [← r.len]; exact hj, e2, ?_⟩
  subst ea
  exact k _ _ _ F _ _ q x1 S1
theorem Owns.split : ∀ {ts : List T} {vs : List V} {L : List Addr} {F : Addr → Prop} {H : Hp} (n : Nat), Owns K F H ts vs L → ∃ L1 L2, (∀ b : Nat, L1.count b + L2.count b = L.count b) ∧ Owns K F H (ts.take n) (vs.take n) L1 ∧ Owns K F H (ts.drop n) (vs.drop n) L2
  | ts, vs, L, F, H, 0, h => ⟨[], L, fun b => by simp, ⟨by simp, rfl⟩, by simpa using h⟩
  | [], vs, L, F, H, n + 1, ⟨e, el⟩ => ⟨[], [], fun b => by rw [el]; simp, ⟨by rw [e]; rfl, rfl⟩, ⟨by rw [e]; rfl, rfl⟩⟩
  | t :: ts, vs, L, F, H, n + 1, ⟨v, vs', L1, L2, e, el, o, rs⟩ => by
    obtain ⟨M1, M2, ec, r1, r2⟩ := Owns.split n rs
    exact ⟨L1 ++ M1, M2, fun b => by have := ec b; rw [el, List.count_append, List.count_append]; omega, by rw [e]; exact ⟨v, _, L1, M1, rfl, rfl, o, r1⟩, by rw [e]; exact r2⟩
theorem br_insert : BrM K sInsert (fun x vs H Q => ∃ (l : Addr) (xs : List V) (i : Int) (y : V), x = .ref l ∧ vs = [.int i, y] ∧ H l = some (.lst xs) ∧ xs.length < sizeLine ∧ 0 ≤ i ∧ i < 2 ^ 63 ∧
    Q .non (upd H l (.lst (xs.take i.toNat ++ [y] ++ xs.drop i.toNat)))) := fun x vs H Q E ⟨ts, F, L, Q0, X0, S, ⟨xs, i, y, e, hz, b1, b2, q⟩, k, _⟩ => by
  subst e
  obtain ⟨v, w, z, L1, L2, L3, e1, el, ⟨a, us, M, ea, em, ha, r⟩, ⟨eL2, o2⟩, o3⟩ := S.own.three'
  cases e1
  subst eL2
  obtain ⟨M1, M2, ec, r1, r2⟩ := r.split i.toNat
  have hc : ∀ b : Nat, ([] ++ a :: (M1 ++ L3 ++ M2)).count b ≤ L.count b := fun b => by
    have := ec b
    rw [el, em]; simp only [List.nil_append, List.count_append, List.count_cons]; omega
  have na : a ∉ M1 ++ L3 ++ M2 := cnt_nd S (by simpa using hc a)
  have nf : ¬ F a := S.dj a (by rw [el, em]; simp)
  have o2' : w = .int i := o2
  subst o2'
  obtain ⟨x1, S1⟩ := S.write (o := .lst (us.take i.toNat ++ [z] ++ us.drop i.toNat)) (rest := [.int i, z]) own_non (ne_none_of ha) hc (lst_hw ((r1.app (Owns.one o3)).app r2) nf na)
  refine ⟨a, us, i, z, ea, rfl, ha, by rw [← r.len]; exact hz, b1, b2, ?_⟩
  subst ea
  exact k _ _ _ F _ _ q x1 S1
theorem movL_own {F : Addr → Prop} {H : Hp} {t : T} {v : V} {L : List Addr} {ys : List T} (o : Own K F H t v L) (h : t.movL = some ys) : ∃ b ws M, v = .ref b ∧ H b = some (.lst ws) ∧ Owns K F H ys ws M ∧ ∀ c : Nat, M.count c ≤ L.count c := by
  unfold T.movL at h
  split at h
  · cases h
    obtain ⟨a, us, M, ea, em, ha, r⟩ := o
    exact ⟨a, us, M, ea, ha, r, fun c => by rw [em, List.count_cons]; omega⟩
  · cases h
    obtain ⟨el, a, us, ea, fa, ha, r⟩ := o
    exact ⟨a, us, [], ea, ha, r.owns, fun c => by simp⟩
  · cases h
theorem br_extend : BrM K sExtend rExtend := fun x vs H Q E ⟨ts, F, L, Q0, X0, S, ⟨xs, y, ys, e, hy, hz, q⟩, k, _⟩ => by
  subst e
  obtain ⟨v, w, L1, L2, e1, el, ⟨a, us, M, ea, em, ha, r⟩, o2⟩ := S.own.two'
  cases e1
  obtain ⟨b, ws, N, eb, hb, r2, nc⟩ := movL_own o2 hy
  have hc : ∀ c : Nat, ([] ++ a :: (M ++ N)).count c ≤ L.count c := fun c => by
    have := nc c
    rw [el, em]; simp only [List.nil_append, List.count_append, List.count_cons]; omega
  have na : a ∉ M ++ N := cnt_nd S (by simpa using hc a)
  have nf : ¬ F a := S.dj a (by rw [el, em]; simp)
  obtain ⟨x1, S1⟩ := S.write (o := .lst (us ++ ws)) (rest := [w]) own_non (ne_none_of ha) hc (lst_hw (r.app r2) nf na)
  refine ⟨a, b, us, ws, ea, by rw [eb], ha, hb, by rw [← r.len, ← r2.len]; exact hz, ?_⟩
  subst ea
  exact k _ _ _ F _ _ q x1 S1
end
section
variable {X : Cx} {W : WX} {o e e2 : Expr} {oa ob oc : Arg} {apos cpos pos p : Pos}
theorem de_append (ho : DO X W o oa) (h : DO X W e ob) (he : starEach [e] X.env = (false, eval e X.env) :: starEach [] X.env := by rfl) (hbase : attributeBase o "append" X.env (eval o X.env) = eval o X.env := by rfl)
    (hf : ((backTo cpos (starEach [e] X.env)).all (fun x => !x.1) && (backToKw cpos (keywordEach [] X.env)).all (fun x => x.1.isSome) && decide (([e]).length + ([] : List Keyword).length + (if ([] : List Keyword).isEmpty then 0 else 1) < 30)) = true := by rfl)
    (hline : (apos.endLine == cpos.line) = true := by rfl) :
    DE X W (.Call (.Attribute o "append" apos) [e] [] cpos) (wMeth "list" sAppend oa [ob]) := DE.meth rfl (pe_bm PySem.F.plainAttrs_list PySem.F.slot_list_append PySem.F.type_list_append mt_append ho (da_cons (as := []) h da_nil he) hbase hf hline he) br_append
theorem de_pop0 (ho : DO X W o oa) (hbase : attributeBase o "pop" X.env (eval o X.env) = eval o X.env := by rfl) (hline : (apos.endLine == cpos.line) = true := by rfl) :
    DE X W (.Call (.Attribute o "pop" apos) [] [] cpos) (wMeth "list" sPop oa []) := DE.meth0 rfl (pe_bm0 PySem.F.plainAttrs_list PySem.F.slot_list_pop PySem.F.type_list_pop mt_pop ho hbase hline) br_pop
theorem de_popAt (ho : DO X W o oa) (h : DO X W e ob) (he : starEach [e] X.env = (false, eval e X.env) :: starEach [] X.env := by rfl) (hbase : attributeBase o "pop" X.env (eval o X.env) = eval o X.env := by rfl)
    (hf : ((backTo cpos (starEach [e] X.env)).all (fun x => !x.1) && (backToKw cpos (keywordEach [] X.env)).all (fun x => x.1.isSome) && decide (([e]).length + ([] : List Keyword).length + (if ([] : List Keyword).isEmpty then 0 else 1) < 30)) = true := by rfl)
    (hline : (apos.endLine == cpos.line) = true := by rfl) :
    DE X W (.Call (.Attribute o "pop" apos) [e] [] cpos) (wMeth "list" sPopAt oa [ob]) := DE.meth rfl (pe_bm PySem.F.plainAttrs_list PySem.F.slot_list_pop PySem.F.type_list_pop mt_popAt ho (da_cons (as := []) h da_nil he) hbase hf hline he) br_popAt
theorem de_extend (ho : DO X W o oa) (h : DO X W e ob) (he : starEach [e] X.env = (false, eval e X.env) :: starEach [] X.env := by rfl) (hbase : attributeBase o "extend" X.env (eval o X.env) = eval o X.env := by rfl)
    (hf : ((backTo cpos (starEach [e] X.env)).all (fun x => !x.1) && (backToKw cpos (keywordEach [] X.env)).all (fun x => x.1.isSome) && decide (([e]).length + ([] : List Keyword).length + (if ([] : List Keyword).isEmpty then 0 else 1) < 30)) = true := by rfl)
    (hline : (apos.endLine == cpos.line) = true := by rfl) :
    DE X W (.Call (.Attribute o "extend" apos) [e] [] cpos) (wMeth "list" sExtend oa [ob]) := DE.meth rfl (pe_bm PySem.F.plainAttrs_list PySem.F.slot_list_extend PySem.F.type_list_extend mt_extend ho (da_cons (as := []) h da_nil he) hbase hf hline he) br_extend
end

/-! ### stores into lists -/
/-- o[i] = v: the value, the object, the index, in this order -/
def sStore (S : SpT) (o oi : Arg) (wv : WE) : WS := fun ev E => wv ev (fun t ev1 => wArgs [o, oi] ev1 (fun as ev2 => ∃ ts ev3, takeA (.vl t :: as) ev2 = some (ts, ev3) ∧
  S ts (fun _ ts' => E.nx (giveA (.vl t :: as) ts' ev3)) fun _ _ => False) E.xc) E.xc
def sSetI : SpT := fun ts Q _ => ∃ xs k j y, ts = [y, .lst xs, .int k] ∧ ixN xs.length k = some j ∧ Q .non [none, some (.lst (xs.set j y)), none]
/-- what a store asks of the heap -/
def BrS (K : PySem.W.Frag) (S : SpT) (r : TSet) : Prop := ∀ o i v H Q E, spT K S [v, o, i] H (fun _ H' => Q H') E → r o i v H Q
theorem br_setI {K : PySem.W.Frag} : BrS K sSetI rSetL := fun o i v H Q E ⟨ts, F, L, Q0, X0, S, ⟨xs, n, j, y, e, hj, q⟩, k, _⟩ => by
  subst e
  obtain ⟨vy, vo, vi, L3, L1, L2, e1, el, o3, ⟨a, us, M, ea, em, ha, r⟩, ⟨eL2, o2⟩⟩ := S.own.three'
  cases e1
  subst eL2
  have hjl : j < xs.length := (ixN_seq hj).2.1
  obtain ⟨w, N0, N1, N2, e2, en, o', back⟩ := r.get (List.getElem?_eq_getElem hjl)
  have hc : ∀ b : Nat, ([] ++ a :: (N0 ++ L3 ++ N2)).count b ≤ L.count b := fun b => by
    rw [el, em, en]; simp only [List.nil_append, List.count_append, List.count_cons]; omega
  have na : a ∉ N0 ++ L3 ++ N2 := cnt_nd S (by simpa using hc a)
  have nf : ¬ F a := S.dj a (by rw [el, em]; simp)
  have o2' : i = .int n := o2
  subst o2'
  obtain ⟨x1, S1⟩ := S.write (o := .lst (us.set j v)) (rest := [.int n]) own_non (ne_none_of ha) hc (lst_hw (back y v L3 o3) nf na)
  refine ⟨a, us, n, j, ea, rfl, ha, by rw [← r.len]; exact hj, ?_⟩
  subst ea
  refine k _ _ .non F _ _ q x1 ⟨?_, S1.nd, S1.dj, S1.dom⟩
  obtain ⟨v1, σ1, M1, M2, z1, z2, oN, v2, σ2, M3, M4, z3, z4, oL, w1, σ3, z5, z6⟩ := S1.own
  cases z1; cases z3; cases z5
  exact ⟨_, _, M1, M2, rfl, z2, oN, some v, _, rfl, _, _, M3, M4, rfl, z4, oL, some (.int n), [], rfl, z6.1, z6.2⟩
section
variable {X : Cx} {W : WX}
theorem store_run {K : PySem.W.Frag} {kp : KP} {S : SpT} {r : TSet} {o oi : Arg} {wv : WE} {D : Ends} {σ : L2.St} {H : Hp} (br : BrS K S r) (h : liftS K W kp (sStore S o oi wv) D σ H) : tAsg (liftE K W wv) (gSub (tOf K W o) (tOf K W oi) r) D σ H := by
  obtain ⟨ev, F, L, E0, S0, p, w, k1, k2, k3, k4, k5⟩ := h
  refine ⟨ev, F, L, _, _, S0, w, fun t ev1 v F1 H1 L1 q x1 S1 => ?_, fun C ev' F' H' L' q x S' => k5 C ev' σ F' H' L' q x S' p⟩
  obtain ⟨M1, M2, el, ot, oe⟩ := S1.pop
  have A1 : StA K F1 H1 ev1 σ [.vl t] [v] M2 M1 := ⟨oe, ⟨v, [], M1, [], rfl, by simp, ot, rfl, rfl⟩, fun a => by have := S1.nd a; rw [el, List.count_append] at this; omega, fun a m => S1.dj a (by rw [el]; rcases m with m | m; exact List.mem_append_right _ m; exact List.mem_append_left _ m), S1.dom⟩
  have ex1 : Ext F H L F1 H1 (M2 ++ M1) := x1.sub (fun _ m => m) fun a m => .inl (by rw [el]; rcases List.mem_append.mp m with m | m; exact List.mem_append_right _ m; exact List.mem_append_left _ m)
  have dj1 : ∀ a ∈ M2 ++ M1, ¬ F1 a := fun a m => A1.dj a (List.mem_append.mp m)
  have main : tL K W [o, oi] σ H1 fun us H2 => ∀ a b, us = [a, b] → r a b v H2 fun H' => D.nx σ H' := by
    refine run_args A1 q (fun as us ev2 F2 H2 L2 Lt2 q2 x2 A2 => ?_) fun C ev' F' H' L' q x S' => k5 C ev' σ F' H' L' q (ex1.trans x dj1) S' p
    obtain ⟨ts, ev3, ht, hs⟩ := q2
    intro a b eu
    subst eu
    have dj2 : ∀ a ∈ L2 ++ Lt2, ¬ F2 a := fun a m => A2.dj a (List.mem_append.mp m)
    refine br a b v H2 _ (fun _ _ _ => False) (call_args A2 ht hs (fun t2 ts' v2 F3 H3 L3 q3 x3 S3 => ?_) fun C ts' F3 H3 L3 q3 _ _ => q3.elim)
    obtain ⟨L4, S4, m4⟩ := S3.tail
    exact k1 _ σ F3 H3 L4 q3 (((ex1.trans x2 dj1).trans x3 dj2).sub (fun _ m => m) fun a m => .inl (m4 a m)) S4 p
  exact tOf_mono main fun a H2 q2 => tOf_mono q2 fun b H3 q3 => q3 a b rfl
theorem ds_store {S : SpT} {r : TSet} {a i e : Expr} {oa oi : Arg} {wv : WE} {pos pos' : Pos} (br : BrS X.K S r) (hs : PSet X r) (ha : DO X W a oa) (hi : DO X W i oi) (h : DE X W e wv) (h1 : swapsWithSole [.Subscript a i pos'] e pos.line X.env = pure false := by rfl)
    (h2 : swappedStores [.Subscript a i pos'] e X.env = pure none := by rfl) (h3 : (assignEach [.Subscript a i pos'] X.env).map (·.2) = [assign (.Subscript a i pos') X.env] := by rfl)
    (hq : ∀ v, assign (.Subscript a i pos') X.env v = (do
      let ov ← holding [v] (eval a X.env)
      let iv ← holding [v, ov] (eval i X.env)
      standAt pos'
      holding [v, ov, iv] (setItem ov iv v)
      release [v, ov, iv] []) := by intro _; rfl) : DS X W [] (.Assign [.Subscript a i pos'] e pos) (sStore S oa oi wv) := fun kp _ =>
  PS.imp (ps_asg h (pg_sub ha hi hs hq) h1 h2 h3) fun D σ H q => store_run br q
theorem ds_setI {a i e : Expr} {oa oi : Arg} {wv : WE} {pos pos' : Pos} (ha : DO X W a oa) (hi : DO X W i oi) (h : DE X W e wv) (h1 : swapsWithSole [.Subscript a i pos'] e pos.line X.env = pure false := by rfl)
    (h2 : swappedStores [.Subscript a i pos'] e X.env = pure none := by rfl) (h3 : (assignEach [.Subscript a i pos'] X.env).map (·.2) = [assign (.Subscript a i pos') X.env] := by rfl)
    (hq : ∀ v, assign (.Subscript a i pos') X.env v = (do
      let ov ← holding [v] (eval a X.env)
      let iv ← holding [v, ov] (eval i X.env)
      standAt pos'
      holding [v, ov, iv] (setItem ov iv v)
      release [v, ov, iv] []) := by intro _; rfl) : DS X W [] (.Assign [.Subscript a i pos'] e pos) (sStore sSetI oa oi wv) := ds_store br_setI set_list ha hi h h1 h2 h3 hq
end

/-! ### displays -/
def sLst : SpT := fun ts Q _ => ts.length ≤ sizeLine ∧ Q (.lst ts) (ts.map fun _ => none)
def sTup : SpT := fun ts Q _ => ts.length ≤ sizeLine ∧ Q (.tup ts) (ts.map fun _ => none)
section
variable {K : PySem.W.Frag} {F : Addr → Prop} {H : Hp} {L : List Addr} {ts : List T} {vs : List V}
theorem nones_map : ∀ {ts : List T} {vs : List V}, ts.length = vs.length → OwnE K F H (ts.map fun _ => none) (vs.map some) []
  | [], [], _ => ⟨rfl, rfl⟩
  | [], _ :: _, h => by simp at h
  | _ :: _, [], h => by simp at h
  | t :: ts, v :: vs, h => ⟨some v, vs.map some, rfl, nones_map (by simpa using h)⟩
/-- all arguments go into a new cell -/
theorem StL.into (S : StL K F H ts vs L) {p : Addr} {o : HO} {t : T} (hp : H p = none) (h : ∀ H', H' p = some o → (∀ b u, H b = some u → H' b = some u) → Own K F H' t (.ref p) (p :: L)) :
    Ext F H L F (upd H p o) (p :: L) ∧ St K F (upd H p o) (some t :: ts.map fun _ => none) (some (.ref p) :: vs.map some) (p :: L) := by
  obtain ⟨S', x⟩ := S.env.new hp o
  obtain ⟨n1, n2⟩ := S.env.apart_new hp
  refine ⟨⟨x.fr, x.keep, fun a q => ?_⟩, ⟨⟨_, _, p :: L, [], rfl, by simp, h _ upd_same (keep_new hp), nones_map S.own.len⟩, fun a => ?_, fun a m => ?_, S'.dom⟩⟩
  · rcases q with q | q
    · exact .inl q
    · rcases List.mem_cons.mp q with rfl | q
      · exact .inr (.inr hp)
      · exact .inr (.inl q)
  · have h1 := S.nd a
    rw [List.count_cons]
    by_cases e : p = a
    · subst e
      have := count_zero_of_not_mem n1
      simp; omega
    · simp [e]; exact h1
  · rcases List.mem_cons.mp m with rfl | m
    · exact n2
    · exact S.dj a m
end
section
variable {X : Cx} {W : WX}
theorem de_lstD {es : List Expr} {as : List Arg} {pos : Pos} (h : DA X W es as) : DE X W (.List es pos) (wOp sLst as) := PE.imp (pe_lst h) fun σ H Q q => tL_mono (wOp_run q) fun vs H1 ⟨ts, F, L, Q0, X0, S, ⟨hl, q⟩, k, _⟩ => by
  refine ⟨by rw [← S.own.len]; exact hl, fun p hp => ?_⟩
  obtain ⟨x1, S1⟩ := S.into (o := .lst vs) (t := .lst ts) hp fun H' e k => ⟨p, vs, L, rfl, rfl, e, S.own.mono (fun _ z => z) fun b u _ e => k b u e⟩
  exact k _ _ _ F _ _ q x1 S1
theorem de_tupD {es : List Expr} {as : List Arg} {pos : Pos} {k : Nat} (h : DA X W es as) : DE X W (.Tuple es k pos) (wOp sTup as) := PE.imp (pe_tup h) fun σ H Q q => tL_mono (wOp_run q) fun vs H1 ⟨ts, F, L, Q0, X0, S, ⟨hl, q⟩, k, _⟩ => by
  refine ⟨by rw [← S.own.len]; exact hl, fun p hp => ?_⟩
  obtain ⟨x1, S1⟩ := S.into (o := .tup vs) (t := .tup ts) hp fun H' e k => ⟨p, vs, L, rfl, rfl, e, S.own.mono (fun _ z => z) fun b u _ e => k b u e⟩
  exact k _ _ _ F _ _ q x1 S1
end
end TL

/-! TL11: own defs called, module constants, isinstance, sums, sorted, slices, is, raise. -/
namespace TL
open PySem PySem.Spec PyProof.Rows L2
/-- a def of the text, ready to be called -/
structure FnT (P : Program) (w : World) (K : PySem.W.Frag) (mg : Str → Option Value) (base : Heap) (k : Nat) (x : Str) (ps : List Str) (S : SpT) : Prop where
  ex : ∃ f fd, FnOk P w K mg base (L2.CX P w) k f fd ps (spT K S) ∧ mg x = some (.ref f) ∧ PySem.W.keepIn K (.ref f) = true ∧ Binds K fd ps []
theorem FnT.promise {P : Program} {w : World} {K : PySem.W.Frag} {mg : Str → Option Value} {base : Heap} {k : Nat} {x : Str} {ps : List Str} {S S' : SpT} (F : FnT P w K mg base k x ps S) (h : ∀ ts Q Xc, S' ts Q Xc → S ts Q Xc) : FnT P w K mg base k x ps S' :=
  let ⟨f, fd, a, b, c, d⟩ := F.ex; ⟨f, fd, FnOk.promise a h, b, c, d⟩
theorem FnT.mono {P : Program} {w : World} {K : PySem.W.Frag} {mg : Str → Option Value} {base : Heap} {j k : Nat} {x : Str} {ps : List Str} {S : SpT} (F : FnT P w K mg base j x ps S) (h : j ≤ k) : FnT P w K mg base k x ps S :=
  let ⟨f, fd, a, b, c, d⟩ := F.ex; ⟨f, fd, a.mono h, b, c, d⟩
theorem takesN {X : Cx} : Takes X noW := takes0
section
variable {X : Cx} {W : WX} {e : Expr} {pos p : Pos}
theorem de_fn {k : Nat} {x : Str} {ps : List Str} {S : SpT} {es : List Expr} {as : List Arg} (G : FnT X.prog X.w X.K X.mg X.base k x ps S) (hr : Room k X.A) (tk : Takes X W) (ha : DA X W (e :: es) as) (hg : Gl X x := by rfl) (hdb : (x == ("__debug__" : Str)) = false := by decide)
    (he : starEach (e :: es) X.env = (false, eval e X.env) :: starEach es X.env := by rfl) (hpl : (backTo pos (starEach es X.env)).any (·.1) = false := by rfl) : DE X W (.Call (.Name x p) (e :: es) [] pos) (wOp S as) := by
  obtain ⟨f, fd, F, hm, hk, hb⟩ := G.ex
  exact DE.fn (pe_callS F hr hg hm hk hb (fun σ => passAt tk σ) ha hdb he hpl)
theorem de_glob {x : Str} {v : V} {u : Value} {t : T} (hg : Gl X x) (hm : X.mg x = some u) (r : RelV v u) (o : ∀ F H, Own X.K F H t v []) (hd : (x == ("__debug__" : Str)) = false := by decide) : DE X W (.Name x pos) (wC t) := DE.const (pe_glob hg hm r hd) o
theorem de_ty {x : Str} {s : String} (hg : Gl X x) (hm : X.mg x = none) (hv : bootBuiltins x = some (.type s)) (hn : x ≠ "__name__" := by decide) (hd : (x == ("__debug__" : Str)) = false := by decide) : DE X W (.Name x pos) (wC (.ty s)) := DE.const (v := .ty s) (pe_bltn hg hm hv rfl hn hd) fun _ _ => ⟨rfl, rfl⟩
end

/-! ### isinstance of built-in types -/
def T.pyR : T → Option String
  | .non => some "NoneType"
  | .bl _ => some "bool"
  | .int _ => some "int"
  | .str _ => some "str"
  | .lst _ => some "list"
  | .tup _ => some "tuple"
  | .dk _ _ => some "dict"
  | .dt _ _ => some "dict"
  | .fz t => t.pyR
  | _ => none
def T.pyTy : T → Option String
  | .dk _ _ => some "dict"
  | t => t.pyR
def isI (m n : String) : Bool := m == n || (m == "bool" && n == "int")
theorem kit_all : ∀ m ∈ ["NoneType", "bool", "int", "str", "list", "tuple", "dict"], ∀ n ∈ ["bool", "int", "str", "list", "tuple"], kitB m n = some (isI m n) := by decide +kernel
theorem pyR_mem : ∀ {t : T} {m : String}, t.pyR = some m → m ∈ ["NoneType", "bool", "int", "str", "list", "tuple", "dict"]
  | .non, m, h => by cases h; decide
  | .bl _, m, h => by cases h; decide
  | .int _, m, h => by cases h; decide
  | .str _, m, h => by cases h; decide
  | .lst _, m, h => by cases h; decide
  | .tup _, m, h => by cases h; decide
  | .dk _ _, m, h => by cases h; decide
  | .dt _ _, m, h => by cases h; decide
  | .fz t, m, h => pyR_mem (t := t) h
  | .hole _, m, h => by cases h
  | .scr _, m, h => by cases h
  | .exc _, m, h => by cases h
  | .ty _, m, h => by cases h
  | .cls _, m, h => by cases h
theorem pyTy_mem {t : T} {m : String} (h : t.pyTy = some m) : m ∈ ["NoneType", "bool", "int", "str", "list", "tuple", "dict"] := by
  cases t with
  | dk _ _ => cases h; decide
  | _ => exact pyR_mem h
section
variable {K : PySem.W.Frag} {F : Addr → Prop} {H : Hp}
theorem Rep.tyX : ∀ {t : T} {v : V} {m : String}, Rep K F H t v → t.pyR = some m → TyX K H v (.type m)
  | .non, v, m, h, e => by cases e; rw [show v = .non from h]; exact .base .non
  | .bl b, v, m, h, e => by cases e; rw [show v = .bl b from h]; exact .base (.bl b)
  | .int i, v, m, h, e => by cases e; rw [show v = .int i from h]; exact .base (.int i)
  | .str x, v, m, h, e => by cases e; rw [show v = .str x from h]; exact .base (.str x)
  | .lst xs, v, m, ⟨a, vs, ea, _, hH, _⟩, e => by cases e; rw [ea]; exact .base (.lst hH)
  | .tup xs, v, m, ⟨a, vs, ea, _, hH, _⟩, e => by cases e; rw [ea]; exact .base (.tup hH)
  | .dk _ _, v, m, ⟨a, vs, ea, _, hH, _⟩, e => by
    cases e; rw [ea]
    rcases hH with hH | ⟨o, hH⟩
    · exact .base (.dK hH)
    · exact .fDict hH
  | .dt _ _, v, m, ⟨a, vs, ea, _, hH, _⟩, e => by cases e; rw [ea]; exact .base (.dT hH)
  | .fz t, v, m, h, e => Rep.tyX (t := t) h e
  | .hole _, v, m, h, e => by cases e
  | .scr _, v, m, h, e => by cases e
  | .exc _, v, m, h, e => by cases e
  | .ty _, v, m, h, e => by cases e
  | .cls _, v, m, h, e => by cases e
theorem Own.tyX {t : T} {v : V} {m : String} {L : List Addr} (o : Own K F H t v L) (e : t.pyTy = some m) : TyX K H v (.type m) := by
  have o' : Rep K (fun a => F a ∨ a ∈ L) H t v := o.rep (fun _ => .inl) (fun _ => .inr)
  cases t with
  | dk ks ts =>
    obtain ⟨a, vs, L', ea, el, hH, l, r⟩ := o
    cases e; rw [ea]; exact .base (.dK hH)
  | _ => exact o'.tyX e
end
def sIsi : SpT := fun ts Q _ => ∃ t m n, ts = [t, .ty n] ∧ t.pyTy = some m ∧ n ∈ ["bool", "int", "str", "list", "tuple"] ∧ Q (.bl (isI m n)) [some t, some (.ty n)]
theorem br_isi {K : PySem.W.Frag} : BrL K sIsi (rIsi K) := fun vs H Q E ⟨ts, F, L, Q0, X0, S, ⟨t, m, n, e, hm, hn, q⟩, k, _⟩ => by
  subst e
  obtain ⟨v, w, L1, L2, e1, el, o1, ⟨_, o2⟩⟩ := S.own.two'
  have o2' : w = .ty n := o2
  subst o2'
  exact ⟨v, .ty n, .type m, .type n, isI m n, e1, .ty n, o1.tyX hm, kit_ty (kit_all m (pyTy_mem hm) n hn), k _ _ _ F H L q Ext.refl (by rw [e1]; rw [e1] at S; exact S.ret own_bl)⟩

/-! ### two ints, sums, least and greatest -/
def sMin2 : SpT := sII0 fun i j => .int (if j < i then j else i)
def sMax2 : SpT := sII0 fun i j => .int (if j > i then j else i)
theorem br_II2 {K : PySem.W.Frag} {g : Int → Int → T} {gv : Int → Int → V} (hg : ∀ i j F H, Own K F H (g i j) (gv i j) []) : BrL K (sII0 g) (fun xs H Q => ∃ i j, xs = [.int i, .int j] ∧ Q (gv i j) H) := fun vs H Q E ⟨ts, F, L, Q0, X0, S, ⟨i, j, e, q⟩, k, _⟩ => by
  subst e
  obtain ⟨v, w, L1, L2, e1, el, ⟨_, o1⟩, ⟨_, o2⟩⟩ := S.own.two'
  have o1' : v = .int i := o1
  have o2' : w = .int j := o2
  subst o1' o2'
  subst e1
  exact ⟨i, j, rfl, k _ _ _ F H L q Ext.refl (S.ret (hg i j F H))⟩
/-- ints, as a list -/
def T.ints : T → Option (List T)
  | t => t.kidS
theorem ints_vals {K : PySem.W.Frag} {F : Addr → Prop} {H : Hp} : ∀ {ns : List Int} {vs : List V} {L : List Addr}, Owns K F H (ns.map T.int) vs L → vs = ns.map V.int
  | [], vs, L, h => h.1
  | n :: ns, vs, L, ⟨v, vs', L1, L2, e, el, ⟨_, o⟩, r⟩ => by
    have o' : v = .int n := o
    rw [e, ints_vals r, o']; rfl
def T.kidLS : T → Option (List T)
  | .scr ns => some (ns.map T.int)
  | t => t.kidL
theorem Own.kidLS {K : PySem.W.Frag} {F : Addr → Prop} {H : Hp} {t : T} {v : V} {L : List Addr} {xs : List T} (o : Own K F H t v L) (h : t.kidLS = some xs) : ∃ a vs, v = .ref a ∧ SqL K H a vs ∧ Owns K F H xs vs [] := by
  unfold T.kidLS at h
  split at h
  · cases h
    obtain ⟨a, e, hs⟩ := Flat.scr o.2
    exact ⟨a, _, e, hs, ints_own⟩
  · obtain ⟨a, vs, e, h1, r⟩ := o.kidL h
    exact ⟨a, vs, e, SqL.of h1, r⟩
def sSum : SpT := fun ts Q _ => ∃ t ns, ts = [t] ∧ t.kidLS = some (List.map T.int ns) ∧ Q (.int ns.sum) [some t]
def sMinL : SpT := fun ts Q _ => ∃ t ns, ts = [t] ∧ t.kidLS = some (List.map T.int ns) ∧ 0 < ns.length ∧ ∀ m, m ∈ ns → (∀ y ∈ ns, m ≤ y) → Q (.int m) [some t]
def sMaxL : SpT := fun ts Q _ => ∃ t ns, ts = [t] ∧ t.kidLS = some (List.map T.int ns) ∧ 0 < ns.length ∧ ∀ m, m ∈ ns → (∀ y ∈ ns, y ≤ m) → Q (.int m) [some t]
def sSortI : SpT := fun ts Q _ => ∃ t ns, ts = [t] ∧ t.kidLS = some (List.map T.int ns) ∧ ∀ ns' : List Int, ns'.Perm ns → ns'.Pairwise (· ≤ ·) → Q (.lst (ns'.map T.int)) [some t]
section
variable {K : PySem.W.Frag}
theorem br_sum : BrL K sSum (rSum K) := fun vs H Q E ⟨ts, F, L, Q0, X0, S, ⟨t, ns, e, h, q⟩, k, _⟩ => by
  subst e
  obtain ⟨v, e1, o⟩ := S.own.one'
  subst e1
  obtain ⟨a, us, ea, ha, ra⟩ := o.kidLS h
  have eu := ints_vals ra
  subst ea eu
  exact ⟨a, ns, rfl, ha, k _ _ _ F H L q Ext.refl (S.ret own_int)⟩
theorem br_minL : BrL K sMinL (rMin K) := fun vs H Q E ⟨ts, F, L, Q0, X0, S, ⟨t, ns, e, h, hl, q⟩, k, _⟩ => by
  subst e
  obtain ⟨v, e1, o⟩ := S.own.one'
  subst e1
  obtain ⟨a, us, ea, ha, ra⟩ := o.kidLS h
  have eu := ints_vals ra
  subst ea eu
  exact ⟨a, ns, rfl, ha, hl, fun m h1 h2 => k _ _ _ F H L (q m h1 h2) Ext.refl (S.ret own_int)⟩
theorem br_maxL : BrL K sMaxL (rMax K) := fun vs H Q E ⟨ts, F, L, Q0, X0, S, ⟨t, ns, e, h, hl, q⟩, k, _⟩ => by
  subst e
  obtain ⟨v, e1, o⟩ := S.own.one'
  subst e1
  obtain ⟨a, us, ea, ha, ra⟩ := o.kidLS h
  have eu := ints_vals ra
  subst ea eu
  exact ⟨a, ns, rfl, ha, hl, fun m h1 h2 => k _ _ _ F H L (q m h1 h2) Ext.refl (S.ret own_int)⟩
theorem br_sortI : BrL K sSortI (rSortedI K) := fun vs H Q E ⟨ts, F, L, Q0, X0, S, ⟨t, ns, e, h, q⟩, k, _⟩ => by
  subst e
  obtain ⟨v, e1, o⟩ := S.own.one'
  subst e1
  obtain ⟨a, us, ea, ha, ra⟩ := o.kidLS h
  have eu := ints_vals ra
  subst ea eu
  refine ⟨a, ns, rfl, ha, fun ns' p h1 h2 hp => ?_⟩
  obtain ⟨L', x, S'⟩ := S.cell hp (own_lst_new (xs := ns'.map T.int) ints_own hp)
  exact k _ _ _ F _ L' (q ns' h1 h2) x S'
end
section
variable {X : Cx} {W : WX} {a b e : Expr} {oa ob oc : Arg} {pos p : Pos}
theorem de_call1 {id : String} {x : Str} {S : SpT} {r : List V → Hp → VK → Prop} (hc : CallR X (.builtin id) r) (br : BrL X.K S r) (hg : Gl X x) (hm : X.mg x = none) (hv : bootBuiltins x = some (.builtin id)) (h : DO X W e oa) (hn : x ≠ "__name__" := by decide) (hdb : (x == ("__debug__" : Str)) = false := by decide)
    (he : starEach [e] X.env = (false, eval e X.env) :: starEach [] X.env := by rfl) : DE X W (.Call (.Name x p) [e] [] pos) (wOp S [oa]) :=
  DE.call (pe_callB hc hg hm hv (da_cons (as := []) h da_nil he) hn hdb he) br
theorem de_call2 {id : String} {x : Str} {S : SpT} {r : List V → Hp → VK → Prop} (hc : CallR X (.builtin id) r) (br : BrL X.K S r) (hg : Gl X x) (hm : X.mg x = none) (hv : bootBuiltins x = some (.builtin id)) (h : DO X W a oa) (h2 : DO X W b ob) (hn : x ≠ "__name__" := by decide) (hdb : (x == ("__debug__" : Str)) = false := by decide)
    (he : starEach [a, b] X.env = (false, eval a X.env) :: starEach [b] X.env := by rfl) (he2 : starEach [b] X.env = (false, eval b X.env) :: starEach [] X.env := by rfl) (hpl : (backTo pos (starEach [b] X.env)).any (·.1) = false := by rfl) : DE X W (.Call (.Name x p) [a, b] [] pos) (wOp S [oa, ob]) :=
  DE.call (pe_callB hc hg hm hv (da_cons h (da_cons (as := []) h2 da_nil he2) he) hn hdb he hpl) br
theorem de_isi (hg : Gl X "isinstance") (hm : X.mg "isinstance" = none) (h : DO X W a oa) (h2 : DO X W b ob) (he : starEach [a, b] X.env = (false, eval a X.env) :: starEach [b] X.env := by rfl) (he2 : starEach [b] X.env = (false, eval b X.env) :: starEach [] X.env := by rfl) (hpl : (backTo pos (starEach [b] X.env)).any (·.1) = false := by rfl) :
    DE X W (.Call (.Name "isinstance" p) [a, b] [] pos) (wOp sIsi [oa, ob]) := de_call2 call_isi br_isi hg hm (by decide +kernel) h h2 (by decide) (by decide) he he2 hpl
theorem de_min2 (hc : X.calm = true) (hg : Gl X "min") (hm : X.mg "min" = none) (h : DO X W a oa) (h2 : DO X W b ob) (he : starEach [a, b] X.env = (false, eval a X.env) :: starEach [b] X.env := by rfl) (he2 : starEach [b] X.env = (false, eval b X.env) :: starEach [] X.env := by rfl) (hpl : (backTo pos (starEach [b] X.env)).any (·.1) = false := by rfl) :
    DE X W (.Call (.Name "min" p) [a, b] [] pos) (wOp sMin2 [oa, ob]) := de_call2 (call_min2 hc) (br_II2 fun _ _ _ _ => own_int) hg hm (by decide +kernel) h h2 (by decide) (by decide) he he2 hpl
theorem de_max2 (hc : X.calm = true) (hg : Gl X "max") (hm : X.mg "max" = none) (h : DO X W a oa) (h2 : DO X W b ob) (he : starEach [a, b] X.env = (false, eval a X.env) :: starEach [b] X.env := by rfl) (he2 : starEach [b] X.env = (false, eval b X.env) :: starEach [] X.env := by rfl) (hpl : (backTo pos (starEach [b] X.env)).any (·.1) = false := by rfl) :
    DE X W (.Call (.Name "max" p) [a, b] [] pos) (wOp sMax2 [oa, ob]) := de_call2 (call_max2 hc) (br_II2 fun _ _ _ _ => own_int) hg hm (by decide +kernel) h h2 (by decide) (by decide) he he2 hpl
theorem de_sum (hc : X.calm = true) (hg : Gl X "sum") (hm : X.mg "sum" = none) (h : DO X W e oa) (he : starEach [e] X.env = (false, eval e X.env) :: starEach [] X.env := by rfl) : DE X W (.Call (.Name "sum" p) [e] [] pos) (wOp sSum [oa]) := de_call1 (cr_sum hc) br_sum hg hm (by decide +kernel) h (by decide) (by decide) he
theorem de_minL (hc : X.calm = true) (hg : Gl X "min") (hm : X.mg "min" = none) (h : DO X W e oa) (he : starEach [e] X.env = (false, eval e X.env) :: starEach [] X.env := by rfl) : DE X W (.Call (.Name "min" p) [e] [] pos) (wOp sMinL [oa]) := de_call1 (cr_min hc) br_minL hg hm (by decide +kernel) h (by decide) (by decide) he
theorem de_maxL (hc : X.calm = true) (hg : Gl X "max") (hm : X.mg "max" = none) (h : DO X W e oa) (he : starEach [e] X.env = (false, eval e X.env) :: starEach [] X.env := by rfl) : DE X W (.Call (.Name "max" p) [e] [] pos) (wOp sMaxL [oa]) := de_call1 (cr_max hc) br_maxL hg hm (by decide +kernel) h (by decide) (by decide) he
theorem de_sortI (hg : Gl X "sorted") (hm : X.mg "sorted" = none) (h : DO X W e oa) (he : starEach [e] X.env = (false, eval e X.env) :: starEach [] X.env := by rfl) : DE X W (.Call (.Name "sorted" p) [e] [] pos) (wOp sSortI [oa]) := de_call1 cr_sortedI br_sortI hg hm (by decide +kernel) h (by decide) (by decide) he
/-- list(range(..)) -/
def sRgL1 : SpT := fun ts Q _ => ∃ n : Int, ts = [.int n] ∧ n ≤ 16777216 ∧ -(2 ^ 62) ≤ n ∧ Q (.lst ((List.range n.toNat).map fun (i : Nat) => T.int (i : Int))) [some (.int n)]
def sRgL2 : SpT := fun ts Q _ => ∃ i j : Int, ts = [.int i, .int j] ∧ RgOk i j ∧ Q (.lst ((List.range (j - i).toNat).map fun (k : Nat) => T.int (i + (k : Int)))) [some (.int i), some (.int j)]
theorem ints_fun {K : PySem.W.Frag} {F : Addr → Prop} {H : Hp} (f : Nat → Int) : ∀ l : List Nat, Owns K F H (l.map fun i => T.int (f i)) (l.map fun i => V.int (f i)) []
  | [] => ⟨rfl, rfl⟩
  | n :: l => ⟨_, _, [], [], rfl, rfl, own_int, ints_fun f l⟩
theorem de_listRg1 {p2 pos2 : Pos} (hc : X.calm = true) (hg : Gl X "list") (hm : X.mg "list" = none) (hg2 : Gl X "range") (hm2 : X.mg "range" = none) (h : DO X W a oa) (na : starEach [a] X.env = (false, eval a X.env) :: starEach [] X.env := by rfl)
    (nb : starEach [Expr.Call (.Name "range" p2) [a] [] pos2] X.env = (false, eval (.Call (.Name "range" p2) [a] [] pos2) X.env) :: starEach [] X.env := by rfl) : DE X W (.Call (.Name "list" p) [.Call (.Name "range" p2) [a] [] pos2] [] pos) (wOp sRgL1 [oa]) :=
  PE.imp (pe_listRg hc hg hm (prg_1 hg2 hm2 h na) nb) fun σ H Q q => by
    show tOf X.K W oa σ H fun x H1 => ∃ n, x = .int n ∧ RgOk 0 n ∧ ∀ q, H1 q = none → Q (.ref q) (upd H1 q (.lst (rgV 0 n)))
    refine tOf_mono (wOp_run q) fun x H1 q => ?_
    obtain ⟨ts, F, L, Q0, X0, S, ⟨n, e, b1, b2, q⟩, k, _⟩ := (show spT X.K sRgL1 [x] H1 Q (fun c d H' => W c d σ H') from q)
    subst e
    obtain ⟨v, e1, ⟨_, o1⟩⟩ := S.own.one'
    cases e1
    refine ⟨n, o1, ⟨by omega, by omega, b2, by omega, by omega⟩, fun p hp => ?_⟩
    obtain ⟨L', x1, S'⟩ := S.cell (o := .lst (rgV 0 n)) (t := .lst ((List.range n.toNat).map fun (i : Nat) => T.int (i : Int))) hp (own_lst_new (by
      unfold rgV
      rw [Int.sub_zero]
      have := ints_fun (K := X.K) (F := F) (H := H1) (fun i => (i : Int)) (List.range n.toNat)
      simpa using this) hp)
    exact k _ _ _ F _ L' q x1 S'
theorem de_listRg2 {p2 pos2 : Pos} (hc : X.calm = true) (hg : Gl X "list") (hm : X.mg "list" = none) (hg2 : Gl X "range") (hm2 : X.mg "range" = none) (h : DO X W a oa) (h2 : DO X W b ob) (na : starEach [a, b] X.env = (false, eval a X.env) :: starEach [b] X.env := by rfl)
    (na2 : starEach [b] X.env = (false, eval b X.env) :: starEach [] X.env := by rfl) (hp : (backTo pos2 (starEach [b] X.env)).any (·.1) = false := by rfl)
    (nb : starEach [Expr.Call (.Name "range" p2) [a, b] [] pos2] X.env = (false, eval (.Call (.Name "range" p2) [a, b] [] pos2) X.env) :: starEach [] X.env := by rfl) : DE X W (.Call (.Name "list" p) [.Call (.Name "range" p2) [a, b] [] pos2] [] pos) (wOp sRgL2 [oa, ob]) :=
  PE.imp (pe_listRg hc hg hm (prg_2 hg2 hm2 h h2 na na2 hp) nb) fun σ H Q q => by
    show tOf X.K W oa σ H fun x H1 => tOf X.K W ob σ H1 fun y H2 => ∃ i j, x = .int i ∧ y = .int j ∧ RgOk i j ∧ ∀ q, H2 q = none → Q (.ref q) (upd H2 q (.lst (rgV i j)))
    refine tOf_mono (wOp_run q) fun x H1 q => tOf_mono q fun y H2 q => ?_
    obtain ⟨ts, F, L, Q0, X0, S, ⟨i, j, e, b1, q⟩, k, _⟩ := (show spT X.K sRgL2 [x, y] H2 Q (fun c d H' => W c d σ H') from q)
    subst e
    obtain ⟨v, w, L1, L2, e1, el, ⟨_, o1⟩, ⟨_, o2⟩⟩ := S.own.two'
    cases e1
    refine ⟨i, j, o1, o2, b1, fun p hp => ?_⟩
    obtain ⟨L', x1, S'⟩ := S.cell (o := .lst (rgV i j)) (t := .lst ((List.range (j - i).toNat).map fun (k : Nat) => T.int (i + (k : Int)))) hp (own_lst_new (by
      unfold rgV
      exact ints_fun (fun k => i + (k : Int)) (List.range (j - i).toNat)) hp)
    exact k _ _ _ F _ L' q x1 S'
end

/-! ### slices -/
def cut {α : Type} (xs : List α) (lo hi : Option Int) : List α := (xs.drop (HT.sIx xs.length 0 lo)).take (HT.sIx xs.length xs.length hi - HT.sIx xs.length 0 lo)
theorem Owns.cut {K : PySem.W.Frag} {F : Addr → Prop} {H : Hp} {xs : List T} {vs : List V} (r : Owns K F H xs vs []) (lo hi : Option Int) : Owns K F H (TL.cut xs lo hi) (cutV vs lo hi) [] := by
  unfold TL.cut cutV
  rw [r.len]
  obtain ⟨L1, L2, ec, r1, r2⟩ := r.split (HT.sIx vs.length 0 lo)
  have z2 : L2 = [] := List.eq_nil_iff_forall_not_mem.mpr fun a m => by
    have := ec a; have h := List.count_pos_iff.mpr m; simp at this; omega
  subst z2
  obtain ⟨M1, M2, ec2, r3, r4⟩ := r2.split (HT.sIx vs.length vs.length hi - HT.sIx vs.length 0 lo)
  have z3 : M1 = [] := List.eq_nil_iff_forall_not_mem.mpr fun a m => by
    have := ec2 a; have h := List.count_pos_iff.mpr m; simp at this; omega
  subst z3
  exact r3
def sCutLo : SpT := fun ts Q _ => ∃ t i xs, ts = [t, .int i] ∧ t.kidLS = some xs ∧ Q (.lst (cut xs (some i) none)) [some t, some (.int i)]
def sCutHi : SpT := fun ts Q _ => ∃ t i xs, ts = [t, .int i] ∧ t.kidLS = some xs ∧ Q (.lst (cut xs none (some i))) [some t, some (.int i)]
def sCutB : SpT := fun ts Q _ => ∃ t i j xs, ts = [t, .int i, .int j] ∧ t.kidLS = some xs ∧ Q (.lst (cut xs (some i) (some j))) [some t, some (.int i), some (.int j)]
def sRev : SpT := fun ts Q _ => ∃ t xs, ts = [t] ∧ t.kidLS = some xs ∧ Q (.lst xs.reverse) [some t]
theorem Owns.rev {K : PySem.W.Frag} {F : Addr → Prop} {H : Hp} : ∀ {xs : List T} {vs : List V}, Owns K F H xs vs [] → Owns K F H xs.reverse vs.reverse []
  | [], vs, ⟨e, el⟩ => by rw [e]; exact ⟨rfl, rfl⟩
  | t :: ts, vs, ⟨v, vs', L1, L2, e, el, o, r⟩ => by
    have z := List.append_eq_nil_iff.mp el.symm
    rw [z.1] at o
    rw [z.2] at r
    rw [e, List.reverse_cons, List.reverse_cons]
    exact (Owns.rev r).app (Owns.one o)
section
variable {X : Cx} {W : WX} {a b c e : Expr} {oa ob oc : Arg} {pos p p2 : Pos}
theorem cut_fin {K : PySem.W.Frag} {F : Addr → Prop} {H : Hp} {L : List Addr} {ts : List T} {vs : List V} {Q : VK} {Q0 : T → List (Option T) → Prop} {xs ys : List T} {us ws : List V} (S : StL K F H ts vs L) (r : Owns K F H ys ws []) (q : Q0 (.lst ys) (ts.map some))
    (k : ∀ t ts' v F' H' L', Q0 t ts' → Ext F H L F' H' L' → St K F' H' (some t :: ts') (some v :: vs.map some) L' → Q v H') : ∀ p, H p = none → Q (.ref p) (upd H p (.lst ws)) := fun p hp => by
  obtain ⟨L', x, S'⟩ := S.cell hp (own_lst_new r hp)
  exact k _ _ _ F _ L' q x S'
theorem de_cutLo (ha : DO X W a oa) (hb : DO X W b ob) : DE X W (.Subscript a (.Slice (some b) none none p2) pos) (wOp sCutLo [oa, ob]) := PE.imp (pe_slice sl_list ha (po_some hb) po_none) fun σ H Q q => by
  refine tOf_mono (wOp_run q) fun x H1 q => ?_
  refine tOf_mono q fun y H2 q => ?_
  obtain ⟨ts, F, L, Q0, X0, S, ⟨t, i, xs, e, h, q⟩, k, _⟩ := (show spT X.K sCutLo [x, y] H2 Q (fun c d H' => W c d σ H') from q)
  subst e
  obtain ⟨v, w, L1, L2, e1, el, o1, ⟨_, o2⟩⟩ := S.own.two'
  cases e1
  obtain ⟨u, us, eu, hu, ru⟩ := o1.kidLS h
  exact ⟨i, o2, u, us, eu, hu, cut_fin (xs := []) (us := []) S (ru.cut (some i) none) q k⟩
theorem de_cutHi (ha : DO X W a oa) (hb : DO X W b ob) : DE X W (.Subscript a (.Slice none (some b) none p2) pos) (wOp sCutHi [oa, ob]) := PE.imp (pe_slice sl_list ha po_none (po_some hb)) fun σ H Q q => by
  refine tOf_mono (wOp_run q) fun x H1 q => ?_
  refine tOf_mono q fun y H2 q => ?_
  obtain ⟨ts, F, L, Q0, X0, S, ⟨t, i, xs, e, h, q⟩, k, _⟩ := (show spT X.K sCutHi [x, y] H2 Q (fun c d H' => W c d σ H') from q)
  subst e
  obtain ⟨v, w, L1, L2, e1, el, o1, ⟨_, o2⟩⟩ := S.own.two'
  cases e1
  obtain ⟨u, us, eu, hu, ru⟩ := o1.kidLS h
  exact ⟨i, o2, u, us, eu, hu, cut_fin (xs := []) (us := []) S (ru.cut none (some i)) q k⟩
def wCutB (oa ob oc : Arg) : WE := fun ev Q X => wArgs [oa, ob] ev (fun as1 ev1 => (∃ a0 i, as1 = [a0, .vl (.int i)]) ∧ wArgs [oc] ev1 (fun as ev2 => ∃ ts ev3, takeA (as1 ++ as) ev2 = some (ts, ev3) ∧
  sCutB ts (fun t ts' => Q t (giveA (as1 ++ as) ts' ev3)) fun C ts' => X C (giveA (as1 ++ as) ts' ev3)) X) X
theorem cutB_run {K : PySem.W.Frag} {W : WX} {oa ob oc : Arg} {σ : L2.St} {Hq : Hp} {R : VK} (h : liftE K W (wCutB oa ob oc) σ Hq R) :
    tL K W [oa, ob] σ Hq fun us H1 => ∀ x y, us = [x, y] → ∃ i, y = .int i ∧ tL K W [oc] σ H1 fun xs H2 => spT K sCutB (us ++ xs) H2 R fun c d H2 => W c d σ H2 := by
  obtain ⟨ev, F, L, Q0, X0, S0, w, k, kx⟩ := h
  unfold wCutB at w
  refine run_args S0.a0 w (fun as vs ev1 F1 H1 L1 Lt1 q x1 A => ?_) fun C ev' F' H' L' q x S' => kx C ev' F' H' L' q (by simpa using x) S'
  obtain ⟨⟨a0, i, ea⟩, q⟩ := q
  subst ea
  rw [List.append_nil] at x1
  have A1 : StA K F1 H1 ev1 σ [a0, .vl (.int i)] vs L1 Lt1 := by simpa using A
  have dj1 : ∀ a ∈ L1 ++ Lt1, ¬ F1 a := fun a m => A1.dj a (List.mem_append.mp m)
  intro x y ex
  subst ex
  have ey : y = .int i := by
    cases a0 with
    | pl j =>
      obtain ⟨v, vs', e1, _, v2, vs2, _, _, e2, _, ⟨_, o⟩, _⟩ := A1.tmp
      cases e1; cases e2
      exact o
    | vl t =>
      obtain ⟨v, vs', _, _, e1, _, _, v2, vs2, _, _, e2, _, ⟨_, o⟩, _⟩ := A1.tmp
      cases e1; cases e2
      exact o
  refine ⟨i, ey, run_args A1 q (fun bs ws ev2 F2 H2 L2 Lt2 q2 x2 A2 => ?_) fun C ev' F' H' L' q x S' => kx C ev' F' H' L' q (x1.trans x dj1) S'⟩
  obtain ⟨ts, ev3, ht, hs⟩ := q2
  have dj2 : ∀ a ∈ L2 ++ Lt2, ¬ F2 a := fun a m => A2.dj a (List.mem_append.mp m)
  have x12 := x1.trans x2 dj1
  exact call_args A2 ht hs (fun t ts' v F3 H3 L3 q x3 S3 => k t _ v F3 H3 L3 q (x12.trans x3 dj2) S3) fun C ts' F3 H3 L3 q x3 S3 => kx C _ F3 H3 L3 q (x12.trans x3 dj2) S3
theorem de_cutB (ha : DO X W a oa) (hb : DO X W b ob) (hc : DO X W c oc) : DE X W (.Subscript a (.Slice (some b) (some c) none p2) pos) (wCutB oa ob oc) := PE.imp (pe_slice sl_list ha (po_some hb) (po_some hc)) fun σ H Q q => by
  show tOf X.K W oa σ H fun x H1 => tOf X.K W ob σ H1 fun y H2 => ∃ i, y = .int i ∧ tOf X.K W oc σ H2 fun z H3 => ∃ j, z = .int j ∧ rSlL X.K x (some i) (some j) H3 Q
  refine tOf_mono (cutB_run q) fun x H1 q => tOf_mono q fun y H2 q => ?_
  obtain ⟨i, ei, q⟩ := q x y rfl
  refine ⟨i, ei, tOf_mono q fun z H3 q => ?_⟩
  obtain ⟨ts, F, L, Q0, X0, S, ⟨t, i', j, xs, e, h, q⟩, k, _⟩ := (show spT X.K sCutB [x, y, z] H3 Q (fun c d H' => W c d σ H') from q)
  subst e
  obtain ⟨v, w, u0, L1, L2, L3, e1, el, o1, ⟨_, o2⟩, ⟨_, o3⟩⟩ := S.own.three'
  cases e1
  have o2' : y = .int i' := o2
  rw [ei] at o2'
  cases o2'
  obtain ⟨u, us, eu, hu, ru⟩ := o1.kidLS h
  exact ⟨j, o3, u, us, eu, hu, cut_fin (xs := []) (us := []) S (ru.cut (some i) (some j)) q k⟩
theorem de_rev {k : Nat} {p1 p3 : Pos} (ha : DO X W a oa) : DE X W (.Subscript a (.Slice none none (some (.UnaryOp .USub (.Constant (.int 1) k p1) p2)) p3) pos) (wOp sRev [oa]) := PE.imp (pe_revL ha) fun σ H Q q => by
  refine tOf_mono (wOp_run q) fun x H1 q => ?_
  obtain ⟨ts, F, L, Q0, X0, S, ⟨t, xs, e, h, q⟩, k, _⟩ := (show spT X.K sRev [x] H1 Q (fun c d H' => W c d σ H') from q)
  subst e
  obtain ⟨v, e1, o1⟩ := S.own.one'
  cases e1
  obtain ⟨u, us, eu, hu, ru⟩ := o1.kidLS h
  exact ⟨u, us, eu, hu, cut_fin (xs := []) (us := []) S ru.rev q k⟩
end

/-! ### is -/
def T.isN : T → Option Bool
  | .non => some true
  | .hole _ => none
  | .fz t => t.isN
  | _ => some false
section
variable {K : PySem.W.Frag} {F : Addr → Prop} {H : Hp}
theorem Rep.isN : ∀ {t : T} {v : V} {b : Bool}, Rep K F H t v → t.isN = some b → decide (v = .non) = b
  | .non, v, b, h, e => by cases e; rw [show v = .non from h]; rfl
  | .bl x, v, b, h, e => by cases e; rw [show v = .bl x from h]; rfl
  | .int i, v, b, h, e => by cases e; rw [show v = .int i from h]; rfl
  | .str x, v, b, h, e => by cases e; rw [show v = .str x from h]; rfl
  | .lst xs, v, b, ⟨a, vs, ea, _⟩, e => by cases e; rw [ea]; rfl
  | .tup xs, v, b, ⟨a, vs, ea, _⟩, e => by cases e; rw [ea]; rfl
  | .dk _ _, v, b, ⟨a, vs, ea, _⟩, e => by cases e; rw [ea]; rfl
  | .dt _ _, v, b, ⟨a, vs, ea, _⟩, e => by cases e; rw [ea]; rfl
  | .fz t, v, b, h, e => Rep.isN (t := t) h e
  | .scr _, v, b, ⟨a, ea, _⟩, e => by cases e; rw [ea]; rfl
  | .exc _, v, b, ⟨a, ea, _⟩, e => by cases e; rw [ea]; rfl
  | .ty n, v, b, h, e => by cases e; rw [show v = .ty n from h]; rfl
  | .cls C, v, b, h, e => by cases e; rw [show v = .ref C from h]; rfl
  | .hole _, v, b, h, e => by cases e
theorem Own.isN {t : T} {v : V} {L : List Addr} {b : Bool} (o : Own K F H t v L) (e : t.isN = some b) : decide (v = .non) = b := (o.rep (F' := fun a => F a ∨ a ∈ L) (fun _ => .inl) (fun _ => .inr)).isN e
end
def sIsN : SpT := fun ts Q _ => ∃ t b, ts = [t, .non] ∧ t.isN = some b ∧ Q (.bl b) [some t, some .non]
def sNotN : SpT := fun ts Q _ => ∃ t b, ts = [t, .non] ∧ t.isN = some b ∧ Q (.bl (!b)) [some t, some .non]
def sIsB : SpT := fun ts Q _ => ∃ a b, ts = [.bl a, .bl b] ∧ Q (.bl (decide (a = b))) [some (.bl a), some (.bl b)]
def sNotB : SpT := fun ts Q _ => ∃ a b, ts = [.bl a, .bl b] ∧ Q (.bl (!decide (a = b))) [some (.bl a), some (.bl b)]
section
variable {K : PySem.W.Frag}
theorem br_isN : Br2 K sIsN (fun x y H Q => y = .non ∧ Q (.bl (decide (x = .non))) H) := fun x y H Q E ⟨ts, F, L, Q0, X0, S, ⟨t, b, e, h, q⟩, k, _⟩ => by
  subst e
  obtain ⟨v, w, L1, L2, e1, el, o1, ⟨_, o2⟩⟩ := S.own.two'
  cases e1
  exact ⟨o2, k _ _ _ F H L q Ext.refl (S.ret (by rw [o1.isN h]; exact own_bl))⟩
theorem br_notN : Br2 K sNotN (fun x y H Q => y = .non ∧ Q (.bl (!decide (x = .non))) H) := fun x y H Q E ⟨ts, F, L, Q0, X0, S, ⟨t, b, e, h, q⟩, k, _⟩ => by
  subst e
  obtain ⟨v, w, L1, L2, e1, el, o1, ⟨_, o2⟩⟩ := S.own.two'
  cases e1
  exact ⟨o2, k _ _ _ F H L q Ext.refl (S.ret (by rw [o1.isN h]; exact own_bl))⟩
theorem br_isB : Br2 K sIsB (fun x y H Q => ∃ a b, x = .bl a ∧ y = .bl b ∧ Q (.bl (decide (a = b))) H) := fun x y H Q E ⟨ts, F, L, Q0, X0, S, ⟨a, b, e, q⟩, k, _⟩ => by
  subst e
  obtain ⟨v, w, L1, L2, e1, el, ⟨_, o1⟩, ⟨_, o2⟩⟩ := S.own.two'
  cases e1
  exact ⟨a, b, o1, o2, k _ _ _ F H L q Ext.refl (S.ret own_bl)⟩
theorem br_notB : Br2 K sNotB (fun x y H Q => ∃ a b, x = .bl a ∧ y = .bl b ∧ Q (.bl (!decide (a = b))) H) := fun x y H Q E ⟨ts, F, L, Q0, X0, S, ⟨a, b, e, q⟩, k, _⟩ => by
  subst e
  obtain ⟨v, w, L1, L2, e1, el, ⟨_, o1⟩, ⟨_, o2⟩⟩ := S.own.two'
  cases e1
  exact ⟨a, b, o1, o2, k _ _ _ F H L q Ext.refl (S.ret own_bl)⟩
end
section
variable {X : Cx} {W : WX} {a b e : Expr} {oa ob : Arg} {pos p : Pos}
theorem dt_isN (ha : DO X W a oa) (hb : DO X W b ob) (hm : behindInMarks .Is b = false := by first | exact nomark _ | rfl) : DT X W (.Compare a [.Is] [b] pos) (wTst (wOp sIsN [oa, ob])) := DT.op2 (pt_cmpR op_isN ha hb hm) br_isN
theorem dt_notN (ha : DO X W a oa) (hb : DO X W b ob) (hm : behindInMarks .IsNot b = false := by first | exact nomark _ | rfl) : DT X W (.Compare a [.IsNot] [b] pos) (wTst (wOp sNotN [oa, ob])) := DT.op2 (pt_cmpR op_notN ha hb hm) br_notN
theorem dt_isB (ha : DO X W a oa) (hb : DO X W b ob) (hm : behindInMarks .Is b = false := by first | exact nomark _ | rfl) : DT X W (.Compare a [.Is] [b] pos) (wTst (wOp sIsB [oa, ob])) := DT.op2 (pt_cmpR op_is_bl ha hb hm) br_isB
theorem dt_notB (ha : DO X W a oa) (hb : DO X W b ob) (hm : behindInMarks .IsNot b = false := by first | exact nomark _ | rfl) : DT X W (.Compare a [.IsNot] [b] pos) (wTst (wOp sNotB [oa, ob])) := DT.op2 (pt_cmpR op_isnot_bl ha hb hm) br_notB
/-- a refusal -/
def sRaise (C : Addr) : WS := fun ev E => E.xc C ev
theorem ds_raise {C : Addr} (hc : X.calm = true) (tk : Takes X W) (he : PMk X e (fun _ H Q => Q (.ref C) none H)) : DS X W [] (.Raise (some e) none pos) (sRaise C) := fun kp _ => PS.imp (ps_raise hc tk he) fun D σ H q => by
  obtain ⟨ev, F, L, E0, S, p, w, _, _, _, _, k5⟩ := q
  exact k5 C ev σ F H L w Ext.refl S p
end
theorem DSs.sub {X : Cx} {W : WX} {A B : List Nat} {sts : List Stmt} {w : WS} (h : DSs X W A sts w) (hs : (A.all fun j => B.contains j) = true := by rfl) : DSs X W B sts w := fun kp hk => h kp fun j m => hk j (by have := List.all_eq_true.mp hs j m; simpa using this)
end TL

/-! TL12: reading what a body computes. -/
namespace TL
open PySem PySem.Spec PyProof.Rows L2

/-- w answers t and leaves all as it is -/
def Pure (w : WE) (ev : Ev) (t : T) : Prop := ∀ Q X, Q t ev → w ev Q X
def PureT (w : WT) (ev : Ev) (b : Bool) : Prop := ∀ Q X, Q b ev → w ev Q X
def PO : Arg → Ev → T → Prop
  | .pl i, ev, t => ev[i]? = some (some t)
  | .vl w, ev, t => Pure w ev t
def avOf : Arg → T → ArgV
  | .pl i, _ => .pl i
  | .vl _, t => .vl t
def stay2 : Arg → Bool
  | .pl _ => true
  | _ => false
theorem PO.pl {i : Nat} {ev : Ev} {t : T} (h : ev[i]? = some (some t)) : PO (.pl i) ev t := h
theorem PO.vl {w : WE} {ev : Ev} {t : T} (h : Pure w ev t) : PO (.vl w) ev t := h
theorem Pure.c {t : T} {ev : Ev} : Pure (wC t) ev t := fun _ _ q => q
theorem Pure.s {i : Nat} {t : T} {ev : Ev} (h : ev[i]? = some (some t)) (hs : t.shr = true) : Pure (wS i) ev t := fun _ _ q => ⟨t, h, hs, q⟩
theorem set_back {i : Nat} {t : T} {ev : Ev} (h : ev[i]? = some (some t)) : (ev.set i none).set i (some t) = ev := by
  obtain ⟨h1, h2⟩ := List.getElem?_eq_some_iff.mp h
  rw [List.set_set, ← h2, List.set_getElem_self]
theorem Pure.v {i : Nat} {t : T} {ev : Ev} (h : ev[i]? = some (some t)) (hs : t.shr = true) : Pure (wV i) ev t := fun _ _ q => ⟨t, h, by
  rw [T.frz_of hs]
  obtain ⟨h1, h2⟩ := List.getElem?_eq_some_iff.mp h
  rw [← h2, List.set_getElem_self]; exact q⟩
theorem PO.args {o : Arg} {ev : Ev} {t : T} {r : List Arg} {Q : List ArgV → Ev → Prop} {X : XP} (h : PO o ev t) (k : wArgs r ev (fun as ev' => Q (avOf o t :: as) ev') X) : wArgs (o :: r) ev Q X := by
  cases o with
  | pl i => exact ⟨⟨t, h⟩, k⟩
  | vl w => exact h _ _ k
theorem eqv_int {i j : Int} : PyData.eqv (T.D (.int i)) (T.D (.int j)) = decide (i = j) := by
  show PyData.eqv (.int i) (.int j) = _
  unfold PyData.eqv
  first | rfl | simp [PyData.asInt?] 
theorem PureT.tst {w : WE} {ev : Ev} {b : Bool} (h : Pure w ev (.bl b)) : PureT (wTst w) ev b := fun Q X q => h _ _ ⟨b, rfl, q⟩
theorem PureT.not {w : WT} {ev : Ev} {b : Bool} (h : PureT w ev b) : PureT (wNot w) ev (!b) := fun Q X q => h _ _ q
theorem PureT.and {w u : WT} {ev : Ev} {a b : Bool} (h : PureT w ev a) (k : a = true → PureT u ev b) : PureT (wAnd w u) ev (a && b) := fun Q X q => h _ _ (by
  cases a with
  | true => rw [if_pos rfl]; exact k rfl _ _ q
  | false => rw [if_neg Bool.false_ne_true]; exact q)
theorem PureT.or {w u : WT} {ev : Ev} {a b : Bool} (h : PureT w ev a) (k : a = false → PureT u ev b) : PureT (wOr w u) ev (a || b) := fun Q X q => h _ _ (by
  cases a with
  | false => rw [if_neg Bool.false_ne_true]; exact k rfl _ _ q
  | true => rw [if_pos rfl]; exact q)
theorem PureT.yes {ev : Ev} : PureT wYes ev true := fun _ _ q => q
theorem PureT.cast {w : WT} {ev : Ev} {a b : Bool} (h : PureT w ev a) (e : a = b) : PureT w ev b := e ▸ h
theorem Pure.cast {w : WE} {ev : Ev} {a b : T} (h : Pure w ev a) (e : a = b) : Pure w ev b := e ▸ h
/-! ### statements -/
theorem seq_set {i : Nat} {w : WE} {u : WS} {ev : Ev} {E : EndT} {t : T} (h : Pure w ev t) (hi : Nat.blt i ev.length = true) (k : u (ev.set i (some t)) E) : sSeq (sSet i w) u ev E := h _ _ ⟨Nat.blt_eq ▸ hi, k⟩
theorem do_set {i : Nat} {w : WE} {ev : Ev} {E : EndT} {t : T} (h : Pure w ev t) (hi : Nat.blt i ev.length = true) (k : E.nx (ev.set i (some t))) : sSet i w ev E := h _ _ ⟨Nat.blt_eq ▸ hi, k⟩
theorem do_ret {w : WE} {ev : Ev} {E : EndT} {t : T} (h : Pure w ev t) (k : E.rt t ev) : sRet w ev E := h _ _ k
theorem do_if {c : WT} {a b : WS} {ev : Ev} {E : EndT} {k : Bool} (h : PureT c ev k) (h1 : k = true → a ev E) (h2 : k = false → b ev E) : sIf c a b ev E := h _ _ (by
  cases k with
  | true => rw [if_pos rfl]; exact h1 rfl
  | false => rw [if_neg Bool.false_ne_true]; exact h2 rfl)
theorem seq_if {c : WT} {a b u : WS} {ev : Ev} {E : EndT} {k : Bool} (h : PureT c ev k) (h1 : k = true → sSeq a u ev E) (h2 : k = false → sSeq b u ev E) : sSeq (sIf c a b) u ev E := do_if (E := { E with nx := fun ev' => u ev' E }) h h1 h2
theorem seq_pass {u : WS} {ev : Ev} {E : EndT} (h : u ev E) : sSeq sPass u ev E := h
theorem seq_seq {a b u : WS} {ev : Ev} {E : EndT} (h : sSeq a (sSeq b u) ev E) : sSeq (sSeq a b) u ev E := h
theorem seq_ret {w : WE} {u : WS} {ev : Ev} {E : EndT} {t : T} (h : Pure w ev t) (k : E.rt t ev) : sSeq (sRet w) u ev E := h _ _ k
theorem seq_retN {u : WS} {ev : Ev} {E : EndT} (k : E.rt .non ev) : sSeq sRetN u ev E := k
/-- a loop over a range -/
theorem for_rng1 {o : Arg} {wg : WG} {wb : WS} {ev : Ev} {E : EndT} {n : Int} (h : PO o ev (.int n)) (hb : -(2 ^ 62) ≤ n ∧ n < 2 ^ 62) (I : Nat → Ev → Prop) (h0 : I 0 ev)
    (hs : ∀ k ev, k < n.toNat → I k ev → wg (.int k) ev (fun ev2 => wb ev2 { nx := I (k + 1), ct := I (k + 1), bk := E.nx, rt := E.rt, xc := E.xc })) (he : ∀ ev, I n.toNat ev → E.nx ev) : sFor (wRng1 o) wg wb ev E := by
  have fin : ∀ ev', ev' = ev → (∃ I : Nat → Ev → Prop, I 0 ev' ∧ (∀ k ev, k ≤ n.toNat → I k ev → True) ∧ (∀ k ev, k < n.toNat → I k ev → wg (.int k) ev (fun ev2 => wb ev2 { nx := I (k + 1), ct := I (k + 1), bk := E.nx, rt := E.rt, xc := E.xc })) ∧ (∀ ev, I n.toNat ev → E.nx ev)) := fun ev' e => ⟨I, e ▸ h0, fun _ _ _ _ => trivial, hs, he⟩
  refine h.args ?_
  cases o with
  | pl i => exact ⟨n, ev.set i none, by show (match ev[i]? with | some (some t) => _ | _ => none) = _; rw [show ev[i]? = _ from h]; rfl, hb.1, hb.2, fin _ (set_back h)⟩
  | vl w => exact ⟨n, ev, rfl, hb.1, hb.2, fin _ rfl⟩
theorem for_rng2 {a b : Arg} {wg : WG} {wb : WS} {ev : Ev} {E : EndT} {i j : Int} (h1 : PO a ev (.int i)) (h2 : PO b ev (.int j)) (hn : stay2 a = false ∧ stay2 b = false) (hb : -(2 ^ 62) ≤ i ∧ i < 2 ^ 62 ∧ -(2 ^ 62) ≤ j ∧ j < 2 ^ 62) (I : Nat → Ev → Prop) (h0 : I 0 ev)
    (hs : ∀ k ev, k < (j - i).toNat → I k ev → wg (.int (i + k)) ev (fun ev2 => wb ev2 { nx := I (k + 1), ct := I (k + 1), bk := E.nx, rt := E.rt, xc := E.xc })) (he : ∀ ev, I (j - i).toNat ev → E.nx ev) : sFor (wRng2 a b) wg wb ev E := by
  refine h1.args (h2.args ?_)
  cases a with
  | pl _ => exact Bool.noConfusion (show true = false from hn.1)
  | vl w =>
    cases b with
    | pl _ => exact Bool.noConfusion (show true = false from hn.2)
    | vl w2 => exact ⟨i, j, ev, rfl, hb, I, h0, fun _ _ _ _ => trivial, hs, he⟩
/-- a loop over the items of a list that stands by a name -/
theorem for_list {x : Nat} {b : Bool} {wg : WG} {wb : WS} {ev : Ev} {E : EndT} {t : T} {items : List T} (h : ev[x]? = some (some t)) (hk : t.kids = some items) (hb : t.isSeq b = true) (I : Nat → Ev → Prop) (h0 : I 0 ev) (hst : ∀ k ev, k ≤ items.length → I k ev → ev[x]? = some (some t))
    (hs : ∀ k ev, k < items.length → I k ev → wg (items.getD k .non) ev (fun ev2 => wb ev2 { nx := I (k + 1), ct := I (k + 1), bk := E.nx, rt := E.rt, xc := E.xc })) (he : ∀ ev, I items.length ev → E.nx ev) : sFor (wList b (.pl x)) wg wb ev E :=
  ⟨t, items, h, hk, hb, I, h0, hst, hs, he⟩
theorem for_enum {x : Nat} {wg : WG} {wb : WS} {ev : Ev} {E : EndT} {t : T} {items : List T} (h : ev[x]? = some (some t)) (hk : t.kids = some items) (hb : t.isSeq false = true) (I : Nat → Ev → Prop) (h0 : I 0 ev) (hst : ∀ k ev, k ≤ items.length → I k ev → ev[x]? = some (some t))
    (hs : ∀ k ev, k < items.length → I k ev → wg (.tup [.int k, items.getD k .non]) ev (fun ev2 => wb ev2 { nx := I (k + 1), ct := I (k + 1), bk := E.nx, rt := E.rt, xc := E.xc })) (he : ∀ ev, I items.length ev → E.nx ev) : sFor (wEnum (.pl x)) wg wb ev E :=
  ⟨t, items, h, hk, hb, I, h0, hst, hs, he⟩
/-- a comprehension over the items of a list that stands by a name -/
theorem lc_list {x : Nat} {b : Bool} {wg : WG} {wt : WT} {we : WE} {own : List Nat} {ev : Ev} {Q : T → Ev → Prop} {X : XP} {t : T} {items : List T} (h : ev[x]? = some (some t)) (hk : t.kids = some items) (hb : t.isSeq b = true) (ho : (own.all fun i => shrO (ev[i]?).join) = true) (hz : items.length ≤ sizeLine)
    (I : Nat → List T → Ev → Prop) (h0 : I 0 [] (wipeE ev own)) (hst : ∀ k acc ev, k ≤ items.length → I k acc ev → ev[x]? = some (some t))
    (hs : ∀ k acc ev, k < items.length → I k acc ev → wg (items.getD k .non) ev (fun ev2 => wt ev2 (fun b ev3 => if b = true then we ev3 (fun y ev4 => I (k + 1) (acc ++ [y]) (wipeE ev4 own)) noX else I (k + 1) acc (wipeE ev3 own)) noX))
    (he : ∀ acc ev', I items.length acc ev' → Q (.lst acc) (restE ev own ev')) : wLc (wList b (.pl x)) wg wt we own ev Q X := ⟨t, items, h, hk, hb, ho, hz, I, h0, hst, hs, he⟩
theorem lc_rng1 {o : Arg} {wg : WG} {wt : WT} {we : WE} {own : List Nat} {ev : Ev} {Q : T → Ev → Prop} {X : XP} {n : Int} (h : PO o ev (.int n)) (hb : -(2 ^ 62) ≤ n ∧ n.toNat ≤ sizeLine ∧ n < 2 ^ 62) (ho : (own.all fun i => shrO (ev[i]?).join) = true)
    (I : Nat → List T → Ev → Prop) (h0 : I 0 [] (wipeE ev own))
    (hs : ∀ k acc ev, k < n.toNat → I k acc ev → wg (.int k) ev (fun ev2 => wt ev2 (fun b ev3 => if b = true then we ev3 (fun y ev4 => I (k + 1) (acc ++ [y]) (wipeE ev4 own)) noX else I (k + 1) acc (wipeE ev3 own)) noX))
    (he : ∀ acc ev', I n.toNat acc ev' → Q (.lst acc) (restE ev own ev')) : wLc (wRng1 o) wg wt we own ev Q X := by
  have fin : ∀ ev0, ev0 = ev → ((own.all fun i => shrO (ev0[i]?).join) = true ∧ n.toNat ≤ sizeLine ∧ ∃ I : Nat → List T → Ev → Prop, I 0 [] (wipeE ev0 own) ∧ (∀ k acc ev, k ≤ n.toNat → I k acc ev → True) ∧
      (∀ k acc ev, k < n.toNat → I k acc ev → wg (.int k) ev (fun ev2 => wt ev2 (fun b ev3 => if b = true then we ev3 (fun y ev4 => I (k + 1) (acc ++ [y]) (wipeE ev4 own)) noX else I (k + 1) acc (wipeE ev3 own)) noX)) ∧
      ∀ acc ev', I n.toNat acc ev' → Q (.lst acc) (restE ev0 own ev')) := fun ev0 e => e ▸ ⟨ho, hb.2.1, I, h0, fun _ _ _ _ _ => trivial, hs, he⟩
  refine h.args ?_
  cases o with
  | pl i => exact ⟨n, ev.set i none, by show (match ev[i]? with | some (some t) => _ | _ => none) = _; rw [show ev[i]? = _ from h]; rfl, hb.1, hb.2.2, fin _ (set_back h)⟩
  | vl w => exact ⟨n, ev, rfl, hb.1, hb.2.2, fin _ rfl⟩
theorem mapInt_inj {a b : List Int} : List.map T.int a = List.map T.int b ↔ a = b := ⟨fun h => by
  have := congrArg (List.map fun t => match t with | T.int i => i | _ => 0) h
  simpa [List.map_map, Function.comp_def] using this, fun h => h ▸ rfl⟩
theorem D_ints {ns : List Int} : T.D (.lst (ns.map T.int)) = .list (ns.map PyData.int) := by
  rw [T.D, T.Ds_map, List.map_map]; rfl
theorem D_int {i : Int} : T.D (.int i) = .int i := by rw [T.D]
theorem D_fz {t : T} : T.D (.fz t) = T.D t := by rw [T.D]
theorem shaped_int {i : Int} : SeqAt.shaped (.int i) = true := rfl
/-! ### lists of whole numbers, one's own or another's -/
def IsL (t : T) (ns : List Int) : Prop := t = .lst (ns.map T.int) ∨ t = .fz (.lst (ns.map T.int))
theorem frz_ints (ns : List Int) : (ns.map T.int).map T.frz = ns.map T.int := by rw [List.map_map]; rfl
theorem shr_ints (ns : List Int) : (ns.map T.int).all T.shr = true := by rw [List.all_map]; exact List.all_eq_true.mpr fun _ _ => rfl
theorem atI_ok {α : Type} {ns : List α} {i : Int} {a : α} (h0 : 0 ≤ i) (h : ns[i.toNat]? = some a) : _root_.L2.atI ns i = some a := by
  obtain ⟨j, rfl⟩ := Int.eq_ofNat_of_zero_le h0
  exact atI_nat (j := j) (by simpa using h)
theorem ixN_ok {n : Nat} {i : Int} (h0 : 0 ≤ i) (h : i < n) : ixN n i = some i.toNat := by
  unfold ixN
  rw [if_pos h0, if_pos h]
theorem seqIx_ok {n : Nat} {i : Int} (h0 : 0 ≤ i) (h : i < n) : seqIndex? i n = some i.toNat := (ixN_seq (ixN_ok h0 h)).1
section
variable {t u : T} {ns ms : List Int}
theorem IsL.own : IsL (.lst (ns.map T.int)) ns := .inl rfl
theorem IsL.fz : IsL (.fz (.lst (ns.map T.int))) ns := .inr rfl
theorem IsL.frz (h : IsL t ns) : IsL t.frz ns := by rcases h with rfl | rfl <;> exact .inr rfl
theorem IsL.len (h : IsL t ns) : t.len = some ns.length := by rcases h with rfl | rfl <;> (show some (ns.map T.int).length = _; rw [List.length_map])
theorem IsL.kids (h : IsL t ns) : t.kids = some (ns.map T.int) := by
  rcases h with rfl | rfl
  · show (if (ns.map T.int).all T.shr = true then _ else _) = _
    rw [if_pos (shr_ints ns)]
  · show some ((ns.map T.int).map T.frz) = _
    rw [frz_ints]
theorem IsL.kidL (h : IsL t ns) : t.kidL = some (ns.map T.int) := by
  rcases h with rfl | rfl
  · show (if (ns.map T.int).all T.shr = true then _ else _) = _
    rw [if_pos (shr_ints ns)]
  · show some ((ns.map T.int).map T.frz) = _
    rw [frz_ints]
theorem IsL.kidLS (h : IsL t ns) : t.kidLS = some (ns.map T.int) := by
  have := h.kidL
  rcases h with rfl | rfl <;> exact this
theorem IsL.kidS (h : IsL t ns) : t.kidS = some (ns.map T.int) := by
  have := h.kids
  rcases h with rfl | rfl <;> exact this
theorem IsL.at (h : IsL t ns) (i : Int) : t.atT i = (_root_.L2.atI ns i).map T.int := by
  rcases h with rfl | rfl
  · show (_root_.L2.atI (ns.map T.int) i).bind _ = _
    rw [atI_map]
    cases _root_.L2.atI ns i <;> rfl
  · show (_root_.L2.atI (ns.map T.int) i).map T.frz = _
    rw [atI_map]
    cases _root_.L2.atI ns i <;> rfl
theorem IsL.atN (h : IsL t ns) {i a : Int} (h0 : 0 ≤ i) (e : ns[i.toNat]? = some a) : t.atT i = some (.int a) := by rw [h.at, atI_ok h0 e]; rfl
theorem IsL.D (h : IsL t ns) : t.D = .list (ns.map PyData.int) := by
  rcases h with rfl | rfl
  · exact D_ints
  · rw [D_fz]; exact D_ints
theorem IsL.shaped (h : IsL t ns) : SeqAt.shaped t.D = true := by rw [h.D]; exact PySem.W.shaped_ints ns
theorem eqvAll_ints : ∀ ns ms : List Int, PyData.eqvAll (ns.map PyData.int) (ms.map PyData.int) = decide (ns = ms)
  | [], [] => by simp [PyData.eqvAll]
  | [], _ :: _ => by simp [PyData.eqvAll]
  | _ :: _, [] => by simp [PyData.eqvAll]
  | n :: r, k :: q => by
    simp only [List.map_cons, PyData.eqvAll, PyData.eqv, eqvAll_ints r q]
    by_cases h : n = k <;> simp [h]
theorem IsL.eqv (h : IsL t ns) (k : IsL u ms) : PyData.eqv t.D u.D = decide (ns = ms) := by
  rw [h.D, k.D]
  show PyData.eqv (.list _) (.list _) = _
  unfold PyData.eqv
  exact eqvAll_ints ns ms
theorem IsL.isSeq (h : IsL t ns) : t.isSeq false = true := by rcases h with rfl | rfl <;> rfl
theorem IsL.tyN (h : IsL t ns) : t.tyN = "list" := by rcases h with rfl | rfl <;> rfl
theorem IsL.pyTy (h : IsL t ns) : t.pyTy = some "list" := by rcases h with rfl | rfl <;> rfl
theorem IsL.isN (h : IsL t ns) : t.isN = some false := by rcases h with rfl | rfl <;> rfl
theorem IsL.nil : IsL (.lst []) [] := .inl rfl
theorem isL_rg1 {n : Nat} : IsL (.lst ((List.range n).map fun (i : Nat) => T.int (i : Int))) ((List.range n).map Int.ofNat) := .inl (by rw [List.map_map]; rfl)
theorem isL_rg2 {n : Nat} {i : Int} : IsL (.lst ((List.range n).map fun (k : Nat) => T.int (i + (k : Int)))) ((List.range n).map fun (k : Nat) => i + (k : Int)) := .inl (by rw [List.map_map]; rfl)
end
/-! ### three numbers -/
section
variable {a b c : Int} {y : T} {QS : T → List (Option T) → Prop} {XS : Addr → List (Option T) → Prop}
theorem at3_0 : T.atT (.lst [.int a, .int b, .int c]) 0 = some (.int a) := rfl
theorem at3_1 : T.atT (.lst [.int a, .int b, .int c]) 1 = some (.int b) := rfl
theorem at3_2 : T.atT (.lst [.int a, .int b, .int c]) 2 = some (.int c) := rfl
theorem shr_int {i : Int} : T.shr (.int i) = true := rfl
theorem shr_bl {b : Bool} : T.shr (.bl b) = true := rfl
theorem shr_str {x : Str} : T.shr (.str x) = true := rfl
theorem shr_non : T.shr .non = true := rfl
theorem shr_frz {t : T} : t.frz.shr = true := T.frz_shr t
theorem frz_int {i : Int} : T.frz (.int i) = .int i := rfl
end
/-! ### how great numbers get -/
def Sm (n : Nat) (i : Int) : Prop := i.natAbs < 2 ^ n
theorem Sm.mono {n m : Nat} {i : Int} (h : Sm n i) (k : n ≤ m) : Sm m i := Nat.lt_of_lt_of_le h (Nat.pow_le_pow_right (by decide) k)
theorem Sm.add {n : Nat} {i j : Int} (h : Sm n i) (k : Sm n j) : Sm (n + 1) (i + j) := by
  have h1 : i.natAbs < 2 ^ n := h
  have h2 : j.natAbs < 2 ^ n := k
  show (i + j).natAbs < 2 ^ (n + 1)
  rw [Nat.pow_succ]; omega
theorem Sm.mul {n m : Nat} {i j : Int} (h : Sm n i) (k : Sm m j) : Sm (n + m) (i * j) := by
  show (i * j).natAbs < 2 ^ (n + m)
  rw [Int.natAbs_mul, Nat.pow_add]
  exact Nat.mul_lt_mul'' h k
theorem Sm.cmul {n m : Nat} {i j : Int} (h : Sm n i) (k : Sm m j) (hn : n + m < 1000000) : CMulW i j := by
  have f : ∀ {n : Nat} {i : Int}, Sm n i → i.natAbs.log2 ≤ n := fun {n i} h => by
    by_cases z : i.natAbs = 0
    · rw [z]; exact Nat.zero_le _
    · exact Nat.le_of_lt ((Nat.log2_lt z).mpr h)
  have h1 := f h
  have h2 := f k
  show i.natAbs.log2 + j.natAbs.log2 < 1000000
  omega
theorem Sm.cdiv {n : Nat} {i j : Int} (h : Sm n j) (hj : 0 < j) (hn : n < 9000) : CDivW i j := by
  refine ⟨hj, ?_⟩
  have z : j.natAbs ≠ 0 := by omega
  exact Nat.lt_trans ((Nat.log2_lt z).mpr h) hn
theorem Sm.of {n : Nat} {i : Int} (h1 : -(2 ^ n : Nat) < i) (h2 : i < (2 ^ n : Nat)) : Sm n i := by
  show i.natAbs < 2 ^ n
  omega
/-! ### pure steps -/
section
variable {ev : Ev} {a b c : Arg} {t u v : T} {i j : Int}
theorem x_takeP {i : Nat} {as : List ArgV} (h : ev[i]? = some (some t)) : takeA (.pl i :: as) ev = (takeA as (ev.set i none)).map fun p => (t :: p.1, p.2) := by
  show (match ev[i]? with | some (some t) => _ | _ => none) = _
  rw [h]
  show (match takeA as (ev.set i none) with | some p => some (t :: p.1, p.2) | none => none) = _
  cases takeA as (ev.set i none) <;> rfl
theorem x_takeV {as : List ArgV} : takeA (.vl t :: as) ev = (takeA as ev).map fun p => (t :: p.1, p.2) := by
  show (match takeA as ev with | some p => some (t :: p.1, p.2) | none => none) = _
  cases takeA as ev <;> rfl
def RdS (S : SpT) (ts : List T) (u : T) : Prop := ∀ (Q : T → List (Option T) → Prop) (X : Addr → List (Option T) → Prop), Q u (ts.map some) → S ts Q X
def apart2 : Arg → Arg → Bool
  | .pl i, .pl j => i != j
  | _, _ => true
theorem op1 {S : SpT} (ha : PO a ev t) (h : RdS S [t] u) : Pure (wOp S [a]) ev u := fun Q X q => by
  refine ha.args ?_
  cases a with
  | pl i =>
    refine ⟨[t], ev.set i none, by show takeA [.pl i] ev = _; rw [x_takeP ha]; rfl, h _ _ ?_⟩
    show Q u ((ev.set i none).set i (some t))
    rw [set_back ha]; exact q
  | vl w => exact ⟨[t], ev, rfl, h _ _ q⟩
theorem op2 {S : SpT} (hn : apart2 a b = true) (h : RdS S [t, u] v) (ha : PO a ev t) (hb : PO b ev u) : Pure (wOp S [a, b]) ev v := fun Q X q => by
  refine ha.args (hb.args ?_)
  cases a with
  | pl i =>
    cases b with
    | vl w =>
      refine ⟨[t, u], ev.set i none, by show takeA [.pl i, .vl u] ev = _; rw [x_takeP ha]; rfl, h _ _ ?_⟩
      show Q v ((ev.set i none).set i (some t))
      rw [set_back ha]; exact q
    | pl j =>
      have ne : i ≠ j := by simpa [apart2] using hn
      have hb' : (ev.set i none)[j]? = some (some u) := by rw [List.getElem?_set_ne ne]; exact hb
      refine ⟨[t, u], (ev.set i none).set j none, by show takeA [.pl i, .pl j] ev = _; rw [x_takeP ha, x_takeP hb']; rfl, h _ _ ?_⟩
      show Q v ((((ev.set i none).set j none).set i (some t)).set j (some u))
      rw [List.set_comm _ _ ne.symm, set_back ha]
      obtain ⟨h1, h2⟩ := List.getElem?_eq_some_iff.mp (show ev[j]? = some (some u) from hb)
      rw [List.set_set, ← h2, List.set_getElem_self]; exact q
  | vl w =>
    cases b with
    | vl w2 => exact ⟨[t, u], ev, rfl, h _ _ q⟩
    | pl j =>
      refine ⟨[t, u], ev.set j none, by show takeA [.vl t, .pl j] ev = _; rw [x_takeV, x_takeP hb]; rfl, h _ _ ?_⟩
      show Q v ((ev.set j none).set j (some u))
      rw [set_back hb]; exact q
theorem p_add (n : apart2 a b = true) (ha : PO a ev (.int i)) (hb : PO b ev (.int j)) : Pure (wOp sAdd [a, b]) ev (.int (i + j)) := op2 n (fun _ _ q => ⟨i, j, rfl, q⟩) ha hb
theorem p_sub (n : apart2 a b = true) (ha : PO a ev (.int i)) (hb : PO b ev (.int j)) : Pure (wOp sSub [a, b]) ev (.int (i - j)) := op2 n (fun _ _ q => ⟨i, j, rfl, q⟩) ha hb
theorem p_lt (n : apart2 a b = true) (ha : PO a ev (.int i)) (hb : PO b ev (.int j)) : Pure (wOp sLt [a, b]) ev (.bl (decide (i < j))) := op2 n (fun _ _ q => ⟨i, j, rfl, q⟩) ha hb
theorem p_le (n : apart2 a b = true) (ha : PO a ev (.int i)) (hb : PO b ev (.int j)) : Pure (wOp sLe [a, b]) ev (.bl (decide (i ≤ j))) := op2 n (fun _ _ q => ⟨i, j, rfl, q⟩) ha hb
theorem p_gt (n : apart2 a b = true) (ha : PO a ev (.int i)) (hb : PO b ev (.int j)) : Pure (wOp sGt [a, b]) ev (.bl (decide (j < i))) := op2 n (fun _ _ q => ⟨i, j, rfl, q⟩) ha hb
theorem p_ge (n : apart2 a b = true) (ha : PO a ev (.int i)) (hb : PO b ev (.int j)) : Pure (wOp sGe [a, b]) ev (.bl (decide (j ≤ i))) := op2 n (fun _ _ q => ⟨i, j, rfl, q⟩) ha hb
theorem p_min2 (n : apart2 a b = true) (ha : PO a ev (.int i)) (hb : PO b ev (.int j)) : Pure (wOp sMin2 [a, b]) ev (.int (min i j)) := op2 n (fun Q _ q => ⟨i, j, rfl, by
  have e : (if j < i then j else i) = min i j := by rw [Int.min_def]; split <;> split <;> omega
  show Q (.int (if j < i then j else i)) _
  rw [e]; exact q⟩) ha hb
theorem p_max2 (n : apart2 a b = true) (ha : PO a ev (.int i)) (hb : PO b ev (.int j)) : Pure (wOp sMax2 [a, b]) ev (.int (max i j)) := op2 n (fun Q _ q => ⟨i, j, rfl, by
  have e : (if j > i then j else i) = max i j := by rw [Int.max_def]; split <;> split <;> omega
  show Q (.int (if j > i then j else i)) _
  rw [e]; exact q⟩) ha hb
theorem p_mul (n : apart2 a b = true) (ha : PO a ev (.int i)) (hb : PO b ev (.int j)) (c : CMulW i j) : Pure (wOp sMul [a, b]) ev (.int (i * j)) := op2 n (fun _ _ q => ⟨i, j, rfl, c, q⟩) ha hb
theorem p_div (n : apart2 a b = true) (ha : PO a ev (.int i)) (hb : PO b ev (.int j)) (c : CDivW i j) : Pure (wOp sDiv [a, b]) ev (.int (i / j)) := op2 n (fun _ _ q => ⟨i, j, rfl, c, q⟩) ha hb
theorem p_mod (n : apart2 a b = true) (ha : PO a ev (.int i)) (hb : PO b ev (.int j)) (c : 0 < j) : Pure (wOp sMod [a, b]) ev (.int (i % j)) := op2 n (fun _ _ q => ⟨i, j, rfl, c, q⟩) ha hb
theorem p_pow (n : apart2 a b = true) (ha : PO a ev (.int i)) (hb : PO b ev (.int j)) (c : CPow i j) : Pure (wOp sPow [a, b]) ev (.int (i ^ j.toNat)) := op2 n (fun _ _ q => ⟨i, j, rfl, c, q⟩) ha hb
theorem p_neg (ha : PO a ev (.int i)) : Pure (wOp sNeg [a]) ev (.int (-i)) := op1 ha fun _ _ q => ⟨i, rfl, q⟩
theorem p_eqI (n : apart2 a b = true) (ha : PO a ev (.int i)) (hb : PO b ev (.int j)) : Pure (wOp sEq [a, b]) ev (.bl (decide (i = j))) := op2 n (fun _ _ q => ⟨_, _, rfl, rfl, rfl, by rw [eqv_int]; exact q⟩) ha hb
theorem p_neI (n : apart2 a b = true) (ha : PO a ev (.int i)) (hb : PO b ev (.int j)) : Pure (wOp sNe [a, b]) ev (.bl (!decide (i = j))) := op2 n (fun _ _ q => ⟨_, _, rfl, rfl, rfl, by rw [eqv_int]; exact q⟩) ha hb
theorem p_eqL {ns ms : List Int} (n : apart2 a b = true) (ha : PO a ev t) (hb : PO b ev u) (h1 : IsL t ns) (h2 : IsL u ms) : Pure (wOp sEq [a, b]) ev (.bl (decide (ns = ms))) := op2 n (fun _ _ q => ⟨_, _, rfl, h1.shaped, h2.shaped, by rw [h1.eqv h2]; exact q⟩) ha hb
theorem p_neL {ns ms : List Int} (n : apart2 a b = true) (ha : PO a ev t) (hb : PO b ev u) (h1 : IsL t ns) (h2 : IsL u ms) : Pure (wOp sNe [a, b]) ev (.bl (!decide (ns = ms))) := op2 n (fun _ _ q => ⟨_, _, rfl, h1.shaped, h2.shaped, by rw [h1.eqv h2]; exact q⟩) ha hb
theorem p_len {k : Nat} (ha : PO a ev t) (h : t.len = some k) : Pure (wOp sLen [a]) ev (.int k) := op1 ha fun _ _ q => ⟨t, k, rfl, h, q⟩
theorem p_at (n : apart2 a b = true) (ha : PO a ev t) (hb : PO b ev (.int i)) (h : t.atT i = some u) : Pure (wOp sAt [a, b]) ev u := op2 n (fun _ _ q => ⟨t, i, u, rfl, h, q⟩) ha hb
theorem p_isi {m k : String} (n : apart2 a b = true) (ha : PO a ev t) (hb : PO b ev (.ty k)) (h : t.pyTy = some m) (hk : k ∈ ["bool", "int", "str", "list", "tuple"]) : Pure (wOp sIsi [a, b]) ev (.bl (isI m k)) := op2 n (fun _ _ q => ⟨t, m, k, rfl, h, hk, q⟩) ha hb
theorem p_isN {k : Bool} (n : apart2 a b = true) (ha : PO a ev t) (hb : PO b ev .non) (h : t.isN = some k) : Pure (wOp sIsN [a, b]) ev (.bl k) := op2 n (fun _ _ q => ⟨t, k, rfl, h, q⟩) ha hb
theorem p_notN {k : Bool} (n : apart2 a b = true) (ha : PO a ev t) (hb : PO b ev .non) (h : t.isN = some k) : Pure (wOp sNotN [a, b]) ev (.bl (!k)) := op2 n (fun _ _ q => ⟨t, k, rfl, h, q⟩) ha hb
theorem p_isB {k l : Bool} (n : apart2 a b = true) (ha : PO a ev (.bl k)) (hb : PO b ev (.bl l)) : Pure (wOp sIsB [a, b]) ev (.bl (decide (k = l))) := op2 n (fun _ _ q => ⟨k, l, rfl, q⟩) ha hb
theorem p_notB {k l : Bool} (n : apart2 a b = true) (ha : PO a ev (.bl k)) (hb : PO b ev (.bl l)) : Pure (wOp sNotB [a, b]) ev (.bl (!decide (k = l))) := op2 n (fun _ _ q => ⟨k, l, rfl, q⟩) ha hb
theorem p_list {xs : List T} (ha : PO a ev t) (h : t.kidS = some xs) : Pure (wOp sList [a]) ev (.lst xs) := op1 ha fun _ _ q => ⟨t, xs, rfl, h, q⟩
theorem p_sum {ns : List Int} (ha : PO a ev t) (h : IsL t ns) : Pure (wOp sSum [a]) ev (.int ns.sum) := op1 ha fun _ _ q => ⟨t, ns, rfl, h.kidLS, q⟩
theorem p_rep {xs : List T} (n : apart2 a b = true) (ha : PO a ev t) (hb : PO b ev (.int i)) (h : t.kidL = some xs) (h1 : -(2 ^ 63) ≤ i ∧ i < 2 ^ 63 ∧ xs.length * i.toNat ≤ sizeLine) : Pure (wOp sRep [a, b]) ev (.lst (List.replicate i.toNat xs).flatten) := op2 n (fun _ _ q => ⟨t, i, xs, rfl, h, h1.1, h1.2.1, h1.2.2, q⟩) ha hb
theorem rep1 {z : T} : ∀ n : Nat, (List.replicate n [z]).flatten = List.replicate n z
  | 0 => rfl
  | n + 1 => by rw [List.replicate_succ, List.flatten_cons, rep1 n]; rfl
theorem p_rep0 (n : apart2 a b = true) (ha : PO a ev (.lst [.int j])) (hb : PO b ev (.int i)) (h1 : i ≤ 16777216) (h2 : 0 ≤ i) : Pure (wOp sRep [a, b]) ev (.lst ((List.replicate i.toNat j).map T.int)) := (p_rep n ha hb (xs := [.int j]) rfl ⟨by omega, by omega, by
  show 1 * i.toNat ≤ sizeLine
  have : (16777216 : Nat) ≤ sizeLine := by decide
  omega⟩).cast (by rw [rep1, List.map_replicate])
theorem p_cat {xs ys : List T} (n : apart2 a b = true) (ha : PO a ev t) (hb : PO b ev u) (h : t.kidL = some xs) (h1 : u.kidL = some ys) (h2 : xs.length + ys.length ≤ sizeLine) : Pure (wOp sCat [a, b]) ev (.lst (xs ++ ys)) := op2 n (fun _ _ q => ⟨t, u, xs, ys, rfl, h, h1, h2, q⟩) ha hb
theorem p_catL {ns ms : List Int} (n : apart2 a b = true) (ha : PO a ev t) (hb : PO b ev u) (h1 : IsL t ns) (h2 : IsL u ms) (h3 : ns.length + ms.length ≤ 16777216) : Pure (wOp sCat [a, b]) ev (.lst ((ns ++ ms).map T.int)) := (p_cat n ha hb h1.kidL h2.kidL (by
  rw [List.length_map, List.length_map]; exact h3)).cast (by rw [List.map_append])
theorem p_rgL1 (ha : PO a ev (.int i)) (h : i ≤ 16777216 ∧ -(2 ^ 62) ≤ i) : Pure (wOp sRgL1 [a]) ev (.lst (((List.range i.toNat).map Int.ofNat).map T.int)) := (op1 ha fun _ _ q => ⟨i, rfl, h.1, h.2, q⟩).cast (by rw [List.map_map]; rfl)
theorem p_rgL2 (n : apart2 a b = true) (ha : PO a ev (.int i)) (hb : PO b ev (.int j)) (h : RgOk i j) : Pure (wOp sRgL2 [a, b]) ev (.lst (((List.range (j - i).toNat).map fun (k : Nat) => i + (k : Int)).map T.int)) := (op2 n (fun _ _ q => ⟨i, j, rfl, h, q⟩) ha hb).cast (by rw [List.map_map]; rfl)
/-- sorted, as one list -/
def srt (ns : List Int) : List Int := ns.mergeSort fun x y => decide (x ≤ y)
theorem srt_perm (ns : List Int) : (srt ns).Perm ns := List.mergeSort_perm _ _
theorem srt_le (ns : List Int) : (srt ns).Pairwise (· ≤ ·) := (List.pairwise_mergeSort (le := fun (x y : Int) => decide (x ≤ y)) (fun a b c h1 h2 => by simp at *; omega) (fun a b => by simp; omega) ns).imp fun h => by simpa using h
theorem srt_one : ∀ {l m : List Int}, l.Perm m → l.Pairwise (· ≤ ·) → m.Pairwise (· ≤ ·) → l = m
  | [], m, h, _, _ => (List.nil_perm.mp h).symm
  | x :: l, [], h, _, _ => absurd h.length_eq (by simp)
  | x :: l, y :: m, h, h1, h2 => by
    rw [List.pairwise_cons] at h1 h2
    have e : x = y := by
      have a1 : x ∈ y :: m := h.subset List.mem_cons_self
      have a2 : y ∈ x :: l := h.symm.subset List.mem_cons_self
      rcases List.mem_cons.mp a1 with e | a1
      · exact e
      · rcases List.mem_cons.mp a2 with e | a2
        · exact e.symm
        · have := h1.1 _ a2; have := h2.1 _ a1; omega
    subst e
    rw [srt_one ((List.perm_cons x).mp h) h1.2 h2.2]
theorem p_sortI {ns : List Int} (ha : PO a ev t) (h : IsL t ns) : Pure (wOp sSortI [a]) ev (.lst ((srt ns).map T.int)) := op1 ha fun _ _ q => ⟨t, ns, rfl, h.kidLS, fun ns' h1 h2 => by rw [srt_one (h1.trans (srt_perm ns).symm) h2 (srt_le ns)]; exact q⟩
theorem p_minL {ns : List Int} {m : Int} (ha : PO a ev t) (h : IsL t ns) (hm : m ∈ ns) (hl : ∀ y ∈ ns, m ≤ y) : Pure (wOp sMinL [a]) ev (.int m) := op1 ha fun _ _ q => ⟨t, ns, rfl, h.kidLS, by cases ns with | nil => cases hm | cons => exact Nat.zero_lt_succ _, fun k h1 h2 => by
  have := hl k h1; have := h2 m hm; rw [show k = m by omega]; exact q⟩
theorem p_maxL {ns : List Int} {m : Int} (ha : PO a ev t) (h : IsL t ns) (hm : m ∈ ns) (hl : ∀ y ∈ ns, y ≤ m) : Pure (wOp sMaxL [a]) ev (.int m) := op1 ha fun _ _ q => ⟨t, ns, rfl, h.kidLS, by cases ns with | nil => cases hm | cons => exact Nat.zero_lt_succ _, fun k h1 h2 => by
  have := hl k h1; have := h2 m hm; rw [show k = m by omega]; exact q⟩
theorem p_cutLo {xs : List T} (n : apart2 a b = true) (ha : PO a ev t) (hb : PO b ev (.int i)) (h : t.kidLS = some xs) : Pure (wOp sCutLo [a, b]) ev (.lst (cut xs (some i) none)) := op2 n (fun _ _ q => ⟨t, i, xs, rfl, h, q⟩) ha hb
theorem p_cutHi {xs : List T} (n : apart2 a b = true) (ha : PO a ev t) (hb : PO b ev (.int i)) (h : t.kidLS = some xs) : Pure (wOp sCutHi [a, b]) ev (.lst (cut xs none (some i))) := op2 n (fun _ _ q => ⟨t, i, xs, rfl, h, q⟩) ha hb
theorem p_rev {xs : List T} (ha : PO a ev t) (h : t.kidLS = some xs) : Pure (wOp sRev [a]) ev (.lst xs.reverse) := op1 ha fun _ _ q => ⟨t, xs, rfl, h, q⟩
theorem p_lst0 : Pure (wOp sLst []) ev (.lst []) := fun Q X q => ⟨[], ev, rfl, Nat.zero_le _, q⟩
variable {w1 w2 w3 w4 : WE} {t1 t2 t3 t4 : T}
theorem p_lst1 (h1 : Pure w1 ev t1) : Pure (wOp sLst [.vl w1]) ev (.lst [t1]) := fun Q X q => h1 _ _ ⟨_, _, rfl, (by decide : (1 : Nat) ≤ sizeLine), q⟩
theorem p_lst2 (h1 : Pure w1 ev t1) (h2 : Pure w2 ev t2) : Pure (wOp sLst [.vl w1, .vl w2]) ev (.lst [t1, t2]) := fun Q X q => h1 _ _ (h2 _ _ ⟨_, _, rfl, (by decide : (2 : Nat) ≤ sizeLine), q⟩)
theorem p_lst3 (h1 : Pure w1 ev t1) (h2 : Pure w2 ev t2) (h3 : Pure w3 ev t3) : Pure (wOp sLst [.vl w1, .vl w2, .vl w3]) ev (.lst [t1, t2, t3]) := fun Q X q => h1 _ _ (h2 _ _ (h3 _ _ ⟨_, _, rfl, (by decide : (3 : Nat) ≤ sizeLine), q⟩))
theorem p_lst4 (h1 : Pure w1 ev t1) (h2 : Pure w2 ev t2) (h3 : Pure w3 ev t3) (h4 : Pure w4 ev t4) : Pure (wOp sLst [.vl w1, .vl w2, .vl w3, .vl w4]) ev (.lst [t1, t2, t3, t4]) := fun Q X q => h1 _ _ (h2 _ _ (h3 _ _ (h4 _ _ ⟨_, _, rfl, (by decide : (4 : Nat) ≤ sizeLine), q⟩)))
theorem p_tup1 (h1 : Pure w1 ev t1) : Pure (wOp sTup [.vl w1]) ev (.tup [t1]) := fun Q X q => h1 _ _ ⟨_, _, rfl, (by decide : (1 : Nat) ≤ sizeLine), q⟩
theorem p_tup2 (h1 : Pure w1 ev t1) (h2 : Pure w2 ev t2) : Pure (wOp sTup [.vl w1, .vl w2]) ev (.tup [t1, t2]) := fun Q X q => h1 _ _ (h2 _ _ ⟨_, _, rfl, (by decide : (2 : Nat) ≤ sizeLine), q⟩)
theorem p_tup3 (h1 : Pure w1 ev t1) (h2 : Pure w2 ev t2) (h3 : Pure w3 ev t3) : Pure (wOp sTup [.vl w1, .vl w2, .vl w3]) ev (.tup [t1, t2, t3]) := fun Q X q => h1 _ _ (h2 _ _ (h3 _ _ ⟨_, _, rfl, (by decide : (3 : Nat) ≤ sizeLine), q⟩))
/-- a method that reads -/
theorem p_meth {n : String} {S : SpT} (hn : apart2 a b = true) (h : RdS S [t, u] v) (ha : PO a ev t) (hb : PO b ev u) (ty : t.tyN = n) : Pure (wMeth n S a [b]) ev v := fun Q X q => by
  refine ha.args ⟨?_, hb.args ?_⟩
  · cases a with
    | pl i => exact ⟨t, ha, ty⟩
    | vl w => exact ty
  · obtain ⟨h1⟩ : Nonempty (wArgs [a, b] ev (fun as ev1 => ∃ ts ev2, takeA as ev1 = some (ts, ev2) ∧ S ts (fun t ts' => Q t (giveA as ts' ev2)) fun C ts' => X C (giveA as ts' ev2)) X) := ⟨op2 hn h ha hb Q X q⟩
    cases a with
    | pl i =>
      cases b with
      | pl j => exact h1.2.2
      | vl w =>
        refine ⟨[t, u], ev.set i none, by show takeA [.pl i, .vl u] ev = _; rw [x_takeP ha]; rfl, h _ _ ?_⟩
        show Q v ((ev.set i none).set i (some t))
        rw [set_back ha]; exact q
    | vl w =>
      cases b with
      | vl w2 => exact ⟨[t, u], ev, rfl, h _ _ q⟩
      | pl j =>
        refine ⟨[t, u], ev.set j none, by show takeA [.vl t, .pl j] ev = _; rw [x_takeV, x_takeP hb]; rfl, h _ _ ?_⟩
        show Q v ((ev.set j none).set j (some u))
        rw [set_back hb]; exact q
/-! ### steps -/
variable {w x : WS} {E : EndT} {p q : WE} {Q : T → Ev → Prop} {X : XP} {k : Nat} {QA : List ArgV → Ev → Prop} {r : List Arg} {QB : Bool → Ev → Prop} {d e : WT}
theorem r_pass (h : E.nx ev) : sPass ev E := h
theorem r_break (h : E.bk ev) : sBreak ev E := h
theorem r_cont (h : E.ct ev) : sCont ev E := h
theorem r_seq (h : w ev ⟨fun ev' => x ev' E, E.rt, E.bk, E.ct, E.xc⟩) : sSeq w x ev E := h
theorem r_e (h : p ev (fun _ ev' => E.nx ev') E.xc) : sE p ev E := h
theorem r_eP (h : Pure p ev t) (k : E.nx ev) : sE p ev E := h _ _ k
theorem r_ret (h : p ev (fun t ev' => E.rt t ev') E.xc) : sRet p ev E := h
theorem r_retP (h : Pure p ev t) (k : E.rt t ev) : sRet p ev E := h _ _ k
theorem r_retM (h : ev[k]? = some (some t)) (q : E.rt t (ev.set k none)) : sRet (wM k) ev E := ⟨t, h, q⟩
theorem r_retN (h : E.rt .non ev) : sRetN ev E := h
theorem r_set (h : p ev (fun t ev' => k < ev'.length ∧ E.nx (ev'.set k (some t))) E.xc) : sSet k p ev E := h
theorem r_setP (h : Pure p ev t) (hi : Nat.blt k ev.length = true) (q : E.nx (ev.set k (some t))) : sSet k p ev E := h _ _ ⟨Nat.blt_eq ▸ hi, q⟩
theorem r_lt {ev' : Ev} {P : Prop} (hi : Nat.blt k ev'.length = true) (q : P) : k < ev'.length ∧ P := ⟨Nat.blt_eq ▸ hi, q⟩
theorem r_if (h : d ev (fun k ev1 => if k = true then w ev1 E else x ev1 E) E.xc) : sIf d w x ev E := h
theorem r_ifP {k : Bool} (h : PureT d ev k) (h1 : k = true → w ev E) (h2 : k = false → x ev E) : sIf d w x ev E := h _ _ (by
  cases k with
  | true => rw [if_pos rfl]; exact h1 rfl
  | false => rw [if_neg Bool.false_ne_true]; exact h2 rfl)
theorem r_ite {k : Bool} {A B : Prop} (h1 : k = true → A) (h2 : k = false → B) : if k = true then A else B := by
  cases k with
  | true => rw [if_pos rfl]; exact h1 rfl
  | false => rw [if_neg Bool.false_ne_true]; exact h2 rfl
theorem r_raise {C : Addr} (h : E.xc C ev) : sRaise C ev E := h
theorem r_tst (h : p ev (fun t ev' => ∃ b, t = .bl b ∧ QB b ev') X) : wTst p ev QB X := h
theorem r_tstP {b : Bool} (h : Pure p ev (.bl b)) (q : QB b ev) : wTst p ev QB X := h _ _ ⟨b, rfl, q⟩
theorem r_bl {b : Bool} {P : Bool → Prop} (h : P b) : ∃ c, T.bl b = T.bl c ∧ P c := ⟨b, rfl, h⟩
theorem r_and (h : d ev (fun b ev1 => if b = true then e ev1 QB X else QB false ev1) X) : wAnd d e ev QB X := h
theorem r_or (h : d ev (fun b ev1 => if b = true then QB true ev1 else e ev1 QB X) X) : wOr d e ev QB X := h
theorem r_not (h : d ev (fun b ev1 => QB (!b) ev1) X) : wNot d ev QB X := h
theorem r_yes (h : QB true ev) : wYes ev QB X := h
theorem r_pureT {b : Bool} (h : PureT d ev b) (q : QB b ev) : d ev QB X := h _ _ q
theorem r_pure (h : Pure p ev t) (q : Q t ev) : p ev Q X := h _ _ q
theorem r_M (h : ev[k]? = some (some t)) (q : Q t (ev.set k none)) : wM k ev Q X := ⟨t, h, q⟩
theorem r_V (h : ev[k]? = some (some t)) (q : Q t.frz (ev.set k (some t.frz))) : wV k ev Q X := ⟨t, h, q⟩
theorem r_op {S : SpT} {args : List Arg} (h : wArgs args ev (fun as ev1 => ∃ ts ev2, takeA as ev1 = some (ts, ev2) ∧ S ts (fun t ts' => Q t (giveA as ts' ev2)) fun C ts' => X C (giveA as ts' ev2)) X) : wOp S args ev Q X := h
theorem r_meth {n : String} {S : SpT} {args : List Arg} (h : wArgs [a] ev (fun as1 ev1 => tyA n as1 ev1 ∧ wArgs args ev1 (fun as ev2 => ∃ ts ev3, takeA (as1 ++ as) ev2 = some (ts, ev3) ∧
  S ts (fun t ts' => Q t (giveA (as1 ++ as) ts' ev3)) fun C ts' => X C (giveA (as1 ++ as) ts' ev3)) X) X) : wMeth n S a args ev Q X := h
theorem r_store {S : SpT} {o oi : Arg} (h : p ev (fun t ev1 => wArgs [o, oi] ev1 (fun as ev2 => ∃ ts ev3, takeA (.vl t :: as) ev2 = some (ts, ev3) ∧ S ts (fun _ ts' => E.nx (giveA (.vl t :: as) ts' ev3)) fun _ _ => False) E.xc) E.xc) : sStore S o oi p ev E := h
theorem r_a0 (h : QA [] ev) : wArgs [] ev QA X := h
theorem r_aP (h : ev[k]? = some (some t)) (q : wArgs r ev (fun as ev' => QA (.pl k :: as) ev') X) : wArgs (.pl k :: r) ev QA X := ⟨⟨t, h⟩, q⟩
theorem r_aV (h : p ev (fun t ev1 => wArgs r ev1 (fun as ev' => QA (.vl t :: as) ev') X) X) : wArgs (.vl p :: r) ev QA X := h
theorem r_tk {as : List ArgV} {ts : List T} {ev2 : Ev} {S : List T → Ev → Prop} (h : takeA as ev = some (ts, ev2)) (q : S ts ev2) : ∃ ts ev2, takeA as ev = some (ts, ev2) ∧ S ts ev2 := ⟨ts, ev2, h, q⟩
theorem r_tyP {n : String} {P : Prop} (h : ev[k]? = some (some t)) (ht : t.tyN = n) (q : P) : tyA n [.pl k] ev ∧ P := ⟨⟨t, h, ht⟩, q⟩
theorem r_tyV {n : String} {P : Prop} (ht : t.tyN = n) (q : P) : tyA n [.vl t] ev ∧ P := ⟨ht, q⟩
variable {QS : T → List (Option T) → Prop} {XS : Addr → List (Option T) → Prop}
theorem r_append {xs : List T} {y : T} (h : xs.length < 16777216) (q : QS .non [some (.lst (xs ++ [y])), none]) : sAppend [.lst xs, y] QS XS := ⟨xs, y, rfl, h, q⟩
theorem r_appendI {xs : List Int} {y : Int} (h : xs.length < 16777216) (q : QS .non [some (.lst ((xs ++ [y]).map T.int)), none]) : sAppend [.lst (xs.map T.int), .int y] QS XS := ⟨_, _, rfl, by rw [List.length_map]; exact h, by rw [List.map_append] at q; exact q⟩
theorem map_erase {α β : Type} (f : α → β) : ∀ (xs : List α) (i : Nat), (xs.eraseIdx i).map f = (xs.map f).eraseIdx i
  | [], i => by cases i <;> rfl
  | x :: r, 0 => rfl
  | x :: r, i + 1 => by
    show f x :: (r.eraseIdx i).map f = f x :: (r.map f).eraseIdx i
    rw [map_erase f r i]
theorem r_popAtI {xs : List Int} {i y : Int} (h0 : 0 ≤ i) (h1 : i < 2 ^ 63) (h : xs[i.toNat]? = some y) (q : QS (.int y) [some (.lst ((xs.eraseIdx i.toNat).map T.int)), none]) : sPopAt [.lst (xs.map T.int), .int i] QS XS := by
  have hl := (List.getElem?_eq_some_iff.mp h).1
  refine ⟨_, i, i.toNat, .int y, rfl, by omega, h1, seqIx_ok h0 (by rw [List.length_map]; omega), by rw [List.getElem?_map, h]; rfl, ?_⟩
  rw [← map_erase]; exact q
theorem r_setII {xs : List Int} {y i : Int} (h0 : 0 ≤ i) (h : i < xs.length) (q : QS .non [none, some (.lst ((xs.set i.toNat y).map T.int)), none]) : sSetI [.int y, .lst (xs.map T.int), .int i] QS XS := ⟨_, _, i.toNat, _, rfl, ixN_ok h0 (by rw [List.length_map]; exact h), by rw [← List.map_set]; exact q⟩
theorem r_setI {xs : List T} {y : T} {i : Int} (h0 : 0 ≤ i) (h : i < xs.length) (q : QS .non [none, some (.lst (xs.set i.toNat y)), none]) : sSetI [y, .lst xs, .int i] QS XS := ⟨_, _, i.toNat, _, rfl, ixN_ok h0 h, q⟩
theorem r_set3_0 {x u v y : T} (q : QS .non [none, some (.lst [y, u, v]), none]) : sSetI [y, .lst [x, u, v], .int 0] QS XS := ⟨_, _, 0, _, rfl, rfl, q⟩
theorem r_set3_2 {x u v y : T} (q : QS .non [none, some (.lst [x, u, y]), none]) : sSetI [y, .lst [x, u, v], .int 2] QS XS := ⟨_, _, 2, _, rfl, rfl, q⟩
theorem r_gN {Q : Ev → Prop} (hi : Nat.blt k ev.length = true) (q : Q (ev.set k (some t))) : gN k t ev Q := ⟨Nat.blt_eq ▸ hi, q⟩
theorem r_gT2 {Q : Ev → Prop} {k l : Nat} (hk : Nat.blt k ev.length = true) (hl : Nat.blt l ev.length = true) (q : Q ((ev.set k (some t)).set l (some u))) : gTp [k, l] (.tup [t, u]) ev Q :=
  ⟨rfl, [t, u], rfl, rfl, by simp only [List.all_cons, List.all_nil, Bool.and_true, Bool.and_eq_true, decide_eq_true_eq]; exact ⟨Nat.blt_eq ▸ hk, Nat.blt_eq ▸ hl⟩, q⟩
end
theorem r_feN {n : Nat} {A : List Nat} {Q : T → List (Option T) → Prop} {X : Addr → List (Option T) → Prop} {ev : Ev} (h : Q .non (parm A 0 n ev)) : (fnEnd n A Q X).nx ev := h
theorem r_feR {n : Nat} {A : List Nat} {Q : T → List (Option T) → Prop} {X : Addr → List (Option T) → Prop} {ev : Ev} {t : T} (h : Q t (parm A 0 n ev)) : (fnEnd n A Q X).rt t ev := h
end TL

/-! TL13: index, count; a def of the text; the classes raised; the law's end. -/
namespace TL
open PySem PySem.Spec PyProof.Rows L2
/-! ### index, count -/
def sIndex : SpT := fun ts Q _ => ∃ t ns y, ts = [t, .int y] ∧ t.kidLS = some (List.map T.int ns) ∧ y ∈ ns ∧ Q (.int (ns.idxOf y : Nat)) [some t, some (.int y)]
def sCount : SpT := fun ts Q _ => ∃ t ns y, ts = [t, .int y] ∧ t.kidLS = some (List.map T.int ns) ∧ Q (.int (ns.count y : Nat)) [some t, some (.int y)]
theorem ne_of_lt_idxOf {y : Int} : ∀ {ns : List Int} {m : Nat}, m < ns.idxOf y → ns[m]? ≠ some y
  | [], m, h => by simp
  | x :: r, 0, h => fun e => by
    have e : x = y := Option.some.inj e
    rw [e, List.idxOf_cons_self] at h; exact absurd h (Nat.not_lt_zero _)
  | x :: r, m + 1, h => by
    rw [List.idxOf_cons] at h
    have h2 : m < r.idxOf y := by
      cases e : x == y with
      | true => rw [e] at h; exact absurd h (Nat.not_lt_zero _)
      | false => rw [e] at h; exact Nat.lt_of_succ_lt_succ h
    exact ne_of_lt_idxOf (ns := r) h2
section
variable {K : PySem.W.Frag}
theorem br_count : BrM K sCount (rCntI K) := fun x vs H Q E ⟨ts, F, L, Q0, X0, S, ⟨t, ns, y, e, h, q⟩, k, _⟩ => by
  subst e
  obtain ⟨v, w, L1, L2, e1, el, o, o2⟩ := S.own.two'
  cases e1
  obtain ⟨a, us, ea, ha, ra⟩ := o.kidLS h
  have eu := ints_vals ra
  subst ea eu
  obtain ⟨e2, e3⟩ := o2
  have e3 : w = .int y := e3
  subst e3
  exact ⟨a, ns, y, rfl, rfl, ha, k _ _ _ F H L q Ext.refl (S.ret own_int)⟩
theorem br_index : BrM K sIndex (rIndex K) := fun x vs H Q E ⟨ts, F, L, Q0, X0, S, ⟨t, ns, y, e, h, hy, q⟩, k, _⟩ => by
  subst e
  obtain ⟨v, w, L1, L2, e1, el, o, o2⟩ := S.own.two'
  cases e1
  obtain ⟨a, us, ea, ha, ra⟩ := o.kidLS h
  have eu := ints_vals ra
  subst ea eu
  obtain ⟨e2, e3⟩ := o2
  have e3 : w = .int y := e3
  subst e3
  have hl : ns.idxOf y < ns.length := List.idxOf_lt_length_of_mem hy
  have hg : ns[ns.idxOf y] = y := List.getElem_idxOf hl
  refine ⟨a, ns.map V.int, .int y, ns.idxOf y, .int y, rfl, rfl, ha, rfl, ?_, ?_, ?_, ?_, k _ _ _ F H L q Ext.refl (S.ret own_int)⟩
  · rw [List.all_map]; exact List.all_eq_true.mpr fun _ _ => rfl
  · rw [List.getElem?_map, List.getElem?_eq_getElem hl, hg]; rfl
  · show (y == y) = true
    simp
  · intro m z hm hz
    have hm2 : m < ns.length := Nat.lt_trans hm hl
    rw [List.getElem?_map, List.getElem?_eq_getElem hm2] at hz
    have ez : V.int ns[m] = z := Option.some.inj hz
    subst ez
    show (ns[m] == y) = false
    exact beq_eq_false_iff_ne.mpr fun c => ne_of_lt_idxOf hm (by rw [List.getElem?_eq_getElem hm2, c])
end
section
variable {X : Cx} {W : WX} {o e : Expr} {oa ob : Arg} {apos cpos : Pos}
theorem de_index (ho : DO X W o oa) (h : DO X W e ob) (he : starEach [e] X.env = (false, eval e X.env) :: starEach [] X.env := by rfl) (hbase : attributeBase o "index" X.env (eval o X.env) = eval o X.env := by rfl)
    (hf : ((backTo cpos (starEach [e] X.env)).all (fun x => !x.1) && (backToKw cpos (keywordEach [] X.env)).all (fun x => x.1.isSome) && decide (([e]).length + ([] : List Keyword).length + (if ([] : List Keyword).isEmpty then 0 else 1) < 30)) = true := by rfl)
    (hline : (apos.endLine == cpos.line) = true := by rfl) :
    DE X W (.Call (.Attribute o "index" apos) [e] [] cpos) (wMeth "list" sIndex oa [ob]) := DE.meth rfl (pe_bm PySem.F.plainAttrs_list PySem.F.slot_list_index PySem.F.type_list_index mt_index ho (da_cons (as := []) h da_nil he) hbase hf hline he) br_index
theorem de_count (ho : DO X W o oa) (h : DO X W e ob) (he : starEach [e] X.env = (false, eval e X.env) :: starEach [] X.env := by rfl) (hbase : attributeBase o "count" X.env (eval o X.env) = eval o X.env := by rfl)
    (hf : ((backTo cpos (starEach [e] X.env)).all (fun x => !x.1) && (backToKw cpos (keywordEach [] X.env)).all (fun x => x.1.isSome) && decide (([e]).length + ([] : List Keyword).length + (if ([] : List Keyword).isEmpty then 0 else 1) < 30)) = true := by rfl)
    (hline : (apos.endLine == cpos.line) = true := by rfl) :
    DE X W (.Call (.Attribute o "count" apos) [e] [] cpos) (wMeth "list" sCount oa [ob]) := DE.meth rfl (pe_bm PySem.F.plainAttrs_list PySem.F.slot_list_count PySem.F.type_list_count mt_lcount ho (da_cons (as := []) h da_nil he) hbase hf hline he) br_count
end
theorem de_globI {X : Cx} {W : WX} {x : Str} {i : Int} {pos : Pos} (hg : Gl X x) (hm : ∃ t, X.mg x = some (.int i t)) (hd : (x == ("__debug__" : Str)) = false := by decide) : DE X W (.Name x pos) (wC (.int i)) := by
  obtain ⟨t, hm⟩ := hm
  exact de_glob (v := .int i) hg hm ⟨t, rfl⟩ (fun _ _ => own_int) hd
/-! ### defs -/
structure Rdy (K : PySem.W.Frag) (mg : Str → Option Value) (x : Str) (st : Stmt) (ps : List Str) : Prop where
  ex : ∃ f fd, Fun K x x st f fd ∧ mg x = some (.ref f) ∧ PySem.W.keepIn K (.ref f) = true ∧ Binds K fd ps []
section
variable {P : Program} {w : World} {K : PySem.W.Frag} {mg : Str → Option Value} {base : Heap}
theorem fn_of {x : Str} {st : Stmt} {N ps : List Str} {S0 : SpT} {A : List Nat} {wb : WS} {k : Nat} (R : Rdy K mg x st ps) (S : FnScope N ps (defScope st)) (h : ∀ ts Q X, S0 ts Q X → spW ps.length N.length A wb ts Q X)
    (hbody : ∀ (f : Addr) (cdv : Value) (Ar : Around) (outer : List Env) (s : Shared) (H : Hp) (E : XK), Room k (Ar.deeper (envOfC x (defScope st) s.heap.objs.size f cdv)) →
      Takes (cxT P w K mg base N x st f cdv Ar outer s H E) (fun cls d _ H => E cls d H) → DSs (cxT P w K mg base N x st f cdv Ar outer s H E) (fun cls d _ H => E cls d H) A (defBody st) wb)
    (hl : ps.length ≤ N.length := by decide) : FnT P w K mg base (k + 1) x ps S0 := by
  obtain ⟨f, fd, F, hm, hk, hb⟩ := R.ex
  exact ⟨f, fd, FnOk.promise (fn_T F S (hbody f) hl) h, hm, hk, hb⟩
theorem fn_ofF {x : Str} {st : Stmt} {f : Addr} {fd : FuncData} {N ps : List Str} {S0 : SpT} {A : List Nat} {wb : WS} {k : Nat} (F : Fun K x x st f fd) (S : FnScope N ps (defScope st)) (h : ∀ ts Q X, S0 ts Q X → spW ps.length N.length A wb ts Q X)
    (hbody : ∀ (cdv : Value) (Ar : Around) (outer : List Env) (s : Shared) (H : Hp) (E : XK), Room k (Ar.deeper (envOfC x (defScope st) s.heap.objs.size f cdv)) →
      Takes (cxT P w K mg base N x st f cdv Ar outer s H E) (fun cls d _ H => E cls d H) → DSs (cxT P w K mg base N x st f cdv Ar outer s H E) (fun cls d _ H => E cls d H) A (defBody st) wb)
    (hl : ps.length ≤ N.length := by decide) : FnOk P w K mg base (L2.CX P w) (k + 1) f fd ps (spT K S0) := FnOk.promise (fn_T F S hbody hl) h
theorem cx_none {H : Hp} {s s' : Shared} {e : Value} (h : L2.CX P w [] H s (fun _ _ _ => False) e s') : False := by
  obtain ⟨_, _, _, _, _, _, _, _, _, _, _, _, z⟩ := h
  exact z
end
/-! ### classes raised -/
structure XcOk (K : PySem.W.Frag) (mg : Str → Option Value) (x : Str) (C : Addr) : Prop where
  q : PySem.W.excIn K C [.type "ValueError", .type "Exception", .type "BaseException", .type "object"] "ValueError.__new__" = true
  g : mg x = some (.ref C)
  k : PySem.W.keepIn K (.ref C) = true
  b : PySem.W.subIn K (.ref C) (.type "BaseException") = some true
  t : PySem.W.typeIn K (.ref C) = some (.type "type")
theorem XcOk.pm {X : Cx} {x m : Str} {C : Addr} {j : Nat} {p p2 pos : Pos} (T : XcOk X.K X.mg x C) (hg : Gl X x) (hdb : (x == ("__debug__" : Str)) = false := by decide) :
    PMk X (.Call (.Name x p) [.Constant (.str m) j p2] [] pos) (fun _ H Q => Q (.ref C) none H) := pmk_own PySem.F.excBase_ValueError T.q T.g T.k (raises_own T.b T.t) hg hdb
/-! ### the law's end -/
/-- what a law asks of its script -/
def sLaw : SpT := fun ts Q _ => ∃ ns : List Int, ts = [.scr ns] ∧ ns.length ≤ 63 ∧ (∀ z ∈ ns, Builtin.Int.intBits z ≤ 1048576) ∧ ∀ ts', Q (.bl true) ts'
theorem law_end {K : PySem.W.Frag} {H : Hp} {a : Addr} {ns : List Int} (hl : ns.length ≤ 63) (hb : ∀ z ∈ ns, Builtin.Int.intBits z ≤ 1048576) (hS : SqL K H a (ns.map V.int)) : spT K sLaw [.ref a] H (fun v _ => v = .bl true) fun _ _ _ => False := by
  refine ⟨[.scr ns], fun b => H b ≠ none, [], fun t _ => t = .bl true, fun _ _ => False, ⟨⟨.ref a, [], [], [], rfl, rfl, ⟨rfl, a, rfl, ?_⟩, rfl, rfl⟩, fun _ => by simp, fun _ m => (nomatch m), fun _ z => z⟩, ⟨ns, rfl, hl, hb, fun _ => rfl⟩, fun t ts' v F' H' L' q _ S => ?_, fun _ _ _ _ _ q _ _ => q⟩
  · rcases hS with h | h
    · refine .inl ⟨?_, h⟩
      rcases h with h | ⟨o, h⟩
      · show H a ≠ none
        rw [h]; exact fun z => nomatch z
      · show H a ≠ none
        rw [h]; exact fun z => nomatch z
    · exact .inr fun H' => .inr h
  · obtain ⟨v', σ', M1, M2, e, el, o, oe⟩ := S.own
    cases e
    subst q
    exact o.2
end TL

/-! TL15: values frozen, op=, and/or/not as values, a pair stored into two names. -/
namespace TL
open PySem PySem.Spec PyProof.Rows L2
def wFz (w : WE) : WE := fun ev Q X => w ev (fun t ev' => Q t.frz ev') X
def wAndV (a b : WE) : WE := fun ev Q X => a ev (fun t ev1 => ∃ c, t = .bl c ∧ if c = true then b ev1 Q X else Q (.bl false) ev1) X
def wOrV (a b : WE) : WE := fun ev Q X => a ev (fun t ev1 => ∃ c, t = .bl c ∧ if c = true then Q (.bl true) ev1 else b ev1 Q X) X
def wNotV (a : WE) : WE := fun ev Q X => a ev (fun t ev1 => ∃ c, t = .bl c ∧ Q (.bl (!c)) ev1) X
def sPar (i j : Nat) (as : List Arg) : WS := fun ev E => wArgs as ev (fun av ev1 => ∃ t u, av = [.vl t, .vl u] ∧ t.shr = true ∧ u.shr = true ∧ i < ev1.length ∧ j < ev1.length ∧ E.nx ((ev1.set i (some t)).set j (some u))) E.xc
section
variable {X : Cx} {W : WX} {K : PySem.W.Frag} {σ : L2.St} {H : Hp}
theorem fz_run {w : WE} {R : VK} (h : liftE K W (wFz w) σ H R) : liftE K W w σ H R := by
  obtain ⟨ev, F, L, Q0, X0, S, w, k1, k2⟩ := h
  refine ⟨ev, F, L, _, X0, S, w, fun t ev' v F' H' L' q x S' => ?_, k2⟩
  obtain ⟨v', σ', M1, M2, e, el, o, oe⟩ := id S'.own
  cases e
  have o' : Own K (fun a => F' a ∨ a ∈ M1) H' t.frz v [] := o.frz (fun _ => .inl) (fun _ => .inr)
  have oe' : OwnE K (fun a => F' a ∨ a ∈ M1) H' ev' σ M2 := oe.mono (fun _ => .inl) fun _ _ _ z => z
  refine k1 t.frz ev' v _ H' ([] ++ M2) q ⟨fun a z => .inl (x.fr a z), x.keep, fun a z => ?_⟩ ⟨⟨v, σ, [], M2, rfl, rfl, o', oe'⟩, fun a => ?_, fun a m z => ?_, fun a z => ?_⟩
  · rcases z with (z | z) | z
    · exact x.new a (.inl z)
    · exact x.new a (.inr (by rw [el]; exact List.mem_append_left _ z))
    · exact x.new a (.inr (by rw [el]; exact List.mem_append_right _ (by simpa using z)))
  · have := S'.nd a
    rw [el, List.count_append] at this
    simp only [List.nil_append]; omega
  · have m' : a ∈ M2 := by simpa using m
    rcases z with z | z
    · exact S'.dj a (by rw [el]; exact List.mem_append_right _ m') z
    · have h1 := List.count_pos_iff.mpr m'
      have h2 := List.count_pos_iff.mpr z
      have := S'.nd a
      rw [el, List.count_append] at this
      omega
  · rcases z with z | z
    · exact S'.dom a z
    · exact o.dom a z
theorem DE.fz {e : Expr} {w : WE} (h : DE X W e w) : DE X W e (wFz w) := PE.imp h fun _ _ _ q => fz_run q
theorem liftE_if {w u1 u2 : WE} {Q : VK} {r1 r2 : VK → Hp → Prop}
    (h : liftE K W (fun ev Q X => w ev (fun t ev1 => ∃ c, t = .bl c ∧ if c = true then u1 ev1 Q X else u2 ev1 Q X) X) σ H Q)
    (h1 : ∀ H', liftE K W u1 σ H' Q → r1 Q H') (h2 : ∀ H', liftE K W u2 σ H' Q → r2 Q H') : liftE K W w σ H fun x H1 => ∃ c, x = .bl c ∧ if c = true then r1 Q H1 else r2 Q H1 := by
  obtain ⟨ev, F, L, Q0, X0, S, hw, k1, k2⟩ := h
  refine ⟨ev, F, L, _, X0, S, hw, fun t ev' v F' H' L' q x S' => ?_, k2⟩
  obtain ⟨c, rfl, q⟩ := q
  obtain ⟨v', σ', M1, M2, e, el, o, oe⟩ := id S'.own
  cases e
  obtain ⟨e1, e2⟩ := o
  subst e1
  have e2 : v = .bl c := e2
  subst e2
  have el : L' = M2 := by simpa using el
  subst el
  have S2 : St K F' H' ev' σ L' := ⟨oe, S'.nd, S'.dj, S'.dom⟩
  have mk : ∀ u : WE, u ev' Q0 X0 → liftE K W u σ H' Q := fun u q => ⟨ev', F', L', Q0, X0, S2, q, fun t2 ev2 v2 F2 H2 L2 q2 x2 S3 => k1 t2 ev2 v2 F2 H2 L2 q2 (x.trans x2 S'.dj) S3, fun C ev2 F2 H2 L2 q2 x2 S3 => k2 C ev2 F2 H2 L2 q2 (x.trans x2 S'.dj) S3⟩
  refine ⟨c, rfl, ?_⟩
  cases c with
  | true => rw [if_pos rfl] at q ⊢; exact h1 H' (mk u1 q)
  | false => rw [if_neg Bool.false_ne_true] at q ⊢; exact h2 H' (mk u2 q)
theorem liftE_c {t : T} {v : V} {Q : VK} (ho : ∀ F H, Own K F H t v []) (h : liftE K W (fun ev Q _ => Q t ev) σ H Q) : Q v H := by
  obtain ⟨ev, F, L, Q0, X0, S, hw, k1, k2⟩ := h
  exact k1 t ev v F H ([] ++ L) hw Ext.refl ⟨⟨v, σ, [], L, rfl, rfl, ho F H, S.own⟩, S.nd, S.dj, S.dom⟩
theorem de_one {e : Expr} {op} {w : WE} {pos : Pos} (h : DE X W e w) : DE X W (.BoolOp op [e] pos) w := pe_one h
theorem de_and {a b : Expr} {rest : List Expr} {w u : WE} {pos : Pos} (ha : DE X W a w) (hb : DE X W (.BoolOp .And (b :: rest) pos) u) : DE X W (.BoolOp .And (a :: b :: rest) pos) (wAndV w u) := PE.imp (pe_and ha hb) fun σ H Q q =>
  liftE_if (u1 := u) (u2 := fun ev Q _ => Q (.bl false) ev) (r1 := fun Q H1 => liftE X.K W u σ H1 Q) (r2 := fun Q H1 => Q (.bl false) H1) q (fun _ z => z) (fun _ z => liftE_c (fun _ _ => own_bl) z)
theorem de_or {a b : Expr} {rest : List Expr} {w u : WE} {pos : Pos} (ha : DE X W a w) (hb : DE X W (.BoolOp .Or (b :: rest) pos) u) : DE X W (.BoolOp .Or (a :: b :: rest) pos) (wOrV w u) := PE.imp (pe_or ha hb) fun σ H Q q =>
  liftE_if (u1 := fun ev Q _ => Q (.bl true) ev) (u2 := u) (r1 := fun Q H1 => Q (.bl true) H1) (r2 := fun Q H1 => liftE X.K W u σ H1 Q) q (fun _ z => liftE_c (fun _ _ => own_bl) z) (fun _ z => z)
theorem de_not {a : Expr} {w : WE} {pos : Pos} (ha : DE X W a w) : DE X W (.UnaryOp .Not a pos) (wNotV w) := PE.imp (pe_not ha) fun σ H Q q => by
  obtain ⟨ev, F, L, Q0, X0, S, hw, k1, k2⟩ := q
  refine ⟨ev, F, L, _, X0, S, hw, fun t ev' v F' H' L' q x S' => ?_, k2⟩
  obtain ⟨c, rfl, q⟩ := q
  obtain ⟨v', σ', M1, M2, e, el, o, oe⟩ := id S'.own
  cases e
  obtain ⟨e1, e2⟩ := o
  subst e1
  have e2 : v = .bl c := e2
  subst e2
  exact ⟨c, rfl, k1 _ ev' (.bl (!c)) F' H' L' q x ⟨⟨.bl (!c), σ, [], M2, rfl, el, ⟨rfl, rfl⟩, oe⟩, S'.nd, S'.dj, S'.dom⟩⟩
theorem s_run {i : Nat} {R : VK} (h : liftE K W (wS i) σ H R) : ∃ v, σ[i]? = some (some v) ∧ R v H := by
  obtain ⟨ev, F, L, Q0, X0, S, ⟨t, et, hs, hw⟩, k1, _⟩ := h
  obtain ⟨v, L1, L2, ev1, ec, o, oE⟩ := S.own.get et
  have e1 := o.shr hs
  subst e1
  exact ⟨v, ev1, k1 t ev v F H ([] ++ L) hw Ext.refl ⟨⟨v, σ, [], L, rfl, rfl, o, S.own⟩, S.nd, S.dj, S.dom⟩⟩
theorem ds_aug {i : Nat} {x : Str} {e : Expr} {ob : WE} {op : Operator} {S : SpT} {r : R2} {pos pos' : Pos} (ho : PIp X op r) (br : Br2 X.K S r) (hN : X.N.Nodup) (hi : X.N[i]? = some x) (hx : Loc X.env.scope x) (he : DE X W e ob)
    (hf : X.fn x = true ∨ X.env.scope.names.lookup x = some .local := by first | exact .inl rfl | exact .inr rfl | assumption) : DS X W [i] (.AugAssign (.Name x pos') op e pos) (sSet i (wOp S [.vl (wS i), .vl ob])) := fun kp hk => PS.imp (ps_aug hN hi hx he ho hf) fun D σ H q => by
  have h1 : liftE X.K W (wOp S [.vl (wS i), .vl ob]) σ H fun z H2 => D.nx (σ.set i (some z)) H2 := by
    obtain ⟨ev, F, L, E0, S, p, w, k1, k2, k3, k4, k5⟩ := q
    refine ⟨ev, F, L, _, _, S, w, fun t ev' v F' H' L' q x S' => ?_, fun C ev' F' H' L' q x S' => k5 C ev' σ F' H' L' q x S' p⟩
    obtain ⟨S2, S', m⟩ := S'.store q.1
    exact k1 _ _ F' H' _ q.2 (x.sub (fun _ m => m) fun a z => .inl (m a z)) S' (p.set (hk i (List.mem_singleton.mpr rfl)))
  have h2 := wOp_run h1
  obtain ⟨v, ev, h3⟩ := s_run h2
  exact ⟨v, ev, tOf_mono (o := .vl ob) h3 fun y H1 z => br v y H1 (fun z H2 => D.nx (σ.set i (some z)) H2) (fun c d H2 => W c d σ H2) z⟩
theorem ds_augA {i : Nat} {x : Str} {e : Expr} {ob : WE} {pos pos' : Pos} (hN : X.N.Nodup) (hi : X.N[i]? = some x) (hx : Loc X.env.scope x) (he : DE X W e ob)
    (hf : X.fn x = true ∨ X.env.scope.names.lookup x = some .local := by first | exact .inl rfl | exact .inr rfl | assumption) : DS X W [i] (.AugAssign (.Name x pos') .Add e pos) (sSet i (wOp sAdd [.vl (wS i), .vl ob])) := ds_aug iop_add (br_II0 fun _ _ _ _ => own_int) hN hi hx he hf
theorem ds_augS {i : Nat} {x : Str} {e : Expr} {ob : WE} {pos pos' : Pos} (hN : X.N.Nodup) (hi : X.N[i]? = some x) (hx : Loc X.env.scope x) (he : DE X W e ob)
    (hf : X.fn x = true ∨ X.env.scope.names.lookup x = some .local := by first | exact .inl rfl | exact .inr rfl | assumption) : DS X W [i] (.AugAssign (.Name x pos') .Sub e pos) (sSet i (wOp sSub [.vl (wS i), .vl ob])) := ds_aug iop_sub (br_II0 fun _ _ _ _ => own_int) hN hi hx he hf
abbrev sMulS : SpT := sII CMul fun i j => .int (i * j)
theorem ds_augM {i : Nat} {x : Str} {e : Expr} {ob : WE} {pos pos' : Pos} (hN : X.N.Nodup) (hi : X.N[i]? = some x) (hx : Loc X.env.scope x) (he : DE X W e ob)
    (hf : X.fn x = true ∨ X.env.scope.names.lookup x = some .local := by first | exact .inl rfl | exact .inr rfl | assumption) : DS X W [i] (.AugAssign (.Name x pos') .Mult e pos) (sSet i (wOp sMulS [.vl (wS i), .vl ob])) := ds_aug iop_mul (br_II fun _ _ _ _ => own_int) hN hi hx he hf
theorem ds_augD {i : Nat} {x : Str} {e : Expr} {ob : WE} {pos pos' : Pos} (hN : X.N.Nodup) (hi : X.N[i]? = some x) (hx : Loc X.env.scope x) (he : DE X W e ob)
    (hf : X.fn x = true ∨ X.env.scope.names.lookup x = some .local := by first | exact .inl rfl | exact .inr rfl | assumption) : DS X W [i] (.AugAssign (.Name x pos') .FloorDiv e pos) (sSet i (wOp sDiv [.vl (wS i), .vl ob])) := ds_aug iop_fdivW (br_II fun _ _ _ _ => own_int) hN hi hx he hf
theorem ds_augR {i : Nat} {x : Str} {e : Expr} {ob : WE} {pos pos' : Pos} (hN : X.N.Nodup) (hi : X.N[i]? = some x) (hx : Loc X.env.scope x) (he : DE X W e ob)
    (hf : X.fn x = true ∨ X.env.scope.names.lookup x = some .local := by first | exact .inl rfl | exact .inr rfl | assumption) : DS X W [i] (.AugAssign (.Name x pos') .Mod e pos) (sSet i (wOp sMod [.vl (wS i), .vl ob])) := ds_aug iop_mod (br_II fun _ _ _ _ => own_int) hN hi hx he hf
theorem OwnE.setShr {F : Addr → Prop} {ev : Ev} {L : List Addr} {i : Nat} {t : T} {v : V} (h : OwnE K F H ev σ L) (hi : i < ev.length) (o : Own K F H t v []) : ∃ L', OwnE K F H (ev.set i (some t)) (σ.set i (some v)) L' ∧ ∀ a : Nat, L'.count a ≤ L.count a := by
  obtain ⟨L', r, s⟩ := h.set hi (OwnE.one o)
  exact ⟨L', r, fun a => by have := s a; rw [List.count_append] at this; simpa using this⟩
theorem ds_par {i j : Nat} {x y : Str} {a b : Expr} {as : List Arg} {px py pt pos : Pos} {kt k2 pt2} (hc : X.calm = true) (hN : X.N.Nodup) (hi : X.N[i]? = some x) (hj : X.N[j]? = some y) (hij : i ≠ j)
    (hx : X.env.scope.names.lookup x = some .local) (hy : X.env.scope.names.lookup y = some .local) (ha : DA X W [a, b] as)
    (hw : swappedStores [.Tuple [.Name x px, .Name y py] kt pt] (.Tuple [a, b] k2 pt2) X.env = pure (some [x, y]))
    (hs : swapsWithSole [.Tuple [.Name x px, .Name y py] kt pt] (.Tuple [a, b] k2 pt2) pos.line X.env = pure false := by rfl) :
    DS X W [i, j] (.Assign [.Tuple [.Name x px, .Name y py] kt pt] (.Tuple [a, b] k2 pt2) pos) (sPar i j as) := fun kp hk => PS.imp (ps_par hc hN hi hj hij hx hy ha hw hs) fun D σ H q => by
  obtain ⟨ev, F, L, E0, S, p, w, k1, k2, k3, k4, k5⟩ := q
  refine run_args S.a0 w (fun as vs ev1 F1 H1 L1 Lt1 q x1 A => ?_) fun C ev' F' H' L' q x S' => k5 C ev' σ F' H' L' q (by simpa using x) S' p
  obtain ⟨t, u, rfl, ht, hu, hi', hj', q⟩ := q
  rw [List.append_nil] at x1
  have A1 : StA X.K F1 H1 ev1 σ [.vl t, .vl u] vs L1 Lt1 := by simpa using A
  obtain ⟨v, vs', M1, M2, rfl, el, o1, o2⟩ := A1.tmp
  obtain ⟨w2, vs2, M3, M4, rfl, el2, o2, o3⟩ := o2
  obtain ⟨rfl, rfl⟩ := o3
  have z1 := o1.shr ht
  have z2 := o2.shr hu
  subst z1 z2
  obtain ⟨L2, r2, s2⟩ := A1.own.setShr hi' o1
  obtain ⟨L3, r3, s3⟩ := r2.setShr (by rw [List.length_set]; exact hj') o2
  have sub : ∀ a : Nat, L3.count a ≤ L1.count a := fun a => Nat.le_trans (s3 a) (s2 a)
  have mem : ∀ a ∈ L3, a ∈ L1 := fun a m => Sub.mem (A := L3) (B := L1) sub m
  refine ⟨v, w2, rfl, k1 _ _ F1 H1 L3 q (x1.sub (fun _ m => m) fun a m => .inl (List.mem_append_left _ (mem a m))) ⟨r3, fun a => ?_, fun a m => A1.dj a (.inl (mem a m)), A1.dom⟩ ((p.set (hk i (by simp))).set (hk j (by simp)))⟩
  have := A1.nd a; have := sub a; omega
end
end TL

/-! TL16: dicts whose keys are whole numbers and texts. -/
namespace TL
open PySem PySem.Spec PyProof.Rows L2
def T.dkeys : T → Option (List Key)
  | .dk ks _ => some ks
  | .fz (.dk ks _) => some ks
  | _ => none
def hasK (ks : List Key) (k : Key) : Bool := ks.any fun z => decide (z = k)
theorem hasK_iff {ks : List Key} {k : Key} : hasK ks k = true ↔ k ∈ ks := by
  unfold hasK
  rw [List.any_eq_true]
  exact ⟨fun ⟨z, hz, e⟩ => of_decide_eq_true e ▸ hz, fun h => ⟨k, h, decide_eq_true rfl⟩⟩
def wDk : WE := fun ev Q _ => Q (.dk [] []) ev
def sInDk : SpT := fun ts Q _ => ∃ t i ks, ts = [.int i, t] ∧ t.dkeys = some ks ∧ Q (.bl (hasK ks (.inl i))) [some (.int i), some t]
def sNinDk : SpT := fun ts Q _ => ∃ t i ks, ts = [.int i, t] ∧ t.dkeys = some ks ∧ Q (.bl (!hasK ks (.inl i))) [some (.int i), some t]
/-- d[k] = v of a new key -/
def sPutDk : SpT := fun ts Q _ => ∃ ks us i y, ts = [y, .dk ks us, .int i] ∧ (.inl i : Key) ∉ ks ∧ ks.length < 16777216 ∧ Q .non [none, some (.dk (ks ++ [.inl i]) (us ++ [y])), none]
section
variable {K : PySem.W.Frag} {F : Addr → Prop} {H : Hp}
theorem valV_zip {k : Key} : ∀ {ks : List Key} {vs : List V}, ks.length = vs.length → (valV (ks.zip vs) k).isSome = hasK ks k
  | [], vs, _ => by
    rw [List.zip_nil_left, valV_nil]; rfl
  | a :: ks, [], h => by simp at h
  | a :: ks, v :: vs, h => by
    rw [List.zip_cons_cons]
    by_cases e : a = k
    · rw [valV_pos e]; simp [hasK, e]
    · rw [valV_neg e, valV_zip (by simpa using h)]
      simp [hasK, e]
theorem Rep.dkeys {t : T} {v : V} {ks : List Key} (r : Rep K F H t v) (h : t.dkeys = some ks) : ∃ a vs, v = .ref a ∧ Rd H a (.dK (ks.zip vs)) ∧ ks.length = vs.length := by
  unfold T.dkeys at h
  split at h
  · cases h
    obtain ⟨a, vs, e, _, hh, l, r⟩ := r
    exact ⟨a, vs, e, hh, l.trans r.len⟩
  · cases h
    obtain ⟨a, vs, e, _, hh, l, r⟩ := (show Rep K F H (.dk _ _) v from r)
    exact ⟨a, vs, e, hh, l.trans r.len⟩
  · cases h
theorem Own.dkeys {t : T} {v : V} {ks : List Key} {L : List Addr} (o : Own K F H t v L) (h : t.dkeys = some ks) : ∃ a vs, v = .ref a ∧ Rd H a (.dK (ks.zip vs)) ∧ ks.length = vs.length := (o.rep (F' := fun a => F a ∨ a ∈ L) (fun _ => .inl) (fun _ => .inr)).dkeys h
theorem br_inDk : Br2 K sInDk (fun y x H Q => ∃ a o, x = .ref a ∧ DGet H a y o ∧ Q (.bl o.isSome) H) := fun y x H Q E ⟨ts, F, L, Q0, X0, S, ⟨t, i, ks, e, h, q⟩, k, _⟩ => by
  subst e
  obtain ⟨v, w, L1, L2, e1, el, o1, o2⟩ := S.own.two'
  cases e1
  obtain ⟨a, vs, ea, ha, hl⟩ := o2.dkeys h
  obtain ⟨e2, e3⟩ := o1
  have e3 : y = .int i := e3
  subst e3 ea
  refine ⟨a, _, rfl, .inl ⟨_, .inl i, ha, rfl, rfl⟩, ?_⟩
  rw [valV_zip hl]
  exact k _ _ _ F H L q Ext.refl (S.ret own_bl)
theorem br_ninDk : Br2 K sNinDk (fun y x H Q => ∃ a o, x = .ref a ∧ DGet H a y o ∧ Q (.bl (!o.isSome)) H) := fun y x H Q E ⟨ts, F, L, Q0, X0, S, ⟨t, i, ks, e, h, q⟩, k, _⟩ => by
  subst e
  obtain ⟨v, w, L1, L2, e1, el, o1, o2⟩ := S.own.two'
  cases e1
  obtain ⟨a, vs, ea, ha, hl⟩ := o2.dkeys h
  obtain ⟨e2, e3⟩ := o1
  have e3 : y = .int i := e3
  subst e3 ea
  refine ⟨a, _, rfl, .inl ⟨_, .inl i, ha, rfl, rfl⟩, ?_⟩
  rw [valV_zip hl]
  exact k _ _ _ F H L q Ext.refl (S.ret own_bl)
theorem putK_new {k : Key} {v : V} {kvs : List (Key × V)} (h : ∀ p ∈ kvs, p.1 ≠ k) : putK kvs k v = kvs ++ [(k, v)] := by
  unfold putK
  rw [if_neg]
  intro c
  obtain ⟨p, hp, e⟩ := List.any_eq_true.mp c
  exact h p hp (of_decide_eq_true e)
theorem zip_snoc {k : Key} {v : V} : ∀ {ks : List Key} {vs : List V}, ks.length = vs.length → (ks ++ [k]).zip (vs ++ [v]) = ks.zip vs ++ [(k, v)]
  | [], [], _ => rfl
  | a :: ks, b :: vs, h => by
    show (a, b) :: (ks ++ [k]).zip (vs ++ [v]) = (a, b) :: (ks.zip vs ++ [(k, v)])
    rw [zip_snoc (by simpa using h)]
theorem dk_hw {a : Addr} {ks : List Key} {xs : List T} {us : List V} {M : List Addr} (r : Owns K F H xs us M) (l : ks.length = xs.length) (nf : ¬ F a) (na : a ∉ M) : ∀ H' : Hp, H' a = some (.dK (ks.zip us)) → (∀ b u, b ≠ a → H b = some u → H' b = some u) → Own K F H' (.dk ks xs) (.ref a) (a :: M) :=
  fun H' e k => ⟨a, us, M, rfl, rfl, e, l, r.mono (fun _ z => z) fun b u hb e => k b u (fun z => by subst z; exact hb.elim nf na) e⟩
theorem br_putDk : BrS K sPutDk rSetD := fun o i v H Q E ⟨ts, F, L, Q0, X0, S, ⟨ks, xs, n, y, e, hk, hz, q⟩, k, _⟩ => by
  subst e
  obtain ⟨vy, vo, vi, L3, L1, L2, e1, el, o3, ⟨a, us, M, ea, em, ha, l, r⟩, ⟨eL2, o2⟩⟩ := S.own.three'
  cases e1
  subst eL2
  have hc : ∀ b : Nat, ([] ++ a :: (M ++ L3)).count b ≤ L.count b := fun b => by
    rw [el, em]; simp only [List.nil_append, List.count_append, List.count_cons]; omega
  have na : a ∉ M ++ L3 := cnt_nd S (by simpa using hc a)
  have nf : ¬ F a := S.dj a (by rw [el, em]; simp)
  have o2' : i = .int n := o2
  subst o2'
  have hl : ks.length = us.length := l.trans r.len
  obtain ⟨x1, S1⟩ := S.write (o := .dK ((ks ++ [(.inl n : Key)]).zip (us ++ [v]))) (rest := [.int n]) own_non (ne_none_of ha) hc (dk_hw (ks := ks ++ [.inl n]) (r.app (Owns.one o3)) (by rw [List.length_append, List.length_append, l]; rfl) nf na)
  have hp : putK (ks.zip us) (.inl n : Key) v = (ks ++ [(.inl n : Key)]).zip (us ++ [v]) := by
    rw [zip_snoc hl]
    exact putK_new fun p hp e => hk (e ▸ (List.of_mem_zip (show (p.1, p.2) ∈ ks.zip us from hp)).1)
  have hzl : (ks.zip us).length < sizeLine := by
    have : (ks.zip us).length ≤ ks.length := by rw [List.length_zip]; exact Nat.min_le_left _ _
    exact Nat.lt_of_le_of_lt this hz
  refine ⟨a, _, ea, DPut.k (k := .inl n) ha hzl, ?_⟩
  rw [hp]
  subst ea
  refine k _ _ .non F _ _ q x1 ⟨?_, S1.nd, S1.dj, S1.dom⟩
  obtain ⟨v1, σ1, M1, M2, z1, z2, oN, v2, σ2, M3, M4, z3, z4, oL, w1, σ3, z5, z6⟩ := S1.own
  cases z1; cases z3; cases z5
  exact ⟨_, _, M1, M2, rfl, z2, oN, some v, _, rfl, _, _, M3, M4, rfl, z4, oL, some (.int n), [], rfl, z6.1, z6.2⟩
end
section
variable {X : Cx} {W : WX} {a b : Expr} {oa ob : Arg} {pos : Pos}
theorem hu1 (hu : X.A.units + 64 < cLine) : X.A.units + 1 < cLine := by omega
theorem de_dnew : DE X W (.Dict [] [] pos) wDk := PE.imp pe_dnewK fun σ H R q p hp => by
  obtain ⟨ev, F, L, Q0, X0, S, w, k, _⟩ := q
  obtain ⟨L3, x3, S3⟩ := S.cell (o := .dK []) (t := .dk [] []) hp ⟨p, [], [], rfl, rfl, upd_same, rfl, rfl, rfl⟩
  exact k _ ev _ F _ L3 w x3 S3
theorem dt_inD (hu : X.A.units + 64 < cLine) (ha : DO X W a oa) (hb : DO X W b ob) (h1 : behindInMarks .In b = false := by first | exact nobehind _ (by decide) (by decide) | rfl) : DT X W (.Compare a [.In] [b] pos) (wTst (wOp sInDk [oa, ob])) :=
  DT.op2 (r := fun y x H Q => ∃ a o, x = .ref a ∧ DGet H a y o ∧ Q (.bl o.isSome) H) (pt_cmp (pc_din (hu1 hu) ha hb) h1) br_inDk
theorem dt_ninD (hu : X.A.units + 64 < cLine) (ha : DO X W a oa) (hb : DO X W b ob) (h1 : behindInMarks .NotIn b = false := by first | exact nobehind _ (by decide) (by decide) | rfl) : DT X W (.Compare a [.NotIn] [b] pos) (wTst (wOp sNinDk [oa, ob])) :=
  DT.op2 (r := fun y x H Q => ∃ a o, x = .ref a ∧ DGet H a y o ∧ Q (.bl (!o.isSome)) H) (pt_cmp (pc_dnotin (hu1 hu) ha hb) h1) br_ninDk
theorem ds_putD {a i e : Expr} {oa oi : Arg} {wv : WE} {pos pos' : Pos} (hu : X.A.units + 64 < cLine) (ha : DO X W a oa) (hi : DO X W i oi) (h : DE X W e wv) (h1 : swapsWithSole [.Subscript a i pos'] e pos.line X.env = pure false := by rfl)
    (h2 : swappedStores [.Subscript a i pos'] e X.env = pure none := by rfl) (h3 : (assignEach [.Subscript a i pos'] X.env).map (·.2) = [assign (.Subscript a i pos') X.env] := by rfl)
    (hq : ∀ v, assign (.Subscript a i pos') X.env v = (do
      let ov ← holding [v] (eval a X.env)
      let iv ← holding [v, ov] (eval i X.env)
      standAt pos'
      holding [v, ov, iv] (setItem ov iv v)
      release [v, ov, iv] []) := by intro _; rfl) : DS X W [] (.Assign [.Subscript a i pos'] e pos) (sStore sPutDk oa oi wv) := ds_store br_putDk (set_dict (hu1 hu)) ha hi h h1 h2 h3 hq
end
/-! ### reading -/
section
variable {ev : Ev} {a b : Arg} {t : T} {i : Int} {ks : List Key}
theorem p_dk : Pure wDk ev (.dk [] []) := fun _ _ q => q
theorem p_inDk (n : apart2 a b = true) (ha : PO a ev (.int i)) (hb : PO b ev t) (h : t.dkeys = some ks) : Pure (wOp sInDk [a, b]) ev (.bl (hasK ks (.inl i))) := op2 n (fun _ _ q => ⟨t, i, ks, rfl, h, q⟩) ha hb
theorem p_ninDk (n : apart2 a b = true) (ha : PO a ev (.int i)) (hb : PO b ev t) (h : t.dkeys = some ks) : Pure (wOp sNinDk [a, b]) ev (.bl (!hasK ks (.inl i))) := op2 n (fun _ _ q => ⟨t, i, ks, rfl, h, q⟩) ha hb
variable {QS : T → List (Option T) → Prop} {XS : Addr → List (Option T) → Prop}
theorem r_putDk {us : List T} {y : T} (hk : (.inl i : Key) ∉ ks) (hl : ks.length < 16777216) (q : QS .non [none, some (.dk (ks ++ [.inl i]) (us ++ [y])), none]) : sPutDk [y, .dk ks us, .int i] QS XS := ⟨ks, us, i, y, rfl, hk, hl, q⟩
end
end TL

/-! TL17: sorted the other way about. -/
namespace TL
open PySem PySem.Spec PyProof.Rows L2
def sSortR : SpT := fun ts Q _ => ∃ t ns, ts = [t] ∧ t.kidLS = some (List.map T.int ns) ∧ ∀ ns' : List Int, ns'.Perm ns → ns'.Pairwise (· ≥ ·) → Q (.lst (ns'.map T.int)) [some t]
theorem br_sortR {K : PySem.W.Frag} : ∀ vs H Q E, spT K sSortR vs H Q E → rSortedKw K true [.bl true] vs [.bl true] H Q := fun vs H Q E ⟨ts, F, L, Q0, X0, S, ⟨t, ns, e, h, q⟩, k, _⟩ => by
  subst e
  obtain ⟨v, e1, o⟩ := S.own.one'
  subst e1
  obtain ⟨a, us, ea, ha, ra⟩ := o.kidLS h
  have eu := ints_vals ra
  subst ea eu
  refine ⟨a, ns, rfl, rfl, ha, fun ns' p h1 h2 hp => ?_⟩
  obtain ⟨L', x, S'⟩ := S.cell hp (own_lst_new (xs := ns'.map T.int) ints_own hp)
  exact k _ _ _ F _ L' (q ns' h1 h2) x S'
section
variable {X : Cx} {W : WX} {e : Expr} {oa : Arg} {pos p p2 kp : Pos} {j : Nat}
theorem de_sortR (hg : Gl X "sorted") (hm : X.mg "sorted" = none) (h : DO X W e oa) (he : starEach [e] X.env = (false, eval e X.env) :: starEach [] X.env := by rfl)
    (he1 : backTo pos (starEach [e] X.env) = (false, eval e X.env) :: backTo pos (starEach [] X.env) := by rfl) (hpl : (backTo pos (starEach [e] X.env)).any (·.1) = false := by rfl)
    (hall : (backToKw pos (keywordEach [⟨some "reverse", .Constant (.bool true) j p2, kp⟩] X.env)).all (·.1.isSome) = true := by rfl) (hnone : (backToKw pos (keywordEach [⟨some "reverse", .Constant (.bool true) j p2, kp⟩] X.env)).any (·.1.isNone) = false := by rfl)
    (hks : (backToKw pos (keywordEach [⟨some "reverse", .Constant (.bool true) j p2, kp⟩] X.env)).filterMap (·.1) = [Str.ofString "reverse"] := by rfl) :
    DE X W (.Call (.Name "sorted" p) [e] [⟨some "reverse", .Constant (.bool true) j p2, kp⟩] pos) (wOp sSortR [oa]) :=
  PE.imp (pe_callBK (cr_sortedRev (b := true)) hg hm (by decide +kernel) (da_cons (as := []) h da_nil he) (pk_cons pe_bl pk_nil) (by decide) (by decide) he1 hpl hall hnone hks) fun σ H Q q =>
    tL_mono (wOp_run q) fun xs H1 z => br_sortR xs H1 Q _ z
end
end TL

/-! TL18: a walk whose items are changed: for i, x in enumerate(a list of one's own lists). -/
namespace TL
open PySem PySem.Spec PyProof.Rows L2
/-- behind the body the item goes back where it came from -/
def finE (x j k : Nat) (v : V) (I : Nat → Ev → Prop) (ev2 : Ev) : Prop := ∃ c ys, ev2[j]? = some (some c) ∧ ev2[x]? = some (some (.lst ys)) ∧ ys[k]? = some (.hole v) ∧ I (k + 1) ((ev2.set j none).set x (some (.lst (ys.set k c))))
def sForE (x i j : Nat) (wb : WS) : WS := fun ev E => ∃ xs : List T, ev[x]? = some (some (.lst xs)) ∧ i < ev.length ∧ j < ev.length ∧ ∃ I : Nat → Ev → Prop, I 0 ev ∧
  (∀ k ev', k ≤ xs.length → I k ev' → (∃ ys, ev'[x]? = some (some (.lst ys)) ∧ ys.length = xs.length) ∧ ev'.length = ev.length) ∧
  (∀ k ev' ys v c, k < xs.length → I k ev' → ev'[x]? = some (some (.lst ys)) → ys[k]? = some c → wb (((ev'.set x (some (.lst (ys.set k (.hole v))))).set i (some (.int k))).set j (some c))
    { nx := finE x j k v I, ct := finE x j k v I, bk := fun _ => False, rt := E.rt, xc := E.xc }) ∧ (∀ ev', I xs.length ev' → E.nx ev')
section
variable {X : Cx} {W : WX}
theorem count_le_of_nd {L1 L2 : List Addr} : True := trivial
theorem ds_forE {x i j : Nat} {nx ni nj : Str} {body : List Stmt} {wb : WS} {B : List Nat} {p px pi pj tpos ppos pos : Pos} {kk : Nat} (hp : PassesOwn (model X.prog X.w) X.A X.env X.xe) (hc : X.calm = true) (hg : Gl X "enumerate") (hm : X.mg "enumerate" = none)
    (hN : X.N.Nodup) (hx : PE X (.Name nx px) (tVar x)) (hi : X.N[i]? = some ni) (hil : Loc X.env.scope ni) (hj : X.N[j]? = some nj) (hjl : Loc X.env.scope nj) (hb : DSs X W B body wb)
    (hne : ((x != i) && (x != j) && (i != j) && !B.contains x && !B.contains j) = true := by rfl)
    (hif : X.fn ni = true ∨ X.env.scope.names.lookup ni = some .local := by first | exact .inl rfl | exact .inr rfl | assumption) (hjf : X.fn nj = true ∨ X.env.scope.names.lookup nj = some .local := by first | exact .inl rfl | exact .inr rfl | assumption)
    (hst : (assignEach [.Name ni pi, .Name nj pj] X.env).findIdx? (·.1) = none := by rfl) (hln : (assignEach [.Name ni pi, .Name nj pj] X.env).length = 2 := by rfl)
    (hse : starEach [.Name nx px] X.env = [(false, eval (.Name nx px) X.env)] := by rfl) (hs : ∀ y, foldedSetIterable (.Call (.Name "enumerate" p) [.Name nx px] [] ppos) X.env y = pure y := by intro _; rfl) :
    DS X W (i :: j :: B) (.For (.Tuple [.Name ni pi, .Name nj pj] kk tpos) (.Call (.Name "enumerate" p) [.Name nx px] [] ppos) body [] pos) (sForE x i j wb) := fun kp hk => by
  have hb' : PSs X body (fun D σ H => ∃ kp' : KP, (∀ j ∈ B, kp' j = none) ∧ liftS X.K W kp' wb D σ H) := ⟨fun pins s σ H D I ⟨kp', h1, h2⟩ => (hb kp' h1).run pins s σ H D I h2⟩
  simp only [Bool.and_eq_true, bne_iff_ne, ne_eq, Bool.not_eq_true', List.contains_eq_mem, decide_eq_false_iff_not] at hne
  obtain ⟨⟨⟨⟨nxi, nxj⟩, nij⟩, nxB⟩, njB⟩ := hne
  refine PS.imp (ps_for hp hc (pi_enum hg hm (pa_cons hx pa_nil hse) hse) (pg_tup hc (pgs_cons (pg_name hN hi hil hif) (pgs_cons (pg_name hN hj hjl hjf) pgs_nil)) hln hst) hb' hs) fun D σ H q => ?_
  obtain ⟨ev, F, L, E0, S, pn, ⟨xs, hxs, hil2, hjl2, I, i0, inv, turn, fin⟩, k1, k2, k3, k4, k5⟩ := q
  obtain ⟨v0, L1, L2, es, ec, ox, _⟩ := S.own.get hxs
  obtain ⟨a, vs, M, ea, em, hH, r0⟩ := ox
  subst ea
  refine ⟨.ref a, es, a, vs, rfl, SqL.of hH, ?_⟩
  refine ⟨fun k m σ' H' => m = xs.length - k ∧ k ≤ xs.length ∧ ∃ ev' F' L', I k ev' ∧ Ext F H L F' H' L' ∧ St X.K F' H' ev' σ' L' ∧ pin kp σ' ∧ σ'[x]? = some (some (.ref a)), ⟨xs.length, by simp, Nat.zero_le _, ev, F, L, i0, Ext.refl, S, pn, es⟩, ?_⟩
  rintro k m σ2 H2 ⟨rfl, hk2, ev2, F2, L2', i2, x2, S2, p2, sx2⟩
  obtain ⟨⟨ys, hys, hyl⟩, hel⟩ := inv k ev2 hk2 i2
  obtain ⟨v1, M1, M2, es1, ec1, o1, oE⟩ := S2.own.get hys
  have e1 : v1 = .ref a := by rw [sx2] at es1; exact (Option.some.inj (Option.some.inj es1)).symm
  subst e1
  obtain ⟨a', us, N, ea', en, hH2, r⟩ := o1
  cases ea'
  have hul := r.len
  by_cases hlt : k < xs.length
  · have hku : k < us.length := by omega
    refine .inr ⟨⟨us, us[k], SqL.of hH2, List.getElem?_eq_getElem hku⟩, fun σ' H' => ∃ ev' F' L', I (k + 1) ev' ∧ Ext F H L F' H' L' ∧ St X.K F' H' ev' σ' L' ∧ pin kp σ' ∧ σ'[x]? = some (some (.ref a)), fun σ' H' z => ⟨xs.length - (k + 1), by omega, rfl, hlt, z⟩, fun y H3 hy => ?_⟩
    obtain ⟨P, z, rfl, hP, rfl, hz⟩ := hy
    have ez := hz us (SqL.of hH2)
    refine ⟨P, [.int (k : Nat), z], rfl, SqT.of upd_same, rfl, .int (k : Nat), [z], rfl, z, [], rfl, rfl, ?_⟩
    have hky : k < ys.length := by omega
    obtain ⟨S3, x3⟩ := S2.new hP (.tup [.int (k : Nat), z])
    -- the child is taken out
    have r3 : Owns X.K F2 (upd H2 P (.tup [.int (k : Nat), z])) ys us N := r.mono (fun _ z => z) fun b u _ e => keep_new hP b u e
    have oE3 : OwnE X.K F2 (upd H2 P (.tup [.int (k : Nat), z])) (ev2.set x none) σ2 M2 := oE.mono (fun _ z => z) fun b u _ e => keep_new hP b u e
    have hH3 : upd H2 P (.tup [.int (k : Nat), z]) a = some (.lst us) := keep_new hP a _ hH2
    generalize upd H2 P (.tup [.int (k : Nat), z]) = H3 at *
    obtain ⟨w, N0, N1, N2, e2, en2, oc, back⟩ := r3.get (List.getElem?_eq_getElem hky)
    have ew : w = z := by rw [ez] at e2; exact (Option.some.inj e2).symm
    subst ew
    have hb2 := back (.hole w) w [] ⟨rfl, rfl⟩
    have husk : us.set k w = us := by
      obtain ⟨h1, h2⟩ := List.getElem?_eq_some_iff.mp ez
      rw [← h2, List.set_getElem_self]
    rw [husk] at hb2
    have oL : Own X.K F2 H3 (.lst (ys.set k (.hole w))) (.ref a) (a :: (N0 ++ [] ++ N2)) := ⟨a, us, _, rfl, rfl, hH3, hb2⟩
    obtain ⟨La, ra, sa⟩ := oE3.put sx2 (OwnE.one oL)
    rw [List.set_set] at ra
    obtain ⟨Lb, rb, sb⟩ := ra.set (i := i) (by rw [List.length_set]; omega) (OwnE.one (own_int (i := (k : Nat))))
    obtain ⟨Lc, rc, sc⟩ := rb.set (i := j) (by rw [List.length_set, List.length_set]; omega) (OwnE.one oc)
    have cnt : ∀ b : Nat, Lc.count b ≤ L2'.count b := fun b => by
      have h1 := sa b; have h2 := sb b; have h3 := sc b; have h4 := ec1 b
      rw [en, en2] at h4
      simp only [List.count_append, List.count_cons, List.append_nil, List.count_nil] at h1 h2 h3 h4
      omega
    have mem : ∀ b ∈ Lc, b ∈ L2' := fun b m => Sub.mem (A := Lc) (B := L2') cnt m
    have S4 : St X.K F2 H3 _ ((σ2.set i (some (.int (k : Nat)))).set j (some w)) Lc := ⟨rc, fun b => Nat.le_trans (cnt b) (S2.nd b), fun b m => S2.dj b (mem b m), S3.dom⟩
    have x4 : Ext F H L F2 H3 Lc := (x2.trans x3 S2.dj).sub (fun _ m => m) fun b m => .inl (mem b m)
    let kp' : KP := fun y => if y = j then some w else if y = x then some (.ref a) else kp y
    have hlen2 : σ2.length = ev2.length := S2.own.len.symm
    have pk : ∀ σ' : _root_.L2.St, pin kp' σ' → pin kp σ' ∧ σ'[j]? = some (some w) ∧ σ'[x]? = some (some (.ref a)) := fun σ' h => by
      have hj2 : σ'[j]? = some (some w) := h j w (by show (if j = j then some w else _) = _; rw [if_pos rfl])
      have hx2 : σ'[x]? = some (some (.ref a)) := h x (.ref a) (by show (if x = j then some w else if x = x then some (.ref a) else _) = _; rw [if_neg nxj, if_pos rfl])
      refine ⟨fun y v e => ?_, hj2, hx2⟩
      by_cases q1 : y = j
      · rw [q1, hk j (by simp)] at e; cases e
      · by_cases q2 : y = x
        · have := p2 y v e
          rw [q2, sx2] at this
          rw [q2, hx2]; exact this
        · exact h y v (by show (if y = j then some w else if y = x then some (.ref a) else kp y) = some v; rw [if_neg q1, if_neg q2]; exact e)
    have back2 : ∀ ev5 σ5 F5 H5 L5, finE x j k w I ev5 → Ext F2 H3 Lc F5 H5 L5 → St X.K F5 H5 ev5 σ5 L5 → pin kp' σ5 → ∃ ev' F' L', I (k + 1) ev' ∧ Ext F H L F' H5 L' ∧ St X.K F' H5 ev' σ5 L' ∧ pin kp σ5 ∧ σ5[x]? = some (some (.ref a)) := fun ev5 σ5 F5 H5 L5 ⟨c, zs, hc5, hz5, hh5, i5⟩ x5 S5 p5 => by
      obtain ⟨pk1, pk2, pk3⟩ := pk σ5 p5
      obtain ⟨vc, Q1, Q2, ec5, cc5, oc5, oE5⟩ := S5.own.get hc5
      have e5 : vc = w := by rw [pk2] at ec5; exact (Option.some.inj (Option.some.inj ec5)).symm
      subst e5
      have hz6 : (ev5.set j none)[x]? = some (some (.lst zs)) := by rw [List.getElem?_set_ne (fun e => nxj e.symm)]; exact hz5
      obtain ⟨vl, R1, R2, el5, cl5, ol5, oE6⟩ := oE5.get hz6
      have e6 : vl = .ref a := by rw [pk3] at el5; exact (Option.some.inj (Option.some.inj el5)).symm
      subst e6
      obtain ⟨a6, us6, N6, ea6, en6, hH6, r6⟩ := ol5
      cases ea6
      obtain ⟨w6, T0, T1, T2, e7, en7, o7, back6⟩ := r6.get hh5
      obtain ⟨t1, t2⟩ := o7
      have t2 : w6 = vc := t2
      subst t1 t2
      have hb6 := back6 c w6 Q1 oc5
      have hus6 : us6.set k w6 = us6 := by
        obtain ⟨h1, h2⟩ := List.getElem?_eq_some_iff.mp e7
        rw [← h2, List.set_getElem_self]
      rw [hus6] at hb6
      have oL6 : Own X.K F5 H5 (.lst (zs.set k c)) (.ref a) (a :: (T0 ++ Q1 ++ T2)) := ⟨a, us6, _, rfl, rfl, hH6, hb6⟩
      obtain ⟨Lz, rz, sz⟩ := oE6.put pk3 (OwnE.one oL6)
      rw [List.set_set] at rz
      have cnt5 : ∀ b : Nat, Lz.count b ≤ L5.count b := fun b => by
        have h1 := sz b; have h2 := cc5 b; have h3 := cl5 b
        rw [en6, en7] at h3
        simp only [List.count_append, List.count_cons, List.append_nil, List.nil_append, List.count_nil] at h1 h2 h3
        omega
      have mem5 : ∀ b ∈ Lz, b ∈ L5 := fun b m => Sub.mem (A := Lz) (B := L5) cnt5 m
      exact ⟨_, F5, Lz, i5, (x4.trans x5 S4.dj).sub (fun _ m => m) fun b m => .inl (mem5 b m), ⟨rz, fun b => Nat.le_trans (cnt5 b) (S5.nd b), fun b m => S5.dj b (mem5 b m), S5.dom⟩, pk1, pk3⟩
    refine ⟨kp', fun y m => ?_, _, F2, Lc, _, S4, fun y v e => ?_, turn k ev2 ys w _ hlt i2 hys (List.getElem?_eq_getElem hky), fun ev' σ' F' H' L' z x S' p' => back2 ev' σ' F' H' L' z x S' p', fun t ev' v σ' F' H' L' z x S' p' => k2 t ev' v σ' F' H' L' z (x4.trans x S4.dj) S' (pk _ p').1, fun ev' σ' F' H' L' z => z.elim,
      fun ev' σ' F' H' L' z x S' p' => back2 ev' σ' F' H' L' z x S' p', fun C ev' σ' F' H' L' z x S' p' => k5 C ev' σ' F' H' L' z (x4.trans x S4.dj) S' (pk _ p').1⟩
    · show (if y = j then some w else if y = x then some (.ref a) else kp y) = none
      rw [if_neg (fun (e : y = j) => njB (by rw [← e]; exact m)), if_neg (fun (e : y = x) => nxB (by rw [← e]; exact m))]
      exact hk y (by simp [m])
    · have e' : (if y = j then some w else if y = x then some (.ref a) else kp y) = some v := e
      by_cases q1 : y = j
      · rw [if_pos q1] at e'
        cases e'
        rw [q1, List.getElem?_set_self (by rw [List.length_set]; omega)]
      · rw [if_neg q1] at e'
        rw [List.getElem?_set_ne (fun e => q1 e.symm)]
        by_cases q2 : y = x
        · rw [if_pos q2] at e'
          cases e'
          rw [q2, List.getElem?_set_ne (fun e => nxi e.symm)]
          exact sx2
        · rw [if_neg q2] at e'
          by_cases q3 : y = i
          · rw [q3, hk i (by simp)] at e'; cases e'
          · rw [List.getElem?_set_ne (fun e => q3 e.symm)]
            exact p2 y v e'
  · have e : k = xs.length := by omega
    subst e
    exact .inl ⟨⟨us, SqL.of hH2, by omega⟩, k1 ev2 σ2 F2 H2 L2' (fin ev2 i2) x2 S2 p2⟩
end
end TL

/-! TL19: a test that reads what one owns, and gives it back unfrozen. -/
namespace TL
open PySem PySem.Spec PyProof.Rows L2
mutual
/-- nothing of another's is in it -/
def T.closed : T → Bool
  | .non => true
  | .bl _ => true
  | .int _ => true
  | .str _ => true
  | .lst xs => T.closeds xs
  | .tup xs => T.closeds xs
  | .dk _ xs => T.closeds xs
  | .dt _ xs => T.closeds xs
  | _ => false
def T.closeds : List T → Bool
  | [] => true
  | t :: ts => t.closed && T.closeds ts
end
section
variable {K : PySem.W.Frag} {F F2 : Addr → Prop} {H : Hp}
mutual
theorem Own.free : ∀ {t : T} {v : V} {L : List Addr}, Own K F H t v L → t.closed = true → Own K F2 H t v L
  | .non, v, L, h, _ => h
  | .bl _, v, L, h, _ => h
  | .int _, v, L, h, _ => h
  | .str _, v, L, h, _ => h
  | .lst xs, v, L, ⟨a, vs, L', e, el, h, r⟩, c => ⟨a, vs, L', e, el, h, Owns.free r c⟩
  | .tup xs, v, L, ⟨a, vs, L', e, el, h, r⟩, c => ⟨a, vs, L', e, el, h, Owns.free r c⟩
  | .dk ks xs, v, L, ⟨a, vs, L', e, el, h, l, r⟩, c => ⟨a, vs, L', e, el, h, l, Owns.free r c⟩
  | .dt ks xs, v, L, ⟨a, vs, L', e, el, h, l, r⟩, c => ⟨a, vs, L', e, el, h, l, Owns.free r c⟩
  | .fz _, _, _, _, c => by cases c
  | .hole _, _, _, _, c => by cases c
  | .scr _, _, _, _, c => by cases c
  | .exc _, _, _, _, c => by cases c
  | .ty _, _, _, _, c => by cases c
  | .cls _, _, _, _, c => by cases c
theorem Owns.free : ∀ {ts : List T} {vs : List V} {L : List Addr}, Owns K F H ts vs L → T.closeds ts = true → Owns K F2 H ts vs L
  | [], vs, L, h, _ => h
  | t :: ts, vs, L, ⟨v, vs', L1, L2, e, el, r, rs⟩, c => by
    have c' : (t.closed && T.closeds ts) = true := c
    rw [Bool.and_eq_true] at c'
    exact ⟨v, vs', L1, L2, e, el, Own.free r c'.1, Owns.free rs c'.2⟩
end
/-- what else stands is shared as it was, or one's own through and through -/
def condE : Ev → Ev → Prop
  | [], [] => True
  | _ :: ev, none :: ev' => condE ev ev'
  | o :: ev, some t :: ev' => ((o = some t ∧ t.shr = true) ∨ t.closed = true) ∧ condE ev ev'
  | _, _ => False
theorem OwnE.conv {F1 Fs : Addr → Prop} {H1 : Hp} (hF : ∀ a, F a → Fs a) (hH : ∀ a o, F a → H a = some o → H1 a = some o) : ∀ {ev ev' : Ev} {σ : L2.St} {L L' : List Addr}, OwnE K F H ev σ L → OwnE K F1 H1 ev' σ L' → condE ev ev' → OwnE K Fs H1 ev' σ L'
  | [], [], σ, L, L', _, h, _ => h
  | none :: ev, none :: ev', σ, L, L', ⟨x, σ', e, h⟩, ⟨x', σ'', e', h'⟩, c => by
    subst e; cases e'
    exact ⟨_, _, rfl, OwnE.conv hF hH h h' c⟩
  | some t :: ev, none :: ev', σ, L, L', ⟨v, σ', L1, L2, e, el, r, h⟩, ⟨x', σ'', e', h'⟩, c => by
    subst e; cases e'
    exact ⟨_, _, rfl, OwnE.conv hF hH h h' c⟩
  | none :: ev, some t :: ev', σ, L, L', ⟨x, σ', e, h⟩, ⟨v, σ'', L1, L2, e', el, r, h'⟩, ⟨c1, c⟩ => by
    subst e; cases e'
    rcases c1 with ⟨z, _⟩ | c1
    · cases z
    · exact ⟨v, _, L1, L2, rfl, el, r.free c1, OwnE.conv hF hH h h' c⟩
  | some u :: ev, some t :: ev', σ, L, L', ⟨v0, σ', M1, M2, e, em, r0, h⟩, ⟨v, σ'', L1, L2, e', el, r, h'⟩, ⟨c1, c⟩ => by
    subst e; cases e'
    rcases c1 with ⟨z, zs⟩ | c1
    · cases z
      have a := r0.shr zs
      have b := r.shr zs
      subst a b
      refine ⟨_, _, [], L2, rfl, el, r0.mono hF fun b o hb => hH b o (hb.resolve_right fun z => nomatch z), OwnE.conv hF hH h h' c⟩
    · exact ⟨_, _, L1, L2, rfl, el, r.free c1, OwnE.conv hF hH h h' c⟩
end
def wBorT (i : Nat) (w : WT) : WT := fun ev Q _ => ∃ t, ev[i]? = some (some t) ∧ w (ev.set i (some t.frz)) (fun b ev' => condE (ev.set i none) (ev'.set i none) ∧ Q b (ev'.set i (some t))) fun _ _ => False
section
variable {X : Cx} {W : WX}
theorem DT.bor {e : Expr} {w : WT} {i : Nat} (h : DT X W e w) : DT X W e (wBorT i w) := PT.imp h fun σ H Q q => by
  obtain ⟨ev, F, L, Q0, X0, S, ⟨t, et, hw⟩, k1, _⟩ := q
  obtain ⟨v, L1, L2, ev1, ec, o, oE⟩ := S.own.get et
  have m1 : ∀ b ∈ L1, b ∈ L := fun b m => by
    rw [mem_iff_count] at m ⊢
    have := ec b; omega
  have m2 : ∀ b ∈ L2, b ∈ L := fun b m => by
    rw [mem_iff_count] at m ⊢
    have := ec b; omega
  have d12 : ∀ b, b ∈ L1 → b ∈ L2 → False := fun b n1 n2 => by
    have h1 := List.count_pos_iff.mpr n1
    have h2 := List.count_pos_iff.mpr n2
    have := ec b; have := S.nd b; omega
  have o' : Own X.K (fun a => F a ∨ a ∈ L1) H t.frz v [] := o.frz (fun _ => .inl) (fun _ => .inr)
  have oE' : OwnE X.K (fun a => F a ∨ a ∈ L1) H (ev.set i none) σ L2 := oE.mono (fun _ => .inl) fun _ _ _ z => z
  obtain ⟨L3, r3, s3⟩ := oE'.put (ot := some t.frz) ev1 (OwnE.one o')
  rw [List.set_set] at r3
  have sub3 : ∀ b : Nat, L3.count b ≤ L2.count b := fun b => by have := s3 b; rw [List.append_nil] at this; exact this
  have mem3 : ∀ b ∈ L3, b ∈ L2 := fun b m => Sub.mem (A := L3) (B := L2) sub3 m
  have Sf : St X.K (fun a => F a ∨ a ∈ L1) H (ev.set i (some t.frz)) σ L3 := ⟨r3, fun b => by have := sub3 b; have := ec b; have := S.nd b; omega, fun b m z => by
    rcases z with z | z
    · exact S.dj b (m2 b (mem3 b m)) z
    · exact d12 b z (mem3 b m), fun b z => by
    rcases z with z | z
    · exact S.dom b z
    · exact o.dom b z⟩
  refine ⟨_, _, L3, _, _, Sf, hw, fun b ev' F' H' L' ⟨c, q⟩ x S' => ?_, fun C ev' F' H' L' q => q.elim⟩
  have k1' := fun b (z : F b ∨ b ∈ L1) => x.fr b z
  have keep1 : ∀ b o, F b ∨ b ∈ L1 → H b = some o → H' b = some o := fun b o z e => x.keep b o (fun m => Sf.dj b m z) e
  -- the slot's own thing again
  obtain ⟨L4, r4, s4⟩ : ∃ L4, OwnE X.K F' H' (ev'.set i none) σ L4 ∧ Sub L4 (L' ++ []) := S'.own.put ev1 OwnE.none1
  have sub4 : ∀ b : Nat, L4.count b ≤ L'.count b := fun b => by have := s4 b; rw [List.append_nil] at this; exact this
  have mem4 : ∀ b ∈ L4, b ∈ L' := fun b m => Sub.mem (A := L4) (B := L') sub4 m
  have nF : ∀ b ∈ L1, ¬ F b := fun b m => S.dj b (m1 b m)
  have r5 : OwnE X.K (fun b => F' b ∧ b ∉ L1) H' (ev'.set i none) σ L4 := OwnE.conv (fun b z => ⟨k1' b (.inl z), fun m => nF b m z⟩) (fun b o z e => keep1 b o (.inl z) e) oE r4 c
  have ot : Own X.K (fun b => F' b ∧ b ∉ L1) H' t v L1 := o.mono (fun b z => ⟨k1' b (.inl z), fun m => nF b m z⟩) keep1
  obtain ⟨L5, r6, s6⟩ := r5.put ev1 (OwnE.one ot)
  rw [List.set_set] at r6
  have mem5 : ∀ b ∈ L5, b ∈ L4 ∨ b ∈ L1 := fun b m => List.mem_append.mp (Sub.mem (A := L5) (B := L4 ++ L1) s6 m)
  have dis : ∀ b ∈ L4, b ∉ L1 := fun b m n => S'.dj b (mem4 b m) (k1' b (.inr n))
  refine k1 b _ (fun b => F' b ∧ b ∉ L1) H' L5 q ⟨fun b z => ⟨k1' b (.inl z), fun m => nF b m z⟩, fun b o n e => x.keep b o (fun m => n (m2 b (mem3 b m))) e, fun b z => ?_⟩ ⟨r6, fun b => ?_, fun b m z => ?_, fun b z => S'.dom b z.1⟩
  · rcases z with z | z
    · rcases x.new b (.inl z.1) with (y | y) | y
      · exact .inl y
      · exact absurd y z.2
      · exact .inr (y.imp_left fun m => m2 b (mem3 b m))
    · rcases mem5 b z with z | z
      · rcases x.new b (.inr (mem4 b z)) with (y | y) | y
        · exact .inl y
        · exact .inr (.inl (m1 b y))
        · exact .inr (y.imp_left fun m => m2 b (mem3 b m))
      · exact .inr (.inl (m1 b z))
  · have h1 := s6 b
    rw [List.count_append] at h1
    have h2 := sub4 b
    have h3 := S'.nd b
    have h4 := ec b
    have h5 := S.nd b
    by_cases z : b ∈ L1
    · have : b ∉ L4 := fun m => dis b m z
      rw [count_zero_of_not_mem this] at h1
      omega
    · rw [count_zero_of_not_mem z] at h1
      omega
  · rcases mem5 b m with m | m
    · exact S'.dj b (mem4 b m) z.1
    · exact z.2 m
end
theorem closeds_ints : ∀ ns : List Int, T.closeds (ns.map T.int) = true
  | [] => rfl
  | n :: r => by show (true && T.closeds (r.map T.int)) = true; rw [closeds_ints r]; rfl
theorem closed_ints (ns : List Int) : (T.lst (ns.map T.int)).closed = true := closeds_ints ns
end TL

/-! TL14: lists of whole numbers by place; rearrangements. -/
namespace TL
open PySem PySem.Spec PyProof.Rows L2
section
variable {p : Prop} {hd : Decidable p} {A : Prop} {a b : Bool}
theorem r_dt (h : p → A) : decide p = true → A := fun e => h (of_decide_eq_true e)
theorem r_df (h : ¬p → A) : decide p = false → A := fun e => h (of_decide_eq_false e)
theorem r_nt (h : a = false → A) : (!a) = true → A := fun e => h (by cases a <;> first | rfl | cases e)
theorem r_nf (h : a = true → A) : (!a) = false → A := fun e => h (by cases a <;> first | rfl | cases e)
theorem r_at (h : a = true → b = true → A) : (a && b) = true → A := fun e => by rw [Bool.and_eq_true] at e; exact h e.1 e.2
theorem r_of (h : a = false → b = false → A) : (a || b) = false → A := fun e => by rw [Bool.or_eq_false_iff] at e; exact h e.1 e.2
end
theorem cpow_of {i j : Int} (h0 : 0 ≤ j) (h1 : j ≤ 1000000) (h2 : -(2 ^ 63) < i) (h3 : i < 2 ^ 63) : CPow i j := ⟨h0, h1, by omega⟩
theorem r_bot1 {A : Prop} : true = false → A := fun e => by cases e
theorem r_bot2 {A : Prop} : false = true → A := fun e => by cases e
/-! ### by place -/
def G (ns : List Int) (i : Int) : Int := ns.getD i.toNat 0
section
variable {ns ms : List Int} {i j v : Int} {t : T}
theorem G_get (h1 : i < ns.length) (h0 : 0 ≤ i) : ns[i.toNat]? = some (G ns i) := by
  have h : i.toNat < ns.length := by omega
  unfold G
  rw [List.getD_eq_getElem?_getD, List.getElem?_eq_getElem h]; rfl
theorem G_getN {k : Nat} (h : k < ns.length) : ns[k]? = some (G ns k) := by
  have := G_get (ns := ns) (i := k) (by omega) (by omega)
  simpa using this
theorem G_of {k : Nat} (h : ns[k]? = some v) : G ns k = v := by
  unfold G
  rw [List.getD_eq_getElem?_getD, show (k : Int).toNat = k by omega, h]; rfl
theorem G_mem (h0 : 0 ≤ i) (h1 : i < ns.length) : G ns i ∈ ns := List.mem_of_getElem? (G_get h1 h0)
theorem G_ex (h : v ∈ ns) : ∃ i : Int, 0 ≤ i ∧ i < ns.length ∧ G ns i = v := by
  obtain ⟨k, hk, e⟩ := List.getElem_of_mem h
  exact ⟨k, by omega, by omega, G_of (by rw [List.getElem?_eq_getElem hk, e])⟩
theorem G_ext (hl : ns.length = ms.length) (h : ∀ i : Int, 0 ≤ i → i < ns.length → G ns i = G ms i) : ns = ms := by
  refine List.ext_getElem? fun k => ?_
  by_cases hk : k < ns.length
  · rw [G_getN hk, G_getN (hl ▸ hk), h k (by omega) (by omega)]
  · rw [List.getElem?_eq_none (by omega), List.getElem?_eq_none (by omega)]
theorem G_inj (hn : ns.Nodup) (i0 : 0 ≤ i) (i1 : i < ns.length) (j0 : 0 ≤ j) (j1 : j < ns.length) (h : G ns i = G ns j) : i = j := by
  have a := G_get i1 i0
  have b := G_get j1 j0
  rw [h] at a
  have hi : i.toNat < ns.length := by omega
  have hj : j.toNat < ns.length := by omega
  have := (List.getElem?_inj hi hn).mp (a.trans b.symm)
  omega
theorem G_set (i0 : 0 ≤ i) (i1 : i < ns.length) (j0 : 0 ≤ j) : G (ns.set i.toNat v) j = if i = j then v else G ns j := by
  unfold G
  rw [List.getD_eq_getElem?_getD, List.getD_eq_getElem?_getD, List.getElem?_set]
  by_cases e : i = j
  · subst e
    rw [if_pos rfl, if_pos rfl, if_pos (by omega)]; rfl
  · rw [if_neg (by omega), if_neg e]
theorem G_app1 (i0 : 0 ≤ i) (h : i < ns.length) : G (ns ++ ms) i = G ns i := by
  have : i.toNat < ns.length := by omega
  unfold G
  rw [List.getD_eq_getElem?_getD, List.getD_eq_getElem?_getD, List.getElem?_append_left this]
theorem G_app2 (h : i = ns.length) : G (ns ++ [v]) i = v := by
  subst h
  exact G_of (by rw [List.getElem?_append_right (Nat.le_refl _), Nat.sub_self]; rfl)
theorem G_app3 (h : (ns.length : Int) ≤ i) : G (ns ++ ms) i = G ms (i - ns.length) := by
  unfold G
  rw [List.getD_eq_getElem?_getD, List.getD_eq_getElem?_getD, List.getElem?_append_right (by omega)]
  congr 2; omega
theorem G_map {f : Int → Int} (i0 : 0 ≤ i) (h : i < ns.length) : G (ns.map f) i = f (G ns i) := by
  obtain ⟨k, rfl⟩ := Int.eq_ofNat_of_zero_le i0
  exact G_of (by rw [List.getElem?_map, G_getN (by omega)]; rfl)
theorem G_mapN {f : Nat → Int} {n : Nat} (i0 : 0 ≤ i) (h : i < n) : G ((List.range n).map f) i = f i.toNat := by
  obtain ⟨k, rfl⟩ := Int.eq_ofNat_of_zero_le i0
  exact G_of (by rw [List.getElem?_map, List.getElem?_range (by omega)]; rfl)
theorem G_rep {n : Nat} (i0 : 0 ≤ i) (h : i < n) : G (List.replicate n v) i = v := by
  obtain ⟨k, rfl⟩ := Int.eq_ofNat_of_zero_le i0
  exact G_of (by rw [List.getElem?_replicate, if_pos (by omega)])
theorem G_idx (h : v ∈ ns) : ns.idxOf v < ns.length ∧ G ns (ns.idxOf v : Nat) = v := by
  have hl : ns.idxOf v < ns.length := List.idxOf_lt_length_of_mem h
  exact ⟨hl, G_of (by rw [List.getElem?_eq_getElem hl, List.getElem_idxOf hl])⟩
theorem G_out (h : (ns.length : Int) ≤ i) : G ns i = 0 := by
  unfold G
  rw [List.getD_eq_getElem?_getD, List.getElem?_eq_none (by omega)]; rfl
theorem IsL.atG (h : IsL t ns) (h1 : i < ns.length) (h0 : 0 ≤ i) : t.atT i = some (.int (G ns i)) := h.atN h0 (G_get h1 h0)
theorem IsL.of1 {a : Int} : IsL (.lst [.int a]) [a] := .inl rfl
theorem IsL.of2 {a b : Int} : IsL (.lst [.int a, .int b]) [a, b] := .inl rfl
theorem IsL.atLast (h : IsL t ns) (h1 : 0 < ns.length) : t.atT (-1) = some (.int (G ns ((ns.length : Int) - 1))) := by
  rw [h.at]
  have e : _root_.L2.atI ns (-1) = some (G ns ((ns.length : Int) - 1)) := by
    unfold _root_.L2.atI
    rw [show ixN ns.length (-1) = some (ns.length - 1) by
      unfold ixN
      rw [if_neg (by omega), if_pos (by omega)]
      congr 1; omega]
    show ns[ns.length - 1]? = _
    have := G_get (ns := ns) (i := (ns.length : Int) - 1) (by omega) (by omega)
    rwa [show ((ns.length : Int) - 1).toNat = ns.length - 1 by omega] at this
  rw [e]; rfl
theorem scr_at (h1 : i < ns.length) (h0 : 0 ≤ i) : T.atT (.scr ns) i = some (.int (G ns i)) := by
  show (_root_.L2.atI ns i).map T.int = _
  rw [atI_ok h0 (G_get h1 h0)]; rfl
theorem item_int {k : Nat} (h : k < ns.length) : (ns.map T.int).getD k .non = .int (G ns k) := by
  rw [List.getD_eq_getElem?_getD, List.getElem?_map, G_getN h]; rfl
theorem item_intL {k : Nat} (h : k < (ns.map T.int).length) : (ns.map T.int).getD k .non = .int (G ns k) := item_int (by rwa [List.length_map] at h)
end
theorem r_popAtG {xs : List Int} {i : Int} {QS : T → List (Option T) → Prop} {XS : Addr → List (Option T) → Prop} (h0 : 0 ≤ i) (h1 : i < xs.length) (h2 : xs.length ≤ 16777216) (q : QS (.int (G xs i)) [some (.lst ((xs.eraseIdx i.toNat).map T.int)), none]) : sPopAt [.lst (xs.map T.int), .int i] QS XS :=
  r_popAtI h0 (by omega) (G_get h1 h0) q
theorem erase_perm : ∀ {xs : List Int} {i : Nat} {y : Int}, xs[i]? = some y → (y :: xs.eraseIdx i).Perm xs
  | [], i, y, h => by simp at h
  | x :: r, 0, y, h => by rw [show y = x from (Option.some.inj h).symm]; exact .refl _
  | x :: r, i + 1, y, h => (List.Perm.swap x y _).trans (List.Perm.cons x (erase_perm (xs := r) (i := i) h))
theorem perm_pop {xs : List Int} {i : Int} (h0 : 0 ≤ i) (h1 : i < xs.length) : xs.Perm (G xs i :: xs.eraseIdx i.toNat) := (erase_perm (G_get h1 h0)).symm
theorem lt_line {n : Nat} (h : n < 16777216) : n < sizeLine := h
theorem wipe1 {ev : Ev} {y : Nat} (h : ev[y]? = some none) : ev.set y none = ev := by
  obtain ⟨h1, h2⟩ := List.getElem?_eq_some_iff.mp h
  rw [← h2, List.set_getElem_self]
/-- the comprehension that finds what is no whole number -/
theorem p_odd {ev : Ev} {x y : Nat} {t : T} {ns : List Int} (hx : ev[x]? = some (some t)) (h : IsL t ns) (hl : ns.length ≤ 16777216) (hy : ev[y]? = some none) (hxy : (x != y) = true) :
    Pure (wLc (wList false (.pl x)) (gN y) (wOr (wNot (wTst (wOp sIsi [.pl y, .vl (wC (.ty "int"))]))) (wTst (wOp sIsi [.pl y, .vl (wC (.ty "bool"))]))) (wV y) [y]) ev (.lst []) := fun Q X q => by
  have ne : y ≠ x := fun e => by simp [e] at hxy
  have hl2 := (List.getElem?_eq_some_iff.mp hy).1
  refine lc_list hx h.kids h.isSeq (by simp [hy, shrO]) (by rw [List.length_map]; exact hl) (fun k acc ev' => acc = [] ∧ ev' = ev) ⟨rfl, wipe1 hy⟩ (fun k acc ev' _ e => by rw [e.2]; exact hx) (fun k acc ev' hk e => ?_) (fun acc ev' e => ?_)
  · obtain ⟨rfl, rfl⟩ := e
    rw [item_intL hk]
    refine ⟨hl2, ?_⟩
    have g : (ev'.set y (some (.int (G ns k))))[y]? = some (some (.int (G ns k))) := by rw [List.getElem?_set_self hl2]
    have p1 : Pure (wOp sIsi [.pl y, .vl (wC (.ty "int"))]) (ev'.set y (some (.int (G ns k)))) (.bl (isI "int" "int")) := p_isi rfl (PO.pl g) (PO.vl Pure.c) rfl (by decide)
    have p2 : Pure (wOp sIsi [.pl y, .vl (wC (.ty "bool"))]) (ev'.set y (some (.int (G ns k)))) (.bl (isI "int" "bool")) := p_isi rfl (PO.pl g) (PO.vl Pure.c) rfl (by decide)
    refine (PureT.or (PureT.not (PureT.tst p1)) fun _ => PureT.tst p2) _ _ ?_
    rw [show (!isI "int" "int" || isI "int" "bool") = false by decide, if_neg Bool.false_ne_true]
    refine ⟨rfl, ?_⟩
    show (ev'.set y _).set y none = ev'
    rw [List.set_set]; exact wipe1 hy
  · obtain ⟨rfl, rfl⟩ := e
    show Q (.lst []) (ev'.set y (ev'[y]?).join)
    rw [hy]
    show Q (.lst []) (ev'.set y none)
    rw [wipe1 hy]; exact q
/-! ### rearrangements -/
def rg (n : Nat) : List Int := (List.range n).map Int.ofNat
section
variable {n : Nat} {ns ms : List Int} {x i j : Int}
theorem rg_len : (rg n).length = n := by unfold rg; rw [List.length_map, List.length_range]
theorem rg_mem : x ∈ rg n ↔ 0 ≤ x ∧ x < n := by
  unfold rg
  rw [List.mem_map]
  constructor
  · rintro ⟨k, hk, rfl⟩
    have := List.mem_range.mp hk
    constructor
    · exact Int.ofNat_nonneg k
    · exact Int.ofNat_lt.mpr this
  · rintro ⟨h0, h1⟩
    exact ⟨x.toNat, List.mem_range.mpr (by omega), by show (x.toNat : Int) = x; omega⟩
theorem rg_nodup : (rg n).Nodup := by
  unfold rg List.Nodup
  rw [List.pairwise_map]
  exact List.nodup_range.imp fun {a b} h e => h (Int.ofNat.inj e)
theorem rg_le : (rg n).Pairwise (· ≤ ·) := by
  unfold rg
  rw [List.pairwise_map]
  exact List.pairwise_lt_range.imp fun {a b} h => Int.ofNat_le.mpr (Nat.le_of_lt h)
theorem G_rg (h0 : 0 ≤ i) (h1 : i < n) : G (rg n) i = i := by
  unfold rg
  rw [G_mapN h0 h1]
  show (i.toNat : Int) = i
  omega
def Turn (ns : List Int) : Prop := ns.Perm (rg ns.length)
theorem Turn.mem (h : Turn ns) : x ∈ ns ↔ 0 ≤ x ∧ x < ns.length := h.mem_iff.trans rg_mem
theorem Turn.nodup (h : Turn ns) : ns.Nodup := h.nodup_iff.mpr rg_nodup
theorem Turn.lo (h : Turn ns) (i0 : 0 ≤ i) (i1 : i < ns.length) : 0 ≤ G ns i := (h.mem.mp (G_mem i0 i1)).1
theorem Turn.hi (h : Turn ns) (i0 : 0 ≤ i) (i1 : i < ns.length) : G ns i < ns.length := (h.mem.mp (G_mem i0 i1)).2
theorem Turn.len (h : ns.Perm (rg n)) : ns.length = n := h.length_eq.trans rg_len
theorem Turn.of (h : ns.Perm (rg n)) : Turn ns := by unfold Turn; rw [Turn.len h]; exact h
theorem perm_of : ∀ {l m : List Int}, l.Nodup → (∀ x ∈ l, x ∈ m) → m.length ≤ l.length → l.Perm m
  | [], m, _, _, h => by rw [List.length_eq_zero_iff.mp (Nat.le_zero.mp h)]
  | x :: l, m, hn, hs, h => by
    have hx := hs x List.mem_cons_self
    rw [List.nodup_cons] at hn
    have e := List.length_erase_of_mem hx
    have hp := List.length_pos_of_mem hx
    refine (List.Perm.cons x (perm_of hn.2 (fun y hy => ?_) (by rw [List.length_cons] at h; omega))).trans (List.perm_cons_erase hx).symm
    exact (List.mem_erase_of_ne (fun (e : y = x) => hn.1 (by rw [← e]; exact hy))).mpr (hs y (List.mem_cons_of_mem _ hy))
/-- what has each of so many things once -/
theorem Turn.by_nodup (h1 : ns.Nodup) (h2 : ∀ x ∈ ns, 0 ≤ x ∧ x < ns.length) : Turn ns := by
  exact perm_of h1 (fun x hx => rg_mem.mpr (h2 x hx)) (by rw [rg_len]; exact Nat.le_refl _)
theorem Turn.by_place (h1 : ∀ i j : Int, 0 ≤ i → i < ns.length → 0 ≤ j → j < ns.length → G ns i = G ns j → i = j) (h2 : ∀ i : Int, 0 ≤ i → i < ns.length → 0 ≤ G ns i ∧ G ns i < ns.length) : Turn ns := by
  refine Turn.by_nodup ?_ fun x hx => ?_
  · unfold List.Nodup
    rw [List.pairwise_iff_getElem]
    intro a b ha hb hab e
    have e1 := G_getN ha
    have e2 := G_getN hb
    rw [List.getElem?_eq_getElem ha] at e1
    rw [List.getElem?_eq_getElem hb] at e2
    have := h1 a b (by omega) (by omega) (by omega) (by omega) ((Option.some.inj e1).symm.trans (e.trans (Option.some.inj e2)))
    omega
  · obtain ⟨i, a, b, rfl⟩ := G_ex hx
    exact h2 i a b
theorem srt_rg : srt ns = rg ns.length ↔ Turn ns := ⟨fun h => by unfold Turn; rw [← h]; exact (srt_perm ns).symm, fun h => srt_one ((srt_perm ns).trans h) (srt_le ns) rg_le⟩
def turnB (ns : List Int) : Bool := decide (ns.length ≤ 40) && decide (srt ns = rg ns.length)
theorem turnB_iff : turnB ns = true ↔ ns.length ≤ 40 ∧ Turn ns := by
  unfold turnB
  rw [Bool.and_eq_true, decide_eq_true_eq, decide_eq_true_eq, srt_rg]
end
/-! ### steps of values -/
section
variable {QS : T → List (Option T) → Prop} {XS : Addr → List (Option T) → Prop} {t u : T} {i j a b c d : Int} {ts xs : List T}
theorem r_lst1 {t1 : T} (q : QS (.lst [t1]) [none]) : sLst [t1] QS XS := ⟨(by decide : (1 : Nat) ≤ sizeLine), q⟩
theorem r_tup1 {t1 : T} (q : QS (.tup [t1]) [none]) : sTup [t1] QS XS := ⟨(by decide : (1 : Nat) ≤ sizeLine), q⟩
theorem r_lst2 {t1 t2 : T} (q : QS (.lst [t1, t2]) [none, none]) : sLst [t1, t2] QS XS := ⟨(by decide : (2 : Nat) ≤ sizeLine), q⟩
theorem r_tup2 {t1 t2 : T} (q : QS (.tup [t1, t2]) [none, none]) : sTup [t1, t2] QS XS := ⟨(by decide : (2 : Nat) ≤ sizeLine), q⟩
theorem r_lst3 {t1 t2 t3 : T} (q : QS (.lst [t1, t2, t3]) [none, none, none]) : sLst [t1, t2, t3] QS XS := ⟨(by decide : (3 : Nat) ≤ sizeLine), q⟩
theorem r_tup3 {t1 t2 t3 : T} (q : QS (.tup [t1, t2, t3]) [none, none, none]) : sTup [t1, t2, t3] QS XS := ⟨(by decide : (3 : Nat) ≤ sizeLine), q⟩
theorem r_lst4 {t1 t2 t3 t4 : T} (q : QS (.lst [t1, t2, t3, t4]) [none, none, none, none]) : sLst [t1, t2, t3, t4] QS XS := ⟨(by decide : (4 : Nat) ≤ sizeLine), q⟩
theorem r_atX (h : t.atT i = some u) (q : QS u [some t, some (.int i)]) : sAt [t, .int i] QS XS := ⟨t, i, u, rfl, h, q⟩
theorem r_listX (h : t.kidS = some xs) (q : QS (.lst xs) [some t]) : sList [t] QS XS := ⟨t, xs, rfl, h, q⟩
theorem r_II0 {g : Int → Int → T} (q : QS (g i j) [some (.int i), some (.int j)]) : sII0 g [.int i, .int j] QS XS := ⟨i, j, rfl, q⟩
theorem r_II {C : Int → Int → Prop} {g : Int → Int → T} (h : C i j) (q : QS (g i j) [some (.int i), some (.int j)]) : sII C g [.int i, .int j] QS XS := ⟨i, j, rfl, h, q⟩
theorem r_eqI (q : QS (.bl (decide (i = j))) [some (.int i), some (.int j)]) : sEq [.int i, .int j] QS XS := ⟨_, _, rfl, rfl, rfl, by rw [eqv_int]; exact q⟩
theorem r_neI (q : QS (.bl (!decide (i = j))) [some (.int i), some (.int j)]) : sNe [.int i, .int j] QS XS := ⟨_, _, rfl, rfl, rfl, by rw [eqv_int]; exact q⟩
theorem r_rgL1 (h : i ≤ 16777216 ∧ -(2 ^ 62) ≤ i) (q : QS (.lst (((List.range i.toNat).map Int.ofNat).map T.int)) [some (.int i)]) : sRgL1 [.int i] QS XS := ⟨i, rfl, h.1, h.2, by rw [List.map_map] at q; exact q⟩
theorem at3_any (h0 : 0 ≤ i) (h1 : i < 3) : T.atT (.lst [.int a, .int b, .int c]) i = some (.int (G [a, b, c] i)) := IsL.atG (ns := [a, b, c]) (.inl rfl) (by simpa using h1) h0
theorem at4_any (h0 : 0 ≤ i) (h1 : i < 4) : T.atT (.lst [.int a, .int b, .int c, .int d]) i = some (.int (G [a, b, c, d] i)) := IsL.atG (ns := [a, b, c, d]) (.inl rfl) (by simpa using h1) h0
theorem at2_any (h0 : 0 ≤ i) (h1 : i < 2) : T.atT (.lst [.int a, .int b]) i = some (.int (G [a, b] i)) := IsL.atG (ns := [a, b]) (.inl rfl) (by simpa using h1) h0
theorem at6_any {e f : Int} (h0 : 0 ≤ i) (h1 : i < 6) : T.atT (.lst [.int a, .int b, .int c, .int d, .int e, .int f]) i = some (.int (G [a, b, c, d, e, f] i)) := IsL.atG (ns := [a, b, c, d, e, f]) (.inl rfl) (by simpa using h1) h0
theorem r_cat42 {e f : Int} (q : QS (.lst [.int a, .int b, .int c, .int d, .int e, .int f]) [some (.lst [.int a, .int b, .int c, .int d]), some (.lst [.int e, .int f])]) : sCat [.lst [.int a, .int b, .int c, .int d], .lst [.int e, .int f]] QS XS := ⟨_, _, _, _, rfl, rfl, rfl, (by decide : (6 : Nat) ≤ sizeLine), q⟩
theorem r_lst5 {t1 t2 t3 t4 t5 : T} (q : QS (.lst [t1, t2, t3, t4, t5]) [none, none, none, none, none]) : sLst [t1, t2, t3, t4, t5] QS XS := ⟨(by decide : (5 : Nat) ≤ sizeLine), q⟩
theorem r_lst6 {t1 t2 t3 t4 t5 t6 : T} (q : QS (.lst [t1, t2, t3, t4, t5, t6]) [none, none, none, none, none, none]) : sLst [t1, t2, t3, t4, t5, t6] QS XS := ⟨(by decide : (6 : Nat) ≤ sizeLine), q⟩
theorem r_forV {w : WE} {b : Bool} {wg : WG} {wb : WS} {ev : Ev} {E : EndT} (h : w ev (fun t ev' => ∃ items, t.frz.kids = some items ∧ t.isSeq b = true ∧ ∃ I : Nat → Ev → Prop, I 0 ev' ∧ (∀ k ev, k ≤ items.length → I k ev → True) ∧
    (∀ k ev, k < items.length → I k ev → wg (items.getD k .non) ev (fun ev2 => wb ev2 { nx := I (k + 1), ct := I (k + 1), bk := E.nx, rt := E.rt, xc := E.xc })) ∧ ∀ ev, I items.length ev → E.nx ev) E.xc) : sFor (wList b (.vl w)) wg wb ev E := h
theorem G2 (h0 : 0 ≤ i) (h1 : i < 2) : (i = 0 ∧ G [a, b] i = a) ∨ (i = 1 ∧ G [a, b] i = b) := by
  obtain rfl | rfl : i = 0 ∨ i = 1 := by omega
  · exact .inl ⟨rfl, rfl⟩
  · exact .inr ⟨rfl, rfl⟩
theorem G6 {e f : Int} (h0 : 0 ≤ i) (h1 : i < 6) : (i = 0 ∧ G [a, b, c, d, e, f] i = a) ∨ (i = 1 ∧ G [a, b, c, d, e, f] i = b) ∨ (i = 2 ∧ G [a, b, c, d, e, f] i = c) ∨ (i = 3 ∧ G [a, b, c, d, e, f] i = d) ∨ (i = 4 ∧ G [a, b, c, d, e, f] i = e) ∨ (i = 5 ∧ G [a, b, c, d, e, f] i = f) := by
  obtain rfl | rfl | rfl | rfl | rfl | rfl : i = 0 ∨ i = 1 ∨ i = 2 ∨ i = 3 ∨ i = 4 ∨ i = 5 := by omega
  · exact .inl ⟨rfl, rfl⟩
  · exact .inr (.inl ⟨rfl, rfl⟩)
  · exact .inr (.inr (.inl ⟨rfl, rfl⟩))
  · exact .inr (.inr (.inr (.inl ⟨rfl, rfl⟩)))
  · exact .inr (.inr (.inr (.inr (.inl ⟨rfl, rfl⟩))))
  · exact .inr (.inr (.inr (.inr (.inr ⟨rfl, rfl⟩))))
theorem G3 (h0 : 0 ≤ i) (h1 : i < 3) : (i = 0 ∧ G [a, b, c] i = a) ∨ (i = 1 ∧ G [a, b, c] i = b) ∨ (i = 2 ∧ G [a, b, c] i = c) := by
  obtain rfl | rfl | rfl : i = 0 ∨ i = 1 ∨ i = 2 := by omega
  · exact .inl ⟨rfl, rfl⟩
  · exact .inr (.inl ⟨rfl, rfl⟩)
  · exact .inr (.inr ⟨rfl, rfl⟩)
theorem G4 (h0 : 0 ≤ i) (h1 : i < 4) : (i = 0 ∧ G [a, b, c, d] i = a) ∨ (i = 1 ∧ G [a, b, c, d] i = b) ∨ (i = 2 ∧ G [a, b, c, d] i = c) ∨ (i = 3 ∧ G [a, b, c, d] i = d) := by
  obtain rfl | rfl | rfl | rfl : i = 0 ∨ i = 1 ∨ i = 2 ∨ i = 3 := by omega
  · exact .inl ⟨rfl, rfl⟩
  · exact .inr (.inl ⟨rfl, rfl⟩)
  · exact .inr (.inr (.inl ⟨rfl, rfl⟩))
  · exact .inr (.inr (.inr ⟨rfl, rfl⟩))
end
/-! ### parts of lists by place, sums -/
section
variable {xs ms : List Int} {i : Int} {n k : Nat}
theorem G_take (h0 : 0 ≤ i) (h : i < n) : G (xs.take n) i = G xs i := by
  obtain ⟨k, rfl⟩ := Int.eq_ofNat_of_zero_le h0
  have : k < n := by omega
  unfold G
  rw [List.getD_eq_getElem?_getD, List.getD_eq_getElem?_getD, show (Int.toNat (k : Int)) = k by omega, List.getElem?_take, if_pos this]
theorem G_drop (h0 : 0 ≤ i) : G (xs.drop n) i = G xs (n + i) := by
  obtain ⟨k, rfl⟩ := Int.eq_ofNat_of_zero_le h0
  unfold G
  rw [List.getD_eq_getElem?_getD, List.getD_eq_getElem?_getD, show (Int.toNat (k : Int)) = k by omega, show Int.toNat ((n : Int) + k) = n + k by omega, List.getElem?_drop]
theorem sum_take1 (h : k < xs.length) : (xs.take (k + 1)).sum = (xs.take k).sum + G xs k := by
  rw [List.take_add_one, G_getN h]
  simp [List.sum_append]
theorem sum_pos : ∀ {xs : List Int}, (∀ x ∈ xs, 1 ≤ x) → 0 ≤ xs.sum
  | [], _ => by simp
  | x :: r, h => by
    have a := h x List.mem_cons_self
    have b := sum_pos (xs := r) fun y hy => h y (List.mem_cons_of_mem _ hy)
    rw [List.sum_cons]; omega
theorem sum_take_le (h : ∀ x ∈ xs, 1 ≤ x) (k : Nat) : 0 ≤ (xs.take k).sum ∧ (xs.take k).sum ≤ xs.sum := by
  have a := sum_pos (xs := xs.take k) fun x hx => h x (List.mem_of_mem_take hx)
  have b := sum_pos (xs := xs.drop k) fun x hx => h x (List.mem_of_mem_drop hx)
  have e : xs.sum = (xs.take k).sum + (xs.drop k).sum := by rw [← List.sum_append, List.take_append_drop]
  omega
/-- one step round -/
theorem rot_perm (hl : ms.length = xs.length) (h : ∀ j : Int, 0 ≤ j → j < xs.length → G ms j = G xs ((j + 1) % xs.length)) : ms.Perm xs := by
  cases xs with
  | nil => rw [List.length_eq_zero_iff.mp hl]
  | cons x r =>
    have e : ms = r ++ [x] := G_ext (by rw [hl]; simp) fun i i0 i1 => by
      rw [hl, List.length_cons] at i1
      rw [h i i0 (by rw [List.length_cons]; exact i1)]
      by_cases z : i = r.length
      · rw [z, G_app2 rfl]
        have : ((r.length : Int) + 1) % ((x :: r).length : Nat) = 0 := by rw [List.length_cons]; simp
        rw [this]; rfl
      · rw [G_app1 i0 (by omega)]
        rw [Int.emod_eq_of_lt (by omega) (by rw [List.length_cons]; omega)]
        have := G_drop (xs := x :: r) (n := 1) i0
        rw [show ((1 : Nat) : Int) + i = i + 1 by omega] at this
        rw [← this]; rfl
    rw [e]
    exact List.perm_append_singleton x r
end
theorem p_index {ev : Ev} {a b : Arg} {t : T} {ns : List Int} {y : Int} (n : apart2 a b = true) (ha : PO a ev t) (hb : PO b ev (.int y)) (h : IsL t ns) (hy : y ∈ ns) : Pure (wMeth "list" sIndex a [b]) ev (.int (ns.idxOf y : Nat)) := p_meth n (fun _ _ q => ⟨t, ns, y, rfl, h.kidLS, hy, q⟩) ha hb h.tyN
theorem p_count {ev : Ev} {a b : Arg} {t : T} {ns : List Int} {y : Int} (n : apart2 a b = true) (ha : PO a ev t) (hb : PO b ev (.int y)) (h : IsL t ns) : Pure (wMeth "list" sCount a [b]) ev (.int (ns.count y : Nat)) := p_meth n (fun _ _ q => ⟨t, ns, y, rfl, h.kidLS, q⟩) ha hb h.tyN
theorem lc_map1 {ev : Ev} {x y z : Nat} {t u : T} {o : Option T} {ns ms : List Int} (hx : ev[x]? = some (some t)) (h : IsL t ms) (hz : ev[z]? = some (some u)) (hu : IsL u ns) (hl : ms.length ≤ 16777216) (hm : ∀ m ∈ ms, 0 ≤ m ∧ m < ns.length) (hy : ev[y]? = some o) (ho : shrO o = true) (hxy : (x != y) = true) (hzy : (z != y) = true) :
    Pure (wLc (wList false (.pl x)) (gN y) wYes (wOp sAt [.pl z, .vl (wS y)]) [y]) ev (.lst ((ms.map (G ns)).map T.int)) := fun Q X q => by
  have nx : y ≠ x := fun e => by simp [e] at hxy
  have nz : y ≠ z := fun e => by simp [e] at hzy
  have hl2 := (List.getElem?_eq_some_iff.mp hy).1
  have keep : ∀ k : Nat, k ≠ y → (ev.set y none)[k]? = ev[k]? := fun k e => List.getElem?_set_ne fun e2 => e e2.symm
  refine lc_list hx h.kids h.isSeq (by simp [hy, ho]) (by rw [List.length_map]; exact hl) (fun k acc ev' => acc = ((ms.take k).map (G ns)).map T.int ∧ ev' = ev.set y none) ⟨rfl, rfl⟩ (fun k acc ev' _ e => by rw [e.2, keep x nx.symm]; exact hx) (fun k acc ev' hk e => ?_) (fun acc ev' e => ?_)
  · obtain ⟨rfl, rfl⟩ := e
    rw [List.length_map] at hk
    rw [item_int hk]
    have hl3 : y < (ev.set y none).length := by rw [List.length_set]; exact hl2
    refine ⟨hl3, ?_⟩
    have g : ((ev.set y none).set y (some (.int (G ms k))))[y]? = some (some (.int (G ms k))) := by rw [List.getElem?_set_self hl3]
    have gz : ((ev.set y none).set y (some (.int (G ms k))))[z]? = some (some u) := by rw [List.getElem?_set_ne nz, keep z nz.symm]; exact hz
    obtain ⟨b0, b1⟩ := hm _ (G_mem (ns := ms) (i := k) (by omega) (by omega))
    have p1 : Pure (wOp sAt [.pl z, .vl (wS y)]) ((ev.set y none).set y (some (.int (G ms k)))) (.int (G ns (G ms k))) := p_at rfl (PO.pl gz) (PO.vl (Pure.s g rfl)) (hu.atG b1 b0)
    refine PureT.yes _ _ ?_
    rw [if_pos rfl]
    refine p1 _ _ ⟨?_, ?_⟩
    · rw [List.take_add_one, G_getN hk, List.map_append, List.map_append]; rfl
    · show (((ev.set y none).set y _).set y none) = _
      rw [List.set_set, List.set_set]
  · obtain ⟨rfl, rfl⟩ := e
    show Q _ ((ev.set y none).set y (ev[y]?).join)
    rw [List.length_map, List.take_length, List.set_set, hy]
    obtain ⟨h1, h2⟩ := List.getElem?_eq_some_iff.mp hy
    show Q _ (ev.set y o)
    rw [← h2, List.set_getElem_self]; exact q
section
variable {ev : Ev} {a b : WE} {x y : Bool} {Q : T → Ev → Prop} {X : XP} {t u : T}
theorem p_andV (h : Pure a ev (.bl x)) (k : x = true → Pure b ev (.bl y)) : Pure (wAndV a b) ev (.bl (x && y)) := fun Q X q => h _ _ ⟨x, rfl, by
  cases x with
  | true => rw [if_pos rfl]; exact k rfl _ _ q
  | false => rw [if_neg Bool.false_ne_true]; exact q⟩
theorem p_orV (h : Pure a ev (.bl x)) (k : x = false → Pure b ev (.bl y)) : Pure (wOrV a b) ev (.bl (x || y)) := fun Q X q => h _ _ ⟨x, rfl, by
  cases x with
  | false => rw [if_neg Bool.false_ne_true]; exact k rfl _ _ q
  | true => rw [if_pos rfl]; exact q⟩
theorem p_notV (h : Pure a ev (.bl x)) : Pure (wNotV a) ev (.bl (!x)) := fun Q X q => h _ _ ⟨x, rfl, q⟩
theorem p_fzL {xs : List T} (h : Pure a ev (.lst xs)) : Pure (wFz a) ev (.fz (.lst xs)) := fun Q X q => h _ _ q
theorem r_fz (h : a ev (fun t ev' => Q t.frz ev') X) : wFz a ev Q X := h
theorem r_VL {k : Nat} {xs : List T} (h : ev[k]? = some (some (.lst xs))) (q : Q (.fz (.lst xs)) (ev.set k (some (.fz (.lst xs))))) : wV k ev Q X := ⟨_, h, q⟩
theorem r_andV (h : a ev (fun t ev1 => ∃ c, t = .bl c ∧ if c = true then b ev1 Q X else Q (.bl false) ev1) X) : wAndV a b ev Q X := h
theorem r_orV (h : a ev (fun t ev1 => ∃ c, t = .bl c ∧ if c = true then Q (.bl true) ev1 else b ev1 Q X) X) : wOrV a b ev Q X := h
theorem r_notV (h : a ev (fun t ev1 => ∃ c, t = .bl c ∧ Q (.bl (!c)) ev1) X) : wNotV a ev Q X := h
theorem r_par {i j : Nat} {as : List Arg} {E : EndT} (h : wArgs as ev (fun av ev1 => ∃ t u, av = [.vl t, .vl u] ∧ t.shr = true ∧ u.shr = true ∧ i < ev1.length ∧ j < ev1.length ∧ E.nx ((ev1.set i (some t)).set j (some u))) E.xc) : sPar i j as ev E := h
theorem r_par2 {i j : Nat} {P : T → T → Prop} (ht : t.shr = true) (hu : u.shr = true) (hi : Nat.blt i ev.length = true) (hj : Nat.blt j ev.length = true) (q : P t u) : ∃ t' u', [ArgV.vl t, .vl u] = [.vl t', .vl u'] ∧ t'.shr = true ∧ u'.shr = true ∧ i < ev.length ∧ j < ev.length ∧ P t' u' := ⟨t, u, rfl, ht, hu, Nat.blt_eq ▸ hi, Nat.blt_eq ▸ hj, q⟩
theorem p_mulS {a b : Arg} {i j : Int} (n : apart2 a b = true) (ha : PO a ev (.int i)) (hb : PO b ev (.int j)) (c : CMul i j) : Pure (wOp sMulS [a, b]) ev (.int (i * j)) := op2 n (fun _ _ q => ⟨i, j, rfl, c, q⟩) ha hb
end
/-! ### lists of lists of whole numbers -/
def IsLs : List T → List (List Int) → Prop
  | [], [] => True
  | t :: ts, n :: ns => IsL t n ∧ IsLs ts ns
  | _, _ => False
def IsLL (t : T) (nss : List (List Int)) : Prop := ∃ ts, (t = .lst ts ∨ t = .fz (.lst ts)) ∧ IsLs ts nss
theorem IsLs.len : ∀ {ts : List T} {nss : List (List Int)}, IsLs ts nss → ts.length = nss.length
  | [], [], _ => rfl
  | t :: ts, n :: ns, h => by rw [List.length_cons, List.length_cons, IsLs.len (ts := ts) (nss := ns) h.2]
theorem IsLs.app : ∀ {ts us : List T} {nss mss : List (List Int)}, IsLs ts nss → IsLs us mss → IsLs (ts ++ us) (nss ++ mss)
  | [], us, [], mss, _, h => h
  | t :: ts, us, n :: ns, mss, h, k => ⟨h.1, IsLs.app (ts := ts) (nss := ns) h.2 k⟩
theorem IsLs.snoc {ts : List T} {t : T} {nss : List (List Int)} {ns : List Int} (h : IsLs ts nss) (k : IsL t ns) : IsLs (ts ++ [t]) (nss ++ [ns]) := h.app (us := [t]) (mss := [ns]) ⟨k, trivial⟩
theorem IsLs.get : ∀ {ts : List T} {nss : List (List Int)} {k : Nat}, IsLs ts nss → k < nss.length → ∃ t, ts[k]? = some t ∧ IsL t (nss.getD k [])
  | [], [], k, _, h => absurd h (Nat.not_lt_zero _)
  | t :: ts, n :: ns, 0, h, _ => ⟨t, rfl, h.1⟩
  | t :: ts, n :: ns, k + 1, h, hk => IsLs.get (ts := ts) (nss := ns) (k := k) h.2 (Nat.lt_of_succ_lt_succ hk)
theorem IsLs.frz : ∀ {ts : List T} {nss : List (List Int)}, IsLs ts nss → IsLs (ts.map T.frz) nss
  | [], [], _ => trivial
  | t :: ts, n :: ns, h => ⟨h.1.frz, IsLs.frz (ts := ts) (nss := ns) h.2⟩
theorem IsLs.own : ∀ nss : List (List Int), IsLs (nss.map fun ns => .lst (ns.map T.int)) nss
  | [] => trivial
  | n :: ns => ⟨.inl rfl, IsLs.own ns⟩
theorem IsLs.Ds : ∀ {ts : List T} {nss : List (List Int)}, IsLs ts nss → T.Ds ts = nss.map fun ns => PyData.list (ns.map PyData.int)
  | [], [], _ => rfl
  | t :: ts, n :: ns, h => by rw [T.Ds, h.1.D, IsLs.Ds (ts := ts) (nss := ns) h.2]; rfl
def dLL (nss : List (List Int)) : PyData := .list (nss.map fun ns => PyData.list (ns.map PyData.int))
theorem canLay_LL : ∀ nss : List (List Int), PyData.canLayAll0 (nss.map fun ns => PyData.list (ns.map PyData.int)) = true
  | [] => by simp [PyData.canLayAll0]
  | n :: r => by simp [PyData.canLayAll0, PyData.canLay0, PySem.W.canLayAll0_ints, canLay_LL r]
theorem depth_LL : ∀ nss : List (List Int), PyData.depthAll (nss.map fun ns => PyData.list (ns.map PyData.int)) ≤ 2
  | [] => by simp [PyData.depthAll]
  | n :: r => by
    have := depth_LL r
    have := PySem.W.depthAll_ints n
    simp only [List.map_cons, PyData.depthAll, PyData.depth]
    omega
theorem shaped_LL (nss : List (List Int)) : SeqAt.shaped (dLL nss) = true := by
  have h1 := depth_LL nss
  have h2 : PyData.depth (dLL nss) ≤ 64 := by unfold dLL; simp only [PyData.depth]; omega
  show (PyData.canLay0 (dLL nss) && decide (PyData.depth (dLL nss) ≤ 64)) = true
  rw [Bool.and_eq_true]
  exact ⟨by unfold dLL; simp only [PyData.canLay0]; exact canLay_LL nss, decide_eq_true h2⟩
theorem eqvAll_LL : ∀ nss mss : List (List Int), PyData.eqvAll (nss.map fun ns => PyData.list (ns.map PyData.int)) (mss.map fun ns => PyData.list (ns.map PyData.int)) = decide (nss = mss)
  | [], [] => by simp [PyData.eqvAll]
  | [], _ :: _ => by simp [PyData.eqvAll]
  | _ :: _, [] => by simp [PyData.eqvAll]
  | n :: r, k :: q => by
    simp only [List.map_cons, PyData.eqvAll, PyData.eqv, eqvAll_LL r q, eqvAll_ints]
    by_cases h : n = k <;> simp [h]
section
variable {t u : T} {nss mss : List (List Int)} {ev : Ev} {a b : Arg}
theorem IsLL.D (h : IsLL t nss) : t.D = dLL nss := by
  obtain ⟨ts, rfl | rfl, h⟩ := h
  · rw [T.D, h.Ds]; rfl
  · rw [D_fz, T.D, h.Ds]; rfl
theorem IsLL.shaped (h : IsLL t nss) : SeqAt.shaped t.D = true := by rw [h.D]; exact shaped_LL nss
theorem IsLL.eqv (h : IsLL t nss) (k : IsLL u mss) : PyData.eqv t.D u.D = decide (nss = mss) := by
  rw [h.D, k.D]
  show PyData.eqv (.list _) (.list _) = _
  unfold PyData.eqv
  exact eqvAll_LL nss mss
theorem IsLL.frz (h : IsLL t nss) : IsLL t.frz nss := by
  obtain ⟨ts, rfl | rfl, h⟩ := h
  · exact ⟨ts, .inr rfl, h⟩
  · exact ⟨ts, .inr rfl, h⟩
theorem IsLL.frz_eq (h : IsLL t nss) : ∃ ts, t.frz = .fz (.lst ts) ∧ IsLs ts nss := by
  obtain ⟨ts, rfl | rfl, h⟩ := h
  · exact ⟨ts, rfl, h⟩
  · exact ⟨ts, rfl, h⟩
theorem IsLL.len (h : IsLL t nss) : t.len = some nss.length := by
  obtain ⟨ts, rfl | rfl, h⟩ := h
  · exact congrArg some h.len
  · exact congrArg some h.len
theorem IsLL.isSeq (h : IsLL t nss) : t.isSeq false = true := by obtain ⟨ts, rfl | rfl, h⟩ := h <;> rfl
theorem IsLL.pyTy (h : IsLL t nss) : t.pyTy = some "list" := by obtain ⟨ts, rfl | rfl, h⟩ := h <;> rfl
theorem IsLL.tyN (h : IsLL t nss) : t.tyN = "list" := by obtain ⟨ts, rfl | rfl, h⟩ := h <;> rfl
theorem IsLL.own : IsLL (.lst (nss.map fun ns => .lst (ns.map T.int))) nss := ⟨_, .inl rfl, IsLs.own nss⟩
theorem IsLL.nil : IsLL (.lst []) [] := ⟨[], .inl rfl, trivial⟩
theorem IsLL.one {t1 : T} {n1 : List Int} (h1 : IsL t1 n1) : IsLL (.lst [t1]) [n1] := ⟨_, .inl rfl, h1, trivial⟩
theorem IsLL.two {t1 t2 : T} {n1 n2 : List Int} (h1 : IsL t1 n1) (h2 : IsL t2 n2) : IsLL (.lst [t1, t2]) [n1, n2] := ⟨_, .inl rfl, h1, h2, trivial⟩
/-- a frozen one's items -/
theorem fz_kids {ts : List T} : T.kids (.fz (.lst ts)) = some (ts.map T.frz) := rfl
theorem fz_at {ts : List T} {i : Int} (h : IsLs ts nss) (h0 : 0 ≤ i) (h1 : i < nss.length) : ∃ u, T.atT (.fz (.lst ts)) i = some u ∧ IsL u (nss.getD i.toNat []) := by
  obtain ⟨t, e, ht⟩ := h.get (k := i.toNat) (by omega)
  refine ⟨t.frz, ?_, ht.frz⟩
  show (_root_.L2.atI ts i).map T.frz = _
  rw [atI_ok h0 e]; rfl
theorem p_eqLL (n : apart2 a b = true) (ha : PO a ev t) (hb : PO b ev u) (h1 : IsLL t nss) (h2 : IsLL u mss) : Pure (wOp sEq [a, b]) ev (.bl (decide (nss = mss))) := op2 n (fun _ _ q => ⟨_, _, rfl, h1.shaped, h2.shaped, by rw [h1.eqv h2]; exact q⟩) ha hb
theorem p_neLL (n : apart2 a b = true) (ha : PO a ev t) (hb : PO b ev u) (h1 : IsLL t nss) (h2 : IsLL u mss) : Pure (wOp sNe [a, b]) ev (.bl (!decide (nss = mss))) := op2 n (fun _ _ q => ⟨_, _, rfl, h1.shaped, h2.shaped, by rw [h1.eqv h2]; exact q⟩) ha hb
variable {QS : T → List (Option T) → Prop} {XS : Addr → List (Option T) → Prop} {ns ms : List Int}
theorem r_eqL (h1 : IsL t ns) (h2 : IsL u ms) (q : QS (.bl (decide (ns = ms))) [some t, some u]) : sEq [t, u] QS XS := ⟨_, _, rfl, h1.shaped, h2.shaped, by rw [h1.eqv h2]; exact q⟩
theorem r_neL (h1 : IsL t ns) (h2 : IsL u ms) (q : QS (.bl (!decide (ns = ms))) [some t, some u]) : sNe [t, u] QS XS := ⟨_, _, rfl, h1.shaped, h2.shaped, by rw [h1.eqv h2]; exact q⟩
theorem r_eqLL (h1 : IsLL t nss) (h2 : IsLL u mss) (q : QS (.bl (decide (nss = mss))) [some t, some u]) : sEq [t, u] QS XS := ⟨_, _, rfl, h1.shaped, h2.shaped, by rw [h1.eqv h2]; exact q⟩
theorem r_neLL (h1 : IsLL t nss) (h2 : IsLL u mss) (q : QS (.bl (!decide (nss = mss))) [some t, some u]) : sNe [t, u] QS XS := ⟨_, _, rfl, h1.shaped, h2.shaped, by rw [h1.eqv h2]; exact q⟩
end
/-! ### lists of anything that can be compared -/
def OkD (t : T) : Prop := t.D.canLay0 = true ∧ t.D.depth ≤ 60 ∧ t.shr = true
theorem OkD.int {i : Int} : OkD (.int i) := ⟨by rw [D_int]; simp [PyData.canLay0], by rw [D_int]; simp [PyData.depth], rfl⟩
theorem IsL.okD {t : T} {ns : List Int} (h : IsL t ns) (hs : t.shr = true) : OkD t := by
  refine ⟨by rw [h.D]; simp only [PyData.canLay0]; exact PySem.W.canLayAll0_ints ns, ?_, hs⟩
  rw [h.D]
  have := PySem.W.depthAll_ints ns
  simp only [PyData.depth]; omega
theorem okDs : ∀ {xs : List T}, (∀ x ∈ xs, OkD x) → PyData.canLayAll0 (T.Ds xs) = true ∧ PyData.depthAll (T.Ds xs) ≤ 60
  | [], _ => ⟨by simp [T.Ds, PyData.canLayAll0], by simp [T.Ds, PyData.depthAll]⟩
  | x :: r, h => by
    have a := h x List.mem_cons_self
    have b := okDs (xs := r) fun y hy => h y (List.mem_cons_of_mem _ hy)
    constructor
    · simp [T.Ds, PyData.canLayAll0, a.1, b.1]
    · have := a.2.1
      have := b.2
      simp only [T.Ds, PyData.depthAll]; omega
theorem shaped_okD {xs : List T} (h : ∀ x ∈ xs, OkD x) : SeqAt.shaped (T.D (.lst xs)) = true := by
  have ⟨a, b⟩ := okDs h
  rw [T.D]
  show (PyData.canLay0 (.list (T.Ds xs)) && decide (PyData.depth (.list (T.Ds xs)) ≤ 64)) = true
  rw [Bool.and_eq_true]
  exact ⟨by simp only [PyData.canLay0]; exact a, decide_eq_true (by simp only [PyData.depth]; omega)⟩
theorem eqv_empty {xs : List T} : PyData.eqv (T.D (.lst xs)) (T.D (.lst [])) = xs.isEmpty := by
  rw [T.D, T.D]
  cases xs with
  | nil => simp [T.Ds, PyData.eqv, PyData.eqvAll]
  | cons x r => simp [T.Ds, PyData.eqv, PyData.eqvAll]
theorem p_neE {ev : Ev} {a b : Arg} {xs : List T} (n : apart2 a b = true) (ha : PO a ev (.lst xs)) (hb : PO b ev (.lst [])) (h : ∀ x ∈ xs, OkD x) : Pure (wOp sNe [a, b]) ev (.bl (!xs.isEmpty)) := op2 n (fun _ _ q => ⟨_, _, rfl, shaped_okD h, rfl, by rw [eqv_empty]; exact q⟩) ha hb
theorem r_popAtT {xs : List T} {i : Int} {QS : T → List (Option T) → Prop} {XS : Addr → List (Option T) → Prop} (h0 : 0 ≤ i) (h1 : i < xs.length) (h2 : xs.length ≤ 16777216) (q : QS (xs.getD i.toNat .non) [some (.lst (xs.eraseIdx i.toNat)), none]) : sPopAt [.lst xs, .int i] QS XS :=
  ⟨_, i, i.toNat, _, rfl, by omega, by omega, seqIx_ok h0 h1, by
    have : i.toNat < xs.length := by omega
    rw [List.getD_eq_getElem?_getD, List.getElem?_eq_getElem this]; rfl, q⟩
theorem erase_permT : ∀ {xs : List T} {i : Nat} {y : T}, xs[i]? = some y → (y :: xs.eraseIdx i).Perm xs
  | [], i, y, h => by simp at h
  | x :: r, 0, y, h => by rw [show y = x from (Option.some.inj h).symm]; exact .refl _
  | x :: r, i + 1, y, h => (List.Perm.swap x y _).trans (List.Perm.cons x (erase_permT (xs := r) (i := i) h))
theorem perm_popT {xs : List T} {i : Int} (h0 : 0 ≤ i) (h1 : i < xs.length) : xs.Perm (xs.getD i.toNat .non :: xs.eraseIdx i.toNat) := by
  have : i.toNat < xs.length := by omega
  exact (erase_permT (by rw [List.getD_eq_getElem?_getD, List.getElem?_eq_getElem this]; rfl)).symm
theorem perm_ints {ms : List T} {ns : List Int} (h : ms.Perm (ns.map T.int)) : ∃ ns' : List Int, ms = ns'.map T.int ∧ ns'.Perm ns := by
  have hm : ∀ t ∈ ms, ∃ i, t = T.int i := fun t ht => by
    obtain ⟨i, _, e⟩ := List.mem_map.mp (h.subset ht)
    exact ⟨i, e.symm⟩
  have e : ms = (ms.map fun t => match t with | .int i => i | _ => 0).map T.int := by
    rw [List.map_map]
    have := List.map_congr_left (l := ms) (f := T.int ∘ fun t => match t with | .int i => i | _ => 0) (g := id) fun t ht => by
      obtain ⟨i, rfl⟩ := hm t ht
      rfl
    rw [this, List.map_id]
  refine ⟨_, e, ?_⟩
  have := h.map fun t => match t with | .int i => i | _ => 0
  rwa [List.map_map, show ((fun t => match t with | T.int i => i | _ => 0) ∘ T.int) = id from rfl, List.map_id] at this
theorem IsLs.perm {xs ms : List T} (h : ms.Perm xs) : ∀ {nss : List (List Int)}, IsLs xs nss → ∃ mss : List (List Int), mss.Perm nss ∧ IsLs ms mss := by
  induction h with
  | nil => exact fun {nss} k => ⟨nss, .refl _, k⟩
  | cons x _ ih =>
    intro nss k
    cases nss with
    | nil => exact k.elim
    | cons n r =>
      obtain ⟨mss, a, b⟩ := ih k.2
      exact ⟨n :: mss, a.cons n, k.1, b⟩
  | swap x y l =>
    intro nss k
    cases nss with
    | nil => exact k.elim
    | cons n r =>
      cases r with
      | nil => exact k.2.elim
      | cons m r => exact ⟨m :: n :: r, List.Perm.swap _ _ _, k.2.1, k.1, k.2.2⟩
  | trans _ _ ih1 ih2 =>
    intro nss k
    obtain ⟨mss, a, b⟩ := ih2 k
    obtain ⟨lss, c, d⟩ := ih1 b
    exact ⟨lss, c.trans a, d⟩
/-! ### slices, extend, zip -/
theorem cutLo_int {ns : List Int} {i : Int} (h0 : 0 ≤ i) : cut (ns.map T.int) (some i) none = (ns.drop i.toNat).map T.int := by
  obtain ⟨k, rfl⟩ := Int.eq_ofNat_of_zero_le h0
  unfold cut
  rw [HT.sIx_nat, HT.sIx_none, List.length_map, ← List.map_drop, ← List.map_take]
  congr 1
  by_cases q : k ≤ ns.length
  · rw [Nat.min_eq_left q, List.take_of_length_le (by rw [List.length_drop]; exact Nat.le_refl _)]; rfl
  · rw [Nat.min_eq_right (by omega), List.drop_of_length_le (Nat.le_refl _), List.drop_of_length_le (by show ns.length ≤ Int.toNat (k : Int); omega)]
    simp
theorem cutHi_int {ns : List Int} {i : Int} (h0 : 0 ≤ i) : cut (ns.map T.int) none (some i) = (ns.take i.toNat).map T.int := by
  obtain ⟨k, rfl⟩ := Int.eq_ofNat_of_zero_le h0
  unfold cut
  rw [HT.sIx_nat, HT.sIx_none, List.length_map, Nat.sub_zero, List.drop_zero, ← List.map_take]
  congr 1
  by_cases q : k ≤ ns.length
  · rw [Nat.min_eq_left q]; rfl
  · rw [Nat.min_eq_right (by omega), List.take_of_length_le (Nat.le_refl _), List.take_of_length_le (by show ns.length ≤ Int.toNat (k : Int); omega)]
theorem p_cutLoI {ev : Ev} {a b : Arg} {t : T} {ns : List Int} {i : Int} (n : apart2 a b = true) (ha : PO a ev t) (hb : PO b ev (.int i)) (h : IsL t ns) (h0 : 0 ≤ i) : Pure (wOp sCutLo [a, b]) ev (.lst ((ns.drop i.toNat).map T.int)) := (p_cutLo n ha hb h.kidLS).cast (by rw [cutLo_int h0])
theorem p_cutHiI {ev : Ev} {a b : Arg} {t : T} {ns : List Int} {i : Int} (n : apart2 a b = true) (ha : PO a ev t) (hb : PO b ev (.int i)) (h : IsL t ns) (h0 : 0 ≤ i) : Pure (wOp sCutHi [a, b]) ev (.lst ((ns.take i.toNat).map T.int)) := (p_cutHi n ha hb h.kidLS).cast (by rw [cutHi_int h0])
theorem IsL.movL {t : T} {ns : List Int} (h : IsL t ns) : t.movL = some (ns.map T.int) := by
  rcases h with rfl | rfl
  · rfl
  · show some ((ns.map T.int).map T.frz) = _
    rw [frz_ints]
theorem r_extendI {xs ms : List Int} {y : T} {QS : T → List (Option T) → Prop} {XS : Addr → List (Option T) → Prop} (h : IsL y ms) (hl : xs.length + ms.length ≤ 16777216) (q : QS .non [some (.lst ((xs ++ ms).map T.int)), none]) : sExtend [.lst (xs.map T.int), y] QS XS :=
  ⟨_, _, _, rfl, h.movL, by rw [List.length_map, List.length_map]; exact hl, by rw [List.map_append] at q; exact q⟩
theorem for_zipI {x : Nat} {w : WE} {wg : WG} {wb : WS} {ev : Ev} {E : EndT} {t u : T} {ns ms : List Int} (hx : ev[x]? = some (some t)) (h : IsL t ns) (hp : Pure w ev u) (hu : IsL u ms) (I : Nat → Ev → Prop) (h0 : I 0 ev) (hst : ∀ k ev, k ≤ min ns.length ms.length → I k ev → ev[x]? = some (some t))
    (hs : ∀ k ev, k < min ns.length ms.length → I k ev → wg (.tup [.int (G ns k), .int (G ms k)]) ev (fun ev2 => wb ev2 { nx := I (k + 1), ct := I (k + 1), bk := E.nx, rt := E.rt, xc := E.xc })) (he : ∀ ev, I (min ns.length ms.length) ev → E.nx ev) : sFor (wZip (.pl x) (.vl w)) wg wb ev E := by
  refine ⟨t, _, hx, h.kids, h.isSeq, hp _ _ ⟨_, hu.frz.kids, hu.isSeq, hx, I, h0, fun k ev' hk hI => ⟨?_, trivial⟩, fun k ev' hk hI => ?_, fun ev' hI => ?_⟩⟩
  · have hk' : k ≤ min (ns.map T.int).length (ms.map T.int).length := hk
    rw [List.length_map, List.length_map] at hk'
    exact hst k ev' hk' hI
  · have hk' : k < min (ns.map T.int).length (ms.map T.int).length := hk
    rw [List.length_map, List.length_map] at hk'
    show wg (.tup [(ns.map T.int).getD k .non, (ms.map T.int).getD k .non]) ev' _
    rw [item_int (by omega), item_int (by omega)]
    exact hs k ev' hk' hI
  · have hI' : I (min (ns.map T.int).length (ms.map T.int).length) ev' := hI
    rw [List.length_map, List.length_map] at hI'
    exact he ev' hI'
theorem r_lcV {w : WE} {b : Bool} {wg : WG} {wt : WT} {we : WE} {own : List Nat} {ev : Ev} {Q : T → Ev → Prop} {X : XP} (h : w ev (fun t ev1 => ∃ items, t.frz.kids = some items ∧ t.isSeq b = true ∧ (own.all fun i => shrO (ev1[i]?).join) = true ∧ items.length ≤ sizeLine ∧ ∃ I : Nat → List T → Ev → Prop, I 0 [] (wipeE ev1 own) ∧ (∀ k acc ev, k ≤ items.length → I k acc ev → True) ∧
    (∀ k acc ev, k < items.length → I k acc ev → wg (items.getD k .non) ev (fun ev2 => wt ev2 (fun b ev3 => if b = true then we ev3 (fun y ev4 => I (k + 1) (acc ++ [y]) (wipeE ev4 own)) noX else I (k + 1) acc (wipeE ev3 own)) noX)) ∧
    ∀ acc ev', I items.length acc ev' → Q (.lst acc) (restE ev1 own ev')) X) : wLc (wList b (.vl w)) wg wt we own ev Q X := h
/-! ### sorted and turned about; displays; comprehensions over whole numbers -/
theorem rsrt_ge (ns : List Int) : (srt ns).reverse.Pairwise (· ≥ ·) := by rw [List.pairwise_reverse]; exact srt_le ns
theorem p_sortR {ev : Ev} {a : Arg} {t : T} {ns : List Int} (ha : PO a ev t) (h : IsL t ns) : Pure (wOp sSortR [a]) ev (.lst ((srt ns).reverse.map T.int)) := op1 ha fun _ _ q => ⟨t, ns, rfl, h.kidLS, fun ns' h1 h2 => by
  have e : ns'.reverse = srt ns := srt_one ((List.reverse_perm ns').trans (h1.trans (srt_perm ns).symm)) (by rw [List.pairwise_reverse]; exact h2) (srt_le ns)
  rw [← e, List.reverse_reverse] at q; exact q⟩
theorem p_revI {ev : Ev} {a : Arg} {t : T} {ns : List Int} (ha : PO a ev t) (h : IsL t ns) : Pure (wOp sRev [a]) ev (.lst (ns.reverse.map T.int)) := (p_rev ha h.kidLS).cast (by rw [List.map_reverse])
section
variable {QS : T → List (Option T) → Prop} {XS : Addr → List (Option T) → Prop} {t : T} {ns : List Int} {n : Nat}
theorem r_lenX (h : t.len = some n) (q : QS (.int n) [some t]) : sLen [t] QS XS := ⟨t, n, rfl, h, q⟩
theorem r_sortIX (h : IsL t ns) (q : QS (.lst ((srt ns).map T.int)) [some t]) : sSortI [t] QS XS := ⟨t, ns, rfl, h.kidLS, fun ns' h1 h2 => by rw [srt_one (h1.trans (srt_perm ns).symm) h2 (srt_le ns)]; exact q⟩
theorem r_sortRX (h : IsL t ns) (q : QS (.lst ((srt ns).reverse.map T.int)) [some t]) : sSortR [t] QS XS := ⟨t, ns, rfl, h.kidLS, fun ns' h1 h2 => by
  have e : ns'.reverse = srt ns := srt_one ((List.reverse_perm ns').trans (h1.trans (srt_perm ns).symm)) (by rw [List.pairwise_reverse]; exact h2) (srt_le ns)
  rw [← e, List.reverse_reverse] at q; exact q⟩
theorem r_revX (h : IsL t ns) (q : QS (.lst (ns.reverse.map T.int)) [some t]) : sRev [t] QS XS := ⟨t, _, rfl, h.kidLS, by rw [List.map_reverse] at q; exact q⟩
end
def PAs : List Arg → Ev → List T → Prop
  | [], _, ts => ts = []
  | .vl w :: r, ev, ts => ∃ t ts', ts = t :: ts' ∧ Pure w ev t ∧ PAs r ev ts'
  | .pl _ :: _, _, _ => False
theorem PAs.nil {ev : Ev} : PAs [] ev [] := rfl
theorem PAs.cons {ev : Ev} {w : WE} {r : List Arg} {t : T} {ts : List T} (h : Pure w ev t) (k : PAs r ev ts) : PAs (.vl w :: r) ev (t :: ts) := ⟨t, ts, rfl, h, k⟩
theorem PAs.args : ∀ {r : List Arg} {ev : Ev} {ts : List T} {Q : List ArgV → Ev → Prop} {X : XP}, PAs r ev ts → Q (ts.map ArgV.vl) ev → wArgs r ev Q X
  | [], ev, ts, Q, X, h, q => by rw [show ts = [] from h] at q; exact q
  | .vl w :: r, ev, ts, Q, X, ⟨t, ts', e, hw, h⟩, q => by
    subst e
    exact hw _ _ (PAs.args (r := r) h q)
  | .pl _ :: _, _, _, _, _, h, _ => h.elim
theorem take_vls {ev : Ev} : ∀ ts : List T, takeA (ts.map ArgV.vl) ev = some (ts, ev)
  | [] => rfl
  | t :: ts => by rw [List.map_cons, x_takeV, take_vls ts]; rfl
theorem give_vls {ev : Ev} : ∀ {ts : List T} {us : List (Option T)}, giveA (ts.map ArgV.vl) us ev = ev
  | [], us => by cases us <;> rfl
  | t :: ts, [] => rfl
  | t :: ts, u :: us => give_vls (ts := ts) (us := us)
theorem p_lstN {ev : Ev} {r : List Arg} {ts : List T} (h : PAs r ev ts) (hl : Nat.ble ts.length 1000 = true) : Pure (wOp sLst r) ev (.lst ts) := fun Q X q => h.args ⟨ts, ev, take_vls ts, Nat.le_trans (Nat.le_of_ble_eq_true hl) (by decide : 1000 ≤ sizeLine), by show Q (.lst ts) (giveA (ts.map ArgV.vl) _ ev); rw [give_vls]; exact q⟩
section
variable {ev : Ev} {x y : Nat} {t : T} {o : Option T} {ms : List Int} {wt : WT} {we : WE} {p : Int → Bool} {f : Int → T}
theorem lc_gen (hx : ev[x]? = some (some t)) (h : IsL t ms) (hl : ms.length ≤ 16777216) (hy : ev[y]? = some o) (ho : shrO o = true) (hxy : (x != y) = true)
    (ht : ∀ m ∈ ms, PureT wt (ev.set y (some (.int m))) (p m)) (he : ∀ m ∈ ms, p m = true → Pure we (ev.set y (some (.int m))) (f m)) : Pure (wLc (wList false (.pl x)) (gN y) wt we [y]) ev (.lst ((ms.filter p).map f)) := fun Q X q => by
  have nx : y ≠ x := fun e => by simp [e] at hxy
  have hl2 := (List.getElem?_eq_some_iff.mp hy).1
  refine lc_list hx h.kids h.isSeq (by simp [hy, ho]) (by rw [List.length_map]; exact hl) (fun k acc ev' => acc = ((ms.take k).filter p).map f ∧ ev' = ev.set y none) ⟨rfl, rfl⟩ (fun k acc ev' _ e => by rw [e.2, List.getElem?_set_ne nx]; exact hx) (fun k acc ev' hk e => ?_) (fun acc ev' e => ?_)
  · obtain ⟨rfl, rfl⟩ := e
    rw [List.length_map] at hk
    rw [item_int hk]
    have hl3 : y < (ev.set y none).length := by rw [List.length_set]; exact hl2
    refine ⟨hl3, ?_⟩
    have hm : G ms k ∈ ms := G_mem (by omega) (by omega)
    rw [List.set_set]
    refine ht _ hm _ _ ?_
    have htk : ms.take (k + 1) = ms.take k ++ [G ms k] := by rw [List.take_add_one, G_getN hk]; rfl
    have hw : wipeE (ev.set y (some (.int (G ms k)))) [y] = ev.set y none := by show (ev.set y _).set y none = _; rw [List.set_set]
    cases hp : p (G ms k) with
    | true =>
      rw [if_pos rfl]
      refine he _ hm hp _ _ ⟨?_, hw⟩
      rw [htk, List.filter_append, List.filter_cons_of_pos hp, List.map_append]; rfl
    | false =>
      rw [if_neg Bool.false_ne_true]
      refine ⟨?_, hw⟩
      rw [htk, List.filter_append, List.filter_cons_of_neg (by rw [hp]; exact Bool.false_ne_true), List.filter_nil, List.append_nil]
  · obtain ⟨rfl, rfl⟩ := e
    show Q _ ((ev.set y none).set y (ev[y]?).join)
    rw [List.length_map, List.take_length, List.set_set, hy]
    obtain ⟨h1, h2⟩ := List.getElem?_eq_some_iff.mp hy
    show Q _ (ev.set y o)
    rw [← h2, List.set_getElem_self]; exact q
/-- over a range -/
theorem lc_genR {w : WE} {n : Int} (hw : Pure w ev (.int n)) (hl : -(2 ^ 62) ≤ n ∧ n ≤ 16777216) (hy : ev[y]? = some o) (ho : shrO o = true)
    (ht : ∀ m ∈ rg n.toNat, PureT wt (ev.set y (some (.int m))) (p m)) (he : ∀ m ∈ rg n.toNat, p m = true → Pure we (ev.set y (some (.int m))) (f m)) : Pure (wLc (wRng1 (.vl w)) (gN y) wt we [y]) ev (.lst (((rg n.toNat).filter p).map f)) := fun Q X q => by
  have hl2 := (List.getElem?_eq_some_iff.mp hy).1
  refine lc_rng1 (n := n) (PO.vl hw) ⟨hl.1, by show n.toNat ≤ 16777216; omega, by omega⟩ (by simp [hy, ho]) (fun k acc ev' => acc = (((rg n.toNat).take k).filter p).map f ∧ ev' = ev.set y none) ⟨rfl, rfl⟩ (fun k acc ev' hk e => ?_) (fun acc ev' e => ?_)
  · obtain ⟨rfl, rfl⟩ := e
    have hl3 : y < (ev.set y none).length := by rw [List.length_set]; exact hl2
    refine ⟨hl3, ?_⟩
    have hm : (k : Int) ∈ rg n.toNat := rg_mem.mpr ⟨by omega, by omega⟩
    rw [List.set_set]
    refine ht _ hm _ _ ?_
    have htk : (rg n.toNat).take (k + 1) = (rg n.toNat).take k ++ [(k : Int)] := by
      rw [List.take_add_one, show (rg n.toNat)[k]? = some (k : Int) by rw [G_getN (by rw [rg_len]; omega), G_rg (by omega) (by omega)]]; rfl
    have hw : wipeE (ev.set y (some (.int (k : Int)))) [y] = ev.set y none := by show (ev.set y _).set y none = _; rw [List.set_set]
    cases hp : p (k : Int) with
    | true =>
      rw [if_pos rfl]
      refine he _ hm hp _ _ ⟨?_, hw⟩
      rw [htk, List.filter_append, List.filter_cons_of_pos hp, List.map_append]; rfl
    | false =>
      rw [if_neg Bool.false_ne_true]
      refine ⟨?_, hw⟩
      rw [htk, List.filter_append, List.filter_cons_of_neg (by rw [hp]; exact Bool.false_ne_true), List.filter_nil, List.append_nil]
  · obtain ⟨rfl, rfl⟩ := e
    show Q _ ((ev.set y none).set y (ev[y]?).join)
    rw [List.take_of_length_le (by rw [rg_len]; exact Nat.le_refl _), List.set_set, hy]
    obtain ⟨h1, h2⟩ := List.getElem?_eq_some_iff.mp hy
    show Q _ (ev.set y o)
    rw [← h2, List.set_getElem_self]; exact q
/-- over the items of a value, anything -/
theorem lc_genV {w : WE} {u : T} {items : List T} {pT : Nat → Bool} {fT : Nat → T} (hw : Pure w ev u) (hk : u.frz.kids = some items) (hsq : u.isSeq false = true) (hl : items.length ≤ 16777216) (hy : ev[y]? = some o) (ho : shrO o = true)
    (ht : ∀ k, k < items.length → PureT wt (ev.set y (some (items.getD k .non))) (pT k)) (he : ∀ k, k < items.length → pT k = true → Pure we (ev.set y (some (items.getD k .non))) (fT k)) : Pure (wLc (wList false (.vl w)) (gN y) wt we [y]) ev (.lst (((List.range items.length).filter pT).map fT)) := fun Q X q => by
  have hl2 := (List.getElem?_eq_some_iff.mp hy).1
  refine hw _ _ ⟨items, hk, hsq, by simp [hy, ho], hl, fun k acc ev' => acc = (((List.range k).filter pT).map fT) ∧ ev' = ev.set y none, ⟨rfl, rfl⟩, fun _ _ _ _ _ => trivial, fun k acc ev' hk e => ?_, fun acc ev' e => ?_⟩
  · obtain ⟨rfl, rfl⟩ := e
    have hl3 : y < (ev.set y none).length := by rw [List.length_set]; exact hl2
    refine ⟨hl3, ?_⟩
    rw [List.set_set]
    refine ht k hk _ _ ?_
    have hw : ∀ z, wipeE (ev.set y z) [y] = ev.set y none := fun z => by show (ev.set y _).set y none = _; rw [List.set_set]
    cases hp : pT k with
    | true =>
      rw [if_pos rfl]
      refine he k hk hp _ _ ⟨?_, hw _⟩
      rw [List.range_succ, List.filter_append, List.filter_cons_of_pos hp, List.map_append]; rfl
    | false =>
      rw [if_neg Bool.false_ne_true]
      refine ⟨?_, hw _⟩
      rw [List.range_succ, List.filter_append, List.filter_cons_of_neg (by rw [hp]; exact Bool.false_ne_true), List.filter_nil, List.append_nil]
  · obtain ⟨rfl, rfl⟩ := e
    show Q _ ((ev.set y none).set y (ev[y]?).join)
    rw [List.set_set, hy]
    obtain ⟨h1, h2⟩ := List.getElem?_eq_some_iff.mp hy
    show Q _ (ev.set y o)
    rw [← h2, List.set_getElem_self]; exact q
end
/-! ### borrowing; pairs walked in a comprehension -/
theorem PureT.bor {i : Nat} {w : WT} {ev : Ev} {t : T} {b : Bool} (h : ev[i]? = some (some t)) (hp : PureT w (ev.set i (some t.frz)) b) (hc : condE (ev.set i none) (ev.set i none)) : PureT (wBorT i w) ev b := fun Q X q => ⟨t, h, hp _ _ ⟨by rw [List.set_set]; exact hc, by
  rw [List.set_set]
  obtain ⟨h1, h2⟩ := List.getElem?_eq_some_iff.mp h
  rw [← h2, List.set_getElem_self]; exact q⟩⟩
theorem lc_zipP {x y : Nat} {wg : WG} {wt : WT} {we : WE} {own : List Nat} {ev : Ev} {Q : T → Ev → Prop} {X : XP} {t u : T} {xs ys : List T} (hx : ev[x]? = some (some t)) (hkx : t.kids = some xs) (hsx : t.isSeq false = true) (hy : ev[y]? = some (some u)) (hky : u.kids = some ys) (hsy : u.isSeq false = true)
    (ho : (own.all fun i => shrO (ev[i]?).join) = true) (hz : min xs.length ys.length ≤ 16777216) (I : Nat → List T → Ev → Prop) (h0 : I 0 [] (wipeE ev own)) (hst : ∀ k acc ev, k ≤ min xs.length ys.length → I k acc ev → ev[x]? = some (some t) ∧ ev[y]? = some (some u))
    (hs : ∀ k acc ev, k < min xs.length ys.length → I k acc ev → wg (.tup [xs.getD k .non, ys.getD k .non]) ev (fun ev2 => wt ev2 (fun b ev3 => if b = true then we ev3 (fun y ev4 => I (k + 1) (acc ++ [y]) (wipeE ev4 own)) noX else I (k + 1) acc (wipeE ev3 own)) noX))
    (he : ∀ acc ev', I (min xs.length ys.length) acc ev' → Q (.lst acc) (restE ev own ev')) : wLc (wZip (.pl x) (.pl y)) wg wt we own ev Q X := ⟨t, xs, hx, hkx, hsx, u, ys, hy, hky, hsy, hx, ho, hz, I, h0, hst, hs, he⟩
theorem lc_enumP {x : Nat} {wg : WG} {wt : WT} {we : WE} {own : List Nat} {ev : Ev} {Q : T → Ev → Prop} {X : XP} {t : T} {xs : List T} (hx : ev[x]? = some (some t)) (hkx : t.kids = some xs) (hsx : t.isSeq false = true)
    (ho : (own.all fun i => shrO (ev[i]?).join) = true) (hz : xs.length ≤ 16777216) (I : Nat → List T → Ev → Prop) (h0 : I 0 [] (wipeE ev own)) (hst : ∀ k acc ev, k ≤ xs.length → I k acc ev → ev[x]? = some (some t))
    (hs : ∀ k acc ev, k < xs.length → I k acc ev → wg (.tup [.int k, xs.getD k .non]) ev (fun ev2 => wt ev2 (fun b ev3 => if b = true then we ev3 (fun y ev4 => I (k + 1) (acc ++ [y]) (wipeE ev4 own)) noX else I (k + 1) acc (wipeE ev3 own)) noX))
    (he : ∀ acc ev', I xs.length acc ev' → Q (.lst acc) (restE ev own ev')) : wLc (wEnum (.pl x)) wg wt we own ev Q X := ⟨t, xs, hx, hkx, hsx, ho, hz, I, h0, hst, hs, he⟩
/-- where a law's chance comes from -/
def Pool (B : Int) (t : T) : Prop := ∃ a b c : Int, t = .lst [.int a, .int b, .int c] ∧ 0 ≤ c ∧ c ≤ B
theorem Pool.mono {B C : Int} {t : T} (h : Pool B t) (k : B ≤ C) : Pool C t := by
  obtain ⟨a, b, c, e, h0, h1⟩ := h
  exact ⟨a, b, c, e, h0, by omega⟩
end TL

/-! TL20: sorted of lists of lists of whole numbers. -/
namespace TL
open PySem PySem.Spec PyProof.Rows L2
def encI (nss : List (List Int)) (i : Nat) : PyData := .list ((nss.getD i []).map PyData.int)
def ordLL (nss : List (List Int)) : List Nat := (List.range nss.length).mergeSort (PySem.W.dataLe false (encI nss))
def rSortLL (K : PySem.W.Frag) : List V → Hp → VK → Prop := fun vs H Q => ∃ (a : Addr) (xs : List V) (nss : List (List Int)), vs = [.ref a] ∧ SqL K H a xs ∧ xs.length = nss.length ∧ (∀ i x, xs[i]? = some x → Dp K H x (encI nss i)) ∧
  ∀ p, H p = none → Q (.ref p) (upd H p (.lst ((ordLL nss).map fun i => xs.getD i .non)))
theorem each_by {α β : Type} {R : α → β → Prop} : ∀ {vs : List α} {bs : List β}, vs.length = bs.length → (∀ (k : Nat) v b, vs[k]? = some v → bs[k]? = some b → R v b) → PySem.W.EachIs R vs bs
  | [], [], _, _ => .nil
  | v :: vs, b :: bs, h, k => .cons (k 0 v b rfl rfl) (each_by (by simpa using h) fun i v b h1 h2 => k (i + 1) v b (by simpa using h1) (by simpa using h2))
theorem vals_get : ∀ {xs : List V} {us : List Value}, Vals xs us → xs.length = us.length ∧ ∀ (k : Nat) u, us[k]? = some u → ∃ x, xs[k]? = some x ∧ RelV x u
  | _, _, .nil => ⟨rfl, fun k u h => by simp at h⟩
  | _, _, .cons r t => by
    obtain ⟨a, b⟩ := vals_get t
    refine ⟨by simp [a], fun k u h => ?_⟩
    cases k with
    | zero => exact ⟨_, rfl, by simpa using (Option.some.inj h) ▸ r⟩
    | succ k => exact b k u h
theorem vals_each {xs : List V} : ∀ {out : List Value} {π : List Nat}, PySem.W.EachIs (fun v i => ∃ x, xs[i]? = some x ∧ RelV x v) out π → Vals (π.map fun i => xs.getD i .non) out
  | _, _, .nil => .nil
  | _, _, .cons (b := b) ⟨x, e, r⟩ t => .cons (by show RelV (xs.getD b .non) _; rw [List.getD_eq_getElem?_getD, e]; exact r) (vals_each t)
theorem cr_sortedLL {X : Cx} (hu : X.A.units + 64 < cLine) : CallR X (.builtin "sorted") (rSortLL X.K) := by
  intro pins s σ H vs us Q I r h
  obtain ⟨a, xs, nss, rfl, hs, hl, hd, q⟩ := h
  obtain rfl := Vals.ref1 r
  obtain ⟨its, rv, hlist, hz⟩ := I.list hs
  obtain ⟨vl, vg⟩ := vals_get rv
  have hr : ∀ (k : Nat) (v : Value) (b : Nat), its[k]? = some v → (List.range nss.length)[k]? = some b → ∃ x, xs[b]? = some x ∧ RelV x v := fun k v b h1 h2 => by
    obtain ⟨x, e1, e2⟩ := vg k v h1
    have hk : k < nss.length := by
      have := (List.getElem?_eq_some_iff.mp h2).1
      rwa [List.length_range] at this
    rw [List.getElem?_range hk] at h2
    cases h2
    exact ⟨x, e1, e2⟩
  have hlen : its.length = (List.range nss.length).length := by rw [List.length_range, ← hl, vl]
  refine PySem.W.sorted_data (enc := encI nss) (R := fun v i => ∃ x, xs[i]? = some x ∧ RelV x v) (bs := List.range nss.length) hlist.isList (each_by hlen hr) (each_by hlen fun k v b h1 h2 => ?_) (PySem.W.AllAlike.of fun b b' => ?_) (PySem.W.Sortable.others fun b => ⟨(fun z => nomatch z), (fun _ z => nomatch z)⟩) ?_ (fun b _ => ?_) fun out ho eo => ?_
  · obtain ⟨x, e1, e2⟩ := hr k v b h1 h2
    exact Dp.reads I _ x v (hd b x e1) e2
  · unfold encI
    simp only [PySem.W.alike]
    exact PySem.W.alike_ints _ _
  · rw [← hlen, ← vl]; exact hz
  · have := PySem.W.depth_ints (nss.getD b [])
    unfold encI
    simp only [PyData.depth]
    omega
  · obtain ⟨ep, he'⟩ := PyProof.Rows.sortedAll_at s.heap its out.toArray
    have hl2 : ((ordLL nss).map fun i => xs.getD i .non).length ≤ sizeLine := by
      have e1 : Vals ((ordLL nss).map fun i => xs.getD i .non) out := vals_each eo
      rw [(vals_get e1).1, ho, List.length_range, ← hl]; exact hz
    exact ⟨.ref _, upd H (s.heap.objs.size + 1) (.lst ((ordLL nss).map fun i => xs.getD i .non)), I.laid (t' := s.toks) (fun _ _ => PyProof.Rows.sortedAll_old) (Nat.le_succ _) ⟨hl2, out, ep, vals_each eo, he'⟩, rfl, q _ (I.hok.fresh (Nat.le_succ _))⟩
/-! ### trees -/
def sSortLL : SpT := fun ts Q _ => ∃ t xs nss, ts = [t] ∧ t.movL = some xs ∧ IsLs xs nss ∧ Q (.lst ((ordLL nss).map fun i => xs.getD i .non)) [none]
section
variable {K : PySem.W.Frag} {F : Addr → Prop} {H : Hp}
theorem Owns.zperm {ps qs : List (T × V)} (h : ps.Perm qs) : ∀ {M : List Addr}, Owns K F H (ps.map (·.1)) (ps.map (·.2)) M → ∃ M', Owns K F H (qs.map (·.1)) (qs.map (·.2)) M' ∧ ∀ b : Nat, M'.count b = M.count b := by
  induction h with
  | nil => exact fun {M} o => ⟨M, o, fun _ => rfl⟩
  | cons x _ ih =>
    rintro M ⟨v, vs', L1, L2, e, el, r, rs⟩
    cases e
    obtain ⟨M', o, c⟩ := ih rs
    exact ⟨L1 ++ M', ⟨_, _, L1, M', rfl, rfl, r, o⟩, fun b => by rw [el, List.count_append, List.count_append, c b]⟩
  | swap x y l =>
    rintro M ⟨v, vs', L1, L2, e, el, r, ⟨w, vs2, L3, L4, e2, el2, r2, rs⟩⟩
    cases e; cases e2
    exact ⟨L3 ++ (L1 ++ L4), ⟨_, _, L3, _, rfl, rfl, r2, _, _, L1, L4, rfl, rfl, r, rs⟩, fun b => by rw [el, el2]; simp only [List.count_append]; omega⟩
  | trans _ _ ih1 ih2 =>
    intro M o
    obtain ⟨M1, o1, c1⟩ := ih1 o
    obtain ⟨M2, o2, c2⟩ := ih2 o1
    exact ⟨M2, o2, fun b => (c2 b).trans (c1 b)⟩
theorem ordLL_perm (nss : List (List Int)) : (ordLL nss).Perm (List.range nss.length) := List.mergeSort_perm _ _
theorem map_getD {α : Type} {d : α} : ∀ l : List α, (List.range l.length).map (fun i => l.getD i d) = l := fun l => List.ext_getElem? fun k => by
  rw [List.getElem?_map]
  by_cases h : k < l.length
  · rw [List.getElem?_range h]
    show some (l.getD k d) = _
    rw [List.getD_eq_getElem?_getD, List.getElem?_eq_getElem h]; rfl
  · rw [List.getElem?_eq_none (by rw [List.length_range]; omega), List.getElem?_eq_none (by omega)]; rfl
theorem Owns.order {ts : List T} {vs : List V} {M : List Addr} {nss : List (List Int)} (o : Owns K F H ts vs M) (hl : ts.length = nss.length) : ∃ M', Owns K F H ((ordLL nss).map fun i => ts.getD i .non) ((ordLL nss).map fun i => vs.getD i .non) M' ∧ ∀ b : Nat, M'.count b = M.count b := by
  have hv := o.len
  have hp := ((ordLL_perm nss).symm).map fun i => (ts.getD i T.non, vs.getD i V.non)
  have e1 : ((List.range nss.length).map fun i => (ts.getD i T.non, vs.getD i V.non)).map (·.1) = ts := by rw [List.map_map, ← hl]; exact map_getD ts
  have e2 : ((List.range nss.length).map fun i => (ts.getD i T.non, vs.getD i V.non)).map (·.2) = vs := by rw [List.map_map, ← hl, hv]; exact map_getD vs
  obtain ⟨M', o', c⟩ := Owns.zperm hp (M := M) (by rw [e1, e2]; exact o)
  rw [List.map_map, List.map_map] at o'
  exact ⟨M', o', c⟩
theorem Owns.dpL : ∀ {ts : List T} {vs : List V} {M : List Addr} {nss : List (List Int)}, Owns K F H ts vs M → IsLs ts nss → ∀ (i : Nat) (x : V), vs[i]? = some x → Dp K H x (encI nss i)
  | [], vs, M, nss, h, _, i, x, e => by rw [h.1] at e; simp at e
  | t :: ts, vs, M, [], _, c, _, _, _ => c.elim
  | t :: ts, vs, M, n :: ns, ⟨v, vs', L1, L2, ev, el, r, rs⟩, ⟨c1, c2⟩, i, x, e => by
    subst ev
    cases i with
    | zero =>
      cases (show some v = some x from e)
      have := r.dp (by rw [c1.D]; simp only [PyData.canLay0]; exact PySem.W.canLayAll0_ints n)
      rw [c1.D] at this
      exact this
    | succ i => exact Owns.dpL rs c2 i x (by simpa using e)
theorem br_sortLL : BrL K sSortLL (rSortLL K) := fun vs H Q E ⟨ts, F, L, Q0, X0, S, ⟨t, xs, nss, e, hm, hi, q⟩, k, _⟩ => by
  subst e
  obtain ⟨v, e1, o⟩ := S.own.one'
  subst e1
  obtain ⟨a, ws, M, ea, ha, r, hc⟩ := movL_own o hm
  subst ea
  have hl := hi.len
  refine ⟨a, ws, nss, rfl, SqL.of ha, by rw [← r.len]; exact hl, r.dpL hi, fun p hp => ?_⟩
  obtain ⟨M', r', c'⟩ := r.order hl
  have cnt : ∀ b : Nat, M'.count b ≤ L.count b := fun b => by rw [c' b]; exact hc b
  have mem : ∀ b ∈ M', b ∈ L := fun b m => Sub.mem (A := M') (B := L) cnt m
  have S2 : StL K F H _ _ M' := ⟨r', fun b => Nat.le_trans (cnt b) (S.nd b), fun b m => S.dj b (mem b m), S.dom⟩
  have ho : Own K F (upd H p (.lst ((ordLL nss).map fun i => ws.getD i .non))) (.lst ((ordLL nss).map fun i => xs.getD i .non)) (.ref p) (p :: M') := ⟨p, _, M', rfl, rfl, upd_same, r'.mono (fun _ z => z) fun b u _ e => keep_new hp b u e⟩
  obtain ⟨x1, S1⟩ := S2.into (o := .lst ((ordLL nss).map fun i => ws.getD i .non)) (t := .lst ((ordLL nss).map fun i => xs.getD i .non)) hp fun H' e k => ⟨p, _, M', rfl, rfl, e, r'.mono (fun _ z => z) fun b u _ e => k b u e⟩
  refine k _ [none] _ F _ (p :: M') q ⟨x1.fr, fun b o n e => x1.keep b o (fun m => n (mem b m)) e, fun b z => (x1.new b z).imp_right fun w => w.imp_left (mem b)⟩ ⟨⟨.ref p, [some (.ref a)], p :: M', [], rfl, by simp, ho, some (.ref a), [], rfl, rfl, rfl⟩, S1.nd, S1.dj, S1.dom⟩
end
section
variable {X : Cx} {W : WX} {e : Expr} {oa : Arg} {pos p : Pos}
theorem de_sortLL (hu : X.A.units + 64 < cLine) (hg : Gl X "sorted") (hm : X.mg "sorted" = none) (h : DO X W e oa) (he : starEach [e] X.env = (false, eval e X.env) :: starEach [] X.env := by rfl) : DE X W (.Call (.Name "sorted" p) [e] [] pos) (wOp sSortLL [oa]) :=
  de_call1 (cr_sortedLL hu) br_sortLL hg hm (by decide +kernel) h (by decide) (by decide) he
end
/-! ### what comes of it -/
def srtLL (nss : List (List Int)) : List (List Int) := (ordLL nss).map fun i => nss.getD i []
theorem srtLL_perm (nss : List (List Int)) : (srtLL nss).Perm nss := by
  have := (ordLL_perm nss).map fun i => nss.getD i []
  rwa [map_getD] at this
theorem IsLs.order {xs : List T} {nss : List (List Int)} (h : IsLs xs nss) : IsLs ((ordLL nss).map fun i => xs.getD i .non) (srtLL nss) := by
  have hm : ∀ i ∈ ordLL nss, i < nss.length := fun i hi => List.mem_range.mp ((ordLL_perm nss).subset hi)
  unfold srtLL
  generalize ordLL nss = π at hm
  induction π with
  | nil => exact trivial
  | cons i r ih =>
    obtain ⟨t, e, k⟩ := h.get (hm i List.mem_cons_self)
    refine ⟨?_, ih fun j hj => hm j (List.mem_cons_of_mem _ hj)⟩
    show IsL (xs.getD i .non) (nss.getD i [])
    rw [List.getD_eq_getElem?_getD, e]; exact k
end TL

/-! TLM1: rearrangements done over and over; the way back. -/
namespace TL
open PySem PySem.Spec PyProof.Rows L2
def it (ns : List Int) : Nat → Int → Int
  | 0, i => i
  | n + 1, i => G ns (it ns n i)
def wback (ns : List Int) : List Int := (rg ns.length).map fun q => (ns.idxOf q : Int)
def pw (ns : List Int) (n : Nat) : List Int := (rg ns.length).map (it ns n)
def tpow (ns : List Int) (k : Int) : List Int := if k < 0 then pw (wback ns) (-k).toNat else pw ns k.toNat
section
variable {ns ms : List Int} {i j x : Int} {a b n : Nat}
theorem it_add : it ns (a + b) i = it ns a (it ns b i) := by
  induction a with
  | zero => rw [Nat.zero_add]; rfl
  | succ a ih => rw [Nat.succ_add]; show G ns _ = G ns _; rw [ih]
theorem it_one : it ns 1 i = G ns i := rfl
theorem it_succ' : it ns (n + 1) i = it ns n (G ns i) := it_add (a := n) (b := 1)
theorem it_mul : it ns a i = i → it ns (a * n) i = i := fun h => by
  induction n with
  | zero => rfl
  | succ n ih => rw [Nat.mul_succ, it_add, h, ih]
theorem it_mod (h : it ns a i = i) : it ns n i = it ns (n % a) i := by
  have e : n % a + a * (n / a) = n := Nat.mod_add_div n a
  have : it ns n i = it ns (n % a + a * (n / a)) i := by rw [e]
  rw [this, it_add, it_mul h]
theorem Turn.it (h : Turn ns) (i0 : 0 ≤ i) (i1 : i < ns.length) : 0 ≤ TL.it ns n i ∧ TL.it ns n i < ns.length := by
  induction n with
  | zero => exact ⟨i0, i1⟩
  | succ n ih => exact ⟨h.lo ih.1 ih.2, h.hi ih.1 ih.2⟩
theorem Turn.it_inj (h : Turn ns) (i0 : 0 ≤ i) (i1 : i < ns.length) (j0 : 0 ≤ j) (j1 : j < ns.length) (e : TL.it ns n i = TL.it ns n j) : i = j := by
  induction n with
  | zero => exact e
  | succ n ih => exact ih (G_inj h.nodup (h.it i0 i1).1 (h.it i0 i1).2 (h.it j0 j1).1 (h.it j0 j1).2 e)
theorem Turn.it_sub (h : Turn ns) (i0 : 0 ≤ i) (i1 : i < ns.length) (hab : a ≤ b) (e : TL.it ns a i = TL.it ns b i) : TL.it ns (b - a) i = i := by
  have e2 : b = a + (b - a) := by omega
  rw [e2, it_add] at e
  have b2 := h.it (n := b - a) i0 i1
  exact (h.it_inj i0 i1 b2.1 b2.2 e).symm
theorem pw_len : (pw ns n).length = ns.length := by unfold pw; rw [List.length_map, rg_len]
theorem G_pw (i0 : 0 ≤ i) (i1 : i < ns.length) : G (pw ns n) i = it ns n i := by
  unfold pw
  rw [G_map i0 (by rw [rg_len]; exact i1), G_rg i0 i1]
theorem Turn.pw (h : Turn ns) : Turn (TL.pw ns n) := Turn.by_place (fun i j i0 i1 j0 j1 e => by
    rw [pw_len] at i1 j1
    rw [G_pw i0 i1, G_pw j0 j1] at e
    exact h.it_inj i0 i1 j0 j1 e) (fun i i0 i1 => by
    rw [pw_len] at i1 ⊢
    rw [G_pw i0 i1]
    exact h.it i0 i1)
theorem wback_len : (wback ns).length = ns.length := by unfold wback; rw [List.length_map, rg_len]
theorem Turn.back (h : Turn ns) (i0 : 0 ≤ i) (i1 : i < ns.length) : 0 ≤ G (wback ns) i ∧ G (wback ns) i < ns.length ∧ G ns (G (wback ns) i) = i := by
  obtain ⟨a, b⟩ := G_idx (h.mem.mpr ⟨i0, i1⟩)
  have e : G (wback ns) i = (ns.idxOf i : Nat) := by
    unfold wback
    rw [G_map i0 (by rw [rg_len]; exact i1), G_rg i0 i1]
  rw [e]
  exact ⟨by omega, by omega, b⟩
theorem Turn.back2 (h : Turn ns) (i0 : 0 ≤ i) (i1 : i < ns.length) : G (wback ns) (G ns i) = i := by
  obtain ⟨a, b, c⟩ := h.back (h.lo i0 i1) (h.hi i0 i1)
  exact G_inj h.nodup a b i0 i1 c
theorem Turn.wback (h : Turn ns) : Turn (TL.wback ns) := Turn.by_place (fun i j i0 i1 j0 j1 e => by
    rw [wback_len] at i1 j1
    rw [← (h.back i0 i1).2.2, ← (h.back j0 j1).2.2, e]) (fun i i0 i1 => by
    rw [wback_len] at i1 ⊢
    exact ⟨(h.back i0 i1).1, (h.back i0 i1).2.1⟩)
theorem Turn.it_back (h : Turn ns) (i0 : 0 ≤ i) (i1 : i < ns.length) : TL.it (TL.wback ns) n (TL.it ns n i) = i := by
  induction n with
  | zero => rfl
  | succ n ih =>
    rw [it_succ']
    show TL.it (TL.wback ns) n (G (TL.wback ns) (G ns (TL.it ns n i))) = i
    have b := h.it (n := n) i0 i1
    rw [h.back2 b.1 b.2, ih]
theorem tpow_len {k : Int} : (tpow ns k).length = ns.length := by
  unfold tpow
  split
  · rw [pw_len, wback_len]
  · exact pw_len
theorem Turn.tpow {k : Int} (h : Turn ns) : Turn (TL.tpow ns k) := by
  unfold TL.tpow
  split
  · exact h.wback.pw
  · exact h.pw
/-- by what is left over, round the thing's own round -/
theorem Turn.G_tpow {k : Int} {L : Nat} (h : Turn ns) (i0 : 0 ≤ i) (i1 : i < ns.length) (hL : 0 < L) (e : TL.it ns L i = i) : G (TL.tpow ns k) i = TL.it ns (k % L).toNat i := by
  unfold TL.tpow
  have m0 := Int.emod_nonneg k (show (L : Int) ≠ 0 by omega)
  have m1 := Int.emod_lt_of_pos k (show 0 < (L : Int) by omega)
  have me := Int.mul_ediv_add_emod k L
  split
  · rename_i hk
    rw [G_pw i0 (by rw [wback_len]; exact i1)]
    have b := h.it (n := (k % L).toNat) i0 i1
    have hq : k / (L : Int) < 0 := Int.ediv_neg_of_neg_of_pos hk (by omega)
    obtain ⟨q, hq2⟩ := Int.eq_ofNat_of_zero_le (show 0 ≤ -(k / (L : Int)) by omega)
    have e2 : (-k).toNat + (k % L).toNat = L * q := by
      have : ((L * q : Nat) : Int) = (L : Int) * -(k / (L : Int)) := by rw [hq2]; push_cast; rfl
      rw [Int.mul_neg] at this
      omega
    have e3 : TL.it ns (-k).toNat (TL.it ns (k % L).toNat i) = i := by rw [← it_add, e2, it_mul e]
    have := h.it_back (n := (-k).toNat) b.1 b.2
    rw [e3] at this
    exact this
  · rename_i hk
    rw [G_pw i0 i1, it_mod e]
    congr 1
    have : ((k.toNat % L : Nat) : Int) = k % L := by
      rw [Int.natCast_emod]; congr 1; omega
    omega
theorem le_of_sub : ∀ {l m : List Int}, l.Nodup → (∀ x ∈ l, x ∈ m) → l.length ≤ m.length
  | [], m, _, _ => Nat.zero_le _
  | x :: l, m, hn, hs => by
    have hx := hs x List.mem_cons_self
    rw [List.nodup_cons] at hn
    have e := List.length_erase_of_mem hx
    have hp := List.length_pos_of_mem hx
    have := le_of_sub (l := l) (m := m.erase x) hn.2 fun y hy => (List.mem_erase_of_ne (fun (e : y = x) => hn.1 (by rw [← e]; exact hy))).mpr (hs y (List.mem_cons_of_mem _ hy))
    rw [List.length_cons]; omega
/-- the round of a thing, so far -/
def orb (ns : List Int) (i : Int) (n : Nat) : List Int := (List.range n).map fun k => it ns k i
theorem orb_len : (orb ns i n).length = n := by unfold orb; rw [List.length_map, List.length_range]
theorem G_orb (j0 : 0 ≤ j) (j1 : j < n) : G (orb ns i n) j = it ns j.toNat i := by unfold orb; rw [G_mapN j0 j1]
theorem orb_succ : orb ns i (n + 1) = orb ns i n ++ [it ns n i] := by unfold orb; rw [List.range_succ, List.map_append]; rfl
theorem orb_mem : x ∈ orb ns i n ↔ ∃ k, k < n ∧ it ns k i = x := by
  unfold orb
  rw [List.mem_map]
  constructor
  · rintro ⟨k, hk, e⟩; exact ⟨k, List.mem_range.mp hk, e⟩
  · rintro ⟨k, hk, e⟩; exact ⟨k, List.mem_range.mpr hk, e⟩
theorem Turn.orb_nodup (h : Turn ns) (i0 : 0 ≤ i) (i1 : i < ns.length) (hn : ∀ k, 0 < k → k < n → TL.it ns k i ≠ i) : (orb ns i n).Nodup := by
  unfold orb List.Nodup
  rw [List.pairwise_map]
  refine (List.pairwise_lt_range (n := n)).imp_of_mem fun {a b} ha hb hab e => ?_
  have hb := List.mem_range.mp hb
  exact hn (b - a) (by omega) (by omega) (h.it_sub i0 i1 (by omega) e)
theorem Turn.orb_le (h : Turn ns) (i0 : 0 ≤ i) (i1 : i < ns.length) (hn : ∀ k, 0 < k → k < n → TL.it ns k i ≠ i) : n ≤ ns.length := by
  have := le_of_sub (h.orb_nodup i0 i1 hn) (m := rg ns.length) fun x hx => by
    obtain ⟨k, hk, rfl⟩ := orb_mem.mp hx
    exact rg_mem.mpr (h.it i0 i1)
  rwa [orb_len, rg_len] at this
/-- so many things, each once -/
def TN (n : Nat) (ns : List Int) : Prop := n ≤ 40 ∧ ns.length = n ∧ Turn ns
theorem TN.tb (h : TN n ns) : turnB ns = true := turnB_iff.mpr ⟨by have := h.1; have := h.2.1; omega, h.2.2⟩
theorem TN.of (h : Turn ns) (hl : ns.length ≤ 40) : TN ns.length ns := ⟨hl, rfl, h⟩
def pbe (ns ms : List Int) : List Int := ms.map (G ns)
theorem pbe_len : (pbe ns ms).length = ms.length := List.length_map _
theorem G_pbe (i0 : 0 ≤ i) (i1 : i < ms.length) : G (pbe ns ms) i = G ns (G ms i) := G_map i0 i1
theorem Turn.pbe (h : Turn ns) (k : Turn ms) (hl : ns.length = ms.length) : Turn (TL.pbe ns ms) := Turn.by_place (fun i j i0 i1 j0 j1 e => by
    rw [pbe_len] at i1 j1
    rw [G_pbe i0 i1, G_pbe j0 j1] at e
    have := G_inj h.nodup (k.lo i0 i1) (by rw [hl]; exact k.hi i0 i1) (k.lo j0 j1) (by rw [hl]; exact k.hi j0 j1) e
    exact G_inj k.nodup i0 i1 j0 j1 this) (fun i i0 i1 => by
    rw [pbe_len] at i1 ⊢
    rw [G_pbe i0 i1]
    have a := k.lo i0 i1
    have b := k.hi i0 i1
    have := h.lo a (by omega)
    have := h.hi a (by omega)
    omega)
theorem TN.pbe (h : TN n ns) (k : TN n ms) : TN n (TL.pbe ns ms) := ⟨h.1, by rw [pbe_len]; exact k.2.1, h.2.2.pbe k.2.2 (by rw [h.2.1, k.2.1])⟩
theorem TN.wback (h : TN n ns) : TN n (TL.wback ns) := ⟨h.1, by rw [wback_len]; exact h.2.1, h.2.2.wback⟩
theorem TN.tpow {k : Int} (h : TN n ns) : TN n (TL.tpow ns k) := ⟨h.1, by rw [tpow_len]; exact h.2.1, h.2.2.tpow⟩
theorem TN.rg (h : n ≤ 40) : TN n (TL.rg n) := ⟨h, rg_len, Turn.of (.refl _)⟩
/-- what is once round for all things -/
def fct : Nat → Nat
  | 0 => 1
  | n + 1 => (n + 1) * fct n
theorem fct_pos : ∀ n, 0 < fct n
  | 0 => by decide
  | n + 1 => Nat.mul_pos (Nat.succ_pos n) (fct_pos n)
theorem dvd_fct : ∀ {n k : Nat}, 0 < k → k ≤ n → k ∣ fct n
  | 0, k, h, h2 => absurd h (by omega)
  | n + 1, k, h, h2 => by
    by_cases e : k = n + 1
    · rw [e]; exact Nat.dvd_mul_right _ _
    · exact Nat.dvd_trans (dvd_fct h (by omega)) (Nat.dvd_mul_left _ _)
theorem Turn.home1 (h : Turn ns) (i0 : 0 ≤ i) (i1 : i < ns.length) : ∃ k, 0 < k ∧ k ≤ ns.length ∧ TL.it ns k i = i := by
  refine Classical.byContradiction fun c => ?_
  have := h.orb_le (n := ns.length + 1) i0 i1 fun k h1 h2 e => c ⟨k, h1, by omega, e⟩
  omega
theorem Turn.home (h : Turn ns) (i0 : 0 ≤ i) (i1 : i < ns.length) : TL.it ns (fct ns.length) i = i := by
  obtain ⟨k, h1, h2, e⟩ := h.home1 i0 i1
  obtain ⟨q, hq⟩ := dvd_fct h1 h2
  rw [hq]; exact it_mul e
theorem TN.home (h : TN n ns) (i0 : 0 ≤ i) (i1 : i < n) : TL.it ns (fct n) i = i := by
  have := h.2.2.home i0 (by rw [h.2.1]; exact i1)
  rwa [h.2.1] at this
theorem TN.ext (h : TN n ns) (k : TN n ms) (e : ∀ i : Int, 0 ≤ i → i < n → G ns i = G ms i) : ns = ms := G_ext (by rw [h.2.1, k.2.1]) fun i i0 i1 => e i i0 (by rw [h.2.1] at i1; exact i1)
theorem TN.G_tpow {k : Int} (h : TN n ns) (i0 : 0 ≤ i) (i1 : i < n) : G (TL.tpow ns k) i = TL.it ns (k % (fct n : Int)).toNat i := h.2.2.G_tpow i0 (by rw [h.2.1]; exact i1) (fct_pos n) (h.home i0 i1)
theorem TN.lo (h : TN n ns) (i0 : 0 ≤ i) (i1 : i < n) : 0 ≤ G ns i ∧ G ns i < n := by
  have a := h.2.2.lo i0 (by rw [h.2.1]; exact i1)
  have b := h.2.2.hi i0 (by rw [h.2.1]; exact i1)
  rw [h.2.1] at b
  exact ⟨a, b⟩
theorem TN.it (h : TN n ns) (i0 : 0 ≤ i) (i1 : i < n) {k : Nat} : 0 ≤ TL.it ns k i ∧ TL.it ns k i < n := by
  have := h.2.2.it (n := k) i0 (by rw [h.2.1]; exact i1)
  rwa [h.2.1] at this
theorem TN.G_pbe (h : TN n ms) (i0 : 0 ≤ i) (i1 : i < n) : G (TL.pbe ns ms) i = G ns (G ms i) := TL.G_pbe i0 (by rw [h.2.1]; exact i1)
theorem pbe_assoc {rs : List Int} (h1 : TN n ns) (h2 : TN n ms) (h3 : TN n rs) : pbe (pbe ns ms) rs = pbe ns (pbe ms rs) := ((h1.pbe h2).pbe h3).ext (h1.pbe (h2.pbe h3)) fun i i0 i1 => by
  have b := h3.lo i0 i1
  rw [h3.G_pbe i0 i1, h2.G_pbe b.1 b.2, (h2.pbe h3).G_pbe i0 i1, h3.G_pbe i0 i1]
theorem TN.back (h : TN n ns) (i0 : 0 ≤ i) (i1 : i < n) : G ns (G (TL.wback ns) i) = i := (h.2.2.back i0 (by rw [h.2.1]; exact i1)).2.2
theorem TN.back2 (h : TN n ns) (i0 : 0 ≤ i) (i1 : i < n) : G (TL.wback ns) (G ns i) = i := h.2.2.back2 i0 (by rw [h.2.1]; exact i1)
theorem pbe_back (h : TN n ns) : pbe ns (wback ns) = rg n := (h.pbe h.wback).ext (TN.rg h.1) fun i i0 i1 => by rw [h.wback.G_pbe i0 i1, h.back i0 i1, G_rg i0 i1]
theorem back_pbe (h : TN n ns) : pbe (wback ns) ns = rg n := (h.wback.pbe h).ext (TN.rg h.1) fun i i0 i1 => by rw [h.G_pbe i0 i1, h.back2 i0 i1, G_rg i0 i1]
theorem TN.back_of (h : TN n ns) (i0 : 0 ≤ i) (i1 : i < n) (j0 : 0 ≤ j) (j1 : j < n) (e : G ns i = j) : G (TL.wback ns) j = i := by rw [← e, h.back2 i0 i1]
theorem back_back (h : TN n ns) : wback (wback ns) = ns := h.wback.wback.ext h fun i i0 i1 => by
  have b := h.lo i0 i1
  exact h.wback.back_of b.1 b.2 i0 i1 (h.back2 i0 i1)
theorem back_of_pbe (h1 : TN n ns) (h2 : TN n ms) : wback (pbe ns ms) = pbe (wback ms) (wback ns) := (h1.pbe h2).wback.ext (h2.wback.pbe h1.wback) fun i i0 i1 => by
  have b1 := h1.wback.lo i0 i1
  have b2 := h2.wback.lo b1.1 b1.2
  rw [h1.wback.G_pbe i0 i1]
  refine (h1.pbe h2).back_of b2.1 b2.2 i0 i1 ?_
  rw [h2.G_pbe b2.1 b2.2, h2.back b1.1 b1.2, h1.back i0 i1]
theorem it_modI {a : Int} {m L : Nat} (hL : 0 < L) (e : it ns L i = i) (h : (m : Int) % L = a % L) : it ns m i = it ns (a % (L : Int)).toNat i := by
  rw [it_mod (n := m) e]
  congr 1
  have : ((m % L : Nat) : Int) = a % L := by rw [Int.natCast_emod]; exact h
  omega
theorem tpow_add {a b : Int} (h : TN n ns) : pbe (tpow ns a) (tpow ns b) = tpow ns (a + b) := (h.tpow.pbe h.tpow).ext h.tpow fun i i0 i1 => by
  have m1 := Int.emod_nonneg a (show (fct n : Int) ≠ 0 by have := fct_pos n; omega)
  have m2 := Int.emod_nonneg b (show (fct n : Int) ≠ 0 by have := fct_pos n; omega)
  have bb := h.it i0 i1 (k := (b % (fct n : Int)).toNat)
  rw [h.tpow.G_pbe i0 i1, h.G_tpow i0 i1, h.G_tpow bb.1 bb.2, h.G_tpow i0 i1, ← it_add]
  refine it_modI (fct_pos n) (h.home i0 i1) ?_
  rw [Int.natCast_add, Int.toNat_of_nonneg m1, Int.toNat_of_nonneg m2, ← Int.add_emod]
theorem it_pw (h : TN n ns) (i0 : 0 ≤ i) (i1 : i < n) {m k : Nat} {gs : List Int} (hg : ∀ i : Int, 0 ≤ i → i < n → G gs i = it ns m i) : it gs k i = it ns (m * k) i := by
  induction k with
  | zero => rfl
  | succ k ih =>
    show G gs (it gs k i) = _
    have b := h.it i0 i1 (k := m * k)
    rw [ih, hg _ b.1 b.2, ← it_add, Nat.mul_succ, Nat.add_comm]
theorem tpow_mul {a b : Int} (h : TN n ns) : tpow (tpow ns a) b = tpow ns (a * b) := h.tpow.tpow.ext h.tpow fun i i0 i1 => by
  have m1 := Int.emod_nonneg a (show (fct n : Int) ≠ 0 by have := fct_pos n; omega)
  have m2 := Int.emod_nonneg b (show (fct n : Int) ≠ 0 by have := fct_pos n; omega)
  rw [h.tpow.G_tpow i0 i1, h.G_tpow i0 i1, it_pw h i0 i1 (m := (a % (fct n : Int)).toNat) fun i i0 i1 => h.G_tpow i0 i1]
  refine it_modI (fct_pos n) (h.home i0 i1) ?_
  rw [Int.natCast_mul, Int.toNat_of_nonneg m1, Int.toNat_of_nonneg m2, ← Int.mul_emod]
theorem TN.it_back (h : TN n ns) (i0 : 0 ≤ i) (i1 : i < n) {k : Nat} : TL.it (TL.wback ns) k (TL.it ns k i) = i := h.2.2.it_back i0 (by rw [h.2.1]; exact i1)
theorem tpow_neg {a : Int} (h : TN n ns) : tpow ns (0 - a) = tpow (wback ns) a := h.tpow.ext h.wback.tpow fun i i0 i1 => by
  have hp := fct_pos n
  have m1 := Int.emod_nonneg a (show (fct n : Int) ≠ 0 by omega)
  have m2 := Int.emod_nonneg (0 - a) (show (fct n : Int) ≠ 0 by omega)
  rw [h.G_tpow i0 i1, h.wback.G_tpow i0 i1]
  have b := h.it i0 i1 (k := ((0 - a) % (fct n : Int)).toNat)
  have e : it ns (a % (fct n : Int)).toNat (it ns ((0 - a) % (fct n : Int)).toNat i) = i := by
    rw [← it_add, it_modI (a := 0) hp (h.home i0 i1) (by
      rw [Int.natCast_add, Int.toNat_of_nonneg m1, Int.toNat_of_nonneg m2, ← Int.add_emod]
      congr 1; omega)]
    simp [it]
  have := h.it_back b.1 b.2 (k := (a % (fct n : Int)).toNat)
  rw [e] at this
  exact this.symm
theorem tpow_zero (h : TN n ns) : tpow ns 0 = rg n := h.tpow.ext (TN.rg h.1) fun i i0 i1 => by
  rw [h.G_tpow i0 i1, G_rg i0 i1]; simp [it]
end
end TL

/-! TLM2: the rounds of a rearrangement. -/
namespace TL
open PySem PySem.Spec PyProof.Rows L2
def rlgo (ns : List Int) (i : Int) : Nat → Nat → Nat
  | 0, k => k
  | f + 1, k => if it ns k i = i then k else rlgo ns i f (k + 1)
/-- how long a thing's round is -/
def rl (ns : List Int) (i : Int) : Nat := rlgo ns i ns.length 1
def rnd (ns : List Int) (i : Int) : List Int := orb ns i (rl ns i)
def least (ns : List Int) (i : Int) : Bool := (rnd ns i).all fun x => decide (i ≤ x)
def rounds (ns : List Int) : List (List Int) := ((rg ns.length).filter (least ns)).map (rnd ns)
/-- a round of p -/
def Cyc (p c : List Int) : Prop := c ≠ [] ∧ ∀ j : Int, 0 ≤ j → j < c.length → G p (G c j) = G c ((j + 1) % c.length)
theorem rlgo_spec {ns : List Int} {i : Int} : ∀ (f k : Nat), (∃ m, k ≤ m ∧ m ≤ k + f ∧ it ns m i = i) → k ≤ rlgo ns i f k ∧ rlgo ns i f k ≤ k + f ∧ it ns (rlgo ns i f k) i = i ∧ ∀ j, k ≤ j → j < rlgo ns i f k → it ns j i ≠ i
  | 0, k, ⟨m, h1, h2, e⟩ => by
    obtain rfl : m = k := by omega
    exact ⟨Nat.le_refl _, Nat.le_refl _, e, fun j h3 h4 => absurd h4 (by show ¬ j < m; omega)⟩
  | f + 1, k, ⟨m, h1, h2, e⟩ => by
    unfold rlgo
    by_cases z : it ns k i = i
    · rw [if_pos z]; exact ⟨Nat.le_refl _, by omega, z, fun j h3 h4 => by omega⟩
    · rw [if_neg z]
      obtain ⟨a, b, c, d⟩ := rlgo_spec f (k + 1) ⟨m, by
        have : m ≠ k := fun q => z (q ▸ e)
        omega, by omega, e⟩
      refine ⟨by omega, by omega, c, fun j h3 h4 => ?_⟩
      by_cases q : j = k
      · rw [q]; exact z
      · exact d j (by omega) h4
section
variable {ns ms : List Int} {i j x y : Int} {n k : Nat}
theorem Turn.rl (h : Turn ns) (i0 : 0 ≤ i) (i1 : i < ns.length) : 0 < TL.rl ns i ∧ TL.rl ns i ≤ ns.length ∧ TL.it ns (TL.rl ns i) i = i ∧ ∀ j, 0 < j → j < TL.rl ns i → TL.it ns j i ≠ i := by
  obtain ⟨k, h1, h2, e⟩ := h.home1 i0 i1
  obtain ⟨a, b, c, d⟩ := rlgo_spec (ns := ns) (i := i) ns.length 1 ⟨k, h1, by omega, e⟩
  have d' : ∀ j, 0 < j → j < TL.rl ns i → TL.it ns j i ≠ i := fun j h3 h4 => d j h3 h4
  exact ⟨a, h.orb_le i0 i1 d', c, d'⟩
theorem Turn.rl_eq (h : Turn ns) (i0 : 0 ≤ i) (i1 : i < ns.length) (k0 : 0 < k) (e : TL.it ns k i = i) (hm : ∀ j, 0 < j → j < k → TL.it ns j i ≠ i) : TL.rl ns i = k := by
  obtain ⟨a, b, c, d⟩ := h.rl i0 i1
  have h1 : ¬ TL.rl ns i < k := fun z => hm _ a z c
  have h2 : ¬ k < TL.rl ns i := fun z => d _ k0 z e
  omega
theorem rnd_len : (TL.rnd ns i).length = TL.rl ns i := orb_len
theorem Turn.rnd_mem (h : Turn ns) (i0 : 0 ≤ i) (i1 : i < ns.length) : x ∈ TL.rnd ns i ↔ ∃ k, TL.it ns k i = x := by
  obtain ⟨a, b, c, d⟩ := h.rl i0 i1
  refine orb_mem.trans ⟨fun ⟨k, _, e⟩ => ⟨k, e⟩, fun ⟨k, e⟩ => ⟨k % TL.rl ns i, Nat.mod_lt _ a, ?_⟩⟩
  rw [← it_mod c]; exact e
theorem Turn.rnd_in (h : Turn ns) (i0 : 0 ≤ i) (i1 : i < ns.length) (hx : x ∈ TL.rnd ns i) : 0 ≤ x ∧ x < ns.length := by
  obtain ⟨k, rfl⟩ := (h.rnd_mem i0 i1).mp hx
  exact h.it i0 i1
theorem Turn.rnd_self (h : Turn ns) (i0 : 0 ≤ i) (i1 : i < ns.length) : i ∈ TL.rnd ns i := (h.rnd_mem i0 i1).mpr ⟨0, rfl⟩
theorem Turn.rnd_symm (h : Turn ns) (i0 : 0 ≤ i) (i1 : i < ns.length) (hx : x ∈ TL.rnd ns i) : i ∈ TL.rnd ns x := by
  obtain ⟨k, rfl⟩ := (h.rnd_mem i0 i1).mp hx
  obtain ⟨a, b, c, d⟩ := h.rl i0 i1
  have bb := h.it (n := k) i0 i1
  refine (h.rnd_mem bb.1 bb.2).mpr ⟨TL.rl ns i * k - k, ?_⟩
  have : k ≤ TL.rl ns i * k := Nat.le_mul_of_pos_left k a
  rw [← it_add, Nat.sub_add_cancel this, it_mul c]
theorem Turn.rnd_trans (h : Turn ns) (i0 : 0 ≤ i) (i1 : i < ns.length) (hx : x ∈ TL.rnd ns i) (hy : y ∈ TL.rnd ns x) : y ∈ TL.rnd ns i := by
  obtain ⟨a, b⟩ := h.rnd_in i0 i1 hx
  obtain ⟨k, rfl⟩ := (h.rnd_mem i0 i1).mp hx
  obtain ⟨m, rfl⟩ := (h.rnd_mem a b).mp hy
  exact (h.rnd_mem i0 i1).mpr ⟨m + k, it_add⟩
theorem least_iff : least ns i = true ↔ ∀ x ∈ TL.rnd ns i, i ≤ x := by
  unfold least
  rw [List.all_eq_true]
  exact ⟨fun h x hx => of_decide_eq_true (h x hx), fun h x hx => decide_eq_true (h x hx)⟩
theorem ex_min : ∀ {l : List Int}, l ≠ [] → ∃ m ∈ l, ∀ y ∈ l, m ≤ y
  | [], h => absurd rfl h
  | [x], _ => ⟨x, List.mem_singleton.mpr rfl, fun y hy => by rw [List.mem_singleton.mp hy]; exact Int.le_refl _⟩
  | x :: z :: r, _ => by
    obtain ⟨m, hm, hl⟩ := ex_min (l := z :: r) (List.cons_ne_nil _ _)
    by_cases q : x ≤ m
    · refine ⟨x, List.mem_cons_self, fun y hy => ?_⟩
      rcases List.mem_cons.mp hy with rfl | hy
      · exact Int.le_refl _
      · exact Int.le_trans q (hl y hy)
    · refine ⟨m, List.mem_cons_of_mem _ hm, fun y hy => ?_⟩
      rcases List.mem_cons.mp hy with rfl | hy
      · omega
      · exact hl y hy
theorem Turn.ex_least (h : Turn ns) (i0 : 0 ≤ i) (i1 : i < ns.length) : ∃ m : Int, 0 ≤ m ∧ m < ns.length ∧ least ns m = true ∧ i ∈ TL.rnd ns m ∧ m ≤ i := by
  obtain ⟨m, hm, hl⟩ := ex_min (l := TL.rnd ns i) (List.ne_nil_of_mem (h.rnd_self i0 i1))
  obtain ⟨a, b⟩ := h.rnd_in i0 i1 hm
  exact ⟨m, a, b, least_iff.mpr fun x hx => hl x (h.rnd_trans i0 i1 hm hx), h.rnd_symm i0 i1 hm, hl i (h.rnd_self i0 i1)⟩
theorem Turn.least_one (h : Turn ns) (i0 : 0 ≤ i) (i1 : i < ns.length) (j0 : 0 ≤ j) (j1 : j < ns.length) (hi : least ns i = true) (hj : least ns j = true) (xi : x ∈ TL.rnd ns i) (xj : x ∈ TL.rnd ns j) : i = j := by
  have a : j ∈ TL.rnd ns i := h.rnd_trans i0 i1 xi (h.rnd_symm j0 j1 xj)
  have b : i ∈ TL.rnd ns j := h.rnd_trans j0 j1 xj (h.rnd_symm i0 i1 xi)
  have := least_iff.mp hi _ a
  have := least_iff.mp hj _ b
  omega
theorem rounds_mem {c : List Int} : c ∈ rounds ns ↔ ∃ i : Int, 0 ≤ i ∧ i < ns.length ∧ least ns i = true ∧ TL.rnd ns i = c := by
  unfold rounds
  rw [List.mem_map]
  constructor
  · rintro ⟨i, hi, e⟩
    rw [List.mem_filter] at hi
    have := rg_mem.mp hi.1
    exact ⟨i, this.1, this.2, hi.2, e⟩
  · rintro ⟨i, a, b, c, e⟩
    exact ⟨i, List.mem_filter.mpr ⟨rg_mem.mpr ⟨a, b⟩, c⟩, e⟩
theorem Turn.rnd_nodup (h : Turn ns) (i0 : 0 ≤ i) (i1 : i < ns.length) : (TL.rnd ns i).Nodup := h.orb_nodup i0 i1 (h.rl i0 i1).2.2.2
theorem Turn.rounds_perm (h : Turn ns) : (rounds ns).flatten.Perm (rg ns.length) := by
  have nd : (rounds ns).flatten.Nodup := by
    unfold List.Nodup
    rw [List.pairwise_flatten]
    constructor
    · intro c hc
      obtain ⟨i, a, b, _, rfl⟩ := rounds_mem.mp hc
      exact h.rnd_nodup a b
    · unfold rounds
      rw [List.pairwise_map]
      refine (List.Pairwise.filter _ (rg_nodup (n := ns.length))).imp_of_mem fun {i j} hi hj hij x hx y hy e => ?_
      subst e
      rw [List.mem_filter] at hi hj
      have a := rg_mem.mp hi.1
      have b := rg_mem.mp hj.1
      exact hij (h.least_one a.1 a.2 b.1 b.2 hi.2 hj.2 hx hy)
  refine perm_of nd (fun x hx => ?_) (le_of_sub rg_nodup fun x hx => ?_)
  · obtain ⟨c, hc, hx⟩ := List.mem_flatten.mp hx
    obtain ⟨i, a, b, _, rfl⟩ := rounds_mem.mp hc
    exact rg_mem.mpr (h.rnd_in a b hx)
  · obtain ⟨a, b⟩ := rg_mem.mp hx
    obtain ⟨m, m0, m1, hm, hx, _⟩ := h.ex_least a b
    exact List.mem_flatten.mpr ⟨_, rounds_mem.mpr ⟨m, m0, m1, hm, rfl⟩, hx⟩
theorem Turn.rnd_cyc (h : Turn ns) (i0 : 0 ≤ i) (i1 : i < ns.length) : Cyc ns (TL.rnd ns i) := by
  obtain ⟨a, b, c, d⟩ := h.rl i0 i1
  refine ⟨List.ne_nil_of_mem (h.rnd_self i0 i1), fun j j0 j1 => ?_⟩
  rw [rnd_len] at j1 ⊢
  have m0 := Int.emod_nonneg (j + 1) (show (TL.rl ns i : Int) ≠ 0 by omega)
  have m1 := Int.emod_lt_of_pos (j + 1) (show 0 < (TL.rl ns i : Int) by omega)
  unfold rnd
  rw [G_orb j0 j1, G_orb m0 m1]
  show TL.it ns (j.toNat + 1) i = _
  rw [it_mod c]
  congr 1
  have : (((j.toNat + 1) % TL.rl ns i : Nat) : Int) = (j + 1) % TL.rl ns i := by rw [Int.natCast_emod]; congr 1; omega
  omega
theorem G_cut {c : List Int} {a : Nat} (ha : a ≤ c.length) {j : Int} (j0 : 0 ≤ j) (j1 : j < c.length) : G (c.drop a ++ c.take a) j = G c ((a + j) % c.length) := by
  have hd : (c.drop a).length = c.length - a := List.length_drop
  by_cases q : j < ((c.length - a : Nat) : Int)
  · rw [G_app1 j0 (by omega), G_drop j0, Int.emod_eq_of_lt (by omega) (by omega)]
  · rw [G_app3 (by omega), hd, G_take (by omega) (by omega)]
    congr 1
    have : ((a : Int) + j) % c.length = ((a : Int) + j - c.length) % c.length := by rw [Int.sub_emod_right]
    rw [this, Int.emod_eq_of_lt (by omega) (by omega)]
    omega
theorem cut_len {c : List Int} {a : Nat} (ha : a ≤ c.length) : (c.drop a ++ c.take a).length = c.length := by rw [List.length_append, List.length_drop, List.length_take]; omega
/-- begun elsewhere -/
theorem Cyc.cut {p c : List Int} {a : Nat} (h : Cyc p c) (ha : a < c.length) : Cyc p (c.drop a ++ c.take a) := by
  have hl := cut_len (c := c) (a := a) (by omega)
  refine ⟨fun e => by rw [e] at hl; simp at hl; omega, fun j j0 j1 => ?_⟩
  rw [hl] at j1 ⊢
  have hc : (c.length : Int) ≠ 0 := by omega
  have m0 := Int.emod_nonneg (j + 1) hc
  have m1 := Int.emod_lt_of_pos (j + 1) (show 0 < (c.length : Int) by omega)
  have k0 := Int.emod_nonneg ((a : Int) + j) hc
  have k1 := Int.emod_lt_of_pos ((a : Int) + j) (show 0 < (c.length : Int) by omega)
  rw [G_cut (Nat.le_of_lt ha) j0 j1, G_cut (Nat.le_of_lt ha) m0 m1, h.2 _ k0 k1]
  congr 1
  rw [Int.emod_add_emod, Int.add_emod_emod, Int.add_assoc]
theorem cut_perm {c : List Int} {a : Nat} : (c.drop a ++ c.take a).Perm c := by
  refine List.perm_append_comm.trans ?_
  rw [List.take_append_drop]
/-- rounds that lead to p -/
def Told (p : List Int) (cs : List (List Int)) : Prop := (∀ c ∈ cs, Cyc p c) ∧ cs.flatten.Perm (rg p.length)
theorem Turn.told (h : Turn ns) : Told ns (rounds ns) := ⟨fun c hc => by
  obtain ⟨i, a, b, _, rfl⟩ := rounds_mem.mp hc
  exact h.rnd_cyc a b, h.rounds_perm⟩
theorem Told.perm {p : List Int} {cs ds : List (List Int)} (h : Told p cs) (k : ds.Perm cs) : Told p ds := ⟨fun c hc => h.1 c (k.subset hc), (List.Perm.flatten k).trans h.2⟩
end
abbrev fzL (c : List Int) : T := .fz (.lst (c.map T.int))
abbrev owL (c : List Int) : T := .lst (c.map T.int)
theorem isLs_fzL : ∀ cs : List (List Int), IsLs (cs.map fzL) cs
  | [] => trivial
  | c :: r => ⟨.inr rfl, isLs_fzL r⟩
theorem isLs_owL : ∀ cs : List (List Int), IsLs (cs.map owL) cs
  | [] => trivial
  | c :: r => ⟨.inl rfl, isLs_owL r⟩
theorem kidS_shr {xs : List T} (h : ∀ x ∈ xs, x.shr = true) : T.kidS (.lst xs) = some xs := by
  show (if xs.all T.shr = true then some xs else none) = some xs
  rw [if_pos (List.all_eq_true.mpr h)]
theorem okD_fzL {cs : List (List Int)} : ∀ x ∈ cs.map fzL, OkD x := fun x hx => by
  obtain ⟨c, _, rfl⟩ := List.mem_map.mp hx
  exact IsL.okD (ns := c) (.inr rfl) rfl
theorem rounds_len {ns : List Int} : (rounds ns).length ≤ ns.length := by
  unfold rounds
  rw [List.length_map]
  have := List.length_filter_le (least ns) (rg ns.length)
  rwa [rg_len] at this
theorem len_le_flatten {c : List Int} : ∀ {l : List (List Int)}, c ∈ l → c.length ≤ l.flatten.length
  | [], h => (nomatch h)
  | d :: l, h => by
    rw [List.flatten_cons, List.length_append]
    rcases List.mem_cons.mp h with rfl | h
    · omega
    · have := len_le_flatten h
      omega
theorem getD_some {α : Type} {l : List α} {k : Nat} {a d : α} (h : l[k]? = some a) : l.getD k d = a := by rw [List.getD_eq_getElem?_getD, h]; rfl
theorem getD_mem {α : Type} {l : List α} {k : Nat} {d : α} (h : k < l.length) : l.getD k d ∈ l := by
  rw [List.getD_eq_getElem?_getD, List.getElem?_eq_getElem h]; exact List.getElem_mem h
theorem take1 {α : Type} {l : List α} {k : Nat} {d : α} (h : k < l.length) : l.take (k + 1) = l.take k ++ [l.getD k d] := by
  rw [List.take_add_one, List.getD_eq_getElem?_getD, List.getElem?_eq_getElem h]; rfl
theorem Told.len {p : List Int} {cs : List (List Int)} (h : Told p cs) {c : List Int} (hc : c ∈ cs) : 0 < c.length ∧ c.length ≤ p.length := by
  refine ⟨List.length_pos_iff.mpr (h.1 c hc).1, ?_⟩
  have := len_le_flatten hc
  rw [h.2.length_eq, rg_len] at this
  exact this
theorem cnt_le_flatten : ∀ {l : List (List Int)}, (∀ c ∈ l, 0 < c.length) → l.length ≤ l.flatten.length
  | [], _ => Nat.le_refl _
  | d :: l, h => by
    rw [List.flatten_cons, List.length_append, List.length_cons]
    have := h d List.mem_cons_self
    have := cnt_le_flatten (l := l) fun c hc => h c (List.mem_cons_of_mem _ hc)
    omega
theorem Told.cnt {p : List Int} {cs : List (List Int)} (h : Told p cs) : cs.length ≤ p.length := by
  have := cnt_le_flatten (l := cs) fun c hc => (h.len hc).1
  rw [h.2.length_eq, rg_len] at this
  exact this
end TL

/-! TLM3: kinds and homes. -/
namespace TL
open PySem PySem.Spec PyProof.Rows L2
def lens (ns : List Int) : List Int := (rounds ns).map fun c => (c.length : Int)
def kindL (ns : List Int) : List Int := (srt (lens ns)).reverse
def lcmL (ls : List Int) : Nat := ls.foldl (fun h l => Nat.lcm h l.toNat) 1
theorem lcmL_snoc {ls : List Int} {l : Int} : lcmL (ls ++ [l]) = Nat.lcm (lcmL ls) l.toNat := by
  unfold lcmL
  rw [List.foldl_append]; rfl
theorem lcmL_aux : ∀ (ls : List Int) (h M : Nat), (ls.foldl (fun h l => Nat.lcm h l.toNat) h ∣ M ↔ h ∣ M ∧ ∀ l ∈ ls, l.toNat ∣ M)
  | [], h, M => by simp
  | l :: r, h, M => by
    rw [List.foldl_cons, lcmL_aux r]
    constructor
    · rintro ⟨a, b⟩
      refine ⟨Nat.dvd_trans (Nat.dvd_lcm_left _ _) a, fun x hx => ?_⟩
      rcases List.mem_cons.mp hx with rfl | hx
      · exact Nat.dvd_trans (Nat.dvd_lcm_right _ _) a
      · exact b x hx
    · rintro ⟨a, b⟩
      exact ⟨Nat.lcm_dvd a (b l List.mem_cons_self), fun x hx => b x (List.mem_cons_of_mem _ hx)⟩
theorem lcmL_dvd {ls : List Int} {M : Nat} : lcmL ls ∣ M ↔ ∀ l ∈ ls, l.toNat ∣ M := by
  unfold lcmL
  rw [lcmL_aux]
  exact ⟨fun h => h.2, fun h => ⟨Nat.one_dvd _, h⟩⟩
theorem dvd_lcmL {ls : List Int} {l : Int} (h : l ∈ ls) : l.toNat ∣ lcmL ls := lcmL_dvd.mp (Nat.dvd_refl _) l h
theorem lcmL_perm {ls ms : List Int} (h : ls.Perm ms) : lcmL ls = lcmL ms := Nat.dvd_antisymm (lcmL_dvd.mpr fun l hl => dvd_lcmL (h.subset hl)) (lcmL_dvd.mpr fun l hl => dvd_lcmL (h.symm.subset hl))
theorem lcmL_pos : ∀ {ls : List Int}, (∀ l ∈ ls, 1 ≤ l) → 0 < lcmL ls := fun {ls} => by
  suffices ∀ (ls : List Int) (h : Nat), 0 < h → (∀ l ∈ ls, 1 ≤ l) → 0 < ls.foldl (fun h l => Nat.lcm h l.toNat) h from this ls 1 (by decide)
  intro ls
  induction ls with
  | nil => exact fun h hh _ => hh
  | cons l r ih =>
    intro h hh hl
    have := hl l List.mem_cons_self
    exact ih _ (Nat.lcm_pos hh (by omega)) fun x hx => hl x (List.mem_cons_of_mem _ hx)
theorem lcmL_le : ∀ {ls : List Int}, (∀ l ∈ ls, 1 ≤ l ∧ l ≤ 64) → lcmL ls ≤ 64 ^ ls.length := fun {ls} => by
  suffices ∀ (ls : List Int) (h : Nat), (∀ l ∈ ls, 1 ≤ l ∧ l ≤ 64) → ls.foldl (fun h l => Nat.lcm h l.toNat) h ≤ h * 64 ^ ls.length from fun hl => by have := this ls 1 hl; rwa [Nat.one_mul] at this
  intro ls
  induction ls with
  | nil => intro h _; simp
  | cons l r ih =>
    intro h hl
    have := hl l List.mem_cons_self
    refine Nat.le_trans (ih _ fun x hx => hl x (List.mem_cons_of_mem _ hx)) ?_
    rw [List.length_cons, Nat.pow_succ, Nat.mul_comm (64 ^ r.length) 64, ← Nat.mul_assoc]
    refine Nat.mul_le_mul_right _ (Nat.le_trans (Nat.div_le_self _ _) (Nat.mul_le_mul_left _ ?_))
    omega
theorem lcmL_sm {ls : List Int} (h : ∀ l ∈ ls, 1 ≤ l ∧ l ≤ 64) (hl : ls.length ≤ 50) : Sm 301 (lcmL ls) := by
  have a := lcmL_le h
  have b : (64 : Nat) ^ ls.length ≤ 64 ^ 50 := Nat.pow_le_pow_right (by decide) hl
  have c : (64 : Nat) ^ 50 < 2 ^ 301 := by decide +kernel
  show ((lcmL ls : Nat) : Int).natAbs < 2 ^ 301
  rw [Int.natAbs_natCast]
  omega
theorem div_gcd_mul {h l : Nat} (hh : 0 < h) : h / Nat.gcd h l * l = Nat.lcm h l := by
  obtain ⟨q, hq⟩ := Nat.gcd_dvd_left h l
  have g0 : 0 < Nat.gcd h l := Nat.gcd_pos_of_pos_left _ hh
  show h / Nat.gcd h l * l = h * l / Nat.gcd h l
  generalize Nat.gcd h l = g at *
  subst hq
  rw [Nat.mul_div_cancel_left _ g0, Nat.mul_assoc, Nat.mul_div_cancel_left _ g0]
/-! ### by the primes below forty -/
def vq (q : Nat) : Nat → Nat → Nat
  | 0, _ => 0
  | f + 1, x => if x % q = 0 then vq q f (x / q) + 1 else 0
theorem vq_dvd {q : Nat} : ∀ f x, q ^ vq q f x ∣ x
  | 0, x => Nat.one_dvd _
  | f + 1, x => by
    unfold vq
    split
    · rename_i h
      obtain ⟨c, hc⟩ := vq_dvd (q := q) f (x / q)
      refine ⟨c, ?_⟩
      rw [Nat.pow_succ, Nat.mul_comm (q ^ _) q, Nat.mul_assoc, ← hc]
      exact (Nat.mul_div_cancel' (Nat.dvd_of_mod_eq_zero h)).symm
    · exact Nat.one_dvd _
def qs12 : List Nat := [2, 3, 5, 7, 11, 13, 17, 19, 23, 29, 31, 37]
def P12 (j x : Nat) : Nat := ((qs12.take j).map fun q => q ^ vq q 6 x).foldl (· * ·) 1
theorem P12_succ {j x : Nat} (h : j < 12) : P12 (j + 1) x = P12 j x * (qs12.getD j 1) ^ vq (qs12.getD j 1) 6 x := by
  unfold P12
  rw [take1 (d := 1) h, List.map_append, List.foldl_append]; rfl
theorem P12_all : ∀ x : Nat, x < 41 → 0 < x → x ∣ P12 12 x := by
  have h : ∀ x : Fin 41, 0 < x.val → P12 12 x.val % x.val = 0 := by decide +kernel
  exact fun x h1 h2 => Nat.dvd_of_mod_eq_zero (h ⟨x, h1⟩ h2)
theorem qs12_ge : ∀ j : Nat, j < 12 → 2 ≤ qs12.getD j 1 ∧ qs12.getD j 1 ≤ 37 := by
  have h : ∀ j : Fin 12, 2 ≤ qs12.getD j.val 1 ∧ qs12.getD j.val 1 ≤ 37 := by decide +kernel
  exact fun j hj => h ⟨j, hj⟩
theorem qs12_cop : ∀ i j : Nat, i < 12 → j < 12 → i ≠ j → Nat.Coprime (qs12.getD i 1) (qs12.getD j 1) := by
  have h : ∀ i j : Fin 12, i.val ≠ j.val → Nat.gcd (qs12.getD i.val 1) (qs12.getD j.val 1) = 1 := by decide +kernel
  exact fun i j hi hj e => h ⟨i, hi⟩ ⟨j, hj⟩ e
theorem vq_le {q e x f : Nat} (hq : 2 ≤ q) (h : ¬ q ^ (e + 1) ∣ x) : vq q f x ≤ e := by
  refine Classical.byContradiction fun c => h ?_
  exact Nat.dvd_trans (Nat.pow_dvd_pow q (by omega)) (vq_dvd f x)
theorem lens_bd {ns : List Int} (h : Turn ns) (hl : ns.length ≤ 40) : ∀ l ∈ lens ns, 1 ≤ l ∧ l ≤ 40 := fun l hm => by
  obtain ⟨c, hc, rfl⟩ := List.mem_map.mp hm
  have := h.told.len hc
  omega
theorem kindL_perm (ns : List Int) : (kindL ns).Perm (lens ns) := (List.reverse_perm _).trans (srt_perm _)
theorem kindL_bd {ns : List Int} (h : Turn ns) (hl : ns.length ≤ 40) : ∀ l ∈ kindL ns, 1 ≤ l ∧ l ≤ 40 := fun l hm => lens_bd h hl l ((kindL_perm ns).subset hm)
theorem kindL_len {ns : List Int} (h : Turn ns) : (kindL ns).length ≤ ns.length := by
  rw [(kindL_perm ns).length_eq]
  unfold lens
  rw [List.length_map]
  exact rounds_len
theorem kindL_nil : kindL [] = [] := List.perm_nil.mp (kindL_perm [])
theorem kindL_one : kindL [0] = [1] := List.perm_singleton.mp ((kindL_perm [0]).trans (by rw [show lens [0] = [1] by decide +kernel]))
theorem perm_sum {l m : List Int} (h : l.Perm m) : l.sum = m.sum := by
  induction h with
  | nil => rfl
  | cons x _ ih => rw [List.sum_cons, List.sum_cons, ih]
  | swap x y l => rw [List.sum_cons, List.sum_cons, List.sum_cons, List.sum_cons]; omega
  | trans _ _ h1 h2 => rw [h1, h2]
theorem turn_nil : Turn [] := .refl _
theorem turn_one : Turn [0] := .refl _
end TL

/-! TLM4: sorted lists of lists; rounds told otherwise. -/
namespace TL
open PySem PySem.Spec PyProof.Rows L2
theorem srtLL_eq (nss : List (List Int)) : srtLL nss = nss.mergeSort (fun p q => decide (p ≤ q)) := by
  unfold srtLL ordLL
  have e : PySem.W.dataLe false (encI nss) = fun p q => decide (nss.getD p [] ≤ nss.getD q []) := PySem.W.dataLe_rows _
  rw [e, PySem.W.sort_maps (fun i => nss.getD i []) (s := fun p q => decide (p ≤ q)) (fun _ _ _ _ => rfl), map_getD]
theorem srtLL_le (nss : List (List Int)) : (srtLL nss).Pairwise (· ≤ ·) := by
  rw [srtLL_eq]
  refine (List.pairwise_mergeSort (le := fun p q : List Int => decide (p ≤ q)) (fun a b c h1 h2 => ?_) (fun a b => ?_) nss).imp fun {a b} h => of_decide_eq_true h
  · exact decide_eq_true (List.le_trans (of_decide_eq_true h1) (of_decide_eq_true h2))
  · rcases List.le_total a b with h | h
    · rw [decide_eq_true h]; rfl
    · rw [decide_eq_true h, Bool.or_true]
theorem rowsOne {l m : List (List Int)} (h : l.Perm m) (h1 : l.Pairwise (· ≤ ·)) (h2 : m.Pairwise (· ≤ ·)) : l = m :=
  List.Perm.eq_of_pairwise (fun a b _ _ x y => List.le_antisymm x y) h1 h2 h
theorem srtLL_of {l m : List (List Int)} (h : l.Perm m) (h2 : m.Pairwise (· ≤ ·)) : srtLL l = m := rowsOne ((srtLL_perm l).trans h) (srtLL_le l) h2
theorem srtLL_congr {l m : List (List Int)} (h : l.Perm m) : srtLL l = srtLL m := srtLL_of (h.trans (srtLL_perm m).symm) (srtLL_le m)
theorem heads_le {l : List (List Int)} (h : l.Pairwise fun c d => c ≠ [] ∧ d ≠ [] ∧ G c 0 < G d 0) : l.Pairwise (· ≤ ·) := h.imp fun {c d} ⟨a, b, e⟩ => by
  cases c with
  | nil => exact absurd rfl a
  | cons x c =>
    cases d with
    | nil => exact absurd rfl b
    | cons y d => exact List.cons_le_cons_iff.mpr (.inl e)
section
variable {p s : List Int} {cs : List (List Int)} {c : List Int}
theorem rnd_head {i : Int} (h : 0 < rl p i) : G (rnd p i) 0 = i := by unfold rnd; rw [G_orb (Int.le_refl _) (by omega)]; rfl
theorem Turn.rounds_le (h : Turn p) : (rounds p).Pairwise (· ≤ ·) := by
  refine heads_le ?_
  unfold rounds
  rw [List.pairwise_map]
  have hlt : (rg p.length).Pairwise (· < ·) := by
    unfold rg
    rw [List.pairwise_map]
    exact List.pairwise_lt_range.imp fun {a b} h => Int.ofNat_lt.mpr h
  refine (hlt.filter _).imp_of_mem fun {i j} hi hj hij => ?_
  have a := rg_mem.mp (List.mem_filter.mp hi).1
  have b := rg_mem.mp (List.mem_filter.mp hj).1
  refine ⟨List.ne_nil_of_mem (h.rnd_self a.1 a.2), List.ne_nil_of_mem (h.rnd_self b.1 b.2), ?_⟩
  rw [rnd_head (h.rl a.1 a.2).1, rnd_head (h.rl b.1 b.2).1]; exact hij
theorem Told.nd (h : Told p cs) (hc : c ∈ cs) : c.Nodup := by
  have := (h.2.nodup_iff.mpr rg_nodup)
  unfold List.Nodup at this
  rw [List.pairwise_flatten] at this
  exact this.1 c hc
theorem Told.inn (h : Told p cs) (hc : c ∈ cs) {x : Int} (hx : x ∈ c) : 0 ≤ x ∧ x < p.length := rg_mem.mp (h.2.subset (List.mem_flatten.mpr ⟨c, hc, hx⟩))
theorem Cyc.pos (h : Cyc p c) : 0 < c.length := List.length_pos_iff.mpr h.1
theorem Cyc.it (h : Cyc p c) : ∀ (k : Nat), it p k (G c 0) = G c ((k : Int) % c.length)
  | 0 => by
    have := h.pos
    show G c 0 = G c ((0 : Int) % c.length)
    rw [Int.emod_eq_of_lt (by omega) (by omega)]
  | k + 1 => by
    have hp := h.pos
    have m0 := Int.emod_nonneg (k : Int) (show (c.length : Int) ≠ 0 by omega)
    have m1 := Int.emod_lt_of_pos (k : Int) (show 0 < (c.length : Int) by omega)
    show G p (TL.it p k (G c 0)) = _
    rw [h.it k, h.2 _ m0 m1]
    congr 1
    rw [Int.emod_add_emod]; rfl
theorem Cyc.rnd (hT : Turn p) (h : Cyc p c) (nd : c.Nodup) (h0 : 0 ≤ G c 0) (h1 : G c 0 < p.length) : TL.rnd p (G c 0) = c := by
  have hp := h.pos
  have e : rl p (G c 0) = c.length := hT.rl_eq h0 h1 hp (by rw [h.it, Int.emod_self]) fun j j0 j1 e => by
    rw [h.it, Int.emod_eq_of_lt (by omega) (by omega)] at e
    have := G_inj nd (by omega) (by omega) (Int.le_refl _) (by omega) e
    omega
  refine G_ext (by rw [rnd_len, e]) fun j j0 j1 => ?_
  rw [rnd_len, e] at j1
  unfold TL.rnd
  rw [G_orb j0 (by rw [e]; exact j1), h.it, Int.emod_eq_of_lt (by omega) (by omega)]
  congr 1; omega
/-- rounds that lead to p, each begun at its least: those that are told -/
theorem Told.rounds (hT : Turn p) (h : Told p cs) (hb : ∀ c ∈ cs, ∀ x ∈ c, G c 0 ≤ x) : cs.Perm (TL.rounds p) := by
  have h0 : ∀ c ∈ cs, G c 0 ∈ c := fun c hc => G_mem (Int.le_refl _) (by have := (h.1 c hc).pos; omega)
  have hr : ∀ c ∈ cs, TL.rnd p (G c 0) = c := fun c hc => (h.1 c hc).rnd hT (h.nd hc) (h.inn hc (h0 c hc)).1 (h.inn hc (h0 c hc)).2
  have hl : ∀ c ∈ cs, least p (G c 0) = true := fun c hc => least_iff.mpr (by rw [hr c hc]; exact hb c hc)
  have e1 : cs = (cs.map fun c => G c 0).map (TL.rnd p) := by
    rw [List.map_map]
    exact ((List.map_congr_left hr).trans (List.map_id cs)).symm
  rw [e1]
  unfold TL.rounds
  refine List.Perm.map _ ((List.perm_ext_iff_of_nodup ?_ (List.Nodup.sublist List.filter_sublist rg_nodup)).mpr fun x => ?_)
  · unfold List.Nodup
    rw [List.pairwise_map]
    have := h.2.nodup_iff.mpr rg_nodup
    unfold List.Nodup at this
    rw [List.pairwise_flatten] at this
    exact this.2.imp_of_mem fun {c d} hc hd k e => k (G c 0) (h0 c hc) (G d 0) (h0 d hd) e
  · rw [List.mem_map, List.mem_filter]
    constructor
    · rintro ⟨c, hc, rfl⟩
      exact ⟨h.2.subset (List.mem_flatten.mpr ⟨c, hc, h0 c hc⟩), hl c hc⟩
    · rintro ⟨hx, hlx⟩
      obtain ⟨c, hc, hxc⟩ := List.mem_flatten.mp (h.2.symm.subset hx)
      have a := h.inn hc (h0 c hc)
      have b := rg_mem.mp hx
      refine ⟨c, hc, (hT.least_one a.1 a.2 b.1 b.2 (hl c hc) hlx (by rw [hr c hc]; exact hxc) (hT.rnd_self b.1 b.2))⟩
/-- begun at its least -/
def mnL (c : List Int) : Int := G (srt c) 0
def bgn (c : List Int) : List Int := c.drop (c.idxOf (mnL c)) ++ c.take (c.idxOf (mnL c))
theorem mnL_mem (h : 0 < c.length) : mnL c ∈ c := (srt_perm c).subset (G_mem (Int.le_refl _) (by have := (srt_perm c).length_eq; omega))
theorem mnL_le {x : Int} (h : x ∈ c) : mnL c ≤ x := by
  obtain ⟨i, i0, i1, rfl⟩ := G_ex ((srt_perm c).symm.subset h)
  unfold mnL
  by_cases e : i = 0
  · rw [e]; exact Int.le_refl _
  · have h2 := G_getN (ns := srt c) (k := i.toNat) (by omega)
    have h1 := G_getN (ns := srt c) (k := 0) (by omega)
    have := List.pairwise_iff_getElem.mp (srt_le c) 0 i.toNat (by omega) (by omega) (by omega)
    rw [List.getElem?_eq_getElem (by omega)] at h1 h2
    rw [Option.some.inj h1, Option.some.inj h2] at this
    rw [show ((i.toNat : Nat) : Int) = i by omega] at this
    exact this
theorem bgn_perm : (bgn c).Perm c := cut_perm
theorem bgn_len : (bgn c).length = c.length := bgn_perm.length_eq
theorem bgn_idx (h : 0 < c.length) : c.idxOf (mnL c) < c.length := (G_idx (mnL_mem h)).1
theorem bgn_head (h : 0 < c.length) {x : Int} (hx : x ∈ bgn c) : G (bgn c) 0 ≤ x := by
  have hi := bgn_idx h
  unfold bgn
  rw [G_cut (Nat.le_of_lt hi) (Int.le_refl _) (by omega), Int.add_zero, Int.emod_eq_of_lt (by omega) (by omega), (G_idx (mnL_mem h)).2]
  exact mnL_le (bgn_perm.subset hx)
theorem Cyc.bgn (h : Cyc p c) : Cyc p (TL.bgn c) := h.cut (bgn_idx h.pos)
theorem perm_flat {f : List Int → List Int} (hf : ∀ c ∈ cs, (f c).Perm c) : (cs.map f).flatten.Perm cs.flatten := by
  induction cs with
  | nil => exact .refl _
  | cons a r ih =>
    rw [List.map_cons, List.flatten_cons, List.flatten_cons]
    exact (hf a List.mem_cons_self).append (ih fun c hc => hf c (List.mem_cons_of_mem _ hc))
theorem Told.bgn (h : Told p cs) : Told p (cs.map TL.bgn) := ⟨fun c hc => by
  obtain ⟨d, hd, rfl⟩ := List.mem_map.mp hc
  exact (h.1 d hd).bgn, (perm_flat fun c _ => bgn_perm).trans h.2⟩
theorem Told.begun (hT : Turn p) (h : Told p cs) : (cs.map TL.bgn).Perm (TL.rounds p) := h.bgn.rounds hT fun c hc x hx => by
  obtain ⟨d, hd, rfl⟩ := List.mem_map.mp hc
  exact bgn_head (h.1 d hd).pos hx
theorem Told.srt (hT : Turn p) (h : Told p cs) : srtLL (cs.map TL.bgn) = TL.rounds p := srtLL_of (h.begun hT) hT.rounds_le
theorem Told.lens (hT : Turn p) (h : Told p cs) : (cs.map fun c => (c.length : Int)).Perm (TL.lens p) := by
  have := (h.begun hT).map fun c => (c.length : Int)
  rw [List.map_map] at this
  refine (List.Perm.of_eq ?_).trans this
  exact List.map_congr_left fun c _ => by show (c.length : Int) = ((TL.bgn c).length : Int); rw [bgn_len]
theorem kindL_of {l : List Int} (h : l.Perm (TL.lens p)) : (srt l).reverse = kindL p := by
  unfold kindL
  rw [srt_one ((srt_perm l).trans (h.trans (srt_perm _).symm)) (srt_le _) (srt_le _)]
theorem kindL_eq {q : List Int} (h : (TL.lens q).Perm (TL.lens p)) : kindL q = kindL p := kindL_of h
/-- the other way about -/
theorem Cyc.back {n : Nat} (hp : TN n p) (h : Cyc p c) (hin : ∀ x ∈ c, 0 ≤ x ∧ x < (n : Int)) : Cyc (wback p) c.reverse := by
  have hc := h.pos
  refine ⟨fun e => h.1 (List.reverse_eq_nil_iff.mp e), fun j j0 j1 => ?_⟩
  have gr : ∀ j : Int, 0 ≤ j → j < c.length → G c.reverse j = G c (c.length - 1 - j) := fun j j0 j1 => by
    unfold G
    rw [List.getD_eq_getElem?_getD, List.getD_eq_getElem?_getD, List.getElem?_reverse (by omega)]
    congr 2; omega
  rw [List.length_reverse] at j1 ⊢
  have m0 := Int.emod_nonneg (j + 1) (show (c.length : Int) ≠ 0 by omega)
  have m1 := Int.emod_lt_of_pos (j + 1) (show 0 < (c.length : Int) by omega)
  rw [gr j j0 j1, gr _ m0 m1]
  have a := hin _ (G_mem (ns := c) (i := (c.length : Int) - 1 - j) (by omega) (by omega))
  have b := hin _ (G_mem (ns := c) (i := (c.length : Int) - 1 - (j + 1) % c.length) (by omega) (by omega))
  refine hp.back_of b.1 b.2 a.1 a.2 ?_
  rw [h.2 _ (by omega) (by omega)]
  congr 1
  by_cases e : j + 1 = c.length
  · rw [e, Int.emod_self]
    rw [show (c.length : Int) - 1 - 0 + 1 = c.length by omega, Int.emod_self]; omega
  · rw [Int.emod_eq_of_lt (a := j + 1) (by omega) (by omega), Int.emod_eq_of_lt (by omega) (by omega)]; omega
theorem Told.back {n : Nat} (hp : TN n p) (h : Told p cs) : Told (wback p) (cs.map List.reverse) := ⟨fun c hc => by
  obtain ⟨d, hd, rfl⟩ := List.mem_map.mp hc
  exact (h.1 d hd).back hp fun x hx => by have := h.inn hd hx; rw [hp.2.1] at this; exact this, by rw [wback_len]; exact (perm_flat fun c _ => List.reverse_perm c).trans h.2⟩
/-- things named anew -/
theorem Cyc.anew {n : Nat} (hp : TN n p) (hs : TN n s) (h : Cyc p c) (hin : ∀ x ∈ c, 0 ≤ x ∧ x < (n : Int)) : Cyc (pbe (pbe s p) (wback s)) (c.map (G s)) := by
  have hc := h.pos
  refine ⟨fun e => h.1 (List.map_eq_nil_iff.mp e), fun j j0 j1 => ?_⟩
  rw [List.length_map] at j1 ⊢
  have m0 := Int.emod_nonneg (j + 1) (show (c.length : Int) ≠ 0 by omega)
  have m1 := Int.emod_lt_of_pos (j + 1) (show 0 < (c.length : Int) by omega)
  rw [G_map j0 j1, G_map m0 m1, ← h.2 j j0 j1]
  have a := hin _ (G_mem j0 j1)
  have b := hs.lo a.1 a.2
  rw [hs.wback.G_pbe b.1 b.2, hs.back2 a.1 a.2, hp.G_pbe a.1 a.2]
theorem Told.anew {n : Nat} (hp : TN n p) (hs : TN n s) (h : Told p cs) : Told (pbe (pbe s p) (wback s)) (cs.map fun c => c.map (G s)) := ⟨fun c hc => by
  obtain ⟨d, hd, rfl⟩ := List.mem_map.mp hc
  exact (h.1 d hd).anew hp hs fun x hx => by have := h.inn hd hx; rw [hp.2.1] at this; exact this, by
  have e : (cs.map fun c => c.map (G s)).flatten = cs.flatten.map (G s) := List.map_flatten.symm
  rw [e, pbe_len, wback_len, hs.2.1]
  refine (h.2.map (G s)).trans ?_
  have e2 : (rg p.length).map (G s) = s := by
    rw [hp.2.1, ← hs.2.1]
    refine G_ext (by rw [List.length_map, rg_len]) fun i i0 i1 => ?_
    rw [List.length_map, rg_len] at i1
    rw [G_map i0 (by rw [rg_len]; exact i1), G_rg i0 i1]
  rw [e2]
  have := hs.2.2
  unfold Turn at this
  rw [hs.2.1] at this
  exact this⟩
end
section
variable {p : List Int} {n : Nat}
theorem Turn.home_it (h : Turn p) {i : Int} (i0 : 0 ≤ i) (i1 : i < p.length) : TL.it p (lcmL (kindL p)) i = i := by
  obtain ⟨m, m0, m1, hl, hx, _⟩ := h.ex_least i0 i1
  obtain ⟨k, hk⟩ := (h.rnd_mem m0 m1).mp hx
  have hr := h.rl m0 m1
  have hm : ((TL.rnd p m).length : Int) ∈ kindL p := (kindL_perm p).symm.subset (List.mem_map.mpr ⟨_, rounds_mem.mpr ⟨m, m0, m1, hl, rfl⟩, rfl⟩)
  obtain ⟨q, hq⟩ := dvd_lcmL hm
  rw [show ((TL.rnd p m).length : Int).toNat = TL.rl p m by rw [rnd_len]; omega] at hq
  rw [hq]
  refine it_mul ?_
  rw [← hk, ← it_add, Nat.add_comm, it_add, hr.2.2.1]
theorem Turn.home_dvd (h : Turn p) {m : Nat} (hm : ∀ i : Int, 0 ≤ i → i < p.length → TL.it p m i = i) : lcmL (kindL p) ∣ m := by
  refine lcmL_dvd.mpr fun l hl => ?_
  obtain ⟨c, hc, rfl⟩ := List.mem_map.mp ((kindL_perm p).subset hl)
  obtain ⟨i, i0, i1, _, rfl⟩ := rounds_mem.mp hc
  have hr := h.rl i0 i1
  rw [show ((TL.rnd p i).length : Int).toNat = TL.rl p i by rw [rnd_len]; omega]
  have e := hm i i0 i1
  rw [it_mod hr.2.2.1] at e
  have hlt := Nat.mod_lt m hr.1
  by_cases z : m % TL.rl p i = 0
  · exact Nat.dvd_of_mod_eq_zero z
  · exact absurd e (hr.2.2.2 _ (by omega) hlt)
theorem TN.home_pos (h : TN n p) : 0 < lcmL (kindL p) := lcmL_pos fun l hl => (kindL_bd h.2.2 (by have := h.1; have := h.2.1; omega) l hl).1
theorem TN.home_sm (h : TN n p) : Sm 301 (lcmL (kindL p)) := lcmL_sm (fun l hl => by have := kindL_bd h.2.2 (by have := h.1; have := h.2.1; omega) l hl; omega) (by have := kindL_len h.2.2; have := h.1; have := h.2.1; omega)
theorem TN.home_tpow (h : TN n p) {a : Int} : lcmL (kindL (TL.tpow p a)) ∣ lcmL (kindL p) := h.tpow.2.2.home_dvd fun i i0 i1 => by
  rw [h.tpow.2.1] at i1
  have i1' : i < p.length := by rw [h.2.1]; exact i1
  have e : G (TL.tpow p (a * (lcmL (kindL p) : Int))) i = i := by
    rw [h.2.2.G_tpow i0 i1' h.home_pos (h.2.2.home_it i0 i1'), Int.mul_emod_left]; rfl
  rw [← tpow_mul h] at e
  have e2 : TL.tpow (TL.tpow p a) (lcmL (kindL p) : Int) = TL.pw (TL.tpow p a) (lcmL (kindL p)) := by
    unfold TL.tpow
    rw [if_neg (by omega)]; rfl
  rw [e2, G_pw i0 (by rw [tpow_len]; exact i1')] at e
  exact e
theorem TN.mod0 {x y : Nat} (h : x ∣ y) : (y : Int) % (x : Int) = 0 := Int.emod_eq_zero_of_dvd (Int.natCast_dvd_natCast.mpr h)
end
section
variable {QS : T → List (Option T) → Prop} {XS : Addr → List (Option T) → Prop} {t : T} {nss : List (List Int)}
theorem isLs_eq_map : ∀ {xs : List T} {nss : List (List Int)}, IsLs xs nss → ∀ k, k < nss.length → ∃ t, xs[k]? = some t ∧ IsL t (nss.getD k []) := fun h k hk => h.get hk
theorem sort_own : ((ordLL nss).map fun i => (nss.map owL).getD i .non) = (srtLL nss).map owL := by
  unfold srtLL
  rw [List.map_map]
  refine List.map_congr_left fun i hi => ?_
  have hi := List.mem_range.mp ((ordLL_perm nss).subset hi)
  show (nss.map owL).getD i .non = owL (nss.getD i [])
  rw [List.getD_eq_getElem?_getD, List.getD_eq_getElem?_getD, List.getElem?_map, List.getElem?_eq_getElem hi]; rfl
theorem sort_fz : ((ordLL nss).map fun i => (nss.map fzL).getD i .non) = (srtLL nss).map fzL := by
  unfold srtLL
  rw [List.map_map]
  refine List.map_congr_left fun i hi => ?_
  have hi := List.mem_range.mp ((ordLL_perm nss).subset hi)
  show (nss.map fzL).getD i .non = fzL (nss.getD i [])
  rw [List.getD_eq_getElem?_getD, List.getD_eq_getElem?_getD, List.getElem?_map, List.getElem?_eq_getElem hi]; rfl
theorem r_sortLLX (h : t = .lst (nss.map owL)) (q : QS (.lst ((srtLL nss).map owL)) [none]) : sSortLL [t] QS XS := by
  subst h
  exact ⟨_, _, nss, rfl, rfl, isLs_owL nss, by rw [sort_own]; exact q⟩
theorem r_sortLLFX (h : t = .lst (nss.map fzL)) (q : QS (.lst ((srtLL nss).map fzL)) [none]) : sSortLL [t] QS XS := by
  subst h
  exact ⟨_, _, nss, rfl, rfl, isLs_fzL nss, by rw [sort_fz]; exact q⟩
theorem p_sortLL {ev : Ev} {w : WE} (ha : Pure w ev (.lst (nss.map owL))) : Pure (wOp sSortLL [.vl w]) ev (.lst ((srtLL nss).map owL)) := fun Q X q => by
  refine ha _ _ ?_
  refine ⟨_, _, rfl, _, _, nss, rfl, rfl, isLs_owL nss, ?_⟩
  rw [sort_own]; exact q
theorem frz_owL {cs : List (List Int)} : (cs.map owL).map T.frz = cs.map fzL := by rw [List.map_map]; rfl
theorem okD_frzL {cs : List (List Int)} : ∀ x ∈ (cs.map owL).map T.frz, OkD x := by rw [frz_owL]; exact okD_fzL
theorem item_fz {cs : List (List Int)} {k : Nat} (h : k < cs.length) : (cs.map fzL).getD k .non = fzL (cs.getD k []) := by
  rw [List.getD_eq_getElem?_getD, List.getD_eq_getElem?_getD, List.getElem?_map, List.getElem?_eq_getElem h]; rfl
theorem map_getD2 {α β : Type} {d : α} {f : α → β} (l : List α) : (List.range l.length).map (fun i => f (l.getD i d)) = l.map f := by
  have := congrArg (List.map f) (map_getD (d := d) l)
  rwa [List.map_map] at this
theorem lc_LL {ev : Ev} {y : Nat} {o : Option T} {we : WE} {w : WE} {u : T} {cs : List (List Int)} {f : List Int → T} (hw : Pure w ev u) (hu : IsLL u cs) (hl : cs.length ≤ 16777216) (hy : ev[y]? = some o) (ho : shrO o = true)
    (he : ∀ c t, c ∈ cs → IsL t c → Pure we (ev.set y (some t)) (f c)) : Pure (wLc (wList false (.vl w)) (gN y) wYes we [y]) ev (.lst (cs.map f)) := by
  obtain ⟨ts, e, h⟩ := hu.frz_eq
  have hlen : (ts.map T.frz).length = cs.length := h.frz.len
  have := lc_genV (w := w) (items := ts.map T.frz) (pT := fun _ => true) (fT := fun k => f (cs.getD k [])) (wt := wYes) (we := we) (y := y) (ev := ev) hw (by
    have : u.frz.frz = u.frz := by rw [e]; rfl
    rw [e]; rfl) hu.isSeq (by rw [hlen]; exact hl) hy ho (fun k _ => PureT.yes) (fun k hk _ => by
      rw [hlen] at hk
      obtain ⟨t, e2, h2⟩ := h.frz.get hk
      rw [List.getD_eq_getElem?_getD, e2]
      exact he _ t (getD_mem hk) h2)
  rw [List.filter_eq_self.mpr (fun _ _ => rfl), hlen, map_getD2] at this
  exact this
end
end TL

/-! TLM5: the rounds of a power; the least right number. -/
namespace TL
open PySem PySem.Spec PyProof.Rows L2
section
variable {L g : Nat} {k : Int}
def ixL (L g : Nat) (k : Int) : List Int := (List.range g).flatMap fun (a : Nat) => (List.range (L / g)).map fun (j : Nat) => ((a : Int) + (j : Int) * k) % (L : Int)
theorem small_dvd {x : Int} (h : (g : Int) ∣ x) (h1 : -(g : Int) < x) (h2 : x < g) : x = 0 := Int.eq_zero_of_dvd_of_natAbs_lt_natAbs h (by omega)
theorem ix_inj (hg : Int.gcd L k = g) {a b i j : Nat} (ha : a < g) (hb : b < g) (hi : i < L / g) (hj : j < L / g) (e : ((a : Int) + (i : Int) * k) % (L : Int) = ((b : Int) + (j : Int) * k) % (L : Int)) : a = b ∧ i = j := by
  have d : (L : Int) ∣ ((a : Int) + i * k) - ((b : Int) + j * k) := Int.dvd_of_emod_eq_zero (Int.emod_eq_emod_iff_emod_sub_eq_zero.mp e)
  have gL : (g : Int) ∣ (L : Int) := by rw [← hg]; exact Int.gcd_dvd_left ..
  have gk : (g : Int) ∣ k := by rw [← hg]; exact Int.gcd_dvd_right ..
  have d1 : (g : Int) ∣ ((a : Int) - b) := by
    have h1 := Int.dvd_trans gL d
    have h2 : (g : Int) ∣ ((i : Int) - j) * k := Int.dvd_trans gk (Int.dvd_mul_left ..)
    have h3 := Int.dvd_sub h1 h2
    have e3 : ((a : Int) + i * k) - ((b : Int) + j * k) - ((i : Int) - j) * k = a - b := by rw [Int.sub_mul]; omega
    rw [e3] at h3; exact h3
  have eab : (a : Int) - b = 0 := small_dvd d1 (by omega) (by omega)
  have eab' : a = b := by omega
  subst eab'
  refine ⟨rfl, ?_⟩
  have d2 : (L : Int) ∣ ((i : Int) - j) * k := by
    have e3 : ((a : Int) + i * k) - ((a : Int) + j * k) = ((i : Int) - j) * k := by rw [Int.sub_mul]; omega
    rw [e3] at d; exact d
  have d3 : L ∣ ((i : Int) - j).natAbs * k.natAbs := by
    have := Int.natAbs_dvd_natAbs.mpr d2
    rw [Int.natAbs_mul] at this; simpa using this
  have d4 : L ∣ ((i : Int) - j).natAbs * g := by
    have h1 : L ∣ ((i : Int) - j).natAbs * L := Nat.dvd_mul_left ..
    have := Nat.dvd_gcd h1 d3
    rw [Nat.gcd_mul_left] at this
    have eg : Nat.gcd L k.natAbs = g := by rw [← hg]; rfl
    rwa [eg] at this
  have gL' : g ∣ L := Int.natCast_dvd_natCast.mp gL
  have gp : 0 < g := by omega
  have d5 : L / g ∣ ((i : Int) - j).natAbs := by
    have : (L / g) * g ∣ ((i : Int) - j).natAbs * g := by rw [Nat.div_mul_cancel gL']; exact d4
    exact Nat.dvd_of_mul_dvd_mul_right gp this
  by_cases z : ((i : Int) - j).natAbs = 0
  · omega
  · have := Nat.le_of_dvd (by omega) d5
    omega
theorem ix_perm (hL : 0 < L) (hg : Int.gcd L k = g) : (ixL L g k).Perm (rg L) := by
  have gL : g ∣ L := by
    have : (g : Int) ∣ (L : Int) := by rw [← hg]; exact Int.gcd_dvd_left ..
    exact Int.natCast_dvd_natCast.mp this
  refine perm_of ?_ (fun x hx => ?_) ?_
  · unfold ixL List.Nodup
    rw [List.pairwise_flatMap]
    refine ⟨fun a ha => ?_, ?_⟩
    · rw [List.pairwise_map]
      refine (List.pairwise_lt_range (n := L / g)).imp_of_mem fun {i j} hi hj hij e => ?_
      have := (ix_inj hg (List.mem_range.mp ha) (List.mem_range.mp ha) (List.mem_range.mp hi) (List.mem_range.mp hj) e).2
      omega
    · refine (List.pairwise_lt_range (n := g)).imp_of_mem fun {a b} ha hb hab x hx y hy e => ?_
      obtain ⟨i, hi, rfl⟩ := List.mem_map.mp hx
      obtain ⟨j, hj, rfl⟩ := List.mem_map.mp hy
      have := (ix_inj hg (List.mem_range.mp ha) (List.mem_range.mp hb) (List.mem_range.mp hi) (List.mem_range.mp hj) e).1
      omega
  · unfold ixL at hx
    obtain ⟨a, _, hx⟩ := List.mem_flatMap.mp hx
    obtain ⟨j, _, rfl⟩ := List.mem_map.mp hx
    exact rg_mem.mpr ⟨Int.emod_nonneg _ (by omega), Int.emod_lt_of_pos _ (by omega)⟩
  · have : (ixL L g k).length = g * (L / g) := by
      unfold ixL
      rw [List.length_flatMap]
      have : (List.range g).map (fun (a : Nat) => ((List.range (L / g)).map fun (j : Nat) => ((a : Int) + (j : Int) * k) % (L : Int)).length) = List.replicate g (L / g) := by
        rw [List.eq_replicate_iff]
        exact ⟨by simp, fun b hb => by
          obtain ⟨a, _, rfl⟩ := List.mem_map.mp hb
          simp⟩
      rw [this, List.sum_replicate_nat]
    rw [this, rg_len, Nat.mul_div_cancel' gL]
    exact Nat.le_refl _
/-- a piece of a round, in the order of the power -/
def pce (c : List Int) (k : Int) (a : Nat) : List Int := (List.range (c.length / Int.gcd c.length k)).map fun (j : Nat) => G c (((a : Int) + (j : Int) * k) % (c.length : Int))
def pcs (c : List Int) (k : Int) : List (List Int) := (List.range (Int.gcd c.length k)).map (pce c k)
variable {p c : List Int} {cs : List (List Int)} {n : Nat}
theorem rg_G : (rg c.length).map (G c) = c := G_ext (by rw [List.length_map, rg_len]) fun i i0 i1 => by
  rw [List.length_map, rg_len] at i1
  rw [G_map i0 (by rw [rg_len]; exact i1), G_rg i0 i1]
theorem pcs_flat (hc : 0 < c.length) : (pcs c k).flatten.Perm c := by
  have e : (pcs c k).flatten = (ixL c.length (Int.gcd c.length k) k).map (G c) := by
    unfold pcs ixL
    rw [← List.flatMap_def, List.map_flatMap]
    congr 1
    funext a
    rw [List.map_map]; rfl
  rw [e]
  exact ((ix_perm hc rfl).map (G c)).trans (by rw [rg_G])
theorem pce_len {a : Nat} : (pce c k a).length = c.length / Int.gcd c.length k := by unfold pce; rw [List.length_map, List.length_range]
theorem gcd_pos (hc : 0 < c.length) : 0 < Int.gcd c.length k := by
  refine Nat.pos_of_ne_zero fun e => ?_
  have := (Int.gcd_eq_zero_iff.mp e).1
  simp at this; simp [this] at hc
theorem gcd_dvd_len : Int.gcd c.length k ∣ c.length := Int.natCast_dvd_natCast.mp (Int.gcd_dvd_left ..)
theorem pce_pos (hc : 0 < c.length) : 0 < c.length / Int.gcd c.length k := Nat.div_pos (Nat.le_of_dvd hc gcd_dvd_len) (gcd_pos hc)
theorem Cyc.it_at (h : Cyc p c) {x : Int} (x0 : 0 ≤ x) (x1 : x < c.length) (m : Nat) : TL.it p m (G c x) = G c ((x + m) % c.length) := by
  have e : G c x = TL.it p x.toNat (G c 0) := by
    rw [h.it]
    congr 1
    rw [Int.emod_eq_of_lt (by omega) (by omega)]; omega
  rw [e, ← it_add, h.it]
  congr 2
  omega
theorem Cyc.tpow_at (hT : Turn p) (h : Cyc p c) (hin : ∀ x ∈ c, 0 ≤ x ∧ x < (p.length : Int)) {x : Int} (x0 : 0 ≤ x) (x1 : x < c.length) : G (TL.tpow p k) (G c x) = G c ((x + k) % c.length) := by
  have b := hin _ (G_mem x0 x1)
  have hp := h.pos
  have e : TL.it p c.length (G c x) = G c x := by
    rw [h.it_at x0 x1, Int.add_emod_right, Int.emod_eq_of_lt x0 x1]
  rw [hT.G_tpow b.1 b.2 hp e, h.it_at x0 x1]
  congr 1
  have := Int.emod_nonneg k (show (c.length : Int) ≠ 0 by omega)
  rw [Int.toNat_of_nonneg this, Int.add_emod_emod]
theorem Cyc.pce (hT : Turn p) (h : Cyc p c) (hin : ∀ x ∈ c, 0 ≤ x ∧ x < (p.length : Int)) (a : Nat) : Cyc (TL.tpow p k) (TL.pce c k a) := by
  have hp := h.pos
  have hq := pce_pos (k := k) hp
  refine ⟨List.length_pos_iff.mp (by rw [pce_len]; exact hq), fun j j0 j1 => ?_⟩
  rw [pce_len] at j1 ⊢
  have hd : (c.length / Int.gcd c.length k) * Int.gcd c.length k = c.length := Nat.div_mul_cancel gcd_dvd_len
  generalize hq' : c.length / Int.gcd c.length k = q at *
  have atj : ∀ i : Int, 0 ≤ i → i < q → G (TL.pce c k a) i = G c (((a : Int) + i * k) % c.length) := fun i i0 i1 => by
    unfold TL.pce
    rw [hq', G_mapN i0 i1, Int.toNat_of_nonneg i0]
  have m0 := Int.emod_nonneg (j + 1) (show (q : Int) ≠ 0 by omega)
  have m1 := Int.emod_lt_of_pos (j + 1) (show 0 < (q : Int) by omega)
  rw [atj j j0 j1, atj _ m0 m1, h.tpow_at hT hin (Int.emod_nonneg _ (by omega)) (Int.emod_lt_of_pos _ (by omega)), Int.emod_add_emod]
  congr 1
  by_cases z : j + 1 < q
  · rw [Int.emod_eq_of_lt (by omega) z, Int.add_mul, Int.one_mul, Int.add_assoc]
  · have ej : j = q - 1 := by omega
    have e0 : (j + 1) % (q : Int) = 0 := by rw [show j + 1 = (q : Int) by omega, Int.emod_self]
    rw [e0, Int.zero_mul, Int.add_zero]
    obtain ⟨t, ht⟩ : (Int.gcd c.length k : Int) ∣ k := Int.gcd_dvd_right ..
    have e1 : (a : Int) + j * k + k = a + c.length * t := by
      have : (c.length : Int) = q * (Int.gcd c.length k : Int) := by exact_mod_cast hd.symm
      rw [this, ej, Int.sub_mul, Int.one_mul, Int.mul_assoc, ← ht]; omega
    rw [e1, Int.add_mul_emod_self_left]
theorem flat_perm {f : List Int → List (List Int)} : ∀ {cs : List (List Int)}, (∀ c ∈ cs, (f c).flatten.Perm c) → (cs.flatMap f).flatten.Perm cs.flatten
  | [], _ => .refl _
  | c :: cs, h => by
    rw [List.flatMap_cons, List.flatten_append, List.flatten_cons]
    exact (h c List.mem_cons_self).append (flat_perm fun d hd => h d (List.mem_cons_of_mem _ hd))
theorem Told.tpow (hT : Turn p) (h : Told p cs) : Told (TL.tpow p k) (cs.flatMap fun c => pcs c k) := ⟨fun d hd => by
    obtain ⟨c, hc, hd⟩ := List.mem_flatMap.mp hd
    unfold pcs at hd
    obtain ⟨a, _, rfl⟩ := List.mem_map.mp hd
    exact (h.1 c hc).pce hT (fun x hx => h.inn hc hx) a, by
    rw [tpow_len]
    exact (flat_perm fun c hc => pcs_flat (h.1 c hc).pos).trans h.2⟩
/-- what lengths a power's rounds have -/
def pieces (k : Int) (l : Int) : List Int := List.replicate (Int.gcd l k) (l / (Int.gcd l k : Int))
theorem pcs_lens : (pcs c k).map (fun d => (d.length : Int)) = pieces k c.length := by
  unfold pcs pieces
  rw [List.map_map, List.eq_replicate_iff]
  refine ⟨by simp, fun b hb => ?_⟩
  obtain ⟨a, _, rfl⟩ := List.mem_map.mp hb
  show ((pce c k a).length : Int) = _
  rw [pce_len, Int.natCast_ediv]
theorem Turn.lens_tpow (hT : Turn p) : (lens (TL.tpow p k)).Perm ((lens p).flatMap (pieces k)) := by
  have h := (hT.told.tpow (k := k) hT).lens hT.tpow
  refine h.symm.trans ?_
  unfold lens
  rw [List.map_flatMap, List.flatMap_map]
  refine .of_eq ?_
  congr 1
  funext c
  exact pcs_lens
end
/-! ### the least right number -/
section
variable {l m d e t g : Nat}
/-- all of m that is of primes of l -/
def IsLr (l m d : Nat) : Prop := d ∣ m ∧ Nat.Coprime (m / d) l ∧ ∃ k, d ∣ l ^ k
theorem IsLr.cop (h : IsLr l m d) {x : Nat} (hx : Nat.Coprime x l) : Nat.Coprime x d := by
  obtain ⟨_, _, k, hk⟩ := h
  exact Nat.Coprime.coprime_dvd_right hk (hx.pow_right k)
theorem IsLr.dvd (h : IsLr l m d) (hg : g ∣ m) (hc : Nat.Coprime (m / g) l) : d ∣ g := by
  have h1 : d ∣ g * (m / g) := by rw [Nat.mul_div_cancel' hg]; exact h.1
  exact (h.cop hc).symm.dvd_of_dvd_mul_right h1
theorem IsLr.one (h : IsLr l m d) (k : IsLr l m e) : d = e := Nat.dvd_antisymm (h.dvd k.1 k.2.1) (k.dvd h.1 h.2.1)
theorem IsLr.mul (hm : 0 < m) (h : IsLr l m d) (k : IsLr l (m * t) e) : d ∣ e := by
  obtain ⟨k1, k2, k3⟩ := k
  have h1 : d ∣ e * (m * t / e) := by rw [Nat.mul_div_cancel' k1]; exact Nat.dvd_trans h.1 (Nat.dvd_mul_right ..)
  exact (h.cop k2).symm.dvd_of_dvd_mul_right h1
/-- it parts how many pieces of that length a round falls into -/
theorem IsLr.piece {L : Nat} (hm : 0 < m) (hg : Nat.gcd L m = g) (hl : L / g = l) (h : IsLr l m d) : d ∣ g := by
  have gm : g ∣ m := by rw [← hg]; exact Nat.gcd_dvd_right ..
  have gp : 0 < g := Nat.pos_of_ne_zero fun e => by
    rw [e] at gm; have := Nat.eq_zero_of_zero_dvd gm; omega
  refine h.dvd gm ?_
  rw [← hl, ← hg]
  exact (Nat.coprime_div_gcd_div_gcd (by rw [hg]; exact gp)).symm
theorem IsLr.gcd (h : IsLr l m d) : Nat.gcd (d * l) m = d := by
  have e : m = d * (m / d) := (Nat.mul_div_cancel' h.1).symm
  have h2 : Nat.gcd l (m / d) = 1 := h.2.1.symm
  rw [e, Nat.gcd_mul_left, h2, Nat.mul_one]
end
end TL

/-! TLM6: roots put together out of rounds. -/
namespace TL
open PySem PySem.Spec PyProof.Rows L2
section
variable {p q r c d : List Int} {cs fs : List (List Int)} {n m : Nat} {x : Int}
theorem flat_one (hn : cs.flatten.Nodup) (hc : c ∈ cs) (hd : d ∈ cs) (h1 : x ∈ c) (h2 : x ∈ d) : c = d := by
  unfold List.Nodup at hn
  rw [List.pairwise_flatten] at hn
  obtain ⟨i, hi, rfl⟩ := List.getElem_of_mem hc
  obtain ⟨j, hj, rfl⟩ := List.getElem_of_mem hd
  have P := List.pairwise_iff_getElem.mp hn.2
  rcases Nat.lt_trichotomy i j with h | h | h
  · exact absurd rfl (P i j hi hj h x h1 x h2)
  · subst h; rfl
  · exact absurd rfl (P j i hj hi h x h2 x h1)
theorem flat_nd (hn : cs.flatten.Nodup) (hc : c ∈ cs) : c.Nodup := by
  unfold List.Nodup at hn
  rw [List.pairwise_flatten] at hn
  exact hn.1 c hc
/-- where a thing goes, by the rounds -/
def nxt (cs : List (List Int)) (x : Int) : Int := match cs.find? (fun c => c.contains x) with
  | some c => G c ((((c.idxOf x : Nat) : Int) + 1) % (c.length : Int))
  | none => 0
def tell (cs : List (List Int)) : List Int := (rg cs.flatten.length).map (nxt cs)
theorem nxt_of (hn : cs.flatten.Nodup) (hc : c ∈ cs) {j : Int} (j0 : 0 ≤ j) (j1 : j < c.length) : nxt cs (G c j) = G c ((j + 1) % (c.length : Int)) := by
  have hm : G c j ∈ c := G_mem j0 j1
  unfold nxt
  cases e : cs.find? (fun c' => c'.contains (G c j)) with
  | none =>
    have := List.find?_eq_none.mp e c hc
    simp at this
    exact absurd hm this
  | some d =>
    have h1 := List.mem_of_find?_eq_some e
    have h2 := List.find?_some e
    have h2' : G c j ∈ d := by simpa using h2
    have hcd : c = d := flat_one hn hc h1 hm h2'
    subst hcd
    have hi := G_idx hm
    have : ((c.idxOf (G c j) : Nat) : Int) = j := G_inj (flat_nd hn hc) (by omega) (by omega) j0 j1 hi.2
    show G c ((((c.idxOf (G c j) : Nat) : Int) + 1) % (c.length : Int)) = _
    rw [this]
theorem tell_told (hp : cs.flatten.Perm (rg n)) (h0 : ∀ c ∈ cs, c ≠ []) : Told (tell cs) cs ∧ (tell cs).length = n ∧ Turn (tell cs) := by
  have hn : cs.flatten.Nodup := hp.nodup_iff.mpr rg_nodup
  have hl : cs.flatten.length = n := by rw [hp.length_eq, rg_len]
  have hlen : (tell cs).length = n := by unfold tell; rw [List.length_map, rg_len, hl]
  have inn : ∀ c ∈ cs, ∀ x ∈ c, 0 ≤ x ∧ x < (n : Int) := fun c hc x hx => rg_mem.mp (hp.subset (List.mem_flatten.mpr ⟨c, hc, hx⟩))
  have at_ : ∀ c ∈ cs, ∀ j : Int, 0 ≤ j → j < c.length → G (tell cs) (G c j) = G c ((j + 1) % (c.length : Int)) := fun c hc j j0 j1 => by
    have b := inn c hc _ (G_mem j0 j1)
    unfold tell
    rw [hl, G_map b.1 (by rw [rg_len]; exact b.2), G_rg b.1 b.2, nxt_of hn hc j0 j1]
  refine ⟨⟨fun c hc => ⟨h0 c hc, at_ c hc⟩, by rw [hlen]; exact hp⟩, hlen, ?_⟩
  refine Turn.of (n := n) ((perm_of rg_nodup (fun y hy => ?_) (by rw [hlen, rg_len]; exact Nat.le_refl _)).symm)
  obtain ⟨c, hc, hy⟩ := List.mem_flatten.mp (hp.symm.subset hy)
  obtain ⟨j, j0, j1, rfl⟩ := G_ex hy
  have hpos : 0 < (c.length : Int) := by omega
  have b0 := Int.emod_nonneg (j + c.length - 1) (show (c.length : Int) ≠ 0 by omega)
  have b1 := Int.emod_lt_of_pos (j + c.length - 1) hpos
  have e := at_ c hc _ b0 b1
  have e2 : ((j + c.length - 1) % (c.length : Int) + 1) % (c.length : Int) = j := by
    rw [Int.emod_add_emod, show j + (c.length : Int) - 1 + 1 = j + c.length by omega, Int.add_emod_right, Int.emod_eq_of_lt j0 j1]
  rw [e2] at e
  rw [← e]
  have bb := inn c hc _ (G_mem b0 b1)
  exact G_mem bb.1 (by rw [hlen]; exact bb.2)
theorem Told.eq (h1 : TN n p) (h2 : TN n q) (k1 : Told p cs) (k2 : Told q cs) : p = q := h1.ext h2 fun i i0 i1 => by
  obtain ⟨c, hc, hi⟩ := List.mem_flatten.mp (k1.2.symm.subset (rg_mem.mpr ⟨i0, by rw [h1.2.1]; exact i1⟩))
  obtain ⟨j, j0, j1, rfl⟩ := G_ex hi
  rw [(k1.1 c hc).2 j j0 j1, (k2.1 c hc).2 j j0 j1]
theorem tpow_one (h : TN n p) : tpow p 1 = p := h.tpow.ext h fun i i0 i1 => by
  unfold tpow
  rw [if_neg (by decide)]
  rw [G_pw i0 (by rw [h.2.1]; exact i1)]
  rfl
/-- W's pieces at the power m are these -/
def Wov (nss : List (List Int)) (m : Nat) (W : List Int) : Prop := 0 < W.length ∧ pcs W (m : Int) = nss
theorem Wov.len {nss : List (List Int)} {W : List Int} (h : Wov nss m W) : W.length = nss.flatten.length := by
  rw [← h.2]; exact (pcs_flat h.1).length_eq.symm
theorem Wov.one {nss : List (List Int)} {W V : List Int} (h : Wov nss m W) (k : Wov nss m V) : W = V := by
  have hl : W.length = V.length := h.len.trans k.len.symm
  refine G_ext hl fun x x0 x1 => ?_
  have hm := (ix_perm (L := W.length) (k := (m : Int)) h.1 rfl).symm.subset (rg_mem.mpr ⟨x0, x1⟩)
  unfold ixL at hm
  obtain ⟨a, ha, hm⟩ := List.mem_flatMap.mp hm
  obtain ⟨j, hj, rfl⟩ := List.mem_map.mp hm
  have ha := List.mem_range.mp ha
  have hj := List.mem_range.mp hj
  have e := h.2.trans k.2.symm
  have e1 : (pcs W (m : Int))[a]? = some (pce W m a) := by unfold pcs; rw [List.getElem?_map, List.getElem?_range ha]; rfl
  have e2 : (pcs V (m : Int))[a]? = some (pce V m a) := by unfold pcs; rw [List.getElem?_map, List.getElem?_range (by rw [← hl]; exact ha)]; rfl
  rw [e, e2] at e1
  have e3 := Option.some.inj e1
  have f1 : G (pce W m a) j = G W (((a : Int) + (j : Int) * m) % (W.length : Int)) := by
    unfold pce; rw [G_mapN (by omega) (by omega)]; rfl
  have f2 : G (pce V m a) j = G V (((a : Int) + (j : Int) * m) % (V.length : Int)) := by
    unfold pce; rw [G_mapN (by omega) (by rw [← hl]; omega)]; rfl
  rw [e3] at f2
  rw [← f1, f2, hl]
open Classical in
noncomputable def wov (nss : List (List Int)) (m : Nat) : List Int := if h : ∃ W, Wov nss m W then h.choose else []
theorem wov_eq {nss : List (List Int)} {W : List Int} (h : Wov nss m W) : wov nss m = W := by
  have e : ∃ W, Wov nss m W := ⟨W, h⟩
  unfold wov
  rw [dif_pos e]
  exact e.choose_spec.one h
/-- the rearrangement of the woven rounds, done m times -/
theorem tell_root (hp : TN n p) (h0 : ∀ W ∈ fs, 0 < W.length) (h : (fs.flatMap fun W => pcs W (m : Int)).Perm (TL.rounds p)) : TN n (tell fs) ∧ Told (tell fs) fs ∧ tpow (tell fs) m = p := by
  have hT := hp.2.2.told
  have hf : fs.flatten.Perm (rg n) := by
    have h1 : (fs.flatMap fun W => pcs W (m : Int)).flatten.Perm fs.flatten := flat_perm fun c hc => pcs_flat (h0 c hc)
    refine h1.symm.trans ((List.Perm.flatten h).trans ?_)
    have := hT.2
    rwa [hp.2.1] at this
  obtain ⟨t1, t2, t3⟩ := tell_told hf fun c hc e => by have := h0 c hc; rw [e] at this; exact absurd this (by decide)
  have hr : TN n (tell fs) := ⟨hp.1, t2, t3⟩
  exact ⟨hr, t1, Told.eq hr.tpow hp (t1.tpow (k := (m : Int)) t3) (hT.perm h)⟩
end
/-! ### by lengths -/
def ofLen (cs : List (List Int)) (l : Int) : List (List Int) := cs.filter fun c => decide ((c.length : Int) = l)
theorem group_perm : ∀ {ks : List Int} {cs : List (List Int)}, ks.Nodup → (∀ c ∈ cs, (c.length : Int) ∈ ks) → (ks.flatMap (ofLen cs)).Perm cs
  | [], cs, _, h => by
    cases cs with
    | nil => exact .refl _
    | cons c cs => exact absurd (h c List.mem_cons_self) (by simp)
  | l :: ks, cs, hn, h => by
    rw [List.nodup_cons] at hn
    rw [List.flatMap_cons]
    have ih := group_perm (ks := ks) (cs := cs.filter fun c => !decide ((c.length : Int) = l)) hn.2 fun c hc => by
      rw [List.mem_filter] at hc
      have := h c hc.1
      rcases List.mem_cons.mp this with e | e
      · simp [e] at hc
      · exact e
    have e : ks.flatMap (ofLen (cs.filter fun c => !decide ((c.length : Int) = l))) = ks.flatMap (ofLen cs) := by
      rw [List.flatMap_def, List.flatMap_def]
      congr 1
      refine List.map_congr_left fun k hk => ?_
      unfold ofLen
      rw [List.filter_filter]
      refine List.filter_congr fun c _ => ?_
      by_cases z : (c.length : Int) = k
      · have : ¬ (c.length : Int) = l := fun y => hn.1 (by rw [← y, z]; exact hk)
        simp [z, this]; intro y; exact this (z.trans y)
      · simp [z]
    rw [e] at ih
    exact (List.Perm.append_left _ ih).trans (List.filter_append_perm _ _)
/-- cut into parts of d -/
def chunks {α : Type} (d : Nat) (xs : List α) : List (List α) := (List.range (xs.length / d)).map fun i => (xs.drop (i * d)).take d
theorem chunks_flat {α : Type} {d : Nat} (hd : 0 < d) {xs : List α} (h : d ∣ xs.length) : (chunks d xs).flatten = xs := by
  obtain ⟨q, hq⟩ := h
  unfold chunks
  rw [hq, Nat.mul_div_cancel_left _ hd]
  have : ∀ k, k ≤ q → ((List.range k).map fun i => (xs.drop (i * d)).take d).flatten = xs.take (k * d) := fun k => by
    induction k with
    | zero => intro _; simp
    | succ k ih =>
      intro hk
      rw [List.range_succ, List.map_append, List.flatten_append, ih (by omega)]
      simp only [List.map_cons, List.map_nil, List.flatten_cons, List.flatten_nil, List.append_nil]
      rw [Nat.succ_mul, List.take_add]
  rw [this q (Nat.le_refl _), List.take_of_length_le (by rw [hq, Nat.mul_comm]; exact Nat.le_refl _)]
/-! ### the least right number -/
theorem IsLr.ex {l : Nat} (hl : 0 < l) : ∀ (m : Nat), 0 < m → ∃ d, IsLr l m d := fun m => by
  induction m using Nat.strongRecOn with
  | ind m ih =>
    intro hm
    by_cases h1 : Nat.gcd m l = 1
    · exact ⟨1, Nat.one_dvd _, by rw [Nat.div_one]; exact h1, 0, Nat.one_dvd _⟩
    · have gp : 0 < Nat.gcd m l := Nat.gcd_pos_of_pos_left _ hm
      have gm : Nat.gcd m l ∣ m := Nat.gcd_dvd_left ..
      have glt : m / Nat.gcd m l < m := Nat.div_lt_self hm (by omega)
      obtain ⟨d, d1, d2, k, d3⟩ := ih _ glt (Nat.div_pos (Nat.le_of_dvd hm gm) gp)
      refine ⟨Nat.gcd m l * d, ?_, ?_, k + 1, ?_⟩
      · have := Nat.mul_dvd_mul_left (Nat.gcd m l) d1
        rwa [Nat.mul_div_cancel' gm] at this
      · rw [← Nat.div_div_eq_div_mul]; exact d2
      · rw [Nat.pow_succ, Nat.mul_comm]
        exact Nat.mul_dvd_mul d3 (Nat.gcd_dvd_right ..)
open Classical in
noncomputable def lr (l m : Nat) : Nat := if h : ∃ d, IsLr l m d then h.choose else 1
theorem lr_is {l m : Nat} (hl : 0 < l) (hm : 0 < m) : IsLr l m (lr l m) := by
  have e := IsLr.ex hl m hm
  unfold lr
  rw [dif_pos e]
  exact e.choose_spec
theorem lr_eq {l m d : Nat} (h : IsLr l m d) : lr l m = d := by
  have e : ∃ d, IsLr l m d := ⟨d, h⟩
  unfold lr
  rw [dif_pos e]
  exact e.choose_spec.one h
theorem lr_pos {l m : Nat} (hl : 0 < l) (hm : 0 < m) : 0 < lr l m := Nat.pos_of_dvd_of_pos (lr_is hl hm).1 hm
end TL

/-! TLM7: what bars a root; the root that is told. -/
namespace TL
open PySem PySem.Spec PyProof.Rows L2
/-- each once, in the order they come -/
def fdd1 (ks : List Int) (l : Int) : List Int := if l ∈ ks then ks else ks ++ [l]
def fdd (ls : List Int) : List Int := ls.foldl fdd1 []
theorem fdd_snoc {ls : List Int} {l : Int} : fdd (ls ++ [l]) = fdd1 (fdd ls) l := by unfold fdd; rw [List.foldl_append]; rfl
theorem fdd_aux : ∀ (ls ks : List Int), ks.Nodup → (ls.foldl fdd1 ks).Nodup ∧ ∀ x, x ∈ ls.foldl fdd1 ks ↔ x ∈ ks ∨ x ∈ ls
  | [], ks, h => ⟨h, fun x => by simp⟩
  | l :: ls, ks, h => by
    rw [List.foldl_cons]
    have h1 : (fdd1 ks l).Nodup := by
      unfold fdd1
      split
      · exact h
      · rename_i hn
        exact List.nodup_append.mpr ⟨h, List.pairwise_singleton _ _, fun a ha b hb e => hn (by rw [List.mem_singleton.mp hb] at e; rw [← e]; exact ha)⟩
    obtain ⟨a, b⟩ := fdd_aux ls (fdd1 ks l) h1
    refine ⟨a, fun x => (b x).trans ?_⟩
    unfold fdd1
    split
    · rename_i hm
      rw [List.mem_cons]
      exact ⟨fun z => z.imp_right .inr, fun z => z.elim .inl fun z => z.elim (fun e => .inl (e ▸ hm)) .inr⟩
    · rw [List.mem_append, List.mem_singleton, List.mem_cons, or_assoc]
theorem fdd_nd (ls : List Int) : (fdd ls).Nodup := (fdd_aux ls [] List.nodup_nil).1
theorem fdd_mem {ls : List Int} {x : Int} : x ∈ fdd ls ↔ x ∈ ls := ((fdd_aux ls [] List.nodup_nil).2 x).trans (by simp)
theorem fdd_perm {l m : List Int} (h : l.Perm m) : (fdd l).Perm (fdd m) := by
  have s1 : ∀ x ∈ fdd l, x ∈ fdd m := fun x hx => fdd_mem.mpr (h.subset (fdd_mem.mp hx))
  have s2 : ∀ x ∈ fdd m, x ∈ fdd l := fun x hx => fdd_mem.mpr (h.symm.subset (fdd_mem.mp hx))
  exact perm_of (fdd_nd l) s1 (le_of_sub (fdd_nd m) s2)
theorem fdd_len {l : List Int} : (fdd l).length ≤ l.length := le_of_sub (fdd_nd l) fun x hx => fdd_mem.mp hx
def ksF (p : List Int) : List Int := srt (fdd (lens p))
def cnt (p : List Int) (l : Int) : Nat := (lens p).count l
noncomputable def barL (p : List Int) (m : Nat) : Option Int := (ksF p).find? fun l => !decide (lr l.toNat m ∣ cnt p l)
noncomputable def foundF (p : List Int) (m : Nat) : List (List Int) := (ksF p).flatMap fun l => (chunks (lr l.toNat m) (ofLen (rounds p) l)).map fun ch => wov ch m
noncomputable def rootF (p : List Int) (m : Nat) : List Int := tell (foundF p m)
theorem div_div_mul {m r g : Nat} (hr : r ∣ m) (hg : g ∣ r) (h0 : 0 < r) : m / (r / g) = m / r * g := by
  obtain ⟨b, rfl⟩ := hg
  obtain ⟨a, rfl⟩ := hr
  have g0 : 0 < g := Nat.pos_of_mul_pos_right h0
  have b0 : 0 < b := Nat.pos_of_mul_pos_left h0
  rw [Nat.mul_div_cancel_left _ g0, Nat.mul_div_cancel_left _ h0, Nat.mul_comm g b, Nat.mul_assoc, Nat.mul_div_cancel_left _ b0, Nat.mul_comm]
section
variable {p q : List Int} {m t n : Nat} {l : Int}
theorem ksF_mem : l ∈ ksF p ↔ l ∈ lens p := ((srt_perm _).mem_iff).trans fdd_mem
theorem ksF_nd : (ksF p).Nodup := (srt_perm _).nodup_iff.mpr (fdd_nd _)
theorem ksF_eq (h : (lens q).Perm (lens p)) : ksF q = ksF p := srt_one (((srt_perm _).trans (fdd_perm h)).trans (srt_perm _).symm) (srt_le _) (srt_le _)
theorem cnt_eq (h : (lens q).Perm (lens p)) : cnt q l = cnt p l := h.count_eq l
theorem barL_eq (h : (lens q).Perm (lens p)) : barL q m = barL p m := by
  unfold barL
  rw [ksF_eq h]
  congr 1
  funext l
  rw [cnt_eq h]
theorem barL_none : barL p m = none ↔ ∀ l ∈ lens p, lr l.toNat m ∣ cnt p l := by
  unfold barL
  rw [List.find?_eq_none]
  constructor
  · intro h l hl
    have := h l (ksF_mem.mpr hl)
    simpa using this
  · intro h l hl
    have := h l (ksF_mem.mp hl)
    simpa using this
theorem barL_some (h : barL p m = some l) : l ∈ lens p ∧ ¬ lr l.toNat m ∣ cnt p l := by
  unfold barL at h
  have h1 := List.mem_of_find?_eq_some h
  have h2 := List.find?_some h
  exact ⟨ksF_mem.mp h1, by simpa using h2⟩
theorem barL_mul (hT : Turn p) (hm : 0 < m) (ht : 0 < t) (h : barL p (m * t) = none) : barL p m = none := barL_none.mpr fun l hl => by
  have hl1 : 1 ≤ l := by
    unfold lens at hl
    obtain ⟨c, hc, rfl⟩ := List.mem_map.mp hl
    have := (hT.told.len hc).1; omega
  exact Nat.dvd_trans ((lr_is (by omega) hm).mul hm (lr_is (by omega) (Nat.mul_pos hm ht))) (barL_none.mp h l hl)
theorem barL_at {k : Nat} (hk : k < (ksF p).length) (h : ∀ l ∈ (ksF p).take k, lr l.toNat m ∣ cnt p l) (hn : ¬ lr (G (ksF p) k).toNat m ∣ cnt p (G (ksF p) k)) : barL p m = some (G (ksF p) k) := by
  unfold barL
  have e : ksF p = (ksF p).take k ++ G (ksF p) k :: (ksF p).drop (k + 1) := by
    have : (ksF p)[k]? = some (G (ksF p) k) := G_getN hk
    obtain ⟨h1, h2⟩ := List.getElem?_eq_some_iff.mp this
    rw [← h2, ← List.drop_eq_getElem_cons h1, List.take_append_drop]
  have h1 : ((ksF p).take k).find? (fun l => !decide (lr l.toNat m ∣ cnt p l)) = none := by
    rw [List.find?_eq_none]
    intro l hl
    simpa using h l hl
  generalize G (ksF p) k = x at *
  rw [e, List.find?_append, h1]
  simp [hn]
theorem dvd_count {d : Nat} {f : Int → List Int} : ∀ {ls : List Int}, (∀ x ∈ ls, d ∣ (f x).count l) → d ∣ (ls.flatMap f).count l
  | [], _ => by simp
  | x :: ls, h => by
    rw [List.flatMap_cons, List.count_append]
    exact Nat.dvd_add (h x List.mem_cons_self) (dvd_count fun y hy => h y (List.mem_cons_of_mem _ hy))
theorem lens_pos (hT : Turn p) (hl : l ∈ lens p) : 1 ≤ l := by
  unfold lens at hl
  obtain ⟨c, hc, rfl⟩ := List.mem_map.mp hl
  have := (hT.told.len hc).1; omega
theorem barL_tpow (hT : Turn p) (hm : 0 < m) : barL (tpow p m) m = none := barL_none.mpr fun l hl => by
  unfold cnt
  rw [(hT.lens_tpow (k := (m : Int))).count_eq]
  have hl1 := lens_pos hT.tpow hl
  refine dvd_count fun x hx => ?_
  have hx1 := lens_pos hT hx
  unfold pieces
  rw [List.count_replicate]
  split
  · rename_i e
    have e : x / (Int.gcd x m : Int) = l := by simpa using e
    obtain ⟨X, rfl⟩ : ∃ X : Nat, x = X := ⟨x.toNat, by omega⟩
    have eg : Int.gcd (X : Int) (m : Int) = Nat.gcd X m := rfl
    rw [eg] at e ⊢
    have e' : X / Nat.gcd X m = l.toNat := by
      rw [← Int.natCast_ediv] at e; omega
    exact (lr_is (by omega) hm).piece hm rfl e'
  · exact Nat.dvd_zero _
theorem ofLen_len : (ofLen (rounds p) l).length = cnt p l := by
  unfold ofLen cnt lens
  rw [List.count_eq_countP, List.countP_map, ← List.countP_eq_length_filter]
  rfl
theorem flat_len {α β : Type} {f : α → List β} {b : Nat} : ∀ {ls : List α}, (∀ x ∈ ls, (f x).length ≤ b) → (ls.flatMap f).length ≤ ls.length * b
  | [], _ => by simp
  | x :: ls, h => by
    rw [List.flatMap_cons, List.length_append, List.length_cons, Nat.succ_mul]
    have h1 := h x List.mem_cons_self
    have h2 := flat_len (f := f) (b := b) (ls := ls) fun y hy => h y (List.mem_cons_of_mem _ hy)
    omega
theorem chunks_len {α : Type} {d : Nat} {xs : List α} : (chunks d xs).length ≤ xs.length := by
  unfold chunks; rw [List.length_map, List.length_range]; exact Nat.div_le_self _ _
theorem ofLen_le {cs : List (List Int)} : (ofLen cs l).length ≤ cs.length := List.length_filter_le _ _
theorem root_ok (hp : TN n p) (hm : 0 < m) (h : barL p m = none) (hW : ∀ l ∈ ksF p, ∀ ch ∈ chunks (lr l.toNat m) (ofLen (rounds p) l), Wov ch m (wov ch m)) : TN n (rootF p m) ∧ Told (rootF p m) (foundF p m) ∧ tpow (rootF p m) m = p := by
  refine tell_root hp (fun W hW' => ?_) ?_
  · unfold foundF at hW'
    obtain ⟨l, hl, hW'⟩ := List.mem_flatMap.mp hW'
    obtain ⟨ch, hch, rfl⟩ := List.mem_map.mp hW'
    exact (hW l hl ch hch).1
  · have e : (foundF p m).flatMap (fun W => pcs W (m : Int)) = (ksF p).flatMap (ofLen (rounds p)) := by
      unfold foundF
      rw [List.flatMap_assoc, List.flatMap_def, List.flatMap_def]
      congr 1
      refine List.map_congr_left fun l hl => ?_
      rw [List.flatMap_map, List.flatMap_def]
      have e2 : (chunks (lr l.toNat m) (ofLen (rounds p) l)).map (fun ch => pcs (wov ch m) (m : Int)) = chunks (lr l.toNat m) (ofLen (rounds p) l) := by
        refine (List.map_congr_left fun ch hch => (hW l hl ch hch).2).trans (List.map_id' _)
      rw [e2]
      have hl' := ksF_mem.mp hl
      exact chunks_flat (lr_pos (by have := lens_pos hp.2.2 hl'; omega) hm) (by rw [ofLen_len]; exact barL_none.mp h l hl')
    rw [e]
    exact group_perm ksF_nd fun c hc => ksF_mem.mpr (by unfold lens; exact List.mem_map.mpr ⟨c, hc, rfl⟩)
end
end TL

/-! TLM8: rounds can always be woven; what is told of a root. -/
namespace TL
open PySem PySem.Spec PyProof.Rows L2
section
variable {nss : List (List Int)} {l m n t : Nat} {W p q : List Int}
theorem Wov.of (d0 : 0 < nss.length) (l0 : 0 < l) (hc : ∀ c ∈ nss, c.length = l) (hg : Nat.gcd (nss.length * l) m = nss.length) (hl : W.length = nss.length * l)
    (h : ∀ a k : Nat, a < nss.length → k < l → G W (((a : Int) + (k : Int) * m) % ((nss.length * l : Nat) : Int)) = G (nss.getD a []) k) : Wov nss m W := by
  have hS : nss.length * l / nss.length = l := Nat.mul_div_cancel_left _ d0
  have hgI : Int.gcd ((nss.length * l : Nat) : Int) (m : Int) = nss.length := hg
  refine ⟨by rw [hl]; exact Nat.mul_pos d0 l0, ?_⟩
  unfold pcs
  rw [hl, hgI]
  refine List.ext_getElem? fun a => ?_
  by_cases ha : a < nss.length
  · rw [List.getElem?_map, List.getElem?_range ha, List.getElem?_eq_getElem ha]
    show some (pce W m a) = _
    have hga : nss.getD a [] = nss[a] := by rw [List.getD_eq_getElem?_getD, List.getElem?_eq_getElem ha]; rfl
    congr 1
    have hca : nss[a].length = l := hc _ (List.getElem_mem ha)
    refine G_ext (by rw [pce_len, hl, hgI, hS, hca]) fun i i0 i1 => ?_
    rw [pce_len, hl, hgI, hS] at i1
    unfold pce
    rw [hl, hgI, hS, G_mapN i0 i1]
    have := h a i.toNat ha (by omega)
    rw [hga] at this
    rw [this, Int.toNat_of_nonneg i0]
  · rw [List.getElem?_eq_none (by rw [List.length_map, List.length_range]; omega), List.getElem?_eq_none (by omega)]
open Classical in
theorem wov_ex (d0 : 0 < nss.length) (l0 : 0 < l) (hc : ∀ c ∈ nss, c.length = l) (hg : Nat.gcd (nss.length * l) m = nss.length) : Wov nss m (wov nss m) := by
  have hS : nss.length * l / nss.length = l := Nat.mul_div_cancel_left _ d0
  have hgI : Int.gcd ((nss.length * l : Nat) : Int) (m : Int) = nss.length := hg
  have hL := Nat.mul_pos d0 l0
  let f : Nat → Nat × Nat := fun x => if h : ∃ aj : Nat × Nat, aj.1 < nss.length ∧ aj.2 < l ∧ ((aj.1 : Int) + (aj.2 : Int) * m) % ((nss.length * l : Nat) : Int) = x then h.choose else (0, 0)
  have hW : Wov nss m ((List.range (nss.length * l)).map fun x => G (nss.getD (f x).1 []) ((f x).2 : Nat)) := by
    refine Wov.of d0 l0 hc hg (by rw [List.length_map, List.length_range]) fun a k ha hk => ?_
    have m0 := Int.emod_nonneg ((a : Int) + (k : Int) * m) (show ((nss.length * l : Nat) : Int) ≠ 0 by omega)
    have m1 := Int.emod_lt_of_pos ((a : Int) + (k : Int) * m) (show 0 < ((nss.length * l : Nat) : Int) by omega)
    rw [G_mapN m0 m1]
    have e : ∃ aj : Nat × Nat, aj.1 < nss.length ∧ aj.2 < l ∧ ((aj.1 : Int) + (aj.2 : Int) * m) % ((nss.length * l : Nat) : Int) = ((((a : Int) + (k : Int) * m) % ((nss.length * l : Nat) : Int)).toNat : Nat) := ⟨(a, k), ha, hk, by rw [Int.toNat_of_nonneg m0]⟩
    have hf : f ((((a : Int) + (k : Int) * m) % ((nss.length * l : Nat) : Int)).toNat) = e.choose := dif_pos e
    obtain ⟨c1, c2, c3⟩ := e.choose_spec
    rw [← hf] at c1 c2 c3
    rw [Int.toNat_of_nonneg m0] at c3
    obtain ⟨e1, e2⟩ := ix_inj hgI c1 ha (by rw [hS]; exact c2) (by rw [hS]; exact hk) c3
    rw [e1, e2]
  rw [wov_eq hW]; exact hW
theorem chunk_wov (hT : Turn p) (hm : 0 < m) {x : Int} (hx : x ∈ lens p) (hd : lr x.toNat m ∣ cnt p x) : ∀ ch ∈ chunks (lr x.toNat m) (ofLen (rounds p) x), Wov ch m (wov ch m) := fun ch hch => by
  have x1 := lens_pos hT hx
  have hd0 := lr_pos (l := x.toNat) (m := m) (by omega) hm
  obtain ⟨N, hN⟩ := hd
  have hlen := ofLen_len (p := p) (l := x)
  unfold chunks at hch
  obtain ⟨i, hi, rfl⟩ := List.mem_map.mp hch
  have hi := List.mem_range.mp hi
  rw [hlen, hN, Nat.mul_div_cancel_left _ hd0] at hi
  have hcl : ((ofLen (rounds p) x).drop (i * lr x.toNat m) |>.take (lr x.toNat m)).length = lr x.toNat m := by
    rw [List.length_take, List.length_drop, hlen, hN]
    have : (i + 1) * lr x.toNat m ≤ lr x.toNat m * N := by rw [Nat.mul_comm _ N]; exact Nat.mul_le_mul_right _ hi
    rw [Nat.succ_mul] at this
    omega
  refine wov_ex (l := x.toNat) (by rw [hcl]; exact hd0) (by omega) (fun c hc => ?_) (by rw [hcl]; exact (lr_is (by omega) hm).gcd)
  have := List.mem_of_mem_drop (List.mem_of_mem_take hc)
  unfold ofLen at this
  have := (List.mem_filter.mp this).2
  simp at this; omega
theorem rootF_ok (hp : TN n p) (hm : 0 < m) (h : barL p m = none) : TN n (rootF p m) ∧ tpow (rootF p m) m = p :=
  let ⟨a, _, c⟩ := root_ok hp hm h fun l hl => chunk_wov hp.2.2 hm (ksF_mem.mp hl) (barL_none.mp h l (ksF_mem.mp hl))
  ⟨a, c⟩
theorem barL_one (hT : Turn p) : barL p 1 = none := barL_none.mpr fun l hl => by
  have := (lr_is (l := l.toNat) (m := 1) (by have := lens_pos hT hl; omega) (by decide)).1
  exact Nat.dvd_trans this (Nat.one_dvd _)
theorem rootF_one (hp : TN n p) : rootF p 1 = p := by
  obtain ⟨a, b⟩ := rootF_ok hp (m := 1) (by decide) (barL_one hp.2.2)
  exact (tpow_one a).symm.trans b
/-- what root_told answers -/
noncomputable def toldT (p : List Int) (m : Nat) : T := match barL p m with
  | some l => .tup [.str "bars", .int l, .int (cnt p l : Nat), .int (lr l.toNat m : Nat)]
  | none => .tup [.str "root", .lst ((rootF p m).map T.int)]
noncomputable def wordT (p : List Int) (m : Nat) : Str := match barL p m with
  | some _ => "bars"
  | none => "root"
theorem toldT_some {l : Int} (h : barL p m = some l) : toldT p m = .tup [.str "bars", .int l, .int (cnt p l : Nat), .int (lr l.toNat m : Nat)] := by unfold toldT; rw [h]
theorem toldT_none (h : barL p m = none) : toldT p m = .tup [.str "root", .lst ((rootF p m).map T.int)] := by unfold toldT; rw [h]
theorem toldT_at : (toldT p m).atT 0 = some (.str (wordT p m)) := by
  unfold toldT wordT
  cases barL p m <;> rfl
theorem toldT_atF : (T.fz (toldT p m)).atT 0 = some (.str (wordT p m)) := by
  unfold toldT wordT
  cases barL p m <;> rfl
theorem toldT_shr : (toldT p m).frz = .fz (toldT p m) := by
  unfold toldT
  cases barL p m <;> rfl
theorem word_iff : (wordT p m == ("root" : Str)) = (barL p m).isNone := by
  unfold wordT
  cases barL p m with
  | none => exact (by decide +kernel : (("root" : Str) == ("root" : Str)) = true)
  | some l => exact (by decide +kernel : (("bars" : Str) == ("root" : Str)) = false)
theorem lens_back (hp : TN n p) : (lens (wback p)).Perm (lens p) := by
  have h := (hp.2.2.told.back hp).lens hp.wback.2.2
  refine h.symm.trans (.of_eq ?_)
  unfold lens
  rw [List.map_map]
  exact List.map_congr_left fun c _ => by show ((c.reverse).length : Int) = _; rw [List.length_reverse]
theorem lens_anew {s : List Int} (hp : TN n p) (hs : TN n s) : (lens (pbe (pbe s p) (wback s))).Perm (lens p) := by
  have h := (hp.2.2.told.anew hp hs).lens ((hs.pbe hp).pbe hs.wback).2.2
  refine h.symm.trans (.of_eq ?_)
  unfold lens
  rw [List.map_map]
  exact List.map_congr_left fun c _ => by show ((c.map (G s)).length : Int) = _; rw [List.length_map]
end
/-! ### reading -/
section
variable {ev : Ev} {a b : Arg} {x y : Str} {QS : T → List (Option T) → Prop} {XS : Addr → List (Option T) → Prop}
/-- a text that can be compared -/
def StrG (x : Str) : Prop := SeqAt.shaped (T.D (.str x)) = true
theorem strG_root : StrG ("root" : Str) := by unfold StrG; decide +kernel
theorem strG_bars : StrG ("bars" : Str) := by unfold StrG; decide +kernel
theorem strG_word {p : List Int} {m : Nat} : StrG (wordT p m) := by
  unfold wordT
  cases barL p m with
  | none => exact strG_root
  | some _ => exact strG_bars
theorem p_eqS (n : apart2 a b = true) (ha : PO a ev (.str x)) (hb : PO b ev (.str y)) (hx : StrG x) (hy : StrG y) : Pure (wOp sEq [a, b]) ev (.bl (x == y)) := op2 n (fun _ _ q => ⟨.str x, .str y, rfl, hx, hy, q⟩) ha hb
theorem p_neS (n : apart2 a b = true) (ha : PO a ev (.str x)) (hb : PO b ev (.str y)) (hx : StrG x) (hy : StrG y) : Pure (wOp sNe [a, b]) ev (.bl (!(x == y))) := op2 n (fun _ _ q => ⟨.str x, .str y, rfl, hx, hy, q⟩) ha hb
theorem lay_str (h : StrG x) : PyData.canLay0 (.str x) = true := (Bool.and_eq_true_iff.mp h).1
theorem shaped_bars {l c d : Int} : SeqAt.shaped (.tuple [.str ("bars" : Str), .int l, .int c, .int d]) = true := by
  have h := lay_str strG_bars
  unfold SeqAt.shaped
  have h2 : PyData.canLay0 (.tuple [.str ("bars" : Str), .int l, .int c, .int d]) = true := by
    show (PyData.canLay0 (.str ("bars" : Str)) && _) = true
    rw [h]; rfl
  rw [h2]; rfl
theorem r_eqBars {l c d : Int} (q : QS (.bl true) [some (.tup [.str "bars", .int l, .int c, .int d]), some (.tup [.str "bars", .int l, .int c, .int d])]) : sEq [.tup [.str "bars", .int l, .int c, .int d], .tup [.str "bars", .int l, .int c, .int d]] QS XS :=
  ⟨_, _, rfl, shaped_bars, shaped_bars, by
    have : PyData.eqv (T.D (.tup [.str "bars", .int l, .int c, .int d])) (T.D (.tup [.str "bars", .int l, .int c, .int d])) = true := by
      show PyData.eqv (.tuple [.str ("bars" : Str), .int l, .int c, .int d]) (.tuple [.str ("bars" : Str), .int l, .int c, .int d]) = true
      simp [PyData.eqv, PyData.eqvAll]
    rw [this]; exact q⟩
theorem shaped_root {p : List Int} : SeqAt.shaped (.tuple [.str ("root" : Str), .list (p.map PyData.int)]) = true := by
  have h := lay_str strG_root
  have hl := PySem.W.shaped_ints p
  have h1 : PyData.canLay0 (.list (p.map PyData.int)) = true := SeqAt.canLay_of_shaped hl
  have h3 := SeqAt.depth_of_shaped hl
  unfold SeqAt.shaped
  have h2 : PyData.canLay0 (.tuple [.str ("root" : Str), .list (p.map PyData.int)]) = true := by
    show (PyData.canLay0 (.str ("root" : Str)) && (PyData.canLay0 (.list (p.map PyData.int)) && _)) = true
    rw [h, h1]; rfl
  rw [h2]
  have h4 := PySem.W.depthAll_ints p
  have h5 : PyData.depth (.tuple [.str ("root" : Str), .list (p.map PyData.int)]) ≤ 64 := by
    simp only [PyData.depth, PyData.depthAll]; omega
  rw [decide_eq_true h5]; rfl
theorem D_root {t : T} {p : List Int} (h : IsL t p) : T.D (.tup [.str "root", t]) = .tuple [.str ("root" : Str), .list (p.map PyData.int)] := by
  show PyData.tuple [.str ("root" : Str), T.D t] = _
  rw [h.D]
theorem eqv_root {t u : T} {p q : List Int} (h1 : IsL t p) (h2 : IsL u q) : PyData.eqv (T.D (.tup [.str "root", t])) (T.D (.tup [.str "root", u])) = decide (p = q) := by
  have h := h1.eqv h2
  rw [h1.D, h2.D] at h
  rw [D_root h1, D_root h2]
  show (PyData.eqv (.str ("root" : Str)) (.str ("root" : Str)) && (PyData.eqv (.list (p.map PyData.int)) (.list (q.map PyData.int)) && true)) = _
  rw [h, Bool.and_true]
  simp [PyData.eqv]
theorem p_neRoot {t u : T} {p q : List Int} (n : apart2 a b = true) (ha : PO a ev (.tup [.str "root", t])) (hb : PO b ev (.tup [.str "root", u])) (h1 : IsL t p) (h2 : IsL u q) : Pure (wOp sNe [a, b]) ev (.bl (!decide (p = q))) :=
  op2 n (fun _ _ z => ⟨_, _, rfl, by rw [D_root h1]; exact shaped_root, by rw [D_root h2]; exact shaped_root, by rw [eqv_root h1 h2]; exact z⟩) ha hb
theorem r_neRoot {t u : T} {p q : List Int} (h1 : IsL t p) (h2 : IsL u q) (z : QS (.bl (!decide (p = q))) [some (.tup [.str "root", t]), some (.tup [.str "root", u])]) : sNe [.tup [.str "root", t], .tup [.str "root", u]] QS XS :=
  ⟨_, _, rfl, by rw [D_root h1]; exact shaped_root, by rw [D_root h2]; exact shaped_root, by rw [eqv_root h1 h2]; exact z⟩
theorem r_eqRoot {t u : T} {p q : List Int} (h1 : IsL t p) (h2 : IsL u q) (z : QS (.bl (decide (p = q))) [some (.tup [.str "root", t]), some (.tup [.str "root", u])]) : sEq [.tup [.str "root", t], .tup [.str "root", u]] QS XS :=
  ⟨_, _, rfl, by rw [D_root h1]; exact shaped_root, by rw [D_root h2]; exact shaped_root, by rw [eqv_root h1 h2]; exact z⟩
end
end TL

/-! TLM9: how long a thing's round is, in a root; the first bar. -/
namespace TL
open PySem PySem.Spec PyProof.Rows L2
section
variable {p r c : List Int} {cs : List (List Int)} {n m : Nat} {x l : Int}
theorem Told.rl (hT : Turn p) (h : Told p cs) (hc : c ∈ cs) (hx : x ∈ c) : TL.rl p x = c.length := by
  have hC := h.1 c hc
  have nd := h.nd hc
  have b := h.inn hc hx
  have hp := hC.pos
  obtain ⟨j, j0, j1, rfl⟩ := G_ex hx
  refine hT.rl_eq b.1 b.2 hp ?_ fun k k0 k1 e => ?_
  · rw [hC.it_at j0 j1, Int.add_emod_right, Int.emod_eq_of_lt j0 j1]
  · rw [hC.it_at j0 j1] at e
    have m0 := Int.emod_nonneg (j + k) (show (c.length : Int) ≠ 0 by omega)
    have m1 := Int.emod_lt_of_pos (j + k) (show 0 < (c.length : Int) by omega)
    have e2 := G_inj nd m0 m1 j0 j1 e
    by_cases q : j + k < c.length
    · rw [Int.emod_eq_of_lt (by omega) q] at e2; omega
    · have : (j + k) % (c.length : Int) = j + k - c.length := by
        rw [← Int.emod_eq_of_lt (a := j + k - c.length) (b := (c.length : Int)) (by omega) (by omega), Int.sub_emod_right]
      omega
/-- a root's round against the rounds of what it is the root of -/
theorem root_rl (hr : TN n r) (e : tpow r m = p) (hp : TN n p) (hm : 0 < m) (hc : c ∈ rounds r) : ∃ g l : Nat, 0 < g ∧ 0 < l ∧ c.length = g * l ∧ TL.rl p (G c 0) = l ∧ lr l m ∣ g := by
  have hT := hr.2.2
  have hC := hT.told.1 c hc
  have hpos := hC.pos
  refine ⟨Int.gcd c.length (m : Int), c.length / Int.gcd c.length (m : Int), gcd_pos hpos, pce_pos hpos, (Nat.mul_div_cancel' gcd_dvd_len).symm, ?_, ?_⟩
  · have hT2 := hT.told.tpow (k := (m : Int)) hT
    rw [e] at hT2
    have hm1 : pce c (m : Int) 0 ∈ (rounds r).flatMap fun c => pcs c (m : Int) := List.mem_flatMap.mpr ⟨c, hc, List.mem_map.mpr ⟨0, List.mem_range.mpr (gcd_pos hpos), rfl⟩⟩
    have hx : G c 0 ∈ pce c (m : Int) 0 := by
      unfold pce
      refine List.mem_map.mpr ⟨0, List.mem_range.mpr (pce_pos hpos), ?_⟩
      simp
    rw [hT2.rl hp.2.2 hm1 hx, pce_len]
  · exact (lr_is (pce_pos hpos) hm).piece (L := c.length) hm rfl rfl
theorem barL_first (h : barL p m = some l) (hx : x ∈ lens p) (hl : x < l) : lr x.toNat m ∣ cnt p x := by
  unfold barL at h
  rw [List.find?_eq_some_iff_append] at h
  obtain ⟨h1, as, bs, e, h2⟩ := h
  have hs : (ksF p).Pairwise (· ≤ ·) := srt_le _
  have hm := ksF_mem.mpr hx
  rw [e] at hm hs
  rcases List.mem_append.mp hm with hm | hm
  · have := h2 x hm
    simpa using this
  · rw [List.pairwise_append] at hs
    rcases List.mem_cons.mp hm with rfl | hm
    · omega
    · have := (List.pairwise_cons.mp hs.2.1).1 x hm
      omega
theorem cnt_pos (hx : l ∈ lens p) : 0 < cnt p l := List.count_pos_iff.mpr hx
theorem kind_cnt : (kindL p).count l = cnt p l := (kindL_perm p).count_eq l
theorem kindL_mem : l ∈ kindL p ↔ l ∈ lens p := (kindL_perm p).mem_iff
theorem cnt_le (hT : Turn p) : cnt p l ≤ p.length := by
  have h1 : cnt p l ≤ (lens p).length := List.count_le_length
  have h2 : (lens p).length = (rounds p).length := List.length_map _
  have := rounds_len (ns := p)
  omega
end
end TL

/-! TLM10: the home of the told root. -/
namespace TL
open PySem PySem.Spec PyProof.Rows L2
/-- the home of the root that is told -/
noncomputable def homeR (p : List Int) (m : Nat) : Nat := lcmL (kindL (rootF p m))
section
variable {p q s : List Int} {n m M : Nat} {l : Int}
theorem home_dvd_lens : lcmL (kindL p) ∣ M ↔ ∀ l ∈ lens p, l.toNat ∣ M := by
  rw [lcmL_dvd]
  exact ⟨fun h l hl => h l (kindL_mem.mpr hl), fun h l hl => h l (kindL_mem.mp hl)⟩
theorem wov_len (hT : Turn p) (hm : 0 < m) (hx : l ∈ lens p) (hd : lr l.toNat m ∣ cnt p l) {ch : List (List Int)} (hch : ch ∈ chunks (lr l.toNat m) (ofLen (rounds p) l)) : (wov ch m).length = lr l.toNat m * l.toNat := by
  have hW := chunk_wov hT hm hx hd ch hch
  have x1 := lens_pos hT hx
  rw [hW.len]
  have hd0 := lr_pos (l := l.toNat) (m := m) (by omega) hm
  obtain ⟨N, hN⟩ := hd
  have hlen := ofLen_len (p := p) (l := l)
  unfold chunks at hch
  obtain ⟨i, hi, rfl⟩ := List.mem_map.mp hch
  have hi := List.mem_range.mp hi
  rw [hlen, hN, Nat.mul_div_cancel_left _ hd0] at hi
  have hcl : ((ofLen (rounds p) l).drop (i * lr l.toNat m) |>.take (lr l.toNat m)).length = lr l.toNat m := by
    rw [List.length_take, List.length_drop, hlen, hN]
    have : (i + 1) * lr l.toNat m ≤ lr l.toNat m * N := by rw [Nat.mul_comm _ N]; exact Nat.mul_le_mul_right _ hi
    rw [Nat.succ_mul] at this
    omega
  have hcc : ∀ c ∈ ((ofLen (rounds p) l).drop (i * lr l.toNat m) |>.take (lr l.toNat m)), c.length = l.toNat := fun c hc => by
    have := List.mem_of_mem_drop (List.mem_of_mem_take hc)
    unfold ofLen at this
    have := (List.mem_filter.mp this).2
    simp at this; omega
  generalize ((ofLen (rounds p) l).drop (i * lr l.toNat m) |>.take (lr l.toNat m)) = xs at *
  rw [← hcl]
  clear hcl hW hch
  induction xs with
  | nil => simp
  | cons c xs ih =>
    rw [List.flatten_cons, List.length_append, List.length_cons, Nat.succ_mul, hcc c List.mem_cons_self, ih fun d hd => hcc d (List.mem_cons_of_mem _ hd)]
    omega
theorem homeR_dvd (hp : TN n p) (hm : 0 < m) (h : barL p m = none) : homeR p m ∣ M ↔ ∀ l ∈ lens p, lr l.toNat m * l.toNat ∣ M := by
  obtain ⟨hR, hTd, hRp⟩ := root_ok hp hm h fun l hl => chunk_wov hp.2.2 hm (ksF_mem.mp hl) (barL_none.mp h l (ksF_mem.mp hl))
  have hl := hTd.lens hR.2.2
  unfold homeR
  rw [home_dvd_lens]
  constructor
  · intro H l hlm
    have x1 := lens_pos hp.2.2 hlm
    have hd := barL_none.mp h l hlm
    have hd0 := lr_pos (l := l.toNat) (m := m) (by omega) hm
    obtain ⟨ch, hch⟩ : ∃ ch, ch ∈ chunks (lr l.toNat m) (ofLen (rounds p) l) := by
      have hlen := ofLen_len (p := p) (l := l)
      have : 0 < (chunks (lr l.toNat m) (ofLen (rounds p) l)).length := by
        unfold chunks
        rw [List.length_map, List.length_range, hlen]
        exact Nat.div_pos (Nat.le_of_dvd (cnt_pos hlm) hd) hd0
      exact ⟨_, List.getElem_mem this⟩
    have hm1 : wov ch m ∈ foundF p m := by
      unfold foundF
      exact List.mem_flatMap.mpr ⟨l, ksF_mem.mpr hlm, List.mem_map.mpr ⟨ch, hch, rfl⟩⟩
    have := H _ (hl.subset (List.mem_map.mpr ⟨_, hm1, rfl⟩))
    rw [wov_len hp.2.2 hm hlm hd hch, Int.toNat_natCast] at this
    exact this
  · intro H x hx
    obtain ⟨W, hW, rfl⟩ := List.mem_map.mp (hl.symm.subset hx)
    unfold foundF at hW
    obtain ⟨l, hlk, hW⟩ := List.mem_flatMap.mp hW
    obtain ⟨ch, hch, rfl⟩ := List.mem_map.mp hW
    have hlm := ksF_mem.mp hlk
    rw [wov_len hp.2.2 hm hlm (barL_none.mp h l hlm) hch, Int.toNat_natCast]
    exact H l hlm
theorem homeR_eq (hp : TN n p) (hq : TN n q) (hm : 0 < m) (h : barL p m = none) (e : (lens q).Perm (lens p)) : homeR q m = homeR p m := by
  have h' : barL q m = none := by rw [barL_eq e]; exact h
  refine Nat.dvd_antisymm ?_ ?_
  · exact (homeR_dvd hq hm h').mpr fun l hl => (homeR_dvd hp hm h).mp (Nat.dvd_refl _) l (e.subset hl)
  · exact (homeR_dvd hp hm h).mpr fun l hl => (homeR_dvd hq hm h').mp (Nat.dvd_refl _) l (e.symm.subset hl)
/-- no root is home sooner -/
theorem homeR_least (hs : TN n s) (hm : 0 < m) (e : tpow s m = p) : homeR p m ∣ lcmL (kindL s) := by
  have hp : TN n p := e ▸ hs.tpow
  have h : barL p m = none := by rw [← e]; exact barL_tpow hs.2.2 hm
  refine (homeR_dvd hp hm h).mpr fun l hl => ?_
  rw [← e] at hl
  have hl2 := (hs.2.2.lens_tpow (k := (m : Int))).subset hl
  obtain ⟨x, hx, hl3⟩ := List.mem_flatMap.mp hl2
  unfold pieces at hl3
  have hl3 := (List.mem_replicate.mp hl3).2
  have hx1 := lens_pos hs.2.2 hx
  obtain ⟨X, rfl⟩ : ∃ X : Nat, x = X := ⟨x.toNat, by omega⟩
  have eg : Int.gcd (X : Int) (m : Int) = Nat.gcd X m := rfl
  rw [eg] at hl3
  have e' : X / Nat.gcd X m = l.toNat := by rw [← Int.natCast_ediv] at hl3; rw [hl3]; exact (Int.toNat_natCast _).symm
  have hX : (X : Int).toNat ∣ lcmL (kindL s) := home_dvd_lens.mp (Nat.dvd_refl _) _ hx
  rw [Int.toNat_natCast] at hX
  refine Nat.dvd_trans ?_ hX
  have l1 := lens_pos hs.tpow.2.2 hl
  have hlr := (lr_is (l := l.toNat) (m := m) (by omega) hm).piece (L := X) hm rfl e'
  have := Nat.mul_dvd_mul_right hlr l.toNat
  rwa [← e', Nat.mul_div_cancel' (Nat.gcd_dvd_left ..), e'] at this
theorem homeR_pos (hp : TN n p) (hm : 0 < m) (h : barL p m = none) : 0 < homeR p m := (rootF_ok hp hm h).1.home_pos
theorem homeR_one (hp : TN n p) : homeR p 1 = lcmL (kindL p) := by unfold homeR; rw [rootF_one hp]
theorem home_le_homeR (hp : TN n p) (hm : 0 < m) (h : barL p m = none) : lcmL (kindL p) ∣ homeR p m := by
  obtain ⟨hR, e⟩ := rootF_ok hp hm h
  have := hR.home_tpow (a := (m : Int))
  rwa [e] at this
end
/-- what soonest_root answers -/
noncomputable def soonT (p : List Int) (m : Nat) : T := match barL p m with
  | some _ => .non
  | none => .tup [.int (homeR p m : Nat), .fz (.lst ((rootF p m).map T.int))]
noncomputable def soonN (p : List Int) (m : Nat) : Nat := match barL p m with
  | some _ => 0
  | none => homeR p m
/-! ### reading -/
section
variable {ev : Ev} {a b : Arg} {QS : T → List (Option T) → Prop} {XS : Addr → List (Option T) → Prop}
theorem p_neB {x y : Bool} (n : apart2 a b = true) (ha : PO a ev (.bl x)) (hb : PO b ev (.bl y)) : Pure (wOp sNe [a, b]) ev (.bl (!(x == y))) := op2 n (fun _ _ q => ⟨.bl x, .bl y, rfl, rfl, rfl, q⟩) ha hb
theorem p_eqB {x y : Bool} (n : apart2 a b = true) (ha : PO a ev (.bl x)) (hb : PO b ev (.bl y)) : Pure (wOp sEq [a, b]) ev (.bl (x == y)) := op2 n (fun _ _ q => ⟨.bl x, .bl y, rfl, rfl, rfl, q⟩) ha hb
theorem D_home {t : T} {p : List Int} {h : Int} (k : IsL t p) : T.D (.tup [.int h, t]) = .tuple [.int h, .list (p.map PyData.int)] := by
  show PyData.tuple [.int h, T.D t] = _
  rw [k.D]
theorem shaped_home {p : List Int} {h : Int} : SeqAt.shaped (.tuple [.int h, .list (p.map PyData.int)]) = true := by
  have hl := PySem.W.shaped_ints p
  have h1 : PyData.canLay0 (.list (p.map PyData.int)) = true := SeqAt.canLay_of_shaped hl
  unfold SeqAt.shaped
  have h2 : PyData.canLay0 (.tuple [.int h, .list (p.map PyData.int)]) = true := by
    show (true && (PyData.canLay0 (.list (p.map PyData.int)) && _)) = true
    rw [h1]; rfl
  rw [h2]
  have h4 := PySem.W.depthAll_ints p
  have h5 : PyData.depth (.tuple [.int h, .list (p.map PyData.int)]) ≤ 64 := by
    simp only [PyData.depth, PyData.depthAll]; omega
  rw [decide_eq_true h5]; rfl
theorem r_neHome {t u : T} {p q : List Int} {h k : Int} (h1 : IsL t p) (h2 : IsL u q) (e1 : h = k) (e2 : p = q) (z : QS (.bl false) [some (.tup [.int h, t]), some (.tup [.int k, u])]) : sNe [.tup [.int h, t], .tup [.int k, u]] QS XS :=
  ⟨_, _, rfl, by rw [D_home h1]; exact shaped_home, by rw [D_home h2]; exact shaped_home, by
    have he := h1.eqv h2
    rw [h1.D, h2.D] at he
    rw [D_home h1, D_home h2]
    have : PyData.eqv (.tuple [.int h, .list (p.map PyData.int)]) (.tuple [.int k, .list (q.map PyData.int)]) = true := by
      show (PyData.eqv (.int h) (.int k) && (PyData.eqv (.list (p.map PyData.int)) (.list (q.map PyData.int)) && true)) = true
      rw [he, e1, e2]; simp [PyData.eqv]
    rw [this]; exact z⟩
end
end TL

/-! TL21: an error caught and kept in a variable. -/
namespace TL
open PySem PySem.Spec PyProof.Rows L2
section
variable {X : Cx} {pins : List (Addr × Obj)} {σ : L2.St} {H : Hp} {s : Shared} {a C : Addr} {oe : Obj}
/-- an object of ours that is there and that nobody pinned may be tracked from now on -/
theorem inv_track (I : Inv X pins σ H s) (e : s.heap.get? a = some oe) (z : Zc (.ref C) none oe) (d : ∃ vs, oe.data = .fields vs) (n : H a = none)
    (h0 : X.s_0.heap.get? a = none ∨ a ∈ X.ex) (nL : a ≠ X.env.locals) (np : ∀ p ∈ X.pn ++ pins, p.1 ≠ a) : Inv X pins σ (upd H a (excO C a)) s := by
  have keepH : ∀ b u, H b = some u → upd H a (excO C a) b = some u := fun b u q => by
    rw [upd_ne (ne_of_none q n)]; exact q
  have noneH : ∀ b, b ≠ a → H b = none → upd H a (excO C a) b = none := fun b hb q => by rw [upd_ne hb]; exact q
  refine ⟨I.ok, I.os, I.bare, ⟨I.base.keep, I.base.slot, ?_, I.base.there, ?_, ?_, ?_⟩, I.loc, I.cell, noneH _ nL.symm I.free, ?_, ?_, ?_, I.len⟩
  · intro b o q m hx
    refine noneH b (fun eb => ?_) (I.base.free b o q m hx)
    subst eb
    rcases h0 with h0 | h0
    · rw [h0] at q; cases q
    · exact hx h0
  · exact fun b xs q => keepH _ _ (I.base.tups b xs q)
  · exact fun b o u q => keepH _ _ (I.base.frzs b o u q)
  · intro b ps q
    obtain ⟨more, h⟩ := I.base.tbls b ps q
    exact ⟨more, keepH _ _ h⟩
  · intro x c hx
    refine noneH c (fun ec => ?_) (I.freeC x c hx)
    subst ec
    obtain ⟨v, oc, h1, h2⟩ := I.cell x c hx
    obtain ⟨vs, hv⟩ := d
    rw [e] at h1
    cases h1
    rw [hv] at h2
    cases h2
  · intro p hp
    obtain ⟨q1, q2, q3, q4, q5⟩ := I.pin p hp
    exact ⟨q1, noneH _ (np p hp) q2, q3, q4, q5⟩
  · intro b u q
    by_cases hb : b = a
    · subst hb
      rw [upd_same] at q
      cases q
      exact ⟨⟨oe, e, z, d⟩, ⟨oe, e⟩, fun _ _ ⟨o, g, r⟩ k => ⟨o, k o g, r⟩⟩
    · rw [upd_ne hb] at q
      exact (I.hok b u q).stay (fun _ _ _ g => g) (fun c g => keepH _ _ g) (fun c xs g => keepH _ _ g)
/-- what 'except x as e: kept = e' asks of an error of the body: slot i is e's, slot j the keeping one's -/
def wKept (K : PySem.W.Frag) (c : Value) (i j : Nat) (D : Ends) : WX := fun cls d σ H =>
  ∃ C, cls = .ref C ∧ d = none ∧ PySem.W.exmOne K cls c = some true ∧ ∀ a, H a = none → D.nx (((σ.set i (some (.ref a))).set j (some (.ref a))).set i none) (upd H a (excO C a))
end
section
variable {X : Cx} {x n m : Str} {c : Value} {i j : Nat} {body : List Stmt} {np pe pm pa pos' pos : Pos} {tb : WX → TS}
theorem ps_tryKept (hs : X.stack = X.env :: X.outer) (hf : X.env.frame = some X.env.locals) (hN : X.N.Nodup) (hi : X.N[i]? = some n) (hln : X.env.kindOf n = some .local) (hj : X.N[j]? = some m) (hlm : Loc X.env.scope m) (hfm : X.fn m = true ∨ X.env.scope.names.lookup m = some .local) (hij : i ≠ j) (hv : Vis X.env.scope n) (hc : Names X x c)
    (hd1 : (n == ("__debug__" : Str)) = false) (hd2 : (n == ("__classdict__" : Str)) = false) (hsw : swapsWith (.Name n pe) (some (.Name m pm)) pa.line X.env = pure false)
    (hb : ∀ (W : WX) (pn : List (Addr × Obj)) (xe : Value → Shared → Prop), Takes (X.tr pn xe) W → PSs (X.tr pn xe) body (tb W)) :
    PS X (.Try body [.ExceptHandler (some (.Name x np)) (some n) [.Assign [.Name m pm] (.Name n pe) pa] pos'] [] [] pos) (fun D σ H => tb (wKept X.K c i j D) D σ H) := by
  refine ⟨fun pins s σ H D I h => wpAny_Try_except ?_⟩
  let xe : Value → Shared → Prop := fun e s₁ => wpAny (model X.prog X.w) X.A (noteFrame e X.env) (fun _ s₂ => wpAny (model X.prog X.w) X.A (setFlight e none) (fun _ s₃ =>
    wpAny (model X.prog X.w) X.A (handleBy e X.env [.ExceptHandler (some (.Name x np)) (some n) [.Assign [.Name m pm] (.Name n pe) pa] pos']) (SP X pins D) X.xe s₃) X.xe s₂) X.xe s₁
  have tk : Takes (X.tr (X.pn ++ pins) xe) (wKept X.K c i j D) := by
    rintro u s' ⟨a, B, sI, pins', σ', H', cls, d, rfl, J', nb, up, sky, na, os, ag, C, rfl, rfl, hm, q⟩
    have ok := I.ok
    have Ji : Inv X pins σ' H' sI := J'.ofTry ok
    have frm : X.A.frames = some (X.env :: X.outer) := by rw [ok.frames, hs]
    show wpAny (model X.prog X.w) X.A (noteFrame (Value.ref a) X.env) _ _ _
    refine Sky.land Zc.steady frm hf (by rw [← hs]; exact sky) fun k3 fly upa => ?_
    have nfr : a ∉ frs (X.env :: X.outer) := fun hm => by
      obtain ⟨oe, vs, he, _, hd⟩ := fly.there
      obtain ⟨_, o', e', hnf⟩ := fly.2.2.1.mem hm
      rw [he] at e'
      cases e'
      exact hnf _ hd
    have newI : sI.heap.get? a = none := by
      cases g : sI.heap.get? a with
      | none => rfl
      | some o =>
        have := nb a o g (by show a ∉ frs X.stack; rw [hs]; exact nfr)
        rw [fly.2.1] at this
        cases this
    have new0 : X.s_0.heap.get? a = none ∨ a ∈ X.ex := by
      by_cases hx : a ∈ X.ex
      · exact .inr hx
      · refine .inl ?_
        cases g : X.s_0.heap.get? a with
        | none => rfl
        | some o =>
          obtain ⟨o', g'⟩ := Ji.base.there a o g hx
          rw [newI] at g'
          cases g'
    have npin : ∀ p ∈ X.pn ++ pins, p.1 ≠ a := fun p hp e => by
      have := (Ji.pin p hp).1
      rw [e, newI] at this
      cases this
    have aloc : a ≠ X.env.locals := fun z => nfr (List.mem_filterMap.mpr ⟨X.env, List.mem_cons_self, by rw [hf, z]⟩)
    have afs : a ∉ X.fs := fun hm => by
      obtain ⟨e, he, g⟩ := List.mem_filterMap.mp hm
      exact nfr (List.mem_filterMap.mpr ⟨e, List.mem_cons_of_mem _ he, g⟩)
    have Ka : Inv X pins σ' H' { s' with heap := k3 } := Ji.landed nb fly.1 (up.trans upa) os ag
    obtain ⟨ob, wb, gb, zb, db⟩ := fly.there
    have Ta := Ka.suite gb db na aloc afs
    have looks : PySem.W.Looks (model X.prog X.w) k3 (typeOf (.ref a)) (.ref C) := fun A Q E s k g => wpAny_typeOf_ref (k _ _ gb) (by rw [zb.1]; exact g)
    have LM := PySem.W.exm_one (M := model X.prog X.w) (Ka.kIn) looks hm
    refine wpAny_handleBy_cons (codeAny_handlers_test ?_) (by intro g; cases g)
    have asks : ∀ {Q E : Value → Shared → Prop}, Q c { s' with heap := k3 } → wpAny (model X.prog X.w) (X.A.mark (some (.ref a))) (eval (.Name x np) X.env) Q E { s' with heap := k3 } := fun {Q E} g => by
      rcases hc with ⟨hg, hdbg, hm | ⟨hm, hv, hnn⟩⟩
      · exact ld_glob (X := X.suite a ((a, ob) :: (X.pn ++ pins))) Ta hg hm g hdbg
      · exact ld_blt (X := X.suite a ((a, ob) :: (X.pn ++ pins))) Ta hg hm hv g hnn hdbg
    refine asks (LM.here (codeAny_handlers_suite_as ?_))
    refine HandSPX.lands_againZ fly fun k4 fly2 upb => ?_
    have Kb : Inv X pins σ' H' { s' with heap := k4 } := Ji.landed nb fly2.1 ((up.trans upa).trans upb) os ag
    obtain ⟨oc, wc, gc, zc, dc⟩ := fly2.there
    let Y := X.suite a ((a, oc) :: (X.pn ++ pins))
    have Tb : Inv Y [] σ' H' { s' with heap := k4 } := Kb.suite gc dc na aloc afs
    refine store_ok (X := Y) (v := .ref a) Tb hN hi (.inl hln) rfl (fun s5 S5 => ?_) (.inr hln)
    have hlen : i < σ'.length := by rw [Ji.len]; exact (List.getElem?_eq_some_iff.mp hi).1
    have put : PSs Y [.Assign [.Name m pm] (.Name n pe) pa] (tAsg (tVar i) (gName j)) := pss_one (ps_set (X := Y) hN hj hlm (pe_var hi hv hd1 hd2) hsw hfm)
    let D6 : Ends := { nx := fun σ6 H6 => σ6 = (σ'.set i (some (.ref a))).set j (some (.ref a)) ∧ H6 = H', rt := fun _ _ => False }
    refine wpAny_mono (put.run [] s5 _ H' D6 S5 ⟨.ref a, List.getElem?_set_self hlen, rfl, rfl⟩) (fun f s6 g => ?_) (fun _ _ z => z.elim)
    cases f with
    | next =>
      obtain ⟨σ6, H6, S6, rfl, rfl⟩ := g
      have pin := (S6.pin (a, oc) (List.mem_append_left _ List.mem_cons_self)).1
      exact gone_ok (inv_track (S6.unsuite ok) pin zc ⟨_, dc⟩ na new0 aloc npin) hN hi hln fun s7 J7 => ⟨_, _, J7, q a na⟩
    | ret u => obtain ⟨_, _, _, _, _, z⟩ := g; exact z.elim
    | brk => obtain ⟨_, _, _, z⟩ := g; exact z.elim
    | cont => obtain ⟨_, _, _, z⟩ := g; exact z.elim
  refine wpAny_mono ((hb (wKept X.K c i j D) (X.pn ++ pins) xe tk).run [] s σ H D (I.toTry _) h) (fun f s1 g => ?_) (fun e s1 he => he)
  cases f with
  | next => obtain ⟨σ', H', J, g⟩ := g; exact wpAny_execs_nil ⟨σ', H', J.ofTry I.ok, g⟩
  | brk => obtain ⟨σ', H', J, g⟩ := g; exact ⟨σ', H', J.ofTry I.ok, g⟩
  | cont => obtain ⟨σ', H', J, g⟩ := g; exact ⟨σ', H', J.ofTry I.ok, g⟩
  | ret u => obtain ⟨v, σ', H', J, r, g⟩ := g; exact ⟨v, σ', H', J.ofTry I.ok, r, g⟩
end
end TL

/-! TL22: dicts from whole numbers to shared things: d[k], d.get(k, x), d[k] = v, sorted(d); range with a step. -/
namespace TL
open PySem PySem.Spec PyProof.Rows L2
def dkI (kv : List (Int × T)) : T := .dk (kv.map fun p => .inl p.1) (kv.map (·.2))
def kvGet : List (Int × T) → Int → Option T
  | [], _ => none
  | p :: kv, i => if p.1 = i then some p.2 else kvGet kv i
def kvPut (kv : List (Int × T)) (i : Int) (t : T) : List (Int × T) :=
  if (kv.any fun p => decide (p.1 = i)) = true then kv.map (fun p => if p.1 = i then (p.1, t) else p) else kv ++ [(i, t)]
def IsDk (t : T) (kv : List (Int × T)) : Prop := (t = dkI kv ∨ t = .fz (dkI kv)) ∧ ∀ p ∈ kv, p.2.shr = true
def sGetDk : SpT := fun ts Q _ => ∃ t kv i y, ts = [t, .int i, y] ∧ IsDk t kv ∧ ((∃ u, kvGet kv i = some u ∧ Q u [some t, some (.int i), none]) ∨ (kvGet kv i = none ∧ Q y [some t, some (.int i), none]))
def sAtDk : SpT := fun ts Q _ => ∃ t kv i u, ts = [t, .int i] ∧ IsDk t kv ∧ kvGet kv i = some u ∧ Q u [some t, some (.int i)]
def sPutD : SpT := fun ts Q _ => ∃ kv i y, ts = [y, dkI kv, .int i] ∧ (∀ p ∈ kv, p.2.shr = true) ∧ y.shr = true ∧ kv.length < 16777216 ∧ Q .non [none, some (dkI (kvPut kv i y)), none]
def sSortDk : SpT := fun ts Q _ => ∃ t kv, ts = [t] ∧ IsDk t kv ∧ kv.length < 64 ∧ ∀ ys : List Int, ys.Perm (kv.map (·.1)) → ys.Pairwise (· ≤ ·) → Q (.lst (ys.map T.int)) [some t]
section
variable {K : PySem.W.Frag} {F : Addr → Prop} {H : Hp} {L : List Addr}
theorem frz_all : ∀ {ts : List T}, ts.all T.shr = true → ts.map T.frz = ts
  | [], _ => rfl
  | t :: ts, h => by
    rw [List.all_cons, Bool.and_eq_true] at h
    rw [List.map_cons, T.frz_of h.1, frz_all h.2]
theorem shr_all {kv : List (Int × T)} (h : ∀ p ∈ kv, p.2.shr = true) : (kv.map (·.2)).all T.shr = true := by
  rw [List.all_map, List.all_eq_true]; exact h
theorem Own.isDk {t : T} {v : V} {kv : List (Int × T)} (o : Own K F H t v L) (h : IsDk t kv) : ∃ a vs, v = .ref a ∧ Rd H a (.dK ((kv.map fun p => (.inl p.1 : Key)).zip vs)) ∧ kv.length = vs.length ∧ Owns K F H (kv.map (·.2)) vs [] := by
  obtain ⟨h | h, s⟩ := h
  · subst h
    obtain ⟨a, vs, L', e, el, hh, l, r⟩ := o
    rw [r.shr (shr_all s)] at r
    exact ⟨a, vs, e, .inl hh, by simpa using r.len, r⟩
  · subst h
    obtain ⟨el, a, vs, e, fa, hh, l, r⟩ := o
    have r' := r.owns
    rw [frz_all (shr_all s)] at r'
    exact ⟨a, vs, e, hh, by simpa using r'.len, r'⟩
theorem kv_val {i : Int} : ∀ {kv : List (Int × T)} {vs : List V}, Owns K F H (kv.map (·.2)) vs [] →
    (∀ u, kvGet kv i = some u → ∃ v, valV ((kv.map fun p => (.inl p.1 : Key)).zip vs) (.inl i) = some v ∧ Own K F H u v []) ∧ (kvGet kv i = none → valV ((kv.map fun p => (.inl p.1 : Key)).zip vs) (.inl i) = none)
  | [], vs, _ => ⟨fun u e => by simp [kvGet] at e, fun _ => by simp [valV]⟩
  | p :: kv, vs, ⟨v, vs', L1, L2, e, el, o, r⟩ => by
    obtain ⟨rfl, rfl⟩ := List.append_eq_nil_iff.mp el.symm
    obtain ⟨h1, h2⟩ := kv_val (i := i) r
    subst e
    rw [List.map_cons, List.zip_cons_cons]
    by_cases c : p.1 = i
    · have c' : ((.inl p.1 : Key), v).1 = (.inl i : Key) := by rw [c]
      rw [valV_pos c']
      unfold kvGet
      rw [if_pos c]
      exact ⟨fun u e => by cases e; exact ⟨v, rfl, o⟩, fun e => by cases e⟩
    · have c' : ¬ ((.inl p.1 : Key), v).1 = (.inl i : Key) := fun z => c (Sum.inl.inj z)
      rw [valV_neg c']
      unfold kvGet
      rw [if_neg c]
      exact ⟨h1, h2⟩
theorem kv_any {i : Int} : ∀ {kv : List (Int × T)} {vs : List V}, kv.length = vs.length → (((kv.map fun p => (.inl p.1 : Key)).zip vs).any fun q => decide (q.1 = (.inl i : Key))) = kv.any fun p => decide (p.1 = i)
  | [], _, _ => rfl
  | p :: kv, [], h => by simp at h
  | p :: kv, v :: vs, h => by
    rw [List.map_cons, List.zip_cons_cons, List.any_cons, List.any_cons, kv_any (by simpa using h)]
    congr 1
    exact decide_eq_decide.mpr ⟨fun z => Sum.inl.inj z, fun z => by rw [z]⟩
theorem put_map {i : Int} {t : T} {w : V} (ow : Own K F H t w []) : ∀ {kv : List (Int × T)} {vs : List V}, Owns K F H (kv.map (·.2)) vs [] →
    ∃ vs', ((kv.map fun p => (.inl p.1 : Key)).zip vs).map (fun q => if q.1 = (.inl i : Key) then (q.1, w) else q) = ((kv.map fun p => if p.1 = i then (p.1, t) else p).map fun p => (.inl p.1 : Key)).zip vs' ∧ Owns K F H ((kv.map fun p => if p.1 = i then (p.1, t) else p).map (·.2)) vs' []
  | [], vs, ⟨e, _⟩ => ⟨[], by rw [e]; rfl, rfl, rfl⟩
  | p :: kv, vs, ⟨v, vs', L1, L2, e, el, o, r⟩ => by
    obtain ⟨rfl, rfl⟩ := List.append_eq_nil_iff.mp el.symm
    obtain ⟨ws, h1, h2⟩ := put_map ow (i := i) r
    subst e
    by_cases c : p.1 = i
    · refine ⟨w :: ws, ?_, ?_⟩
      · simp only [List.map_cons, List.zip_cons_cons, c, if_true]
        rw [h1]
      · simp only [List.map_cons, c, if_true]
        exact ⟨w, ws, [], [], rfl, rfl, ow, h2⟩
    · have c' : ¬ (.inl p.1 : Key) = .inl i := fun z => c (Sum.inl.inj z)
      refine ⟨v :: ws, ?_, ?_⟩
      · simp only [List.map_cons, List.zip_cons_cons, c, c', if_false]
        rw [h1]
      · simp only [List.map_cons, c, if_false]
        exact ⟨v, ws, [], [], rfl, rfl, o, h2⟩
theorem kvPut_own {kv : List (Int × T)} {vs : List V} {i : Int} {t : T} {w : V} (r : Owns K F H (kv.map (·.2)) vs []) (ow : Own K F H t w []) :
    ∃ vs', putK ((kv.map fun p => (.inl p.1 : Key)).zip vs) (.inl i) w = ((kvPut kv i t).map fun p => (.inl p.1 : Key)).zip vs' ∧ Owns K F H ((kvPut kv i t).map (·.2)) vs' [] := by
  have hl : kv.length = vs.length := by simpa using r.len
  unfold putK kvPut
  rw [kv_any hl]
  split
  · obtain ⟨ws, h1, h2⟩ := put_map (i := i) ow r
    exact ⟨ws, h1, h2⟩
  · refine ⟨vs ++ [w], ?_, ?_⟩
    · rw [List.map_append]
      exact (zip_snoc (k := (.inl i : Key)) (v := w) (by simpa using hl)).symm
    · rw [List.map_append]
      exact r.app (Owns.one ow)
theorem kvPut_shr {kv : List (Int × T)} {i : Int} {t : T} (h : ∀ p ∈ kv, p.2.shr = true) (s : t.shr = true) : ∀ p ∈ kvPut kv i t, p.2.shr = true := fun p hp => by
  unfold kvPut at hp
  split at hp
  · obtain ⟨q, hq, e⟩ := List.mem_map.mp hp
    subst e
    split
    · exact s
    · exact h q hq
  · rcases List.mem_append.mp hp with hp | hp
    · exact h p hp
    · rw [List.mem_singleton.mp hp]; exact s
theorem br_atDk : Br2 K sAtDk (fun x y H Q => ∃ a v, x = .ref a ∧ DGet H a y (some v) ∧ Q v H) := fun x y H Q E ⟨ts, F, L, Q0, X0, S, ⟨t, kv, i, u, e, h, g, q⟩, k, _⟩ => by
  subst e
  obtain ⟨v, w, L1, L2, e1, el, o1, e2, o2⟩ := S.own.two'
  cases e1
  obtain ⟨a, vs, ea, ha, hl, r⟩ := o1.isDk h
  obtain ⟨z, ez, oz⟩ := (kv_val (i := i) r).1 u g
  have e3 : y = .int i := o2
  subst e3 ea
  refine ⟨a, z, rfl, ?_, ?_⟩
  · rw [← ez]; exact .inl ⟨_, .inl i, ha, rfl, rfl⟩
  · exact k _ _ _ F H L q Ext.refl (S.ret oz)
theorem br_sortDk : BrL K sSortDk (fun xs H Q => ∃ (a : Addr) (kvs : List (Key × V)) (ks : List Int), xs = [.ref a] ∧ Rd H a (.dK kvs) ∧ kvs.map (·.1) = ks.map Sum.inl ∧ ks.length < 64 ∧
    ∀ (ys : List Int) (p : Addr), ys.Perm ks → ys.Pairwise (· ≤ ·) → H p = none → Q (.ref p) (upd H p (.lst (ys.map V.int)))) := fun vs H Q E ⟨ts, F, L, Q0, X0, S, ⟨t, kv, e, h, h64, q⟩, k, _⟩ => by
  subst e
  obtain ⟨v, e1, o⟩ := S.own.one'
  subst e1
  obtain ⟨a, us, ea, ha, hl, r⟩ := o.isDk h
  subst ea
  refine ⟨a, _, kv.map (·.1), rfl, ha, ?_, by simpa using h64, fun ys p h1 h2 hp => ?_⟩
  · rw [List.map_fst_zip (by simpa using Nat.le_of_eq hl), List.map_map]; rfl
  · obtain ⟨L', x, S'⟩ := S.cell hp (own_lst_new (xs := ys.map T.int) ints_own hp)
    exact k _ _ _ F _ L' (q ys h1 h2) x S'
theorem br_putD : BrS K sPutD rSetD := fun o i v H Q E ⟨ts, F, L, Q0, X0, S, ⟨kv, n, y, e, hs, hy, hz, q⟩, k, _⟩ => by
  subst e
  obtain ⟨vy, vo, vi, L3, L1, L2, e1, el, o3, ⟨a, us, M, ea, em, ha, l, r⟩, ⟨eL2, o2⟩⟩ := S.own.three'
  cases e1
  have e3 := o3.shr hy
  have eM := r.shr (shr_all hs)
  subst eL2 e3 eM
  have hc : ∀ b : Nat, ([] ++ a :: ([] : List Addr)).count b ≤ L.count b := fun b => by
    rw [el, em]; simp
  have nf : ¬ F a := S.dj a (by rw [el, em]; simp)
  have o2' : i = .int n := o2
  subst o2'
  obtain ⟨ws, hp, rw'⟩ := kvPut_own (i := n) r o3
  obtain ⟨x1, S1⟩ := S.write (o := .dK (((kvPut kv n y).map fun p => (.inl p.1 : Key)).zip ws)) (t' := dkI (kvPut kv n y)) (rest := [.int n]) own_non (ne_none_of ha) hc (dk_hw (M := []) rw' (by rw [List.length_map, List.length_map]) nf (fun z => nomatch z))
  have hzl : ((kv.map fun p => (.inl p.1 : Key)).zip us).length < sizeLine := by
    have : ((kv.map fun p => (.inl p.1 : Key)).zip us).length ≤ kv.length := by rw [List.length_zip, List.length_map]; exact Nat.min_le_left _ _
    exact Nat.lt_of_le_of_lt this hz
  refine ⟨a, _, ea, DPut.k (k := .inl n) ha hzl, ?_⟩
  rw [hp]
  subst ea
  refine k _ _ .non F _ _ q x1 ⟨?_, S1.nd, S1.dj, S1.dom⟩
  obtain ⟨v1, σ1, M1, M2, z1, z2, oN, v2, σ2, M3, M4, z3, z4, oL, w1, σ3, z5, z6⟩ := S1.own
  cases z1; cases z3; cases z5
  exact ⟨_, _, M1, M2, rfl, z2, oN, some v, _, rfl, _, _, M3, M4, rfl, z4, oL, some (.int n), [], rfl, z6.1, z6.2⟩
end
section
variable {X : Cx} {W : WX} {a b e : Expr} {oa ob oc : Arg} {pos p : Pos}
theorem de_atDk (hu : X.A.units + 64 < cLine) (ha : DO X W a oa) (hb : DO X W b ob) (hs : NoSl b := by exact fun _ _ => rfl) : DE X W (.Subscript a b pos) (wOp sAtDk [oa, ob]) :=
  DE.op2 (r := fun x y H Q => ∃ a v, x = .ref a ∧ DGet H a y (some v) ∧ Q v H) (pe_dget (hu1 hu) ha hb hs) br_atDk
theorem de_sortDk (hc : X.calm = true) (hg : Gl X "sorted") (hm : X.mg "sorted" = none) (h : DO X W e oa) (he : starEach [e] X.env = (false, eval e X.env) :: starEach [] X.env := by rfl) : DE X W (.Call (.Name "sorted" p) [e] [] pos) (wOp sSortDk [oa]) :=
  de_call1 (call_sortedDI hc) br_sortDk hg hm (by decide +kernel) h (by decide) (by decide) he
theorem ds_putD2 {a i e : Expr} {oa oi : Arg} {wv : WE} {pos pos' : Pos} (hu : X.A.units + 64 < cLine) (ha : DO X W a oa) (hi : DO X W i oi) (h : DE X W e wv) (h1 : swapsWithSole [.Subscript a i pos'] e pos.line X.env = pure false := by rfl)
    (h2 : swappedStores [.Subscript a i pos'] e X.env = pure none := by rfl) (h3 : (assignEach [.Subscript a i pos'] X.env).map (·.2) = [assign (.Subscript a i pos') X.env] := by rfl)
    (hq : ∀ v, assign (.Subscript a i pos') X.env v = (do
      let ov ← holding [v] (eval a X.env)
      let iv ← holding [v, ov] (eval i X.env)
      standAt pos'
      holding [v, ov, iv] (setItem ov iv v)
      release [v, ov, iv] []) := by intro _; rfl) : DS X W [] (.Assign [.Subscript a i pos'] e pos) (sStore sPutD oa oi wv) := ds_store br_putD (set_dict (hu1 hu)) ha hi h h1 h2 h3 hq
theorem de_getDk {o e f : Expr} {apos cpos : Pos} (hu : X.A.units + 64 < cLine) (ho : DO X W o oa) (he : DO X W e ob) (hf : DO X W f oc)
    (h0 : attributeBase o "get" X.env (eval o X.env) = eval o X.env := by rfl)
    (h1 : ((backTo cpos (starEach [e, f] X.env)).all (fun x => !x.1) && (backToKw cpos (keywordEach [] X.env)).all (fun x => x.1.isSome) && decide (([e, f] : List Expr).length + ([] : List Keyword).length + (if ([] : List Keyword).isEmpty then 0 else 1) < 30)) = true := by rfl)
    (h2 : (apos.endLine == cpos.line) = true := by rfl) (h3 : backTo cpos (starEach [e, f] X.env) = [(false, eval e X.env), (false, eval f X.env)] := by rfl) :
    DE X W (.Call (.Attribute o "get" apos) [e, f] [] cpos) (wMeth "dict" sGetDk oa [ob, oc]) := PE.imp (pe_dget2 (hu1 hu) ho he hf ⟨h0, h1, h2, h3⟩) fun σ H Q q => by
  refine tOf_mono (meth_run rfl q) fun x H1 z => ?_
  obtain ⟨⟨_, hd⟩, z⟩ := z
  obtain ⟨a, ex, hD⟩ := hd rfl
  refine ⟨a, ex, hD, ?_⟩
  have z' : tOf X.K W ob σ H1 fun y H2 => tOf X.K W oc σ H2 fun w H3 => spT X.K sGetDk [x, y, w] H3 Q fun c d H2 => W c d σ H2 := z
  refine tOf_mono z' fun y H2 z => tOf_mono z fun w H3 z => ?_
  obtain ⟨ts, F, L, Q0, X0, S, ⟨t, kv, i, d, e, h, g⟩, k, _⟩ := z
  subst e
  obtain ⟨v1, v2, v3, L1, L2, L3, e1, el, o1, o2, o3⟩ := S.own.three'
  cases e1
  obtain ⟨b, vs, eb, hb, hl, r⟩ := o1.isDk h
  have e2 : y = .int i := o2.2
  have eL2 := o2.1
  rw [ex] at eb
  cases eb
  subst e2 ex eL2
  have cnt1 : ∀ b : Nat, L1.count b ≤ L.count b := fun b => by rw [el]; simp
  have cnt2 : ∀ b : Nat, (L3 ++ L1).count b ≤ L.count b := fun b => by rw [el]; simp only [List.nil_append, List.count_append]; omega
  rcases g with ⟨u, g, q⟩ | ⟨g, q⟩
  · obtain ⟨z, ez, oz⟩ := (kv_val (i := i) r).1 u g
    refine ⟨some z, ?_, ?_⟩
    · rw [← ez]; exact .inl ⟨_, .inl i, hb, rfl, rfl⟩
    · have mem : ∀ b ∈ L1, b ∈ L := fun b m => Sub.mem (A := L1) (B := L) cnt1 m
      exact k u _ z F H3 L1 q (Ext.refl.sub (fun _ m => m) fun b m => .inl (mem b m)) ⟨⟨z, _, [], L1, rfl, rfl, oz, .ref a, _, L1, [], rfl, by simp, o1, .int i, _, [], [], rfl, rfl, o2, some w, [], rfl, rfl, rfl⟩, fun b => Nat.le_trans (cnt1 b) (S.nd b), fun b m => S.dj b (mem b m), S.dom⟩
  · refine ⟨none, ?_, ?_⟩
    · rw [← (kv_val (i := i) r).2 g]; exact .inl ⟨_, .inl i, hb, rfl, rfl⟩
    · have mem : ∀ b ∈ L3 ++ L1, b ∈ L := fun b m => Sub.mem (A := L3 ++ L1) (B := L) cnt2 m
      exact k d _ w F H3 (L3 ++ L1) q (Ext.refl.sub (fun _ m => m) fun b m => .inl (mem b m)) ⟨⟨w, _, L3, L1, rfl, rfl, o3, .ref a, _, L1, [], rfl, by simp, o1, .int i, _, [], [], rfl, rfl, o2, some w, [], rfl, rfl, rfl⟩, fun b => Nat.le_trans (cnt2 b) (S.nd b), fun b m => S.dj b (mem b m), S.dom⟩
end
/-! ### range with a step -/
def wRng3 (a b c : Arg) : WI := fun ev Q X => wArgs [a, b, c] ev (fun as ev1 => ∃ (i j c : Int) (n : Nat) (ev2 : Ev), takeA as ev1 = some ([.int i, .int j, .int c], ev2) ∧ RgC i j c n ∧ Q ⟨n, fun k => .int (i + (k : Int) * c), fun _ => True⟩ (giveA as [some (.int i), some (.int j), some (.int c)] ev2)) X
theorem itC_ok {K : PySem.W.Frag} {lo c : Int} {n : Nat} {σ : L2.St} {F : Addr → Prop} {H : Hp} {L : List Addr} : ItOk K (Itc lo c n) ⟨n, fun k => .int (lo + (k : Int) * c), fun _ => True⟩ [] σ F H L := fun k ev σ' F2 H2 L2 _ _ S _ =>
  ⟨fun hk => ⟨hk, fun y H' hy => by
    obtain ⟨rfl, rfl⟩ := hy
    exact ⟨F2, [] ++ L2, Ext.refl, ⟨_, σ', [], L2, rfl, rfl, ⟨rfl, rfl⟩, S.own⟩, S.nd, S.dj, S.dom⟩⟩, fun hk => Nat.le_of_eq hk.symm⟩
section
variable {X : Cx} {W : WX} {tg : Expr}
theorem di_rng3 {a b c : Expr} {o1 o2 o3 : Arg} {p pos : Pos} (hg : Gl X "range") (hm : X.mg "range" = none) (h1 : DO X W a o1) (h2 : DO X W b o2) (h3 : DO X W c o3)
    (hs : starEach [a, b, c] X.env = (false, eval a X.env) :: starEach [b, c] X.env := by rfl) (hs2 : starEach [b, c] X.env = (false, eval b X.env) :: starEach [c] X.env := by rfl) (hs3 : starEach [c] X.env = (false, eval c X.env) :: starEach [] X.env := by rfl) (hpl : (backTo pos (starEach [b, c] X.env)).any (·.1) = false := by rfl) :
    DI X W [] tg (.Call (.Name "range" p) [a, b, c] [] pos) (wRng3 o1 o2 o3) := PI.imp (pi_range3 hg hm (da_cons h1 (da_cons h2 (da_cons (as := []) h3 da_nil hs3) hs2) hs) hs hpl) fun σ H R q => by
  obtain ⟨ev, F, L, Q0, X0, S, w, k, kx⟩ := q
  refine run_args S.a0 w (fun as vs ev' F' H' L' Lt' q x A => ?_) fun C ev' F' H' L' q x S' => kx C ev' F' H' L' q (by simpa using x) S'
  obtain ⟨i, j, c, n, ev2, ht, b, q⟩ := q
  have A' : StA X.K F' H' ev' σ as vs L' Lt' := by simpa using A
  obtain ⟨L2, S2, m2, Ls, r⟩ := A'.back ht
  obtain ⟨v, w, y, M1, M2, M3, e, el, ⟨_, e1⟩, ⟨_, e2⟩, _, e3⟩ := r.three'
  have e1' : v = .int i := e1
  have e2' : w = .int j := e2
  have e3' : y = .int c := e3
  subst e1' e2' e3'
  rw [List.append_nil] at x
  exact ⟨i, j, c, n, e, b, k _ _ _ F' H' L2 q (x.sub (fun _ m => m) fun a m => .inl (m2 a m)) S2 itC_ok⟩
end
/-- n steps of c from 0 -/
theorem RgC.up {n c : Nat} (hc : 0 < c) (hc2 : c ≤ 100000) (hz : n * c ≤ 100000) : RgC 0 ((n * c : Nat) : Int) (c : Int) n := by
  have e : Builtin.Range.rangeSize 0 ((n * c : Nat) : Int) (c : Int) = n := by
    unfold Builtin.Range.rangeSize
    rw [if_pos (by omega)]
    by_cases h0 : n = 0
    · subst h0; rw [if_neg (by omega)]; rfl
    · have hp : 0 < n * c := Nat.mul_pos (by omega) hc
      rw [if_pos (by omega)]
      have e2 : ((n * c : Nat) : Int) - 0 - 1 = ((c : Int) - 1) + ((n : Int) - 1) * c := by rw [Int.sub_mul, Int.natCast_mul]; omega
      rw [e2, Int.add_mul_ediv_right _ _ (by omega), Int.ediv_eq_zero_of_lt (by omega) (by omega)]; omega
  have hn : n ≤ 100000 := Nat.le_trans (Nat.le_mul_of_pos_right n hc) hz
  refine ⟨by omega, by omega, ?_, e⟩
  unfold Builtin.Range.small
  rw [e]
  simp only [Builtin.Range.rangeFitsLong, Bool.and_eq_true, Bool.or_eq_true, decide_eq_true_eq, beq_iff_eq, if_pos (show (c : Int) > 0 by omega)]
  omega
/-! ### reading -/
section
variable {ev : Ev} {a b : Arg} {t u : T} {i : Int} {kv : List (Int × T)}
theorem p_atDk (n : apart2 a b = true) (ha : PO a ev t) (hb : PO b ev (.int i)) (h : IsDk t kv) (g : kvGet kv i = some u) : Pure (wOp sAtDk [a, b]) ev u := op2 n (fun _ _ q => ⟨t, kv, i, u, rfl, h, g, q⟩) ha hb
end
end TL

/-! TL23: try: body, except X as e: kept = e, over trees; isinstance of a kept error. -/
namespace TL
open PySem PySem.Spec PyProof.Rows L2
/-- slot i is e's, slot j the keeping one's -/
def sTryK (i j : Nat) (Cs : List Addr) (b : WS) : WS := fun ev E => b ev { nx := E.nx, rt := E.rt, bk := E.bk, ct := E.ct, xc := fun C ev' => C ∈ Cs ∧ i < ev'.length ∧ j < ev'.length ∧ E.nx ((ev'.set j (some (.exc C))).set i none) }
section
variable {K : PySem.W.Frag} {F : Addr → Prop} {H : Hp} {ev : Ev} {σ : L2.St} {L : List Addr}
theorem St.kept {a C : Addr} {i j : Nat} (S : St K F H ev σ L) (na : H a = none) (hi : i < ev.length) (hj : j < ev.length) (hij : i ≠ j) :
    ∃ L', St K (fun b => F b ∨ b = a) (upd H a (excO C a)) ((ev.set j (some (.exc C))).set i none) (((σ.set i (some (.ref a))).set j (some (.ref a))).set i none) L' ∧ Ext F H L (fun b => F b ∨ b = a) (upd H a (excO C a)) L' := by
  have nm : ∀ b, H b ≠ none → b ≠ a := fun b hb e => hb (e ▸ na)
  have same : ∀ b, b ≠ a → upd H a (excO C a) b = H b := fun b hb => upd_ne hb
  have o1 : OwnE K (fun b => F b ∨ b = a) (upd H a (excO C a)) ev σ L := S.own.mono (fun _ => .inl) fun b o _ e => by
    rw [same b (nm b (ne_none_of e))]; exact e
  have ox : Own K (fun b => F b ∨ b = a) (upd H a (excO C a)) (.exc C) (.ref a) [] := ⟨rfl, a, rfl, .inr rfl, upd_same⟩
  obtain ⟨L1, o2, s1⟩ := o1.set (i := j) hj (OwnE.one ox)
  obtain ⟨L2, o3, s2⟩ := o2.set (i := i) (ot := none) (x := none) (L1 := []) (by simpa using hi) OwnE.none1
  have cnt : ∀ b : Nat, L2.count b ≤ L.count b := fun b => by
    have h1 := s1 b; have h2 := s2 b
    simp only [List.append_nil] at h1 h2; omega
  have mem : ∀ b ∈ L2, b ∈ L := fun b m => Sub.mem (A := L2) (B := L) cnt m
  have eσ : ((σ.set i (some (.ref a))).set j (some (.ref a))).set i none = (σ.set j (some (.ref a))).set i none := by
    rw [List.set_comm _ _ hij, List.set_set]
  rw [eσ]
  refine ⟨L2, ⟨o3, fun b => Nat.le_trans (cnt b) (S.nd b), fun b m z => ?_, fun b z => ?_⟩, ⟨fun _ => .inl, fun b o _ e => ?_, fun b z => ?_⟩⟩
  · rcases z with z | z
    · exact S.dj b (mem b m) z
    · exact S.own.dom b (mem b m) (z ▸ na)
  · rcases z with z | z
    · rw [same b (nm b (S.dom b z))]; exact S.dom b z
    · rw [z, upd_same]; exact fun e => nomatch e
  · rw [same b (nm b (ne_none_of e))]; exact e
  · rcases z with (z | z) | z
    · exact .inl z
    · exact .inr (.inr (z ▸ na))
    · exact .inr (.inl (mem b z))
end
section
variable {X : Cx} {x n m : Str} {c : Value} {i j : Nat} {body : List Stmt} {np pe pm pa pos' pos : Pos} {wb : WS} {A : List Nat} {W0 : WX} {Cs : List Addr}
theorem ds_tryK (hN : X.N.Nodup) (hi : X.N[i]? = some n) (hj : X.N[j]? = some m) (hlm : Loc X.env.scope m) (hc : Names X x c) (hCs : ∀ C ∈ Cs, PySem.W.exmOne X.K (.ref C) c = some true)
    (hb : ∀ (W : WX) (pn : List (Addr × Obj)) (xe : Value → Shared → Prop), Takes (X.tr pn xe) W → DSs (X.tr pn xe) W A body wb)
    (hij : i ≠ j := by decide) (hs : X.stack = X.env :: X.outer := by rfl) (hf : X.env.frame = some X.env.locals := by rfl) (hln : X.env.kindOf n = some .local := by rfl) (hfm : X.fn m = true ∨ X.env.scope.names.lookup m = some .local := by first | exact .inl rfl | exact .inr rfl) (hv : Vis X.env.scope n := by first | exact Or.inl rfl | exact Or.inr (Or.inl rfl) | exact Or.inr (Or.inr rfl))
    (hd1 : (n == ("__debug__" : Str)) = false := by decide) (hd2 : (n == ("__classdict__" : Str)) = false := by decide) (hsw : swapsWith (.Name n pe) (some (.Name m pm)) pa.line X.env = pure false := by rfl) :
    DS X W0 (i :: j :: A) (.Try body [.ExceptHandler (some (.Name x np)) (some n) [.Assign [.Name m pm] (.Name n pe) pa] pos'] [] [] pos) (sTryK i j Cs wb) := fun kp hk =>
  PS.imp (ps_tryKept (tb := fun W => liftS X.K W kp wb) hs hf hN hi hln hj hlm hfm hij hv hc hd1 hd2 hsw fun W pn xe tk => hb W pn xe tk kp fun b m => hk b (List.mem_cons_of_mem _ (List.mem_cons_of_mem _ m))) fun D σ H q => by
    obtain ⟨ev, F, L, E0, S, p, w, k1, k2, k3, k4, k5⟩ := q
    refine ⟨ev, F, L, _, S, p, w, k1, k2, k3, k4, fun C ev' σ' F' H' L' q x S' p' => ?_⟩
    obtain ⟨hC, li, lj, q⟩ := q
    refine ⟨C, rfl, rfl, hCs C hC, fun a na => ?_⟩
    obtain ⟨L2, S2, x2⟩ := S'.kept (C := C) na li lj hij
    exact k1 _ _ _ _ _ q (x.trans x2 S'.dj) S2 (((p'.set (hk i List.mem_cons_self)).set (hk j (List.mem_cons_of_mem _ List.mem_cons_self))).set (hk i List.mem_cons_self))
end
/-! ### isinstance of an error -/
def T.clsV : T → Option (V × Value)
  | .cls C => some (.ref C, .ref C)
  | .ty n => some (.ty n, .type n)
  | _ => none
/-- what the classes say -/
def Isx (K : PySem.W.Frag) (D : Addr) (t : T) (b : Bool) : Prop := ExcC K D ∧ ∃ p, t.clsV = some p ∧ PySem.W.kitOne K (.ref D) p.2 = some b
def sIsX (isx : Addr → T → Bool → Prop) : SpT := fun ts Q _ => ∃ D t b, ts = [.exc D, t] ∧ isx D t b ∧ Q (.bl b) [some (.exc D), some t]
def rIsX (K : PySem.W.Frag) : List V → Hp → VK → Prop := fun xs H Q => ∃ (a D : Addr) (c : V) (cv : Value) (b : Bool), xs = [.ref a, c] ∧ H a = some (excO D a) ∧ ExcC K D ∧ (∀ u, RelV c u → u = cv) ∧ PySem.W.kitOne K (.ref D) cv = some b ∧ Q (.bl b) H
theorem call_isX {X : Cx} : CallR X (.builtin "isinstance") (rIsX X.K) := by
  intro pins s σ H xs us Q I r h
  obtain ⟨a, D, c, cv, b, rfl, ha, C, hcv, e, q⟩ := h
  cases r with
  | cons rx rr =>
    cases rr with
    | cons rt rr =>
      cases rr
      cases rx
      have ec := hcv _ rt
      subst ec
      obtain ⟨oe, hget, hz, vs, hv⟩ := (I.hok a _ ha).1
      have J : PySem.W.InstAt s.heap a oe D none := by
        obtain ⟨oc, od, oda, osl⟩ := oe
        obtain ⟨h1, h2⟩ := hz
        dsimp only at h1 h2 hv
        subst h1 h2 hv
        exact ⟨hget, rfl, rfl, trivial⟩
      exact PySem.W.kia_one (PySem.W.handS_kitx_exc C.hg C.hk C.hs C.hd C.ha C.hn C.ht C.hm) I.kIn J e (fun z => nomatch z) fun tk => ⟨.bl b, H, I.kept (t' := tk) fun _ _ z => z, rfl, q⟩
theorem br_isX {K : PySem.W.Frag} : BrL K (sIsX (Isx K)) (rIsX K) := fun vs H Q E ⟨ts, F, L, Q0, X0, S, ⟨D, t, b, e, ⟨C, p, hp, hk⟩, q⟩, k, _⟩ => by
  subst e
  obtain ⟨v, w, L1, L2, e1, el, ⟨_, a, ea, _, ha⟩, o2⟩ := S.own.two'
  subst e1 ea
  have hw : w = p.1 ∧ ∀ u, RelV p.1 u → u = p.2 := by
    cases t <;> try cases hp
    · exact ⟨o2.2, fun u r => r⟩
    · exact ⟨o2.2, fun u r => r⟩
  obtain ⟨rfl, hu⟩ := hw
  exact ⟨a, D, p.1, p.2, b, rfl, ha, C, hu, hk, k _ _ _ F H L q Ext.refl (S.ret own_bl)⟩
section
variable {X : Cx} {W : WX} {a b : Expr} {oa ob : Arg} {pos p : Pos} {isx : Addr → T → Bool → Prop}
theorem de_isX (hx : ∀ D t b, isx D t b → Isx X.K D t b) (hg : Gl X "isinstance") (hm : X.mg "isinstance" = none) (h : DO X W a oa) (h2 : DO X W b ob) (he : starEach [a, b] X.env = (false, eval a X.env) :: starEach [b] X.env := by rfl) (he2 : starEach [b] X.env = (false, eval b X.env) :: starEach [] X.env := by rfl) (hpl : (backTo pos (starEach [b] X.env)).any (·.1) = false := by rfl) :
    DE X W (.Call (.Name "isinstance" p) [a, b] [] pos) (wOp (sIsX isx) [oa, ob]) :=
  de_call2 call_isX (fun vs H Q E ⟨ts, F, L, Q0, X0, S, ⟨D, t, b, e, i, q⟩, k, k'⟩ => br_isX vs H Q E ⟨ts, F, L, Q0, X0, S, ⟨D, t, b, e, hx D t b i, q⟩, k, k'⟩) hg hm (by decide +kernel) h h2 (by decide) (by decide) he he2 hpl
/-- a class of the module, named -/
theorem de_cls {x : Str} {C : Addr} (hg : Gl X x) (hm : X.mg x = some (.ref C)) (hd : (x == ("__debug__" : Str)) = false := by decide) : DE X W (.Name x pos) (wC (.cls C)) :=
  DE.const (v := .ref C) (pe_glob hg hm rfl hd) fun _ _ => ⟨rfl, rfl⟩
end
/-! ### reading -/
section
variable {ev : Ev} {a b : Arg} {isx : Addr → T → Bool → Prop}
theorem p_isX {D : Addr} {t : T} {k : Bool} (n : apart2 a b = true) (ha : PO a ev (.exc D)) (hb : PO b ev t) (h : isx D t k) : Pure (wOp (sIsX isx) [a, b]) ev (.bl k) := op2 n (fun _ _ q => ⟨D, t, k, rfl, h, q⟩) ha hb
end
end TL

/-! TL24: dicts whose keys and values are told by a list and a function. -/
namespace TL
open PySem PySem.Spec PyProof.Rows L2
def kvM (ks : List Int) (f : Int → T) : List (Int × T) := ks.map fun l => (l, f l)
theorem kvGet_M {ks : List Int} {f : Int → T} {i : Int} : kvGet (kvM ks f) i = if i ∈ ks then some (f i) else none := by
  induction ks with
  | nil => rfl
  | cons l ks ih =>
    show (if l = i then some (f l) else kvGet (kvM ks f) i) = _
    by_cases e : l = i
    · subst e; rw [if_pos rfl, if_pos List.mem_cons_self]
    · rw [if_neg e, ih]
      by_cases hm : i ∈ ks
      · rw [if_pos hm, if_pos (List.mem_cons_of_mem _ hm)]
      · rw [if_neg hm, if_neg fun z => (List.mem_cons.mp z).elim (fun z => e z.symm) hm]
theorem kvM_congr {ks : List Int} {f g : Int → T} (h : ∀ l ∈ ks, f l = g l) : kvM ks f = kvM ks g := List.map_congr_left fun l hl => by rw [h l hl]
theorem kvM_keys {ks : List Int} {f : Int → T} : (kvM ks f).map (·.1) = ks := by unfold kvM; rw [List.map_map]; exact List.map_id' _
theorem kvM_len {ks : List Int} {f : Int → T} : (kvM ks f).length = ks.length := List.length_map _
theorem kvPut_M {ks : List Int} {f : Int → T} {i : Int} {t : T} : kvPut (kvM ks f) i t = kvM (fdd1 ks i) fun l => if l = i then t else f l := by
  have ha : ((kvM ks f).any fun p => decide (p.1 = i)) = decide (i ∈ ks) := by
    unfold kvM
    rw [List.any_map]
    induction ks with
    | nil => rfl
    | cons l ks ih =>
      rw [List.any_cons, ih]
      by_cases e : l = i
      · subst e; simp
      · have e' : ¬ i = l := fun z => e z.symm
        simp [e, e']
  unfold kvPut fdd1
  rw [ha]
  by_cases hm : i ∈ ks
  · rw [if_pos (decide_eq_true hm), if_pos hm]
    unfold kvM
    rw [List.map_map]
    refine List.map_congr_left fun l _ => ?_
    show (if l = i then (l, t) else (l, f l)) = (l, if l = i then t else f l)
    split <;> rfl
  · rw [if_neg (by simpa using hm), if_neg hm]
    unfold kvM
    rw [List.map_append]
    congr 1
    · refine List.map_congr_left fun l hl => ?_
      show (l, f l) = (l, if l = i then t else f l)
      rw [if_neg fun (e : l = i) => hm (e ▸ hl)]
    · simp
theorem kvM_shr {ks : List Int} {f : Int → T} (h : ∀ l, (f l).shr = true) : ∀ p ∈ kvM ks f, p.2.shr = true := fun p hp => by
  obtain ⟨l, _, rfl⟩ := List.mem_map.mp hp
  exact h l
section
variable {QS : T → List (Option T) → Prop} {XS : Addr → List (Option T) → Prop} {i : Int} {kv : List (Int × T)} {y u F : T} {ks : List Int} {f : Int → T}
theorem r_getDkZ (hs : ∀ p ∈ kv, p.2.shr = true) (h1 : ∀ u, kvGet kv i = some u → u.frz = F) (h2 : kvGet kv i = none → y.frz = F) (q : ∀ u, u.frz = F → QS u [some (dkI kv), some (.int i), none]) : sGetDk [dkI kv, .int i, y] QS XS := by
  refine ⟨_, kv, i, y, rfl, ⟨.inl rfl, hs⟩, ?_⟩
  cases e : kvGet kv i with
  | some u => exact .inl ⟨u, rfl, q u (h1 u e)⟩
  | none => exact .inr ⟨rfl, q y (h2 e)⟩
theorem r_putD (hs : ∀ p ∈ kv, p.2.shr = true) (hy : y.shr = true) (hl : kv.length < 16777216) (q : QS .non [none, some (dkI (kvPut kv i y)), none]) : sPutD [y, dkI kv, .int i] QS XS := ⟨kv, i, y, rfl, hs, hy, hl, q⟩
theorem r_atDkM (h : ∀ l, (f l).shr = true) (hi : i ∈ ks) (q : QS (f i) [some (dkI (kvM ks f)), some (.int i)]) : sAtDk [dkI (kvM ks f), .int i] QS XS := ⟨_, kvM ks f, i, f i, rfl, ⟨.inl rfl, kvM_shr h⟩, by rw [kvGet_M, if_pos hi], q⟩
theorem r_sortDkM (h : ∀ l, (f l).shr = true) (hl : ks.length < 64) (q : QS (.lst ((srt ks).map T.int)) [some (dkI (kvM ks f))]) : sSortDk [dkI (kvM ks f)] QS XS := ⟨_, kvM ks f, rfl, ⟨.inl rfl, kvM_shr h⟩, by rw [kvM_len]; exact hl, fun ys h1 h2 => by
  rw [kvM_keys] at h1
  have e : ys = srt ks := srt_one (h1.trans (srt_perm ks).symm) h2 (srt_le ks)
  rw [e]; exact q⟩
end
theorem lc_rng3 {a b c : WE} {wg : WG} {wt : WT} {we : WE} {own : List Nat} {ev : Ev} {Q : T → Ev → Prop} {X : XP} {i j d : Int} {n : Nat} (h1 : Pure a ev (.int i)) (h2 : Pure b ev (.int j)) (h3 : Pure c ev (.int d)) (hr : RgC i j d n) (hz : n ≤ sizeLine) (ho : (own.all fun i => shrO (ev[i]?).join) = true)
    (I : Nat → List T → Ev → Prop) (h0 : I 0 [] (wipeE ev own))
    (hs : ∀ k acc ev, k < n → I k acc ev → wg (.int (i + (k : Int) * d)) ev (fun ev2 => wt ev2 (fun b ev3 => if b = true then we ev3 (fun y ev4 => I (k + 1) (acc ++ [y]) (wipeE ev4 own)) noX else I (k + 1) acc (wipeE ev3 own)) noX))
    (he : ∀ acc ev', I n acc ev' → Q (.lst acc) (restE ev own ev')) : wLc (wRng3 (.vl a) (.vl b) (.vl c)) wg wt we own ev Q X := by
  unfold wLc wRng3
  refine (PO.vl h1).args ((PO.vl h2).args ((PO.vl h3).args ?_))
  exact ⟨i, j, d, n, ev, rfl, hr, ho, hz, I, h0, fun _ _ _ _ _ => trivial, hs, he⟩
theorem p_cutB {ev : Ev} {i : Nat} {wa wb : WE} {t : T} {a b : Int} {xs : List T} (h : ev[i]? = some (some t)) (hk : t.kidLS = some xs) (ha : Pure wa ev (.int a)) (hb : Pure wb ev (.int b)) : Pure (wCutB (.pl i) (.vl wa) (.vl wb)) ev (.lst (cut xs (some a) (some b))) := fun Q X q => by
  unfold wCutB
  refine (PO.pl h).args ((PO.vl ha).args ?_)
  refine ⟨⟨_, a, rfl⟩, (PO.vl hb).args ?_⟩
  refine ⟨[t, .int a, .int b], ev.set i none, ?_, t, a, b, xs, rfl, hk, ?_⟩
  · show (match ev[i]? with | some (some t) => _ | _ => none) = _
    rw [show ev[i]? = _ from h]; rfl
  · have e : giveA [.pl i, .vl (.int a), .vl (.int b)] [some t, some (.int a), some (.int b)] (ev.set i none) = ev := set_back h
    show Q _ (giveA [.pl i, .vl (.int a), .vl (.int b)] [some t, some (.int a), some (.int b)] (ev.set i none))
    rw [e]; exact q
theorem cut_mid {α : Type} {xs : List α} {a b : Nat} (h : a + b ≤ xs.length) : cut xs (some (a : Int)) (some ((a : Int) + b)) = (xs.drop a).take b := by
  have e : ((a : Int) + b) = ((a + b : Nat) : Int) := by omega
  unfold cut
  rw [e, HT.sIx_nat, HT.sIx_nat, Nat.min_eq_left h, Nat.min_eq_left (show a ≤ xs.length by omega), Nat.add_sub_cancel_left]
theorem ofLen_snoc {cs : List (List Int)} {c : List Int} {l : Int} : ofLen (cs ++ [c]) l = if (c.length : Int) = l then ofLen cs l ++ [c] else ofLen cs l := by
  unfold ofLen
  rw [List.filter_append]
  by_cases e : (c.length : Int) = l
  · rw [if_pos e]; simp [e]
  · rw [if_neg e]; simp [e]
theorem frz_fzL {cs : List (List Int)} : (cs.map fun c => T.fz (.lst (c.map T.int))).map T.frz = cs.map fun c => T.fz (.lst (c.map T.int)) := by rw [List.map_map]; rfl
theorem r_catLL {QS : T → List (Option T) → Prop} {XS : Addr → List (Option T) → Prop} {cs ds : List (List Int)} (h : cs.length + ds.length ≤ 16777216)
    (q : QS (.lst ((cs ++ ds).map fun c => T.fz (.lst (c.map T.int)))) [some (.fz (.lst (cs.map fun c => T.fz (.lst (c.map T.int))))), some (.fz (.lst (ds.map fun c => T.fz (.lst (c.map T.int)))))]) : sCat [.fz (.lst (cs.map fun c => T.fz (.lst (c.map T.int)))), .fz (.lst (ds.map fun c => T.fz (.lst (c.map T.int))))] QS XS :=
  ⟨_, _, _, _, rfl, congrArg some frz_fzL, congrArg some frz_fzL, by rw [List.length_map, List.length_map]; exact h, by rw [List.map_append] at q; exact q⟩
/-- rounds by their lengths -/
def byLen (cs : List (List Int)) : List (Int × T) := kvM (fdd (cs.map fun c => (c.length : Int))) fun l => .fz (.lst ((ofLen cs l).map fun c => T.fz (.lst (c.map T.int))))
theorem byLen_snoc {cs : List (List Int)} {c : List Int} : byLen (cs ++ [c]) = kvPut (byLen cs) c.length (.fz (.lst ((ofLen cs c.length ++ [c]).map fun c => T.fz (.lst (c.map T.int))))) := by
  unfold byLen
  rw [List.map_append, List.map_cons, List.map_nil, fdd_snoc, kvPut_M]
  refine kvM_congr fun l hl => ?_
  rw [ofLen_snoc]
  by_cases e : l = (c.length : Int)
  · subst e; rw [if_pos rfl, if_pos rfl]
  · rw [if_neg e, if_neg fun z => e z.symm]
theorem byLen_get {cs : List (List Int)} {l : Int} : (∀ u, kvGet (byLen cs) l = some u → u.frz = .fz (.lst ((ofLen cs l).map fun c => T.fz (.lst (c.map T.int))))) ∧ (kvGet (byLen cs) l = none → ofLen cs l = []) := by
  unfold byLen
  rw [kvGet_M]
  by_cases hm : l ∈ fdd (cs.map fun c => (c.length : Int))
  · rw [if_pos hm]
    exact ⟨fun u e => (Option.some.inj e) ▸ rfl, (fun e => by cases e)⟩
  · rw [if_neg hm]
    refine ⟨(fun u e => by cases e), fun _ => ?_⟩
    unfold ofLen
    rw [List.filter_eq_nil_iff]
    intro c hc e
    refine hm (fdd_mem.mpr (List.mem_map.mpr ⟨c, hc, by simpa using e⟩))
end TL

/-! TL25: a, b, .. = e. -/
namespace TL
open PySem PySem.Spec PyProof.Rows L2
def sUnp (w : WE) (wg : WG) : WS := fun ev E => w ev (fun t ev' => wg t ev' E.nx) E.xc
theorem ds_unp {X : Cx} {W : WX} {A : List Nat} {tg e : Expr} {w : WE} {g : TG} {wg : WG} {pos : Pos} (hg : DG X A tg g wg) (h : DE X W e w) (hs : swapsWithSole [tg] e pos.line X.env = pure false := by rfl) (hw : swappedStores [tg] e X.env = pure none := by rfl)
    (h1 : (assignEach [tg] X.env).map (·.2) = [assign tg X.env] := by rfl) : DS X W A (.Assign [tg] e pos) (sUnp w wg) := fun kp hk => PS.imp (ps_asg h hg.pg hs hw h1) fun D σ H q => by
  obtain ⟨ev, F, L, E0, S, p, w, k1, k2, k3, k4, k5⟩ := q
  refine ⟨ev, F, L, _, _, S, w, fun t ev' v F' H' L' q x S' => ?_, fun C ev' F' H' L' q x S' => k5 C ev' σ F' H' L' q x S' p⟩
  refine hg.ok.run t v ev' σ F' H' L' _ _ S' q fun ev2 σ2 F2 H2 L2 q2 x2 S2 hj hl => ?_
  exact k1 _ _ _ _ _ q2 (x.trans x2 S'.dj) S2 (fun j v e => by rw [hj j (fun m => by rw [hk j m] at e; cases e)]; exact p j v e)
theorem r_unp {w : WE} {wg : WG} {ev : Ev} {E : EndT} (h : w ev (fun t ev' => wg t ev' E.nx) E.xc) : sUnp w wg ev E := h
theorem fdd1_nd {ks : List Int} {l : Int} (h : ks.Nodup) : (fdd1 ks l).Nodup := (fdd_aux [l] ks h).1
theorem fdd1_mem {ks : List Int} {l x : Int} : x ∈ fdd1 ks l ↔ x ∈ ks ∨ x = l := by
  unfold fdd1
  split
  · rename_i h
    exact ⟨.inl, fun z => z.elim id fun e => e ▸ h⟩
  · rw [List.mem_append, List.mem_singleton]
theorem kvPut_same {ks : List Int} {f : Int → T} {i : Int} : kvPut (kvM ks f) i (f i) = kvM (fdd1 ks i) f := by
  rw [kvPut_M]
  refine kvM_congr fun l _ => ?_
  by_cases e : l = i
  · subst e; rw [if_pos rfl]
  · rw [if_neg e]
theorem r_putM {QS : T → List (Option T) → Prop} {XS : Addr → List (Option T) → Prop} {ks : List Int} {f : Int → T} {i : Int} {y : T} (hs : ∀ l, (f l).shr = true) (hy : y = f i) (hl : ks.length < 16777216)
    (q : QS .non [none, some (dkI (kvM (fdd1 ks i) f)), none]) : sPutD [y, dkI (kvM ks f), .int i] QS XS := by
  subst hy
  refine r_putD (kvM_shr hs) (hs i) (by rw [kvM_len]; exact hl) ?_
  rw [kvPut_same]; exact q
end TL

/-! TL26: a[k::d] of a list of whole numbers. -/
namespace TL
open PySem PySem.Spec PyProof.Rows L2
theorem lc_rng2 {a b : WE} {wg : WG} {wt : WT} {we : WE} {own : List Nat} {ev : Ev} {Q : T → Ev → Prop} {X : XP} {i j : Int} (h1 : Pure a ev (.int i)) (h2 : Pure b ev (.int j)) (hr : -(2 ^ 62) ≤ i ∧ i < 2 ^ 62 ∧ -(2 ^ 62) ≤ j ∧ j < 2 ^ 62) (hz : (j - i).toNat ≤ sizeLine) (ho : (own.all fun i => shrO (ev[i]?).join) = true)
    (I : Nat → List T → Ev → Prop) (h0 : I 0 [] (wipeE ev own))
    (hs : ∀ k acc ev, k < (j - i).toNat → I k acc ev → wg (.int (i + (k : Int))) ev (fun ev2 => wt ev2 (fun b ev3 => if b = true then we ev3 (fun y ev4 => I (k + 1) (acc ++ [y]) (wipeE ev4 own)) noX else I (k + 1) acc (wipeE ev3 own)) noX))
    (he : ∀ acc ev', I (j - i).toNat acc ev' → Q (.lst acc) (restE ev own ev')) : wLc (wRng2 (.vl a) (.vl b)) wg wt we own ev Q X := by
  unfold wLc wRng2
  refine (PO.vl h1).args ((PO.vl h2).args ?_)
  exact ⟨i, j, ev, rfl, hr, ho, hz, I, h0, fun _ _ _ _ _ => trivial, hs, he⟩
def stepIx (n k d : Nat) : List Nat := (List.range (if k < n then (n - k + d - 1) / d else 0)).map fun i => k + d * i
def pick {α : Type} (xs : List α) (ix : List Nat) : List α := ix.filterMap (xs[·]?)
theorem slicePick_step (its : List Value) (k d : Nat) (hd : 0 < d) : slicePick its.toArray (some (k : Int)) none (some (d : Int)) = (pick its (stepIx its.length k d)).toArray := by
  have hb : sliceBounds (some (k : Int)) none (some (d : Int)) its.toArray.size = (((min k its.length : Nat) : Int), (its.length : Int), (d : Int)) := by
    have h1 : (d : Int) > 0 := by omega
    simp only [sliceBounds, Option.getD_some, h1, if_true, if_neg (show ¬ (k : Int) < 0 by omega), List.size_toArray]
    congr 1
    omega
  unfold slicePick pick
  rw [hb]
  have hr : sliceRange ((min k its.length : Nat) : Int) (its.length : Int) (d : Int) = stepIx its.length k d := by
    unfold sliceRange stepIx
    simp only [show (d : Int) > 0 by omega, if_true]
    by_cases h : k < its.length
    · rw [if_pos h, Nat.min_eq_left (by omega), if_pos (by omega)]
      have e : (((its.length : Int) - k + d - 1) / d).toNat = (its.length - k + d - 1) / d := by
        have : ((its.length : Int) - k + d - 1) = ((its.length - k + d - 1 : Nat) : Int) := by omega
        rw [this, ← Int.natCast_ediv, Int.toNat_natCast]
      rw [e]
      refine List.map_congr_left fun i _ => ?_
      rw [← Int.natCast_mul]; omega
    · rw [if_neg h, Nat.min_eq_right (by omega), if_neg (by omega)]; rfl
  rw [hr]
  simp
theorem Vals.pick {xs : List V} {us : List Value} (r : Vals xs us) : ∀ ix : List Nat, Vals (TL.pick xs ix) (TL.pick us ix)
  | [] => .nil
  | i :: ix => by
    have ih := Vals.pick r ix
    unfold TL.pick at *
    rw [List.filterMap_cons, List.filterMap_cons]
    cases e : xs[i]? with
    | some x =>
      obtain ⟨u, eu, ru⟩ := L2.Vals.get r e
      rw [eu]
      exact .cons ru ih
    | none =>
      have hl := r.length
      have : us[i]? = none := List.getElem?_eq_none (by have := List.getElem?_eq_none_iff.mp e; omega)
      rw [this]
      exact ih
def tStepL (K : PySem.W.Frag) (te tl ts : TE) : TE := fun σ H Q => te σ H fun x H1 => tl σ H1 fun y H2 => ts σ H2 fun z H3 => ∃ (a : Addr) (xs : List V) (k d : Nat), x = .ref a ∧ y = .int k ∧ z = .int d ∧ 0 < d ∧ SqL K H3 a xs ∧ ∀ p, H3 p = none → Q (.ref p) (upd H3 p (.lst (pick xs (stepIx xs.length k d))))
theorem pick_len {α : Type} {xs : List α} : ∀ {ix : List Nat}, (pick xs ix).length ≤ ix.length := List.length_filterMap_le ..
theorem stepIx_len {n k d : Nat} : (stepIx n k d).length ≤ n := by
  unfold stepIx
  rw [List.length_map, List.length_range]
  split
  · rename_i h
    by_cases hd : d = 0
    · subst hd; simp
    · have : (n - k + d - 1) / d ≤ n - k := by
        refine Nat.div_le_of_le_mul ?_
        have h1 : n - k ≥ 1 := by omega
        have h2 : (d - 1) * 1 ≤ (d - 1) * (n - k) := Nat.mul_le_mul_left _ h1
        have h3 : d * (n - k) = (d - 1) * (n - k) + (n - k) := by
          rw [← Nat.succ_mul]; congr 1; omega
        omega
      omega
  · omega
theorem pe_stepL {X : Cx} {e lo st : Expr} {te tl ts : TE} {p3 pos : Pos} (he : PE X e te) (hlo : PE X lo tl) (hst : PE X st ts) : PE X (.Subscript e (.Slice (some lo) none (some st) p3) pos) (tStepL X.K te tl ts) := by
  refine ⟨fun pins s σ H Q I h => ?_⟩
  refine Subscript_ (thn (he.run pins s σ H _ I h) fun v s1 ⟨x, H1, I1, r1, q1⟩ => ?_)
  refine wpAny_Slice ?_
  rw [evalPart_some]
  refine thn (hlo.run pins s1 σ H1 _ I1 q1) fun vl s2 ⟨y, H2, I2, ry, q2⟩ => ?_
  rw [evalPart_none]
  refine wpAny_pure ?_
  rw [evalPart_some]
  refine thn (hst.run pins s2 σ H2 _ I2 q2) fun vs s3 ⟨z, H3, I3, rz, q3⟩ => ?_
  obtain ⟨a, xs, k, d, ex, ey, ez, hd, hx, q⟩ := q3
  subst ex ey ez
  cases r1
  obtain ⟨t1, rfl⟩ := ry
  obtain ⟨t2, rfl⟩ := rz
  have I5 : Inv X pins σ H3 { s3 with heap := s3.heap.push { cls := .type "slice", data := .fields #[.int k t1, .none, .int d t2] } } := I3.kept (t' := s3.toks) fun b ob q => Heap.get?_push_of_some _ q
  obtain ⟨its, r, ht, hz⟩ := I5.list hx
  have hlen := r.length
  show wpAny (model X.prog X.w) X.A (subscriptTail e (.Slice (some lo) none (some st) p3) (.ref a) (.ref s3.heap.objs.size)) (EP X pins σ Q) X.xe { s3 with heap := s3.heap.push { cls := .type "slice", data := .fields #[.int k t1, .none, .int d t2] } }
  refine tail_any (ops := [.ref a, .ref s3.heap.objs.size]) ht.isList.typeIs (PySem.slot_list_getitem.lookup) ?_ (by with_unfolding_all rfl)
  refine wpAny_getItem_list_slice ht.isList (Heap.IsSliceOf.new _ (.int k t1) .none (.int d t2)) (.int k t1) .none (.int d t2) (by intro e; have := Option.some.inj e; omega) ?_ (by rw [List.size_toArray]; omega)
  rw [slicePick_step _ _ _ hd, ← hlen]
  refine ⟨.ref _, _, I5.laid (t' := s3.toks) (o := .lst (pick xs (stepIx xs.length k d))) (fun b ob q => Heap.get?_push_of_some _ q) (Nat.le_refl _) ?_, rfl, q _ (I5.hok.fresh (Nat.le_refl _))⟩
  exact ⟨Nat.le_trans (Nat.le_trans pick_len stepIx_len) hz, _, 0, Vals.pick r _, Heap.get?_push_size _ rfl⟩
theorem pick_map {α β : Type} {f : α → β} {xs : List α} : ∀ ix : List Nat, pick (xs.map f) ix = (pick xs ix).map f
  | [] => rfl
  | i :: ix => by
    have ih := pick_map (f := f) (xs := xs) ix
    unfold pick at *
    rw [List.filterMap_cons, List.filterMap_cons, List.getElem?_map]
    cases xs[i]? with
    | none => exact ih
    | some x => show f x :: _ = f x :: _; rw [ih]
def sStepI : SpT := fun ts Q _ => ∃ t ns k d, ts = [t, .int (k : Nat), .int (d : Nat)] ∧ IsL t ns ∧ 0 < d ∧ Q (.lst ((pick ns (stepIx ns.length k d)).map T.int)) [some t, some (.int k), some (.int d)]
theorem de_stepI {X : Cx} {W : WX} {e lo st : Expr} {oa ob oc : Arg} {p3 pos : Pos} (he : DO X W e oa) (hlo : DO X W lo ob) (hst : DO X W st oc) : DE X W (.Subscript e (.Slice (some lo) none (some st) p3) pos) (wOp sStepI [oa, ob, oc]) := PE.imp (pe_stepL he hlo hst) fun σ H Q q => by
  have z : tOf X.K W oa σ H fun x H1 => tOf X.K W ob σ H1 fun y H2 => tOf X.K W oc σ H2 fun w H3 => spT X.K sStepI [x, y, w] H3 Q fun c d H2 => W c d σ H2 := wOp_run q
  refine tOf_mono z fun x H1 z => tOf_mono z fun y H2 z => tOf_mono z fun w H3 z => ?_
  obtain ⟨ts, F, L, Q0, X0, S, ⟨t, ns, k, d, e, h, hd, q⟩, kk, _⟩ := z
  subst e
  obtain ⟨v1, v2, v3, L1, L2, L3, e1, el, o1, o2, o3⟩ := S.own.three'
  cases e1
  obtain ⟨a, us, ea, ha, ra⟩ := o1.kidLS h.kidLS
  have eu := ints_vals ra
  subst ea eu
  have e2 : y = .int k := o2.2
  have e3 : w = .int d := o3.2
  subst e2 e3
  refine ⟨a, _, k, d, rfl, rfl, rfl, hd, ha, fun p hp => ?_⟩
  rw [pick_map, List.length_map]
  obtain ⟨L', x, S'⟩ := S.cell hp (own_lst_new (xs := (pick ns (stepIx ns.length k d)).map T.int) ints_own hp)
  exact kk _ _ _ F _ L' q x S'
theorem r_stepI {QS : T → List (Option T) → Prop} {XS : Addr → List (Option T) → Prop} {t : T} {ns : List Int} {k d : Nat} (h : IsL t ns) (hd : 0 < d) (q : QS (.lst ((pick ns (stepIx ns.length k d)).map T.int)) [some t, some (.int k), some (.int d)]) : sStepI [t, .int k, .int d] QS XS := ⟨t, ns, k, d, rfl, h, hd, q⟩
end TL

/-! TLM11: each so many-th thing of a round. -/
namespace TL
open PySem PySem.Spec PyProof.Rows L2
section
variable {c : List Int} {k : Int} {a : Nat}
theorem pick_mem {ix : List Nat} {x : Int} : x ∈ pick c ix ↔ ∃ i ∈ ix, c[i]? = some x := by
  unfold pick
  rw [List.mem_filterMap]
theorem pick_perm (nd : c.Nodup) (hc : 0 < c.length) (ha : a < Int.gcd c.length k) : (pce c k a).Perm (pick c (stepIx c.length a (Int.gcd c.length k))) := by
  have gp := gcd_pos (k := k) hc
  have gd : Int.gcd c.length k ∣ c.length := gcd_dvd_len
  have gk : (Int.gcd c.length k : Int) ∣ k := Int.gcd_dvd_right ..
  obtain ⟨q, hq⟩ := gd
  have hgdiv : c.length / Int.gcd c.length k = q := Nat.div_eq_of_eq_mul_right gp hq
  refine perm_of ?_ (fun x hx => ?_) ?_
  · unfold pce List.Nodup
    rw [List.pairwise_map]
    refine (List.pairwise_lt_range).imp_of_mem fun {i j} hi hj hij e => ?_
    have m0 := fun z : Int => Int.emod_nonneg z (show (c.length : Int) ≠ 0 by omega)
    have m1 := fun z : Int => Int.emod_lt_of_pos z (show 0 < (c.length : Int) by omega)
    have := G_inj nd (m0 _) (m1 _) (m0 _) (m1 _) e
    have := (ix_inj rfl ha ha (List.mem_range.mp hi) (List.mem_range.mp hj) this).2
    omega
  · unfold pce at hx
    obtain ⟨j, hj, rfl⟩ := List.mem_map.mp hx
    rw [pick_mem]
    have m0 := Int.emod_nonneg ((a : Int) + (j : Int) * k) (show (c.length : Int) ≠ 0 by omega)
    have m1 := Int.emod_lt_of_pos ((a : Int) + (j : Int) * k) (show 0 < (c.length : Int) by omega)
    generalize hg : Int.gcd c.length k = g at *
    have hd1 : (g : Int) ∣ (((a : Int) + (j : Int) * k) % (c.length : Int) - a) := by
      have h1 : (g : Int) ∣ (c.length : Int) * (((a : Int) + (j : Int) * k) / (c.length : Int)) := Int.dvd_trans (Int.natCast_dvd_natCast.mpr ⟨q, hq⟩) (Int.dvd_mul_right ..)
      have h2 : (g : Int) ∣ (j : Int) * k := Int.dvd_trans gk (Int.dvd_mul_left ..)
      have h3 := Int.dvd_sub h2 h1
      have e := Int.emod_add_mul_ediv ((a : Int) + (j : Int) * k) (c.length : Int)
      have e2 : (j : Int) * k - (c.length : Int) * (((a : Int) + (j : Int) * k) / (c.length : Int)) = ((a : Int) + (j : Int) * k) % (c.length : Int) - a := by omega
      rw [e2] at h3; exact h3
    obtain ⟨i, hi⟩ := hd1
    have gi : 0 < (g : Int) := by omega
    have i0 : 0 ≤ i := by
      by_cases z : 0 ≤ i
      · exact z
      · have : (g : Int) * i ≤ (g : Int) * (-1) := Int.mul_le_mul_of_nonneg_left (by omega) (by omega)
        omega
    obtain ⟨I, rfl⟩ := Int.eq_ofNat_of_zero_le i0
    have iq : I < q := by
      by_cases z : I < q
      · exact z
      · have : (g : Int) * (q : Int) ≤ (g : Int) * (I : Int) := Int.mul_le_mul_of_nonneg_left (by omega) (by omega)
        have e : (c.length : Int) = (g : Int) * q := by rw [hq]; exact Int.natCast_mul ..
        omega
    have ex : ((a : Int) + (j : Int) * k) % (c.length : Int) = ((a + g * I : Nat) : Int) := by
      have : ((a + g * I : Nat) : Int) = (a : Int) + (g : Int) * I := by rw [Int.natCast_add, Int.natCast_mul]
      omega
    rw [ex] at m1 ⊢
    refine ⟨a + g * I, ?_, G_getN (by omega)⟩
    unfold stepIx
    rw [if_pos (by
      have : g ≤ c.length := Nat.le_of_dvd hc ⟨q, hq⟩
      omega)]
    refine List.mem_map.mpr ⟨I, List.mem_range.mpr ?_, rfl⟩
    have : (c.length - a + g - 1) / g = q := by
      rw [hq]
      have e : g * q - a + g - 1 = g * q + (g - 1 - a) := by
        have : a < g * q := by have := Nat.le_of_dvd hc (show g ∣ c.length from ⟨q, hq⟩); omega
        omega
      rw [e, Nat.mul_add_div gp, Nat.div_eq_of_lt (by omega), Nat.add_zero]
    rw [this]; exact iq
  · rw [pce_len, hgdiv]
    refine Nat.le_trans pick_len ?_
    unfold stepIx
    rw [List.length_map, List.length_range]
    split
    · rename_i hlt
      generalize hg : Int.gcd c.length k = g at *
      refine Nat.le_of_lt_succ (Nat.div_lt_of_lt_mul ?_)
      rw [Nat.mul_succ, ← hq]; omega
    · omega
theorem srt_eq {l m : List Int} (h : l.Perm m) : srt l = srt m := srt_one (((srt_perm l).trans h).trans (srt_perm m).symm) (srt_le l) (srt_le m)
/-- the rounds of a power, each in order, of one round -/
theorem one_round {p : List Int} {n : Nat} (hp : TN n p) (hr : TL.rounds p = [c]) : srtLL ((TL.rounds (TL.tpow p k)).map srt) = srtLL ((List.range (Int.gcd c.length k)).map fun a => srt (pick c (stepIx c.length a (Int.gcd c.length k)))) := by
  have hT := hp.2.2.told
  rw [hr] at hT
  have hC := hT.1 c List.mem_cons_self
  have nd := hT.nd (List.mem_cons_self (a := c))
  have h2 := hT.tpow (k := k) hp.2.2
  have e : ([c].flatMap fun c => pcs c k) = pcs c k := by simp
  rw [e] at h2
  have h3 := h2.begun hp.2.2.tpow
  refine srtLL_congr ((h3.symm.map srt).trans (.of_eq ?_))
  unfold pcs
  rw [List.map_map, List.map_map]
  refine List.map_congr_left fun a ha => ?_
  exact srt_eq (bgn_perm.trans (pick_perm nd hC.pos (List.mem_range.mp ha)))
theorem kind_pieces {p : List Int} {n : Nat} (hp : TN n p) {l : List Int} (h : l.Perm ((TL.kindL p).flatMap (pieces k))) : (srt l).reverse = kindL (TL.tpow p k) := by
  refine kindL_of (h.trans ?_)
  exact ((kindL_perm p).flatMap_right _).trans (hp.2.2.lens_tpow).symm
theorem tpow_home {p : List Int} {n A : Nat} (hp : TN n p) (hA : lcmL (TL.kindL p) = A) {m : Int} (h : (A : Int) ∣ m) : TL.tpow p m = rg n := hp.tpow.ext (TN.rg hp.1) fun i i0 i1 => by
  have hpos := hp.home_pos
  rw [hA] at hpos
  have hi1 : i < p.length := by rw [hp.2.1]; exact i1
  have e := hp.2.2.home_it i0 hi1
  rw [hA] at e
  rw [hp.2.2.G_tpow i0 hi1 hpos e, Int.emod_eq_zero_of_dvd h, G_rg i0 i1]; rfl
theorem tpow_least {p : List Int} {n A q : Nat} (hp : TN n p) (hA : lcmL (TL.kindL p) = A) (hq : 1 < q) (hd : q ∣ A) : TL.tpow p ((A / q : Nat) : Int) ≠ rg n := fun e => by
  have hpos := hp.home_pos
  rw [hA] at hpos
  have h2 : lcmL (TL.kindL p) ∣ A / q := hp.2.2.home_dvd fun i i0 i1 => by
    have h3 := congrArg (fun l => G l i) e
    have h4 : G (TL.tpow p ((A / q : Nat) : Int)) i = TL.it p (A / q) i := by
      unfold TL.tpow
      rw [if_neg (Int.not_lt.mpr (Int.natCast_nonneg _)), G_pw i0 i1, Int.toNat_natCast]
    rw [hp.2.1] at i1
    have h5 : G (TL.tpow p ((A / q : Nat) : Int)) i = i := h3.trans (G_rg i0 i1)
    rw [← h4, h5]
  rw [hA] at h2
  have h6 := Nat.div_pos (Nat.le_of_dvd hpos hd) (by omega : 0 < q)
  have h7 := Nat.le_of_dvd h6 h2
  have h8 := Nat.div_lt_self hpos hq
  omega
end
end TL

/-! TL27: int(truth). -/
namespace TL
open PySem PySem.Spec PyProof.Rows L2
def sIntB : SpT := fun ts Q _ => ∃ b, ts = [.bl b] ∧ Q (.int (if b then 1 else 0)) [some (.bl b)]
theorem br_intB {K : PySem.W.Frag} : BrL K sIntB (fun xs H Q => (∃ i, xs = [.int i] ∧ Q (.int i) H) ∨ ∃ k, xs = [.bl k] ∧ Q (.int (if k then 1 else 0)) H) := fun vs H Q E ⟨ts, F, L, Q0, X0, S, ⟨b, e, q⟩, k, _⟩ => by
  subst e
  obtain ⟨v, e1, o⟩ := S.own.one'
  subst e1
  have e2 : v = .bl b := o.2
  subst e2
  exact .inr ⟨b, rfl, k _ _ _ F H L q Ext.refl (S.ret own_int)⟩
theorem de_intB {X : Cx} {W : WX} {e : Expr} {oa : Arg} {p pos : Pos} (hg : Gl X "int") (hm : X.mg "int" = none) (h : DO X W e oa) (he : starEach [e] X.env = (false, eval e X.env) :: starEach [] X.env := by rfl) : DE X W (.Call (.Name "int" p) [e] [] pos) (wOp sIntB [oa]) :=
  DE.call (pe_callTy call_int1 hg hm (by decide +kernel) (da_cons (as := []) h da_nil he) (by decide) (by decide) he) br_intB
theorem p_intB {ev : Ev} {a : Arg} {b : Bool} (ha : PO a ev (.bl b)) : Pure (wOp sIntB [a]) ev (.int (if b then 1 else 0)) := op1 ha fun _ _ q => ⟨b, rfl, q⟩
theorem of_frz_int {u : T} {c : Int} (h : u.frz = .int c) : u = .int c := by
  cases u <;> first | exact h | cases h
theorem r_putM2 {QS : T → List (Option T) → Prop} {XS : Addr → List (Option T) → Prop} {ks : List Int} {f g : Int → T} {i : Int} {y : T} (hs : ∀ l, (f l).shr = true) (hy : y.shr = true) (hl : ks.length < 16777216) (h : ∀ x, (if x = i then y else f x) = g x)
    (q : QS .non [none, some (dkI (kvM (fdd1 ks i) g)), none]) : sPutD [y, dkI (kvM ks f), .int i] QS XS := by
  refine r_putD (kvM_shr hs) hy (by rw [kvM_len]; exact hl) ?_
  rw [kvPut_M, kvM_congr fun l _ => h l]; exact q
theorem r_cutB {ev : Ev} {Q : T → Ev → Prop} {X : XP} {i : Nat} {wa wb : WE} {a : Int} {te : T} (h : ev[i]? = some (some te)) (ha : Pure wa ev (.int a))
    (q : wb ev (fun u ev2 => ∃ ts ev3, takeA [.pl i, .vl (.int a), .vl u] ev2 = some (ts, ev3) ∧ sCutB ts (fun t ts' => Q t (giveA [.pl i, .vl (.int a), .vl u] ts' ev3)) fun C ts' => X C (giveA [.pl i, .vl (.int a), .vl u] ts' ev3)) X) : wCutB (.pl i) (.vl wa) (.vl wb) ev Q X := by
  unfold wCutB
  refine (PO.pl h).args ((PO.vl ha).args ?_)
  exact ⟨⟨_, a, rfl⟩, q⟩
theorem r_cutMid {QS : T → List (Option T) → Prop} {XS : Addr → List (Option T) → Prop} {t : T} {ns : List Int} {a b : Nat} {c : Int} (h : IsL t ns) (hc : c = (a : Int) + (b : Int)) (q : QS (.lst (((ns.drop a).take b).map T.int)) [some t, some (.int a), some (.int c)]) : sCutB [t, .int a, .int c] QS XS := by
  subst hc
  refine ⟨t, a, _, ns.map T.int, rfl, h.kidLS, ?_⟩
  have e : cut (ns.map T.int) (some (a : Int)) (some ((a : Int) + (b : Int))) = ((ns.drop a).take b).map T.int := by
    have e : ((a : Int) + b) = ((a + b : Nat) : Int) := by omega
    unfold cut
    rw [e, HT.sIx_nat, HT.sIx_nat, List.length_map, ← List.map_drop, ← List.map_take]
    congr 1
    by_cases z : a ≤ ns.length
    · rw [Nat.min_eq_left z]
      by_cases y : a + b ≤ ns.length
      · rw [Nat.min_eq_left y, Nat.add_sub_cancel_left]
      · rw [Nat.min_eq_right (by omega), List.take_of_length_le (by rw [List.length_drop]; omega), List.take_of_length_le (by rw [List.length_drop]; omega)]
    · rw [List.drop_of_length_le (show ns.length ≤ min a ns.length by omega), List.drop_of_length_le (show ns.length ≤ a by omega)]
      simp
  rw [e]; exact q
end TL

/-! TLM12: how many go past: each length, so often as it is there, times the number of its time. -/
namespace TL
open PySem PySem.Spec PyProof.Rows L2
/-- the last one first -/
def FR : List Int → Int
  | [] => 1
  | l :: ls => FR ls * (l * ((ls.count l : Nat) + 1 : Int))
theorem FR_perm {l m : List Int} (h : l.Perm m) : FR l = FR m := by
  induction h with
  | nil => rfl
  | cons x h ih => unfold FR; rw [ih, h.count_eq]
  | swap x y l =>
    unfold FR FR
    by_cases e : x = y
    · subst e; rfl
    · have e1 : (y :: l).count x = l.count x := List.count_cons_of_ne (fun h => e h.symm)
      have e2 : (x :: l).count y = l.count y := List.count_cons_of_ne e
      rw [e1, e2]
      generalize y * ((List.count y l : Nat) + 1 : Int) = u
      generalize x * ((List.count x l : Nat) + 1 : Int) = v
      rw [Int.mul_assoc, Int.mul_assoc, Int.mul_comm u v]
  | trans _ _ ih1 ih2 => exact ih1.trans ih2
def pastF (ls : List Int) : Int := FR ls.reverse
theorem pastF_snoc {ls : List Int} {l : Int} : pastF (ls ++ [l]) = pastF ls * (l * ((ls.count l : Nat) + 1 : Int)) := by
  unfold pastF
  rw [List.reverse_append]
  show FR ls.reverse * (l * ((ls.reverse.count l : Nat) + 1 : Int)) = _
  rw [List.count_reverse]
theorem FR_sm : ∀ {ls : List Int}, (∀ l ∈ ls, 1 ≤ l ∧ l ≤ 40) → ls.length ≤ 40 → 1 ≤ FR ls ∧ Sm (1 + 11 * ls.length) (FR ls)
  | [], _, _ => ⟨by decide, by show (1 : Int).natAbs < 2 ^ 1; decide⟩
  | l :: ls, h, hl => by
    obtain ⟨a, b⟩ := FR_sm (ls := ls) (fun x hx => h x (List.mem_cons_of_mem _ hx)) (by rw [List.length_cons] at hl; omega)
    have h1 := h l List.mem_cons_self
    have hc : ls.count l ≤ ls.length := List.count_le_length
    rw [List.length_cons] at hl
    have hp : 1 ≤ l * ((ls.count l : Nat) + 1 : Int) ∧ l * ((ls.count l : Nat) + 1 : Int) ≤ 1600 := by
      have x1 : 1 * 1 ≤ l * ((ls.count l : Nat) + 1 : Int) := Int.mul_le_mul h1.1 (by omega) (by decide) (by omega)
      have x2 : l * ((ls.count l : Nat) + 1 : Int) ≤ 40 * 40 := Int.mul_le_mul h1.2 (by omega) (by omega) (by decide)
      omega
    unfold FR
    generalize l * ((ls.count l : Nat) + 1 : Int) = y at *
    refine ⟨?_, ?_⟩
    · have : 1 * 1 ≤ FR ls * y := Int.mul_le_mul a hp.1 (by decide) (by omega)
      omega
    · have hy : Sm 11 y := Sm.of (by omega) (by omega)
      have := b.mul hy
      rw [List.length_cons]
      exact this.mono (by omega)
/-- the lengths up to j -/
def grow (p : List Int) : Nat → List Int
  | 0 => []
  | j + 1 => List.replicate (cnt p ((j : Int) + 1)) ((j : Int) + 1) ++ grow p j
theorem grow_count {p : List Int} {x : Int} : ∀ j : Nat, (grow p j).count x = if 1 ≤ x ∧ x ≤ j then cnt p x else 0
  | 0 => by
    show List.count x [] = _
    rw [if_neg (by omega)]; rfl
  | j + 1 => by
    unfold grow
    rw [List.count_append, List.count_replicate, grow_count j]
    by_cases e : (j : Int) + 1 = x
    · subst e
      rw [if_pos (by simp), if_neg (by omega), if_pos (by omega)]; rfl
    · rw [if_neg (by simpa using e)]
      by_cases h : 1 ≤ x ∧ x ≤ j
      · rw [if_pos h, if_pos (by omega), Nat.zero_add]
      · rw [if_neg h, if_neg (by omega)]
theorem grow_perm {p : List Int} {n : Nat} (hp : TN n p) : (grow p n).Perm (kindL p) := by
  rw [List.perm_iff_count]
  intro x
  rw [grow_count, kind_cnt]
  by_cases h : 1 ≤ x ∧ x ≤ n
  · rw [if_pos h]
  · rw [if_neg h]
    refine (Nat.eq_zero_of_not_pos fun h0 => h ?_).symm
    have hm : x ∈ lens p := List.count_pos_iff.mp h0
    refine ⟨lens_pos hp.2.2 hm, ?_⟩
    unfold lens at hm
    obtain ⟨c, hc, rfl⟩ := List.mem_map.mp hm
    have := (hp.2.2.told.len hc).2
    rw [hp.2.1] at this; omega
theorem grow_suffix {p : List Int} {j : Nat} : ∀ d : Nat, (grow p j).length ≤ (grow p (j + d)).length
  | 0 => Nat.le_refl _
  | d + 1 => by
    refine Nat.le_trans (grow_suffix d) ?_
    show _ ≤ (List.replicate (cnt p (((j + d : Nat) : Int) + 1)) (((j + d : Nat) : Int) + 1) ++ grow p (j + d)).length
    rw [List.length_append]; omega
theorem grow_bd {p : List Int} {n j k : Nat} (hp : TN n p) (hj : j < n) (hk : k ≤ cnt p ((j : Int) + 1)) : (∀ l ∈ List.replicate k ((j : Int) + 1) ++ grow p j, 1 ≤ l ∧ l ≤ 40) ∧ (List.replicate k ((j : Int) + 1) ++ grow p j).length ≤ 40 := by
  have hn := hp.1
  have h1 := grow_suffix (p := p) (j := j + 1) (n - (j + 1))
  rw [show j + 1 + (n - (j + 1)) = n by omega, (grow_perm hp).length_eq] at h1
  have h2 := kindL_len hp.2.2
  have h3 := hp.2.1
  have h4 : (grow p (j + 1)).length = cnt p ((j : Int) + 1) + (grow p j).length := by
    show (List.replicate (cnt p ((j : Int) + 1)) ((j : Int) + 1) ++ grow p j).length = _
    rw [List.length_append, List.length_replicate]
  refine ⟨fun l hl => ?_, by rw [List.length_append, List.length_replicate]; omega⟩
  rcases List.mem_append.mp hl with hl | hl
  · rw [(List.mem_replicate.mp hl).2]; omega
  · have h5 : 0 < (grow p j).count l := List.count_pos_iff.mpr hl
    rw [grow_count] at h5
    by_cases z : 1 ≤ l ∧ l ≤ j
    · omega
    · rw [if_neg z] at h5; omega
/-- k of a length put ahead -/
theorem FR_rep {ls : List Int} {l : Int} (h : ls.count l = 0) : ∀ k : Nat, FR (List.replicate (k + 1) l ++ ls) = FR (List.replicate k l ++ ls) * l * ((k : Int) + 1) := fun k => by
  rw [List.replicate_succ, List.cons_append]
  show FR (List.replicate k l ++ ls) * (l * (((List.replicate k l ++ ls).count l : Nat) + 1 : Int)) = _
  rw [List.count_append, List.count_replicate_self, h, Nat.add_zero, Int.mul_assoc]
/-- how often a length is told, thing by thing -/
theorem things_count {p : List Int} {n : Nat} (hp : TN n p) {l : Nat} (hl : 0 < l) : (((rg n).map fun i => (TL.rl p i : Int)).count (l : Int)) / l = cnt p l := by
  have h1 : ((rg n).map fun i => (TL.rl p i : Int)).Perm ((rounds p).flatten.map fun i => (TL.rl p i : Int)) := by
    have := hp.2.2.told.2
    rw [hp.2.1] at this
    exact (this.symm).map _
  rw [h1.count_eq]
  have h2 : ∀ cs : List (List Int), (∀ c ∈ cs, ∀ x ∈ c, TL.rl p x = c.length) → ((cs.flatten.map fun i => (TL.rl p i : Int)).count (l : Int)) = l * ((cs.map fun c => (c.length : Int)).count (l : Int)) := fun cs => by
    induction cs with
    | nil => intro _; simp
    | cons c cs ih =>
      intro h
      rw [List.flatten_cons, List.map_append, List.count_append, ih fun d hd => h d (List.mem_cons_of_mem _ hd), List.map_cons, List.count_cons]
      have hc : c.map (fun i => (TL.rl p i : Int)) = List.replicate c.length (c.length : Int) := by
        rw [List.eq_replicate_iff]
        exact ⟨List.length_map _, fun b hb => by
          obtain ⟨x, hx, rfl⟩ := List.mem_map.mp hb
          rw [h c List.mem_cons_self x hx]⟩
      rw [hc, List.count_replicate, Nat.mul_add]
      by_cases e : (c.length : Int) = (l : Int)
      · have e' : c.length = l := by omega
        rw [if_pos (by simpa using e), if_pos (by simpa using e), e']; omega
      · rw [if_neg (by simpa using e), if_neg (by simpa using e)]; omega
  rw [h2 _ fun c hc x hx => hp.2.2.told.rl hp.2.2 hc hx, Nat.mul_div_cancel_left _ hl]
  rfl
end TL

/-! TL28: what the classes of errors say, put together out of what the heap tells. -/
namespace TL
open PySem PySem.Spec PyProof.Rows L2
section
variable {K : PySem.W.Frag} {D C : Addr} {b : Bool}
theorem isx_own (E : ExcC K D) (h : PySem.W.subIn K (.ref D) (.ref C) = some b) (hd : PySem.W.hasDictIn K C = true) (ht : PySem.W.typeIn K (.ref C) = some (.type "type")) (ne : (D == C) = false) : Isx K D (.cls C) b := by
  refine ⟨E, (.ref C, .ref C), rfl, ?_⟩
  unfold PySem.W.kitOne PySem.W.kitCls
  have h1 : ¬ ((Value.ref D == Value.ref C) = true) := fun e => by
    have e2 : D = C := Value.ref.inj (beq_iff_eq.mp e)
    rw [e2] at ne; simp at ne
  rw [if_neg h1]
  obtain ⟨cd, hc, _⟩ := PySem.W.any_some hd
  dsimp only
  have h2 : ((PySem.W.clsIn K C).isSome && PySem.W.typeIn K (.ref C) == some (.type "type")) = true := by rw [hc, ht] <;> rfl
  rw [if_pos h2]
  exact h
theorem isx_self (E : ExcC K D) : Isx K D (.cls D) true := by
  refine ⟨E, (.ref D, .ref D), rfl, ?_⟩
  unfold PySem.W.kitOne
  rw [if_pos (beq_iff_eq.mpr rfl)]
theorem isx_val (E : ExcC K D) (h : PySem.W.subIn K (.ref D) (.type "ValueError") = some true) : Isx K D (.ty "ValueError") true := by
  refine ⟨E, (.ty "ValueError", .type "ValueError"), rfl, ?_⟩
  unfold PySem.W.kitOne PySem.W.kitCls
  have h1 : ¬ ((Value.ref D == Value.type "ValueError") = true) := fun e => by
    have := beq_iff_eq.mp e
    cases this
  rw [if_neg h1]
  dsimp only
  rw [if_pos (by decide +kernel)]
  exact h
theorem exm_own (h1 : PySem.W.subIn K (.ref C) (.type "BaseException") = some true) (hd : PySem.W.hasDictIn K C = true) (ht : PySem.W.typeIn K (.ref C) = some (.type "type")) (h4 : PySem.W.subIn K (.ref D) (.ref C) = some b) : PySem.W.exmOne K (.ref D) (.ref C) = some b := PySem.W.exm_ref h1 hd ht h4
end
/-- every one of a list -/
theorem all_nil {p : Addr → Prop} : ∀ C ∈ ([] : List Addr), p C := fun _ h => nomatch h
theorem all_cons {p : Addr → Prop} {c : Addr} {cs : List Addr} (h : p c) (r : ∀ C ∈ cs, p C) : ∀ C ∈ c :: cs, p C := fun C hC => by
  rcases List.mem_cons.mp hC with e | e
  · rw [e]; exact h
  · exact r C e
end TL

/-! TL29: index and count in a list of truths; reading try and isinstance of own classes. -/
namespace TL
open PySem PySem.Spec PyProof.Rows L2
def rCntF (K : PySem.W.Frag) : V → List V → Hp → VK → Prop := fun x xs H Q => ∃ (p : Addr) (ys : List V) (y : V), x = .ref p ∧ xs = [y] ∧ SqL K H p ys ∧ flatV y = true ∧ ys.all flatV = true ∧ Q (.int (ys.countP (fun z => eqV z y) : Nat)) H
theorem count_eqU {x : V} : ∀ {xs : List V} {us : List Value}, Vals xs us → xs.all flatV = true → us.countP (eqU x) = xs.countP fun y => eqV y x
  | _, _, .nil, _ => rfl
  | _, _, .cons r t, f => by
    rw [List.all_cons, Bool.and_eq_true] at f
    rw [List.countP_cons, List.countP_cons, eqU_of r f.1, count_eqU t f.2]
theorem mt_countF {X : Cx} : MtR X "list.count" (rCntF X.K) := by
  intro pins s σ H x xs v us Q I rx rxs h
  obtain ⟨p, ys, y, rfl, rfl, hs, fy, fys, q⟩ := h
  cases rx
  cases rxs with
  | cons ry rt =>
    rename_i uy ut
    cases rt
    obtain ⟨its, rv, ⟨⟨cls, dd, data, sl⟩, n, ho, hc, hdn, hd⟩, hlen⟩ := I.list hs
    simp only at hc hd
    subst hc hd
    refine call_meets PySem.F.slot_list_count ⟨_, ho, rfl⟩ PySem.F.entry_list_count (PySem.F.args_list_count_2 _ _)
      (SeqAt.list_countAt p its.toArray n dd sl uy (eqU y)) ⟨ho, fun u' hu' => mem_eqAt ry fy rv fys u' (by simpa using hu'), ?_⟩
    have ec : its.toArray.toList.countP (eqU y) = ys.countP fun z => eqV z y := count_eqU rv fys
    refine ⟨.int (ys.countP (fun z => eqV z y) : Nat), H, I.tok _, ⟨s.toks, ?_⟩, q⟩
    show Value.int ((its.toArray.toList.countP (eqU y) : Nat) : Int) s.toks = _
    rw [ec]
/-- the truths of a list of them -/
def blsL : List T → Option (List Bool)
  | [] => some []
  | .bl b :: r => (blsL r).map (b :: ·)
  | _ => none
def T.bls (t : T) : Option (List Bool) := t.kidLS.bind blsL
theorem blsL_some : ∀ {us : List T} {bs : List Bool}, blsL us = some bs → us = bs.map T.bl
  | [], bs, h => by cases h; rfl
  | .bl b :: r, bs, h => by
    unfold blsL at h
    cases e : blsL r with
    | none => rw [e] at h; cases h
    | some c =>
      rw [e] at h
      cases h
      rw [blsL_some e]; rfl
theorem T.bls_some {t : T} {bs : List Bool} (h : t.bls = some bs) : t.kidLS = some (bs.map T.bl) := by
  unfold T.bls at h
  cases e : t.kidLS with
  | none => rw [e] at h; cases h
  | some us => rw [e] at h; rw [blsL_some h]
theorem bls_vals {K : PySem.W.Frag} {F : Addr → Prop} {H : Hp} : ∀ {bs : List Bool} {vs : List V} {L : List Addr}, Owns K F H (bs.map T.bl) vs L → vs = bs.map V.bl
  | [], vs, L, h => h.1
  | n :: ns, vs, L, ⟨v, vs', L1, L2, e, el, ⟨_, o⟩, r⟩ => by
    have o' : v = .bl n := o
    rw [e, bls_vals r, o']; rfl
theorem bls_flat {bs : List Bool} : (bs.map V.bl).all flatV = true := by rw [List.all_map]; exact List.all_eq_true.mpr fun _ _ => rfl
theorem bls_count {b : Bool} : ∀ {bs : List Bool}, (bs.map V.bl).countP (fun z => eqV z (.bl b)) = bs.count b
  | [] => rfl
  | c :: bs => by
    rw [List.map_cons, List.countP_cons, bls_count, List.count_cons]
    rfl
def sIndexB : SpT := fun ts Q _ => ∃ t bs y, ts = [t, .bl y] ∧ t.bls = some bs ∧ y ∈ bs ∧ Q (.int (bs.idxOf y : Nat)) [some t, some (.bl y)]
def sCountB : SpT := fun ts Q _ => ∃ t bs y, ts = [t, .bl y] ∧ t.bls = some bs ∧ Q (.int (bs.count y : Nat)) [some t, some (.bl y)]
theorem bne_of_lt_idxOf {y : Bool} : ∀ {ns : List Bool} {m : Nat}, m < ns.idxOf y → ns[m]? ≠ some y
  | [], m, h => by simp
  | x :: r, 0, h => fun e => by
    have e : x = y := Option.some.inj e
    rw [e, List.idxOf_cons_self] at h; exact absurd h (Nat.not_lt_zero _)
  | x :: r, m + 1, h => by
    rw [List.idxOf_cons] at h
    have h2 : m < r.idxOf y := by
      cases e : x == y with
      | true => rw [e] at h; exact absurd h (Nat.not_lt_zero _)
      | false => rw [e] at h; exact Nat.lt_of_succ_lt_succ h
    exact bne_of_lt_idxOf (ns := r) h2
section
variable {K : PySem.W.Frag}
theorem br_countB : BrM K sCountB (rCntF K) := fun x vs H Q E ⟨ts, F, L, Q0, X0, S, ⟨t, bs, y, e, h, q⟩, k, _⟩ => by
  subst e
  obtain ⟨v, w, L1, L2, e1, el, o, o2⟩ := S.own.two'
  cases e1
  obtain ⟨a, us, ea, ha, ra⟩ := o.kidLS (T.bls_some h)
  have eu := bls_vals ra
  subst ea eu
  obtain ⟨e2, e3⟩ := o2
  have e3 : w = .bl y := e3
  subst e3
  refine ⟨a, _, .bl y, rfl, rfl, ha, rfl, bls_flat, ?_⟩
  rw [bls_count]
  exact k _ _ _ F H L q Ext.refl (S.ret own_int)
theorem br_indexB : BrM K sIndexB (rIndex K) := fun x vs H Q E ⟨ts, F, L, Q0, X0, S, ⟨t, ns, y, e, h, hy, q⟩, k, _⟩ => by
  subst e
  obtain ⟨v, w, L1, L2, e1, el, o, o2⟩ := S.own.two'
  cases e1
  obtain ⟨a, us, ea, ha, ra⟩ := o.kidLS (T.bls_some h)
  have eu := bls_vals ra
  subst ea eu
  obtain ⟨e2, e3⟩ := o2
  have e3 : w = .bl y := e3
  subst e3
  have hl : ns.idxOf y < ns.length := List.idxOf_lt_length_of_mem hy
  have hg : ns[ns.idxOf y] = y := List.getElem_idxOf hl
  refine ⟨a, ns.map V.bl, .bl y, ns.idxOf y, .bl y, rfl, rfl, ha, rfl, bls_flat, ?_, ?_, ?_, k _ _ _ F H L q Ext.refl (S.ret own_int)⟩
  · rw [List.getElem?_map, List.getElem?_eq_getElem hl, hg]; rfl
  · show (y == y) = true
    simp
  · intro m z hm hz
    have hm2 : m < ns.length := Nat.lt_trans hm hl
    rw [List.getElem?_map, List.getElem?_eq_getElem hm2] at hz
    have ez : V.bl ns[m] = z := Option.some.inj hz
    subst ez
    show (ns[m] == y) = false
    exact beq_eq_false_iff_ne.mpr fun c => bne_of_lt_idxOf hm (by rw [List.getElem?_eq_getElem hm2, c])
end
section
variable {X : Cx} {W : WX} {o e : Expr} {oa ob : Arg} {apos cpos : Pos}
theorem de_indexB (ho : DO X W o oa) (h : DO X W e ob) (he : starEach [e] X.env = (false, eval e X.env) :: starEach [] X.env := by rfl) (hbase : attributeBase o "index" X.env (eval o X.env) = eval o X.env := by rfl)
    (hf : ((backTo cpos (starEach [e] X.env)).all (fun x => !x.1) && (backToKw cpos (keywordEach [] X.env)).all (fun x => x.1.isSome) && decide (([e]).length + ([] : List Keyword).length + (if ([] : List Keyword).isEmpty then 0 else 1) < 30)) = true := by rfl)
    (hline : (apos.endLine == cpos.line) = true := by rfl) :
    DE X W (.Call (.Attribute o "index" apos) [e] [] cpos) (wMeth "list" sIndexB oa [ob]) := DE.meth rfl (pe_bm PySem.F.plainAttrs_list PySem.F.slot_list_index PySem.F.type_list_index mt_index ho (da_cons (as := []) h da_nil he) hbase hf hline he) br_indexB
theorem de_countB (ho : DO X W o oa) (h : DO X W e ob) (he : starEach [e] X.env = (false, eval e X.env) :: starEach [] X.env := by rfl) (hbase : attributeBase o "count" X.env (eval o X.env) = eval o X.env := by rfl)
    (hf : ((backTo cpos (starEach [e] X.env)).all (fun x => !x.1) && (backToKw cpos (keywordEach [] X.env)).all (fun x => x.1.isSome) && decide (([e]).length + ([] : List Keyword).length + (if ([] : List Keyword).isEmpty then 0 else 1) < 30)) = true := by rfl)
    (hline : (apos.endLine == cpos.line) = true := by rfl) :
    DE X W (.Call (.Attribute o "count" apos) [e] [] cpos) (wMeth "list" sCountB oa [ob]) := DE.meth rfl (pe_bm PySem.F.plainAttrs_list PySem.F.slot_list_count PySem.F.type_list_count mt_countF ho (da_cons (as := []) h da_nil he) hbase hf hline he) br_countB
end
/-! ### reading -/
section
variable {ev : Ev} {a b : Arg} {t : T} {bs : List Bool} {y : Bool}
theorem p_indexB (n : apart2 a b = true) (ha : PO a ev t) (hb : PO b ev (.bl y)) (h : t.bls = some bs) (hy : y ∈ bs) (ht : t.tyN = "list") : Pure (wMeth "list" sIndexB a [b]) ev (.int (bs.idxOf y : Nat)) := p_meth n (fun _ _ q => ⟨t, bs, y, rfl, h, hy, q⟩) ha hb ht
theorem p_countB (n : apart2 a b = true) (ha : PO a ev t) (hb : PO b ev (.bl y)) (h : t.bls = some bs) (ht : t.tyN = "list") : Pure (wMeth "list" sCountB a [b]) ev (.int (bs.count y : Nat)) := p_meth n (fun _ _ q => ⟨t, bs, y, rfl, h, q⟩) ha hb ht
theorem r_tryK {i j : Nat} {Cs : List Addr} {w : WS} {E : EndT} (h : w ev { nx := E.nx, rt := E.rt, bk := E.bk, ct := E.ct, xc := fun C ev' => C ∈ Cs ∧ i < ev'.length ∧ j < ev'.length ∧ E.nx ((ev'.set j (some (.exc C))).set i none) }) : sTryK i j Cs w ev E := h
theorem r_rng1V {w : WE} {wg : WG} {wb : WS} {E : EndT} (h : w ev (fun t ev1 => ∃ (j : Int) (ev2 : Ev), takeA [ArgV.vl t] ev1 = some ([.int j], ev2) ∧ -(2 ^ 62) ≤ j ∧ j < 2 ^ 62 ∧ ∃ I : Nat → Ev → Prop, I 0 (giveA [ArgV.vl t] [some (.int j)] ev2) ∧ (∀ k ev, k ≤ j.toNat → I k ev → True) ∧
    (∀ k ev, k < j.toNat → I k ev → wg (.int k) ev (fun ev2 => wb ev2 { nx := I (k + 1), ct := I (k + 1), bk := E.nx, rt := E.rt, xc := E.xc })) ∧ (∀ ev, I j.toNat ev → E.nx ev)) E.xc) : sFor (wRng1 (.vl w)) wg wb ev E := h
theorem r_gT2i {Q : Ev → Prop} {k l : Nat} {i j : Int} (hk : Nat.blt k ev.length = true) (hl : Nat.blt l ev.length = true) (q : Q ((ev.set k (some (.int i))).set l (some (.int j)))) : gTp [k, l] (.fz (.tup [.int i, .int j])) ev Q :=
  ⟨rfl, [.int i, .int j], rfl, rfl, by simp only [List.all_cons, List.all_nil, Bool.and_true, Bool.and_eq_true, decide_eq_true_eq]; exact ⟨Nat.blt_eq ▸ hk, Nat.blt_eq ▸ hl⟩, q⟩
end
end TL

/-! TLM13: products of powers of primes; the least right number told by them. -/
namespace TL
open PySem PySem.Spec PyProof.Rows L2
variable {l m d g : Nat}
theorem IsLr.least (h : IsLr l m d) (g0 : 0 < g) (e : Nat.gcd (g * l) m = g) : d ≤ g := by
  have hd : g ∣ m := by
    have := Nat.gcd_dvd_right (g * l) m
    rwa [e] at this
  refine Nat.le_of_dvd g0 (h.dvd hd ?_)
  obtain ⟨t, rfl⟩ := hd
  rw [Nat.mul_div_cancel_left _ g0]
  rw [Nat.gcd_mul_left] at e
  have : Nat.gcd l t = 1 := Nat.eq_of_mul_eq_mul_left g0 (by rw [e, Nat.mul_one])
  rwa [Nat.coprime_comm]
def prodQ : List (Nat × Nat) → Nat
  | [] => 1
  | q :: qs => q.1 ^ q.2 * prodQ qs
theorem prodQ_app : ∀ {xs ys : List (Nat × Nat)}, prodQ (xs ++ ys) = prodQ xs * prodQ ys
  | [], ys => (Nat.one_mul _).symm
  | x :: xs, ys => by
    show x.1 ^ x.2 * prodQ (xs ++ ys) = x.1 ^ x.2 * prodQ xs * prodQ ys
    rw [prodQ_app, Nat.mul_assoc]
theorem prodQ_one {p e : Nat} : prodQ [(p, e)] = p ^ e := Nat.mul_one _
theorem prodQ_pos : ∀ {xs : List (Nat × Nat)}, (∀ q ∈ xs, 0 < q.1) → 0 < prodQ xs
  | [], _ => Nat.one_pos
  | x :: xs, h => Nat.mul_pos (Nat.pow_pos (h x List.mem_cons_self)) (prodQ_pos fun q hq => h q (List.mem_cons_of_mem _ hq))
/-- a beginning's product with some of the next one's power is no more than the whole -/
theorem prodQ_part {xs : List (Nat × Nat)} {j k : Nat} (hp : ∀ q ∈ xs, 0 < q.1) (hj : j < xs.length) (hk : k ≤ (xs.getD j (0, 0)).2) : prodQ (xs.take j) * (xs.getD j (0, 0)).1 ^ k ≤ prodQ xs := by
  have e : xs.getD j (0, 0) = xs[j] := by rw [List.getD_eq_getElem?_getD, List.getElem?_eq_getElem hj]; rfl
  rw [e] at hk ⊢
  have hm : xs[j] ∈ xs := List.getElem_mem hj
  have e1 : xs = xs.take j ++ (xs[j] :: xs.drop (j + 1)) := by
    have h1 := (List.take_append_drop j xs).symm
    rw [List.drop_eq_getElem_cons hj] at h1
    exact h1
  have e2 : prodQ xs = prodQ (xs.take j) * (xs[j].1 ^ xs[j].2 * prodQ (xs.drop (j + 1))) := (congrArg prodQ e1).trans prodQ_app
  rw [e2]
  refine Nat.mul_le_mul_left _ ?_
  have h0 := prodQ_pos (xs := xs.drop (j + 1)) fun q hq => hp q (List.drop_subset _ _ hq)
  calc xs[j].1 ^ k ≤ xs[j].1 ^ xs[j].2 := Nat.pow_le_pow_right (hp _ hm) hk
    _ = xs[j].1 ^ xs[j].2 * 1 := (Nat.mul_one _).symm
    _ ≤ _ := Nat.mul_le_mul_left _ h0
theorem prodQ_step {xs : List (Nat × Nat)} {j : Nat} (hj : j < xs.length) : prodQ (xs.take (j + 1)) = prodQ (xs.take j) * (xs.getD j (0, 0)).1 ^ (xs.getD j (0, 0)).2 := by
  have e : xs.getD j (0, 0) = xs[j] := by rw [List.getD_eq_getElem?_getD, List.getElem?_eq_getElem hj]; rfl
  rw [e, List.take_add_one, List.getElem?_eq_getElem hj, Option.toList_some, prodQ_app, prodQ_one]
/-! ### threes: a prime, how often in the one, how often in the other -/
abbrev oneT (ts : List (Nat × Nat × Nat)) : List (Nat × Nat) := ts.map fun t => (t.1, t.2.1)
abbrev otherT (ts : List (Nat × Nat × Nat)) : List (Nat × Nat) := ts.map fun t => (t.1, t.2.2)
abbrev dueT (ts : List (Nat × Nat × Nat)) : List (Nat × Nat) := otherT (ts.filter fun t => decide (0 < t.2.1))
abbrev restT (ts : List (Nat × Nat × Nat)) : List (Nat × Nat) := otherT (ts.filter fun t => !decide (0 < t.2.1))
theorem threes : ∀ {xs ys : List (Nat × Nat)}, xs.map Prod.fst = ys.map Prod.fst → ∃ ts, xs = oneT ts ∧ ys = otherT ts
  | [], [], _ => ⟨[], rfl, rfl⟩
  | [], y :: ys, h => nomatch h
  | x :: xs, [], h => nomatch h
  | (p, a) :: xs, (q, b) :: ys, h => by
    rw [List.map_cons, List.map_cons] at h
    injection h with h1 h2
    obtain ⟨ts, e1, e2⟩ := threes h2
    have h1 : p = q := h1
    subst h1
    exact ⟨(p, a, b) :: ts, by rw [e1]; rfl, by rw [e2]; rfl⟩
theorem due_rest : ∀ {ts : List (Nat × Nat × Nat)}, prodQ (otherT ts) = prodQ (dueT ts) * prodQ (restT ts)
  | [] => rfl
  | t :: ts => by
    show t.1 ^ t.2.2 * prodQ (otherT ts) = _
    rw [due_rest (ts := ts)]
    unfold dueT restT
    by_cases h : 0 < t.2.1
    · rw [List.filter_cons_of_pos (by simpa using h), List.filter_cons_of_neg (by simp only [h, decide_true]; decide)]
      show _ = t.1 ^ t.2.2 * _ * _
      rw [Nat.mul_assoc]
    · rw [List.filter_cons_of_neg (by simpa using h), List.filter_cons_of_pos (by simpa using h)]
      show _ = _ * (t.1 ^ t.2.2 * _)
      rw [Nat.mul_left_comm]
theorem cop_prod {x : Nat} : ∀ {qs : List (Nat × Nat)}, (∀ q ∈ qs, Nat.Coprime x q.1) → Nat.Coprime x (prodQ qs)
  | [], _ => Nat.coprime_one_right x
  | q :: qs, h => Nat.Coprime.mul_right (Nat.Coprime.pow_right _ (h q List.mem_cons_self)) (cop_prod fun r hr => h r (List.mem_cons_of_mem _ hr))
theorem rest_cop : ∀ {ts : List (Nat × Nat × Nat)}, ts.Pairwise (fun x y => Nat.Coprime x.1 y.1) → Nat.Coprime (prodQ (restT ts)) (prodQ (oneT ts))
  | [], _ => Nat.coprime_one_left 1
  | t :: ts, h => by
    rw [List.pairwise_cons] at h
    have ih := rest_cop h.2
    show Nat.Coprime _ (t.1 ^ t.2.1 * prodQ (oneT ts))
    unfold restT
    by_cases h0 : 0 < t.2.1
    · rw [List.filter_cons_of_neg (by simp only [h0, decide_true]; decide)]
      refine Nat.Coprime.mul_right ?_ ih
      refine Nat.Coprime.pow_right _ (Nat.Coprime.symm (cop_prod fun q hq => ?_))
      obtain ⟨u, hu, rfl⟩ := List.mem_map.mp hq
      exact h.1 u (List.mem_filter.mp hu).1
    · rw [List.filter_cons_of_pos (by simpa using h0)]
      have e : t.2.1 = 0 := by omega
      rw [e, Nat.pow_zero, Nat.one_mul]
      show Nat.Coprime (t.1 ^ t.2.2 * _) _
      refine Nat.Coprime.mul_left ?_ ih
      refine Nat.Coprime.pow_left _ (cop_prod fun q hq => ?_)
      obtain ⟨u, hu, rfl⟩ := List.mem_map.mp hq
      exact h.1 u hu
theorem due_dvd : ∀ {ts : List (Nat × Nat × Nat)}, ∃ k, prodQ (dueT ts) ∣ prodQ (oneT ts) ^ k
  | [] => ⟨0, Nat.one_dvd _⟩
  | t :: ts => by
    obtain ⟨k, hk⟩ := due_dvd (ts := ts)
    show ∃ k, _ ∣ (t.1 ^ t.2.1 * prodQ (oneT ts)) ^ k
    unfold dueT
    by_cases h0 : 0 < t.2.1
    · rw [List.filter_cons_of_pos (by simpa using h0)]
      refine ⟨t.2.2 + k, ?_⟩
      show t.1 ^ t.2.2 * _ ∣ _
      rw [Nat.mul_pow]
      refine Nat.mul_dvd_mul ?_ ?_
      · rw [← Nat.pow_mul]
        refine Nat.pow_dvd_pow _ ?_
        calc t.2.2 ≤ 1 * (t.2.2 + k) := by omega
          _ ≤ t.2.1 * (t.2.2 + k) := Nat.mul_le_mul_right _ h0
      · exact Nat.dvd_trans hk (Nat.pow_dvd_pow _ (by omega))
    · rw [List.filter_cons_of_neg (by simpa using h0)]
      exact ⟨k, by rw [Nat.mul_pow]; exact Nat.dvd_trans hk (Nat.dvd_mul_left ..)⟩
theorem lr_threes {ts : List (Nat × Nat × Nat)} (h : ts.Pairwise fun x y => Nat.Coprime x.1 y.1) (hp : ∀ t ∈ ts, 0 < t.1) : lr (prodQ (oneT ts)) (prodQ (otherT ts)) = prodQ (dueT ts) := by
  have d0 : 0 < prodQ (dueT ts) := prodQ_pos fun q hq => by
    obtain ⟨u, hu, rfl⟩ := List.mem_map.mp hq
    exact hp u (List.mem_filter.mp hu).1
  refine lr_eq ⟨?_, ?_, due_dvd⟩
  · exact ⟨_, due_rest⟩
  · rw [show prodQ (otherT ts) = _ from due_rest (ts := ts), Nat.mul_div_cancel_left _ d0]
    exact rest_cop h
/-- what is all of primes of l, and has none in common with it, is 1 -/
theorem one_of_cop {k : Nat} (h : d ∣ l ^ k) (c : Nat.gcd d l = 1) : d = 1 := by
  have : Nat.Coprime d (l ^ k) := Nat.Coprime.pow_right _ c
  exact Nat.Coprime.eq_one_of_dvd this h
/-! ### pairs in lists -/
abbrev pairT (q : Nat × Nat) : T := .tup [.int q.1, .int q.2]
abbrev fzP (q : Nat × Nat) : T := .fz (pairT q)
def PrT (t : T) (qs : List (Nat × Nat)) : Prop := ∃ xs : List T, (t = .lst xs ∨ t = .fz (.lst xs)) ∧ xs.map T.frz = qs.map fzP
theorem frz_pairs {qs : List (Nat × Nat)} : (qs.map pairT).map T.frz = qs.map fzP := by rw [List.map_map]; rfl
theorem frz_fzP {qs : List (Nat × Nat)} : (qs.map fzP).map T.frz = qs.map fzP := by rw [List.map_map]; rfl
theorem PrT.own {qs : List (Nat × Nat)} : PrT (.lst (qs.map pairT)) qs := ⟨_, .inl rfl, frz_pairs⟩
theorem PrT.fz {qs : List (Nat × Nat)} : PrT (.fz (.lst (qs.map pairT))) qs := ⟨_, .inr rfl, frz_pairs⟩
theorem PrT.ofz {qs : List (Nat × Nat)} : PrT (.lst (qs.map fzP)) qs := ⟨_, .inl rfl, frz_fzP⟩
theorem PrT.frz_eq {t : T} {qs : List (Nat × Nat)} (h : PrT t qs) : ∃ xs, t.frz = .fz (.lst xs) ∧ xs.map T.frz = qs.map fzP := by
  obtain ⟨xs, h, e⟩ := h
  exact ⟨xs, by rcases h with rfl | rfl <;> rfl, e⟩
/-! ### tuples of any length, put together -/
theorem p_tupN {ev : Ev} {r : List Arg} {ts : List T} (h : PAs r ev ts) (hl : Nat.ble ts.length 1000 = true) : Pure (wOp sTup r) ev (.tup ts) := fun Q X q => h.args ⟨ts, ev, take_vls ts, Nat.le_trans (Nat.le_of_ble_eq_true hl) (by decide : 1000 ≤ sizeLine), by show Q (.tup ts) (giveA (ts.map ArgV.vl) _ ev); rw [give_vls]; exact q⟩
end TL

/-! TL30: a def that calls itself, by how deep. -/
namespace TL
open PySem PySem.Spec PyProof.Rows L2
theorem FnT.never {P : Program} {w : World} {K : PySem.W.Frag} {mg : Str → Option Value} {base : Heap} {k : Nat} {x : Str} {st : Stmt} {ps : List Str} {S : SpT} (R : Rdy K mg x st ps) (h : ∀ ts Q X, S ts Q X → False) : FnT P w K mg base k x ps S := by
  obtain ⟨f, fd, F, hm, hk, hb⟩ := R.ex
  refine ⟨f, fd, ⟨fun vs H Q E q => ?_, fun A outer s H args us vs Q E hr he hb' hv hs => ?_⟩, hm, hk, hb⟩
  · obtain ⟨_, _, _, _, _, _, z, _⟩ := q
    exact (h _ _ _ z).elim
  · obtain ⟨_, _, _, _, _, _, z, _⟩ := hs
    exact (h _ _ _ z).elim
end TL

/-! TLM14: falling lists that add up to a number. -/
namespace TL
/-- by how deep -/
def LTn : Nat → Nat → Nat → List (List Int)
  | 0, _, _ => []
  | n + 1, l, m => if l = 0 then [[]] else (List.range' 1 (min l m)).flatMap fun (f : Nat) => (LTn n (l - f) f).map fun r => (f : Int) :: r
def LT (l m : Nat) : List (List Int) := LTn (l + 1) l m
theorem LTn_eq : ∀ {n k l m : Nat}, l < n → l < k → LTn n l m = LTn k l m
  | 0, _, _, _, h, _ => absurd h (by omega)
  | _ + 1, 0, _, _, _, h => absurd h (by omega)
  | n + 1, k + 1, l, m, h, h' => by
    unfold LTn
    split
    · rfl
    · rw [List.flatMap_def, List.flatMap_def]
      congr 1
      refine List.map_congr_left fun f hf => ?_
      rw [List.mem_range'_1] at hf
      rw [LTn_eq (n := n) (k := k) (by omega) (by omega)]
theorem LTn_LT {n l m : Nat} (h : l < n) : LTn n l m = LT l m := LTn_eq h (by omega)
def LTf (l : Nat) (f : Nat) : List (List Int) := (LT (l - f) f).map fun r => (f : Int) :: r
theorem LT_zero {m : Nat} : LT 0 m = [[]] := rfl
theorem LT_step {l m : Nat} (h : l ≠ 0) : LT l m = (List.range' 1 (min l m)).flatMap (LTf l) := by
  show (if l = 0 then _ else _) = _
  rw [if_neg h, List.flatMap_def, List.flatMap_def]
  congr 1
  refine List.map_congr_left fun f hf => ?_
  rw [List.mem_range'_1] at hf
  unfold LTf
  rw [LTn_LT (by omega)]
theorem LT_take {l m j : Nat} (h : j < min l m) : (List.range' 1 (min l m)).take (j + 1) = (List.range' 1 (min l m)).take j ++ [1 + j] := by
  rw [List.take_add_one, List.getElem?_range' h, Nat.one_mul]; rfl
theorem LT_bd : ∀ l < 13, ∀ m < 13, (LT l m).length ≤ 77 ∧ ∀ r ∈ LT l m, r.length ≤ 12 := by decide +kernel
theorem LT_sum : ∀ l < 13, ∀ r ∈ LT l l, r.sum = l ∧ (∀ x ∈ r, 1 ≤ x ∧ x ≤ 12) ∧ r.Pairwise (fun a b => b ≤ a) := by decide +kernel
end TL

/-! TL31: sorted(set(xs)), xs a list of ints. -/
namespace TL
open PySem PySem.Spec PyProof.Rows L2
section
variable {P : Program} {w : World} {A : Around} {E : Value → Shared → Prop} {s : Shared}
/-- a set that is new -/
abbrev so (w : World) : Obj := { cls := .type "set", dict := none, data := .set #[] 0 (.fresh 0 0 (!w.params.followText "set-order")) }
/-- what set(xs) leaves behind -/
def SetMade (w : World) (s : Shared) (ns : List Int) (s2 : Shared) : Prop := ∃ h' tk c, s2 = { s with heap := h', toks := tk } ∧ SetR w h' s.heap.objs.size (fun j => decide (j ∈ ns)) c ∧ c ≤ ns.length ∧ ∀ b o, s.heap.get? b = some o → h'.get? b = some o
theorem set_of_list {l : Addr} {items : Array Value} (ns : List Int) {Q : Value → Shared → Prop} (hh : A.handled = none) (hl : s.heap.IsList l items) (hit : IntsAre items.toList ns) (hb : ns.length + 1 < scanBound) (h : ∀ s2, SetMade w s ns s2 → Q (.ref s.heap.objs.size) s2) :
    wpAny (model P w) A (call (.type "set") [.ref l]) Q E s := by
  have hn : items.size = ns.length := (Array.length_toList (xs := items)).symm.trans (IntsAre.length hit)
  obtain ⟨c, tl, hmro⟩ := F.called_set.mro
  have g1 := F.called_set.made; have g2 := F.called_set.sub
  refine wpAny_call (codeAny_of_tree (show wpAny _ _ (callAny (.type "set") _) _ _ _ from wpAny_pure ⟨Code.quiet_builtin _ (by decide +kernel), codeAny_builtin F.entry_type_call ?_⟩))
  rw [Around.under_plain (weight_type_call_type "set" [.ref l] []) rfl]
  have g3 := F.called_set.notType; have g4 := F.called_set.canCreate; have g5 := F.typeCall_set_1 (.ref l)
  repeat (any_goals (first | assumption | wp_step))
  refine codeAny_mono (code_set_led1 (.ref l) (E := E) (Q₁ := fun x s1 => x = .ref s.heap.objs.size ∧ s1 = { s with heap := s.heap.push (so w) }) ⟨rfl, rfl⟩) fun r s1 hr => ?_
  cases r with
  | error e => exact hr
  | ok fl =>
    cases fl with
    | ret obj =>
      obtain ⟨rfl, rfl⟩ := hr
      have hS : (s.heap.push (so w)).get? s.heap.objs.size = some (so w) := Heap.get?_push_size _ rfl
      have hT : Shared.TypeIs { s with heap := s.heap.push (so w) } (.ref s.heap.objs.size) "set" := ⟨_, hS, rfl⟩
      have hli := F.called_set.init.lookup; have hbi := F.called_set.init.bind (.ref s.heap.objs.size)
      repeat (any_goals (first | assumption | wp_step))
      refine codeAny_mono (codeAny_call_builtin (R := wants (fun r s2 => r = .none ∧ SetMade w s ns s2) E) F.called_set.init.plain F.entry_set_init (check_set_init_1 hT ?_)) fun r2 s2 hr2 => ?_
      · obtain ⟨ol, hol, hcl, nl, hdl⟩ := hl
        obtain ⟨oc, od, odt, osl⟩ := ol
        simp only at hcl hdl
        subst hcl; subst hdl
        have hol1 := Heap.get?_push_of_some (so w) hol
        have k1 := F.sub_list_set; have k2 := F.sub_list_frozenset
        have k3 : (Value.type "list" == Value.type "dict") = false := by decide
        have hl1 : (s.heap.push (so w)).IsList l items := ⟨_, hol1, rfl, nl, rfl⟩
        unfold Builtin.«set.__init__» noKeywords Builtin.Frozenset.updateFrom
        generalize hPI : pyIter = PI; wp_walk; subst hPI
        refine wpAny_pyIter_list hl1 (wpAny_bind (wpAny_runValue ?_))
        have hlS : l < s.heap.objs.size := Heap.lt_size hol
        have z1 : (s.heap.push (so w)).objs.size = s.heap.objs.size + 1 := Heap.size_push ..
        have n1 : l ≠ (s.heap.push (so w)).objs.size := Nat.ne_of_lt (by rw [z1]; exact Nat.lt_succ_of_lt hlS)
        have n2 : s.heap.objs.size ∉ [(s.heap.push (so w)).objs.size, l] := fun m => by
          rcases List.mem_cons.mp m with m | m
          · exact Nat.ne_of_lt (by rw [z1]; exact Nat.lt_succ_self _) m
          · exact Nat.ne_of_gt hlS (List.mem_singleton.mp m)
        have hval : ∀ (i : Nat) (v : Value), items[i]? = some v → ∃ k t, ns[i]? = some k ∧ v = .int k t := fun i v hv => by
          obtain ⟨t, e⟩ := IntsAre.int_at hit i v (by rw [Array.getElem?_toList]; exact hv)
          have hi : i < ns.length := hn ▸ (Array.getElem?_eq_some_iff.mp hv).1
          exact ⟨ns[i], t, List.getElem?_eq_getElem hi, by rw [e, List.getD_eq_getElem?_getD, List.getElem?_eq_getElem hi]; rfl⟩
        refine set_update_ints ((Walks.list (by simp [hh]) _ l n1 items).toS) s.heap.objs.size n2 ns hn hb hval (items.size - 0) 0 _ (by omega) (Nat.zero_le _) ⟨⟨_, Heap.get?_push_size _ rfl, rfl, rfl⟩, hl1.push _⟩ ⟨0, Nat.le_refl 0, setR_new_at (Heap.get?_push_of_some _ hS)⟩ fun s3 c3 hm hc3 hS3 => ?_
        obtain ⟨h3, g3, d3, t3, o3⟩ := s3
        obtain rfl : g3 = s.gens := hm.gens
        obtain rfl : d3 = s.drawn := hm.drawn
        obtain rfl : o3 = s.os := hm.os
        refine wpAny_pure (show wpAny _ _ (ret Value.none) _ _ _ from wpAny_pure ⟨rfl, h3, t3, c3, rfl, hS3, by omega, fun b o e => ?_⟩)
        have b0 : b < s.heap.objs.size := Heap.lt_size e
        refine hm.heap b o (fun m => ?_) (Heap.get?_push_of_some _ (Heap.get?_push_of_some _ e))
        rcases List.mem_cons.mp m with m | m
        · exact Nat.ne_of_lt b0 m
        · exact Nat.ne_of_lt (by rw [z1]; exact Nat.lt_succ_of_lt b0) (List.mem_singleton.mp m)
      · cases r2 with
        | error e => exact hr2
        | ok fl2 =>
          cases fl2 with
          | ret r =>
            obtain ⟨rfl, hm⟩ := hr2
            repeat (any_goals (first | assumption | wp_step))
            exact h _ hm
          | _ => exact hr2.elim
    | _ => exact hr.elim
end
end TL

/-! TL32: sorted(set(xs)), as one expression. -/
namespace TL
open PySem PySem.Spec PyProof.Rows L2
def rSetOfI (K : PySem.W.Frag) (w : World) : List V → Hp → VK → Prop := fun vs H Q => ∃ (l : Addr) (ns : List Int), vs = [V.ref l] ∧ SqL K H l (ns.map V.int) ∧ ns.length < 64 ∧
  ∀ p c, H p = none → c ≤ ns.length → Q (.ref p) (upd H p (SetO w p (fun j => decide (j ∈ ns)) c))
theorem cr_setOfI {X : Cx} (hc : X.calm = true) : CallR X (.type "set") (rSetOfI X.K X.w) := by
  intro pins s σ H vs us Q I r h
  obtain ⟨l, ns, rfl, hq, h64, q⟩ := h
  rw [Vals.ref1 r]
  obtain ⟨its, rv, pl, hz⟩ := I.list hq
  refine set_of_list (w := X.w) ns (I.ok.hd hc) pl.isList (by simpa using rv.ints) (by unfold scanBound; omega) fun s2 hs2 => ?_
  obtain ⟨h', tk, c, rfl, R, hc3, hk⟩ := hs2
  have hn : H s.heap.objs.size = none := I.hok.fresh (Nat.le_refl _)
  exact ⟨.ref _, _, I.laid (t' := tk) hk (Nat.le_refl _) (setO_new R), rfl, q _ c hn hc3⟩
def rSortSet (K : PySem.W.Frag) (w : World) : List V → Hp → VK → Prop := fun vs H Q => rSetOfI K w vs H fun x H1 => rSortedSet w [x] H1 Q
def sSortSet : SpT := fun ts Q _ => ∃ t ns, ts = [t] ∧ t.kidLS = some (List.map T.int ns) ∧ ns.length < 64 ∧ ∀ ms : List Int, ms.Pairwise (· < ·) → (∀ k : Int, k ∈ ms ↔ k ∈ ns) → Q (.lst (ms.map T.int)) [some t]
theorem br_sortSet {K : PySem.W.Frag} {w : World} : BrL K sSortSet (rSortSet K w) := fun vs H Q E ⟨ts, F, L, Q0, X0, S, ⟨t, ns, e, h, h64, q⟩, k, _⟩ => by
  subst e
  obtain ⟨v, e1, o⟩ := S.own.one'
  subst e1
  obtain ⟨a, us, ea, ha, ra⟩ := o.kidLS h
  have eu := ints_vals ra
  subst ea eu
  refine ⟨a, ns, rfl, ha, h64, fun p c hp hc => ⟨p, _, c, rfl, upd_same, by omega, fun ms p2 h1 h2 h3 hp2 => ?_⟩⟩
  obtain ⟨S1, x1⟩ := S.env.new hp (SetO w p (fun j => decide (j ∈ ns)) c)
  obtain ⟨L', x, S'⟩ := S1.cell hp2 (own_lst_new (xs := ms.map T.int) ints_own hp2)
  exact k _ _ _ F _ L' (q ms h1 fun z => (h2 z).trans decide_eq_true_iff) (x1.trans x S1.dj) S'
theorem de_sortSet {X : Cx} {W : WX} {e : Expr} {oa : Arg} {p p2 q pos : Pos} (hc : X.calm = true) (hg : Gl X "sorted") (hm : X.mg "sorted" = none) (hg2 : Gl X "set") (hm2 : X.mg "set" = none) (h : DO X W e oa) (he : starEach [e] X.env = (false, eval e X.env) :: starEach [] X.env := by rfl) (he2 : starEach [.Call (.Name "set" p2) [e] [] q] X.env = (false, eval (.Call (.Name "set" p2) [e] [] q) X.env) :: starEach [] X.env := by rfl) :
    DE X W (.Call (.Name "sorted" p) [.Call (.Name "set" p2) [e] [] q] [] pos) (wOp sSortSet [oa]) :=
  DE.call (r := rSortSet X.K X.w) (show PE X _ (tCB (rSortSet X.K X.w) (tL X.K W [oa])) from pe_callB (r := rSortedSet X.w) (t := tCons (tCB (rSetOfI X.K X.w) (tL X.K W [oa])) tNil) (id := "sorted") (cr_sortedSet hc) hg hm (by decide +kernel) (pa_cons (te := tCB (rSetOfI X.K X.w) (tL X.K W [oa])) (pe_callTy (cr_setOfI hc) hg2 hm2 (by decide +kernel) (da_cons (as := []) h da_nil he) (by decide) (by decide) he) pa_nil he2) (by decide) (by decide) he2) br_sortSet
end TL

/-! TLM15: how many are of a kind. -/
namespace TL
def facI : Nat → Int
  | 0 => 1
  | n + 1 => facI n * ((n : Int) + 1)
theorem facI_sm : ∀ {n : Nat}, n ≤ 41 → 1 ≤ facI n ∧ Sm (1 + 6 * n) (facI n)
  | 0, _ => ⟨by decide, by show (1 : Int).natAbs < 2 ^ 1; decide⟩
  | n + 1, h => by
    obtain ⟨a, b⟩ := facI_sm (n := n) (by omega)
    have s : Sm 6 ((n : Int) + 1) := Sm.of (by omega) (by omega)
    refine ⟨?_, (b.mul s).mono (by omega)⟩
    have := Int.mul_le_mul a (show (1 : Int) ≤ (n : Int) + 1 by omega) (by decide) (by omega)
    show 1 ≤ facI n * ((n : Int) + 1)
    omega
/-- a kind of at most forty things -/
def KD (ks : List Int) : Prop := (∀ x ∈ ks, 1 ≤ x) ∧ ks.Pairwise (fun a b => b ≤ a) ∧ ks.sum ≤ 40
theorem sum_len : ∀ {ks : List Int}, (∀ x ∈ ks, 1 ≤ x) → (ks.length : Int) ≤ ks.sum ∧ ∀ x ∈ ks, x ≤ ks.sum
  | [], _ => ⟨by decide, fun x h => nomatch h⟩
  | k :: ks, h => by
    obtain ⟨a, b⟩ := sum_len (ks := ks) fun x hx => h x (List.mem_cons_of_mem _ hx)
    have hk := h k List.mem_cons_self
    rw [List.sum_cons, List.length_cons]
    refine ⟨by omega, fun x hx => ?_⟩
    rcases List.mem_cons.mp hx with rfl | hx
    · omega
    · have := b x hx; omega
theorem KD.len {ks : List Int} (h : KD ks) : ks.length ≤ 40 := by have := (sum_len h.1).1; have := h.2.2; omega
theorem KD.bd {ks : List Int} (h : KD ks) : ∀ x ∈ ks, 1 ≤ x ∧ x ≤ 40 := fun x hx => ⟨h.1 x hx, Int.le_trans ((sum_len h.1).2 x hx) h.2.2⟩
theorem KD.sum0 {ks : List Int} (h : KD ks) : 0 ≤ ks.sum := by have := (sum_len h.1).1; omega
def HM (ks : List Int) : Int := facI ks.sum.toNat / FR ks
theorem FR_reps {ls : List Int} {l : Int} (h : ls.count l = 0) : ∀ k : Nat, FR (List.replicate k l ++ ls) = FR ls * (l ^ k * facI k)
  | 0 => by show FR ls = _; rw [Int.pow_zero, show facI 0 = 1 from rfl, Int.mul_one, Int.mul_one]
  | k + 1 => by
    rw [FR_rep h k, FR_reps h k, show facI (k + 1) = facI k * ((k : Int) + 1) from rfl, Int.pow_succ]
    simp only [Int.mul_assoc, Int.mul_comm, Int.mul_left_comm]
def upto (ks ms : List Int) : List Int := ks.filter fun x => decide (x ∈ ms)
theorem upto_nil {ks : List Int} : upto ks [] = [] := by unfold upto; rw [List.filter_eq_nil_iff]; intro a _; simp
theorem upto_all {ks ms : List Int} (h : ∀ k, k ∈ ms ↔ k ∈ ks) : upto ks ms = ks := by unfold upto; rw [List.filter_eq_self]; intro a ha; simpa using (h a).mpr ha
theorem count_filter_if {p : Int → Bool} {a : Int} {l : List Int} : (l.filter p).count a = if p a = true then l.count a else 0 := by
  by_cases h : p a = true
  · rw [if_pos h, List.count_filter h]
  · rw [if_neg h]; exact List.count_eq_zero.mpr fun m => h (List.mem_filter.mp m).2
theorem upto_step {ks ms : List Int} {l : Int} (h : l ∉ ms) : (upto ks (ms ++ [l])).Perm (List.replicate (ks.count l) l ++ upto ks ms) ∧ (upto ks ms).count l = 0 := by
  have h2 : (upto ks ms).count l = 0 := by unfold upto; rw [count_filter_if, if_neg (by simpa using h)]
  refine ⟨List.perm_iff_count.mpr fun a => ?_, h2⟩
  rw [List.count_append, List.count_replicate]
  unfold upto
  rw [count_filter_if, count_filter_if]
  by_cases ha : l = a
  · subst ha; simp [h]
  · have : ¬ a = l := fun z => ha z.symm
    simp [ha, this]
theorem FR_upto {ks ms : List Int} {l : Int} (h : l ∉ ms) : FR (upto ks (ms ++ [l])) = FR (upto ks ms) * (l ^ ks.count l * facI (ks.count l)) := by
  obtain ⟨h1, h2⟩ := upto_step (ks := ks) h
  rw [FR_perm h1, FR_reps h2]
theorem upto_bd {ks ms : List Int} (h : KD ks) : (∀ x ∈ upto ks ms, 1 ≤ x ∧ x ≤ 40) ∧ (upto ks ms).length ≤ 40 := ⟨fun x hx => h.bd x (List.mem_filter.mp hx).1, Nat.le_trans (List.length_filter_le _ _) h.len⟩
theorem pow_pos' {l : Int} (h : 1 ≤ l) : ∀ k : Nat, 1 ≤ l ^ k
  | 0 => by rw [Int.pow_zero]; exact Int.le_refl _
  | k + 1 => by
    have := Int.mul_le_mul (pow_pos' h k) h (by decide) (by have := pow_pos' h k; omega)
    rw [Int.pow_succ]; omega
theorem LT_KD {n : Nat} (h : n < 13) {r : List Int} (m : r ∈ LT n n) : KD r ∧ r.sum = n := by
  obtain ⟨a, b, c⟩ := LT_sum n h r m
  exact ⟨⟨fun x hx => (b x hx).1, c, by omega⟩, a⟩
end TL

/-! TLM16: a rearrangement of a kind; sums through all kinds. -/
namespace TL
/-- neighbours, from one on -/
def nbs (a l : Int) : List Int := (rg l.toNat).map fun k => a + k
def blk : Int → List Int → List (List Int)
  | _, [] => []
  | a, l :: ls => nbs a l :: blk (a + l) ls
theorem nbs_rg {a b : Nat} : rg (a + b) = rg a ++ nbs (a : Int) (b : Int) := by
  unfold nbs rg
  rw [List.range_add, List.map_append, Int.toNat_natCast, List.map_map, List.map_map]
  congr 1
theorem blk_flat : ∀ {ls : List Int} {a : Nat}, (∀ l ∈ ls, 1 ≤ l) → rg a ++ (blk a ls).flatten = rg (a + ls.sum.toNat)
  | [], a, _ => by rw [show blk a [] = [] from rfl, List.flatten_nil, List.append_nil]; rfl
  | l :: ls, a, h => by
    have hl := h l List.mem_cons_self
    have hs := (sum_len (ks := ls) fun x hx => h x (List.mem_cons_of_mem _ hx)).1
    obtain ⟨n, rfl⟩ : ∃ n : Nat, l = n := ⟨l.toNat, by omega⟩
    rw [show blk a ((n : Int) :: ls) = nbs a n :: blk ((a : Int) + n) ls from rfl, List.flatten_cons, ← List.append_assoc, ← nbs_rg, show (a : Int) + (n : Int) = ((a + n : Nat) : Int) by omega, blk_flat (fun x hx => h x (List.mem_cons_of_mem _ hx)), List.sum_cons]
    congr 1
    omega
theorem blk_lens : ∀ {ls : List Int} {a : Int}, (∀ l ∈ ls, 1 ≤ l) → (blk a ls).map (fun c => (c.length : Int)) = ls
  | [], _, _ => rfl
  | l :: ls, a, h => by
    have hl := h l List.mem_cons_self
    show ((nbs a l).length : Int) :: (blk (a + l) ls).map _ = _
    rw [blk_lens fun x hx => h x (List.mem_cons_of_mem _ hx)]
    congr 1
    unfold nbs; rw [List.length_map, rg_len]; omega
theorem blk_snoc : ∀ {ls : List Int} {a l : Int}, blk a (ls ++ [l]) = blk a ls ++ [nbs (a + ls.sum) l]
  | [], a, l => by show [nbs a l] = [nbs (a + 0) l]; rw [Int.add_zero]
  | x :: ls, a, l => by
    show nbs a x :: blk (a + x) (ls ++ [l]) = nbs a x :: (blk (a + x) ls ++ [_])
    rw [blk_snoc, List.sum_cons, Int.add_assoc]
def turnK (ks : List Int) : List Int := tell (blk 0 ks)
theorem turnK_ok {ks : List Int} (h : KD ks) : Told (turnK ks) (blk 0 ks) ∧ TN ks.sum.toNat (turnK ks) ∧ kindL (turnK ks) = ks := by
  have h1 : (blk 0 ks).flatten = rg ks.sum.toNat := by
    have := blk_flat (ls := ks) (a := 0) h.1
    rw [Nat.zero_add] at this
    exact this
  have hlen := blk_lens (ls := ks) (a := 0) h.1
  obtain ⟨a, b, c⟩ := tell_told (n := ks.sum.toNat) (cs := blk 0 ks) (by rw [h1]) fun d hd hn => by
    have h2 : (d.length : Int) ∈ ks := by rw [← hlen]; exact List.mem_map_of_mem hd
    rw [hn] at h2
    exact absurd (h.1 _ h2) (by decide)
  have h40 := h.2.2
  refine ⟨a, ⟨by omega, b, c⟩, ?_⟩
  have hp : (lens (turnK ks)).Perm ks := by have := a.lens c; rw [hlen] at this; exact this.symm
  unfold kindL
  rw [srt_one ((srt_perm _).trans (hp.trans (List.reverse_perm ks).symm)) (srt_le _) (List.pairwise_reverse.mpr h.2.1), List.reverse_reverse]
theorem turnK_lens {ks : List Int} (h : KD ks) : (lens (turnK ks)).Perm ks := by
  have := kindL_perm (turnK ks)
  rw [(turnK_ok h).2.2] at this
  exact this.symm
noncomputable def rootK (ks : List Int) (m : Nat) : Bool := ks.all fun l => decide (ks.count l % lr l.toNat m = 0)
def homeB (ks : List Int) (m : Nat) : Bool := ks.all fun l => decide ((m : Int) % l = 0)
theorem rootK_bar {ks : List Int} (h : KD ks) {m : Nat} : rootK ks m = decide (barL (turnK ks) m = none) := by
  have hp := turnK_lens h
  rw [Bool.eq_iff_iff, decide_eq_true_iff, barL_none]
  unfold rootK
  rw [List.all_eq_true]
  constructor
  · intro h1 l hl
    have := h1 l (hp.mem_iff.mp hl)
    rw [decide_eq_true_iff] at this
    unfold cnt; rw [hp.count_eq]
    exact Nat.dvd_of_mod_eq_zero this
  · intro h1 l hl
    have := h1 l (hp.mem_iff.mpr hl)
    unfold cnt at this; rw [hp.count_eq] at this
    rw [decide_eq_true_iff]
    exact Nat.mod_eq_zero_of_dvd this
theorem homeB_iff {ks : List Int} (h : KD ks) {m : Nat} : homeB ks m = true ↔ lcmL ks ∣ m := by
  rw [lcmL_dvd]
  unfold homeB
  rw [List.all_eq_true]
  refine forall_congr' fun l => forall_congr' fun hl => ?_
  have := h.1 l hl
  obtain ⟨n, rfl⟩ : ∃ n : Nat, l = n := ⟨l.toNat, by omega⟩
  rw [decide_eq_true_iff, Int.toNat_natCast, ← Int.natCast_emod]
  constructor
  · intro z; exact Nat.dvd_of_mod_eq_zero (by omega)
  · intro z; rw [Nat.mod_eq_zero_of_dvd z]; rfl
theorem sum_perm {l m : List Int} (h : l.Perm m) : l.sum = m.sum := by
  induction h with
  | nil => rfl
  | cons x _ ih => rw [List.sum_cons, List.sum_cons, ih]
  | swap x y _ => rw [List.sum_cons, List.sum_cons, List.sum_cons, List.sum_cons]; omega
  | trans _ _ a b => exact a.trans b
theorem HM_FR : ∀ n < 13, ∀ r ∈ LT n n, HM r * FR r = facI n := by decide +kernel
theorem HM_sum : ∀ n < 13, ((LT n n).map HM).sum = facI n := by decide +kernel
theorem HM_one : ∀ n < 13, (((LT n n).filter fun ks => homeB ks 1).map HM).sum = 1 := by decide +kernel
theorem fac_dvd : ∀ n < 13, ∀ r ∈ LT n n, homeB r (facI n).toNat = true := by decide +kernel
theorem HM_nn : ∀ n < 13, ∀ r ∈ LT n n, 0 ≤ HM r := by decide +kernel
theorem HM_le : ∀ n < 13, ∀ r ∈ LT n n, HM r ≤ 479001600 := by decide +kernel
theorem gcd_far : ∀ m ∈ [13, 17, 19, 169, 1000000007], ∀ l < 13, 0 < l → Nat.gcd l m = 1 := by decide +kernel
theorem rootK_cop {ks : List Int} {m : Nat} (hm : 0 < m) (h : ∀ l ∈ ks, 1 ≤ l ∧ Nat.gcd l.toNat m = 1) : rootK ks m = true := by
  unfold rootK
  rw [List.all_eq_true]
  intro l hl
  obtain ⟨a, b⟩ := h l hl
  have h1 := (lr_is (l := l.toNat) (m := m) (by omega) hm).least (g := 1) (by decide) (by rw [Nat.one_mul]; exact b)
  have h2 := lr_pos (l := l.toNat) (m := m) (by omega) hm
  rw [decide_eq_true_iff, show lr l.toNat m = 1 by omega, Nat.mod_one]
theorem sum_filter {p q : List Int → Bool} {f : List Int → Int} : ∀ {l : List (List Int)}, (∀ r ∈ l, p r = true → q r = true) → (∀ r ∈ l, 0 ≤ f r) → ((l.filter p).map f).sum ≤ ((l.filter q).map f).sum
  | [], _, _ => Int.le_refl _
  | x :: l, h, k => by
    have ih := sum_filter (l := l) (fun r hr => h r (List.mem_cons_of_mem _ hr)) fun r hr => k r (List.mem_cons_of_mem _ hr)
    have hk := k x List.mem_cons_self
    rw [List.filter_cons, List.filter_cons]
    by_cases hp : p x = true
    · rw [if_pos hp, if_pos (h x List.mem_cons_self hp), List.map_cons, List.map_cons, List.sum_cons, List.sum_cons]; omega
    · rw [if_neg hp]
      by_cases hq : q x = true
      · rw [if_pos hq, List.map_cons, List.sum_cons]; omega
      · rw [if_neg hq]; exact ih
end TL

/-! TL33: a list counted in a list of lists. -/
namespace TL
open PySem PySem.Spec PyProof.Rows L2
theorem hu65 {A : Around} {k : Nat} (hr : Room k A) : A.units + 65 < cLine := by have := hr.un; omega
def rCountD (K : PySem.W.Frag) : V → List V → Hp → VK → Prop := fun x xs H Q => ∃ (a : Addr) (y : V) (d : PyData) (ds : List PyData), x = V.ref a ∧ xs = [y] ∧ Dp K H (V.ref a) (.list ds) ∧ Dp K H y d ∧ SeqAt.shaped (.list ds) = true ∧ SeqAt.shaped d = true ∧
  Q (.int (ds.countP (fun z => PyData.eqv z d) : Nat)) H
theorem mt_countD {X : Cx} (hu : X.A.units + 65 < cLine) : MtR X "list.count" (rCountD X.K) := by
  intro pins s σ H x xs v us Q I rx rxs h
  obtain ⟨a, y, d, ds, rfl, rfl, hl, hy, sl, sd, q⟩ := h
  cases rx
  cases rxs with
  | cons ry rt =>
    rename_i uy ut
    cases rt
    obtain ⟨bs, r1⟩ := Dp.reads I d y uy hy ry
    cases hl with
    | lst hs ha =>
      obtain ⟨its, rv, ⟨⟨cls, dd, data, sls⟩, n, ho, hc, hdn, hdt⟩, hlen⟩ := I.list hs
      simp only at hc hdt
      subst hc hdt
      obtain ⟨as, h4⟩ := Dp.readsAll I ds _ its ha rv
      have hm : its.map (SeqAt.readOf s.heap) = ds := SeqAt.readsAll_map ds its as (SeqAt.canLay_of_shaped sl) h4
      refine call_meets PySem.F.slot_list_count ⟨_, ho, rfl⟩ PySem.F.entry_list_count (PySem.F.args_list_count_2 _ _)
        (SeqAt.list_countAt a its.toArray n dd sls uy fun u => PyData.eqv (SeqAt.readOf s.heap u) d) ⟨ho, SeqAt.items_eqAt (vs := its.toArray) (show ReadsAll s.heap its.toArray.toList ds as from h4) r1 (SeqAt.canLay_of_shaped sl) (SeqAt.canLay_of_shaped sd) (room_in_shaped sd hu), ?_⟩
      have ec : its.toArray.toList.countP (fun u => PyData.eqv (SeqAt.readOf s.heap u) d) = ds.countP fun z => PyData.eqv z d := by
        rw [← hm, List.countP_map]; rfl
      refine ⟨.int (ds.countP (fun z => PyData.eqv z d) : Nat), H, I.tok _, ⟨s.toks, ?_⟩, q⟩
      show Value.int ((its.toArray.toList.countP _ : Nat) : Int) s.toks = _
      rw [ec]
def sCountLL : SpT := fun ts Q _ => ∃ t u nss ms, ts = [t, u] ∧ IsLL t nss ∧ IsL u ms ∧ Q (.int (nss.count ms : Nat)) [some t, some u]
theorem count_LL {nss : List (List Int)} {ms : List Int} : (nss.map fun ns => PyData.list (ns.map PyData.int)).countP (fun z => PyData.eqv z (.list (ms.map PyData.int))) = nss.count ms := by
  rw [List.countP_map]
  unfold List.count
  congr 1
  funext ns
  show PyData.eqv (.list (ns.map PyData.int)) (.list (ms.map PyData.int)) = (ns == ms)
  rw [PyData.eqv, eqvAll_ints, Bool.eq_iff_iff]; simp
theorem br_countLL {K : PySem.W.Frag} : BrM K sCountLL (rCountD K) := fun x vs H Q E ⟨ts, F, L, Q0, X0, S, ⟨t, u, nss, ms, e, h1, h2, q⟩, k, _⟩ => by
  subst e
  obtain ⟨v, w, L1, L2, e1, el, o, o2⟩ := S.own.two'
  cases e1
  have d1 := o.dp (SeqAt.canLay_of_shaped h1.shaped)
  have d2 := o2.dp (SeqAt.canLay_of_shaped h2.shaped)
  have s1 := h1.shaped
  have s2 := h2.shaped
  rw [h1.D] at d1 s1
  rw [h2.D] at d2 s2
  have ha : ∃ a, x = V.ref a := by cases d1 with | lst hs _ => exact ⟨_, rfl⟩
  obtain ⟨a, rfl⟩ := ha
  refine ⟨a, w, _, _, rfl, rfl, d1, d2, s1, s2, ?_⟩
  rw [count_LL]
  exact k _ _ _ F H L q Ext.refl (S.ret own_int)
section
variable {X : Cx} {W : WX} {o e : Expr} {oa ob : Arg} {apos cpos : Pos}
theorem de_countLL (hu : X.A.units + 65 < cLine) (ho : DO X W o oa) (h : DO X W e ob) (he : starEach [e] X.env = (false, eval e X.env) :: starEach [] X.env := by rfl) (hbase : attributeBase o "count" X.env (eval o X.env) = eval o X.env := by rfl)
    (hf : ((backTo cpos (starEach [e] X.env)).all (fun x => !x.1) && (backToKw cpos (keywordEach [] X.env)).all (fun x => x.1.isSome) && decide (([e]).length + ([] : List Keyword).length + (if ([] : List Keyword).isEmpty then 0 else 1) < 30)) = true := by rfl)
    (hline : (apos.endLine == cpos.line) = true := by rfl) :
    DE X W (.Call (.Attribute o "count" apos) [e] [] cpos) (wMeth "list" sCountLL oa [ob]) := DE.meth rfl (pe_bm PySem.F.plainAttrs_list PySem.F.slot_list_count PySem.F.type_list_count (mt_countD hu) ho (da_cons (as := []) h da_nil he) hbase hf hline he) br_countLL
end
end TL

/-! TLM17: all rearrangements of few things, by kinds. -/
namespace TL
def ATi : Nat → List (List Int)
  | 0 => [[]]
  | n + 1 => (ATi n).flatMap fun p => (List.range (p.length + 1)).map fun i => p.take i ++ [(n : Int)] ++ p.drop i
def insD (x : Int) : List Int → List Int
  | [] => [x]
  | y :: l => if y ≤ x then x :: y :: l else y :: insD x l
theorem insD_perm {x : Int} : ∀ {l : List Int}, (insD x l).Perm (x :: l)
  | [] => .refl _
  | y :: l => by
    unfold insD
    split
    · exact .refl _
    · exact (insD_perm.cons y).trans (.swap x y l)
theorem insD_fall {x : Int} : ∀ {l : List Int}, l.Pairwise (fun a b => b ≤ a) → (insD x l).Pairwise (fun a b => b ≤ a)
  | [], _ => List.pairwise_singleton _ _
  | y :: l, h => by
    unfold insD
    obtain ⟨h1, h2⟩ := List.pairwise_cons.mp h
    split
    · refine List.pairwise_cons.mpr ⟨fun z hz => ?_, h⟩
      rcases List.mem_cons.mp hz with rfl | hz
      · assumption
      · have := h1 z hz; omega
    · refine List.pairwise_cons.mpr ⟨fun z hz => ?_, insD_fall h2⟩
      rcases List.mem_cons.mp (insD_perm.mem_iff.mp hz) with rfl | hz
      · omega
      · exact h1 z hz
def kindC (p : List Int) : List Int := (lens p).foldr insD []
theorem kindC_eq {p : List Int} : kindL p = kindC p := by
  have h : ∀ l : List Int, (l.foldr insD []).Perm l ∧ (l.foldr insD []).Pairwise (fun a b => b ≤ a) := fun l => by
    induction l with
    | nil => exact ⟨.refl _, .nil⟩
    | cons x l ih => exact ⟨insD_perm.trans (ih.1.cons x), insD_fall ih.2⟩
  obtain ⟨a, b⟩ := h (lens p)
  unfold kindL kindC
  rw [srt_one ((srt_perm _).trans (a.symm.trans (List.reverse_perm _).symm)) (srt_le _) (List.pairwise_reverse.mpr b), List.reverse_reverse]
theorem ATi_bd : ∀ n < 6, (ATi n).length ≤ 120 ∧ ∀ p ∈ ATi n, p.length = n ∧ p.isPerm (rg n) = true := by decide +kernel
theorem ATi_kind : ∀ n < 6, ∀ r ∈ LT n n, ((((ATi n).map kindC).count r : Nat) : Int) = HM r := by decide +kernel
theorem ATi_TN {n : Nat} (h : n < 6) {p : List Int} (hp : p ∈ ATi n) : TN n p := by
  obtain ⟨a, b⟩ := (ATi_bd n h).2 p hp
  refine ⟨by omega, a, ?_⟩
  have := List.isPerm_iff.mp b
  unfold Turn
  rw [a]; exact this
theorem ATi_step {n j : Nat} (h : j < (ATi n).length) : (ATi n).take (j + 1) = (ATi n).take j ++ [(ATi n)[j]] := by rw [List.take_add_one, List.getElem?_eq_getElem h]; rfl
theorem seven : ∀ r ∈ LT 7 7, r.sum = 7 := fun r h => (LT_sum 7 (by decide) r h).1
end TL

/-! TL34: what was met, by rows of ints as keys. -/
namespace TL
open PySem PySem.Spec PyProof.Rows L2
def kI (ns : List Int) : List Key := ns.map Sum.inl
def dtI (nss : List (List Int)) : T := .dt (nss.map kI) (nss.map fun _ => .bl true)
def insR (nss : List (List Int)) (ns : List Int) : List (List Int) := if ns ∈ nss then nss else nss ++ [ns]
def prR (nss : List (List Int)) : List (List Key × V) := nss.map fun ns => (kI ns, V.bl true)
theorem kI_inj : ∀ {a b : List Int}, kI a = kI b → a = b
  | [], [], _ => rfl
  | [], _ :: _, h => nomatch h
  | _ :: _, [], h => nomatch h
  | x :: a, y :: b, h => by
    obtain ⟨h1, h2⟩ := List.cons.inj (show (Sum.inl x : Key) :: kI a = Sum.inl y :: kI b from h)
    rw [Sum.inl.inj h1, kI_inj h2]
section
variable {K : PySem.W.Frag} {F : Addr → Prop} {H : Hp} {L : List Addr}
theorem trues : ∀ {nss : List (List Int)} {vs : List V} {M : List Addr}, Owns K F H (nss.map fun _ => T.bl true) vs M → vs = nss.map (fun _ => V.bl true) ∧ M = []
  | [], vs, M, h => ⟨h.1, h.2⟩
  | _ :: nss, vs, M, ⟨v, vs', L1, L2, e, el, ⟨e1, o⟩, r⟩ => by
    obtain ⟨a, b⟩ := trues r
    have o' : v = .bl true := o
    subst e1
    exact ⟨by rw [e, a, o']; rfl, by rw [el, b]; rfl⟩
theorem trues_own : ∀ {nss : List (List Int)}, Owns K F H (nss.map fun _ => T.bl true) (nss.map fun _ => V.bl true) []
  | [] => ⟨rfl, rfl⟩
  | _ :: nss => ⟨_, _, [], [], rfl, rfl, ⟨rfl, rfl⟩, trues_own⟩
theorem zipR {nss : List (List Int)} : (nss.map kI).zip (nss.map fun _ => V.bl true) = prR nss := by
  induction nss with
  | nil => rfl
  | cons n nss ih =>
    show (kI n, V.bl true) :: (nss.map kI).zip (nss.map fun _ => V.bl true) = (kI n, V.bl true) :: prR nss
    rw [ih]
theorem own_dtI {nss : List (List Int)} {v : V} (h : Own K F H (dtI nss) v L) : ∃ a, v = .ref a ∧ L = [a] ∧ H a = some (.dT (prR nss)) := by
  obtain ⟨a, vs, M, e, el, hh, l, r⟩ := h
  obtain ⟨e1, e2⟩ := trues r
  subst e1 e2
  rw [zipR] at hh
  exact ⟨a, e, el, hh⟩
theorem dtI_own {nss : List (List Int)} {a : Addr} (h : H a = some (.dT (prR nss))) : Own K F H (dtI nss) (.ref a) [a] := ⟨a, _, [], rfl, rfl, by rw [zipR]; exact h, by rw [List.length_map, List.length_map], trues_own⟩
theorem putR {nss : List (List Int)} {ns : List Int} : putK (prR nss) (kI ns) (V.bl true) = prR (insR nss ns) := by
  unfold putK insR
  by_cases h : ns ∈ nss
  · rw [if_pos h, if_pos]
    · unfold prR
      rw [List.map_map]
      refine List.map_congr_left fun x hx => ?_
      show (if kI x = kI ns then (kI x, V.bl true) else (kI x, V.bl true)) = _
      split <;> rfl
    · rw [List.any_eq_true]
      exact ⟨(kI ns, V.bl true), List.mem_map.mpr ⟨ns, h, rfl⟩, by simp⟩
  · rw [if_neg h, if_neg]
    · unfold prR; rw [List.map_append]; rfl
    · rw [List.any_eq_true]
      rintro ⟨p, hp, e⟩
      obtain ⟨x, hx, rfl⟩ := List.mem_map.mp hp
      have e : kI x = kI ns := of_decide_eq_true e
      rw [kI_inj e] at hx
      exact h hx
end
/-! ### made, told, put, how many -/
def wDt : WE := fun ev Q _ => Q (dtI []) ev
def sTupOf : SpT := fun ts Q _ => ∃ t ns, ts = [t] ∧ t.kidLS = some (List.map T.int ns) ∧ Q (.tup (ns.map T.int)) [some t]
def sPutT : SpT := fun ts Q _ => ∃ nss ns, ts = [.bl true, dtI nss, .tup (ns.map T.int)] ∧ nss.length < 16777216 ∧ Q .non [none, some (dtI (insR nss ns)), none]
def sLenT : SpT := fun ts Q _ => ∃ nss, ts = [dtI nss] ∧ nss.length < 16777216 ∧ Q (.int (nss.length : Nat)) [some (dtI nss)]
section
variable {K : PySem.W.Frag}
theorem br_tupOf : BrL K sTupOf (fun xs H Q => ∃ p ys, xs = [.ref p] ∧ ((SqL K H p ys ∧ ∀ l, H l = none → Q (.ref l) (upd H l (.tup ys))) ∨ (SqT K H p ys ∧ Q (.ref p) H))) := fun vs H Q E ⟨ts, F, L, Q0, X0, S, ⟨t, ns, e, h, q⟩, k, _⟩ => by
  subst e
  obtain ⟨v, e1, o⟩ := S.own.one'
  subst e1
  obtain ⟨a, us, ea, ha, ra⟩ := o.kidLS h
  have eu := ints_vals ra
  subst ea eu
  refine ⟨a, _, rfl, .inl ⟨ha, fun p hp => ?_⟩⟩
  obtain ⟨L', x, S'⟩ := S.cell hp (own_tup_new (xs := ns.map T.int) ints_own hp)
  exact k _ _ _ F _ L' q x S'
theorem br_putT : BrS K sPutT rSetD := fun o i v H Q E ⟨ts, F, L, Q0, X0, S, ⟨nss, ns, e, hz, q⟩, k, _⟩ => by
  subst e
  obtain ⟨vy, vo, vi, L3, L1, L2, e1, el, o3, o1, o2⟩ := S.own.three'
  cases e1
  obtain ⟨eL3, o3⟩ := o3
  have o3 : v = .bl true := o3
  obtain ⟨a, ea, eL1, ha⟩ := own_dtI o1
  obtain ⟨b, us, M, eb, eL2, hb, r⟩ := o2
  have hus := ints_vals r
  subst o3 ea eb eL3 eL1
  have hc : ∀ c : Nat, ([] ++ a :: ([] : List Addr)).count c ≤ L.count c := fun c => by
    rw [el]; simp only [List.nil_append, List.count_append, List.count_cons, List.count_nil]; omega
  obtain ⟨x1, S1⟩ := S.write (o := .dT (prR (insR nss ns))) (t' := dtI (insR nss ns)) (rest := [.ref b]) own_non (ne_none_of ha) hc fun H' e _ => dtI_own e
  have hk : H b = some (.tup ((kI ns).map kV)) := by
    rw [hb, hus]
    unfold kI; rw [List.map_map]; rfl
  have hl : (prR nss).length < sizeLine := by unfold prR; rw [List.length_map]; exact hz
  refine ⟨a, _, rfl, DPut.t (k := kI ns) (v := .bl true) ha hk hl, ?_⟩
  rw [putR]
  refine k _ _ .non F _ _ q x1 ⟨?_, S1.nd, S1.dj, S1.dom⟩
  obtain ⟨v1, σ1, M1, M2, z1, z2, oN, v2, σ2, M3, M4, z3, z4, oL, w1, σ3, z5, z6⟩ := S1.own
  cases z1; cases z3; cases z5
  exact ⟨_, _, M1, M2, rfl, z2, oN, some (.bl true), _, rfl, _, _, M3, M4, rfl, z4, oL, some (.ref b), [], rfl, z6.1, z6.2⟩
end
def rLenT (K : PySem.W.Frag) : List V → Hp → VK → Prop := fun vs H Q => ∃ (a : Addr) (kvs : List (List Key × V)), vs = [.ref a] ∧ H a = some (.dT kvs) ∧ Q (.int (kvs.length : Nat)) H
theorem cr_lenT {X : Cx} : CallR X (.builtin "len") (rLenT X.K) := by
  intro pins s σ H vs us Q I r h
  obtain ⟨a, kvs, rfl, ha, q⟩ := h
  rw [Vals.ref1 r]
  obtain ⟨z, y, xs, hk, hd⟩ := dt_of I.hok ha
  have hl : xs.length = kvs.length := (Paired.length hk).symm
  have hsz := sizeLine_eq
  refine call_len_dictH y hd (by omega) ?_
  rw [hl]
  exact ⟨.int (kvs.length : Nat), H, (I.tok _), ⟨_, rfl⟩, q⟩
theorem br_lenT {K : PySem.W.Frag} : BrL K sLenT (rLenT K) := fun vs H Q E ⟨ts, F, L, Q0, X0, S, ⟨nss, e, hz, q⟩, k, _⟩ => by
  subst e
  obtain ⟨v, e1, o⟩ := S.own.one'
  subst e1
  obtain ⟨a, ea, el, ha⟩ := own_dtI o
  subst ea
  refine ⟨a, _, rfl, ha, ?_⟩
  rw [show (prR nss).length = nss.length by unfold prR; rw [List.length_map]]
  exact k _ _ _ F H L q Ext.refl (S.ret own_int)
section
variable {X : Cx} {W : WX} {a b e : Expr} {oa ob : Arg} {pos p : Pos}
theorem de_dnewT : DE X W (.Dict [] [] pos) wDt := PE.imp pe_dnewT fun σ H R q p hp => by
  obtain ⟨ev, F, L, Q0, X0, S, w, k, _⟩ := q
  obtain ⟨L3, x3, S3⟩ := S.cell (o := .dT []) (t := dtI []) hp (dtI_own (nss := []) upd_same)
  exact k _ ev _ F _ L3 w x3 S3
theorem de_tupOf (hg : Gl X "tuple") (hm : X.mg "tuple" = none) (h : DO X W e oa) (he : starEach [e] X.env = (false, eval e X.env) :: starEach [] X.env := by rfl) : DE X W (.Call (.Name "tuple" p) [e] [] pos) (wOp sTupOf [oa]) :=
  DE.call (pe_callTy call_tuple_of hg hm (by decide +kernel) (da_cons (as := []) h da_nil he) (by decide) (by decide) he) br_tupOf
theorem de_lenT (hg : Gl X "len") (hm : X.mg "len" = none) (h : DO X W e oa) (he : starEach [e] X.env = (false, eval e X.env) :: starEach [] X.env := by rfl) : DE X W (.Call (.Name "len" p) [e] [] pos) (wOp sLenT [oa]) :=
  de_call1 cr_lenT br_lenT hg hm (by decide +kernel) h (by decide) (by decide) he
theorem ds_putT {a i e : Expr} {oa oi : Arg} {wv : WE} {pos pos' : Pos} (hu : X.A.units + 64 < cLine) (ha : DO X W a oa) (hi : DO X W i oi) (h : DE X W e wv) (h1 : swapsWithSole [.Subscript a i pos'] e pos.line X.env = pure false := by rfl)
    (h2 : swappedStores [.Subscript a i pos'] e X.env = pure none := by rfl) (h3 : (assignEach [.Subscript a i pos'] X.env).map (·.2) = [assign (.Subscript a i pos') X.env] := by rfl)
    (hq : ∀ v, assign (.Subscript a i pos') X.env v = (do
      let ov ← holding [v] (eval a X.env)
      let iv ← holding [v, ov] (eval i X.env)
      standAt pos'
      holding [v, ov, iv] (setItem ov iv v)
      release [v, ov, iv] []) := by intro _; rfl) : DS X W [] (.Assign [.Subscript a i pos'] e pos) (sStore sPutT oa oi wv) := ds_store br_putT (set_dict (hu1 hu)) ha hi h h1 h2 h3 hq
end
section
variable {ev : Ev} {a : Arg} {t : T} {ns : List Int}
theorem p_dt : Pure wDt ev (dtI []) := fun _ _ q => q
theorem p_tupOf (ha : PO a ev t) (h : IsL t ns) : Pure (wOp sTupOf [a]) ev (.tup (ns.map T.int)) := op1 ha fun _ _ q => ⟨t, ns, rfl, h.kidLS, q⟩
end
end TL

/-! TLM18: how many come, and how many leave all. -/
namespace TL
theorem rg_succ' {n : Nat} : rg (n + 1) = rg n ++ [(n : Int)] := by unfold rg; rw [List.range_succ, List.map_append]; rfl
theorem ATi_all : ∀ {n : Nat} {x : List Int}, x.Perm (rg n) → x ∈ ATi n
  | 0, x, h => by rw [List.perm_nil.mp h]; exact List.mem_singleton.mpr rfl
  | n + 1, x, h => by
    rw [rg_succ'] at h
    obtain ⟨s, t, rfl⟩ := List.append_of_mem (h.mem_iff.mpr (List.mem_append_right _ (List.mem_singleton.mpr rfl)))
    have h1 : ((n : Int) :: (s ++ t)).Perm ((n : Int) :: rg n) := (List.perm_middle.symm.trans h).trans (List.perm_append_comm (l₁ := rg n) (l₂ := [(n : Int)]))
    have h2 := ATi_all (List.Perm.cons_inv h1)
    show s ++ (n : Int) :: t ∈ (ATi n).flatMap _
    refine List.mem_flatMap.mpr ⟨s ++ t, h2, List.mem_map.mpr ⟨s.length, List.mem_range.mpr (by rw [List.length_append]; omega), ?_⟩⟩
    rw [List.take_left, List.drop_left, List.append_assoc]; rfl
theorem nd_count {α : Type} [BEq α] [LawfulBEq α] {a : α} : ∀ {l : List α}, l.Nodup → a ∈ l → l.count a = 1
  | [], _, h => nomatch h
  | b :: l, hn, h => by
    obtain ⟨h1, h2⟩ := List.nodup_cons.mp hn
    rcases Classical.em (b = a) with e | e
    · subst e
      rw [List.count_cons_self, List.count_eq_zero.mpr h1]
    · have h3 : a ∈ l := (List.mem_cons.mp h).resolve_left fun z => e z.symm
      rw [List.count_cons_of_ne e, nd_count h2 h3]
theorem ATi_nd : ∀ n < 6, (ATi n).Nodup := by decide +kernel
theorem ATi_in : ∀ n < 6, ∀ p ∈ ATi n, kindC p ∈ LT n n := by decide +kernel
theorem LT_nd : ∀ n < 6, (LT n n).Nodup := by decide +kernel
theorem count_cons_sum {a : List Int} {ys : List (List Int)} : ∀ {l : List (List Int)}, (l.map fun k => (((a :: ys).count k : Nat) : Int)).sum = (l.map fun k => ((ys.count k : Nat) : Int)).sum + (l.count a : Nat)
  | [] => rfl
  | k :: l => by
    rw [List.map_cons, List.map_cons, List.sum_cons, List.sum_cons, count_cons_sum (l := l), List.count_cons, List.count_cons]
    by_cases h : a = k
    · subst h; simp; omega
    · have h2 : ¬ k = a := fun z => h z.symm
      simp [h, h2]; omega
theorem part_sum {f : List Int → List Int} {P : List Int → Bool} {ksl : List (List Int)} (hn : ksl.Nodup) : ∀ {xs : List (List Int)}, (∀ x ∈ xs, f x ∈ ksl) → (((xs.filter fun x => P (f x)).length : Nat) : Int) = ((ksl.filter P).map fun k => (((xs.map f).count k : Nat) : Int)).sum
  | [], _ => by
    have : ∀ l : List (List Int), (l.map fun k => (((([] : List (List Int))).count k : Nat) : Int)).sum = 0 := fun l => by
      induction l with
      | nil => rfl
      | cons a l ih => rw [List.map_cons, List.sum_cons, ih]; rfl
    exact (this _).symm
  | x :: xs, h => by
    have ih := part_sum (f := f) (P := P) hn (xs := xs) fun y hy => h y (List.mem_cons_of_mem _ hy)
    have hx := h x List.mem_cons_self
    rw [List.map_cons, count_cons_sum, ← ih, List.filter_cons]
    have hc : (ksl.filter P).count (f x) = if P (f x) = true then 1 else 0 := by
      by_cases hp : P (f x) = true
      · rw [if_pos hp, List.count_filter hp]
        exact nd_count hn hx
      · rw [if_neg hp]; exact List.count_eq_zero.mpr fun m => hp (List.mem_filter.mp m).2
    rw [hc]
    by_cases hp : P (f x) = true
    · rw [if_pos hp, if_pos hp, List.length_cons]; omega
    · rw [if_neg hp, if_neg hp]; omega
theorem part_HM {n : Nat} (hn : n < 6) {P : List Int → Bool} : ((((ATi n).filter fun p => P (kindL p)).length : Nat) : Int) = (((LT n n).filter P).map HM).sum := by
  rw [show (fun p : List Int => P (kindL p)) = fun p => P (kindC p) from funext fun p => by rw [kindC_eq]]
  rw [part_sum (f := kindC) (P := P) (LT_nd n hn) (ATi_in n hn)]
  congr 1
  exact List.map_congr_left fun k hk => ATi_kind n hn k (List.mem_filter.mp hk).1
theorem rootK_q {q : List Int} {m : Nat} : rootK (kindL q) m = decide (barL q m = none) := by
  have hp := (kindL_perm q).symm
  rw [Bool.eq_iff_iff, decide_eq_true_iff, barL_none]
  unfold rootK
  rw [List.all_eq_true]
  constructor
  · intro h1 l hl
    have := h1 l (hp.mem_iff.mp hl)
    rw [decide_eq_true_iff] at this
    unfold cnt; rw [hp.count_eq]
    exact Nat.dvd_of_mod_eq_zero this
  · intro h1 l hl
    have := h1 l (hp.mem_iff.mpr hl)
    unfold cnt at this; rw [hp.count_eq] at this
    rw [decide_eq_true_iff]
    exact Nat.mod_eq_zero_of_dvd this
def SEE (m : Nat) (ps : List (List Int)) : List (List Int) := ps.foldl (fun s p => insR s (tpow p m)) []
theorem SEE_snoc {m : Nat} {ps : List (List Int)} {p : List Int} : SEE m (ps ++ [p]) = insR (SEE m ps) (tpow p m) := by unfold SEE; rw [List.foldl_append]; rfl
theorem insR_ok {s : List (List Int)} {x : List Int} (h : s.Nodup) : (insR s x).Nodup ∧ (∀ y, y ∈ insR s x ↔ y ∈ s ∨ y = x) ∧ (insR s x).length ≤ s.length + 1 := by
  unfold insR
  split
  · rename_i hx
    exact ⟨h, fun y => ⟨.inl, fun z => z.elim id fun e => e ▸ hx⟩, by omega⟩
  · rename_i hx
    refine ⟨List.nodup_append.mpr ⟨h, by simp, fun a ha b hb e => hx (by rw [List.mem_singleton.mp hb] at e; exact e ▸ ha)⟩, fun y => by rw [List.mem_append, List.mem_singleton], by rw [List.length_append]; exact Nat.le_refl _⟩
theorem SEE_ok {m : Nat} : ∀ (ps : List (List Int)), (SEE m ps).Nodup ∧ (∀ y, y ∈ SEE m ps ↔ ∃ p ∈ ps, tpow p m = y) ∧ (SEE m ps).length ≤ ps.length := fun ps => by
  suffices h : ∀ (qs : List (List Int)), (SEE m qs.reverse).Nodup ∧ (∀ y, y ∈ SEE m qs.reverse ↔ ∃ p ∈ qs.reverse, tpow p m = y) ∧ (SEE m qs.reverse).length ≤ qs.length by
    have := h ps.reverse
    rw [List.reverse_reverse, List.length_reverse] at this
    exact this
  intro qs
  induction qs with
  | nil => exact ⟨List.nodup_nil, fun y => by simp [SEE], Nat.le_refl _⟩
  | cons q qs ih =>
    obtain ⟨a, b, c⟩ := ih
    rw [List.reverse_cons, SEE_snoc]
    obtain ⟨d, e, f⟩ := insR_ok (x := tpow q m) a
    refine ⟨d, fun y => ?_, by rw [List.length_cons]; omega⟩
    rw [e, b]
    constructor
    · rintro (⟨p, hp, h⟩ | h)
      · exact ⟨p, List.mem_append_left _ hp, h⟩
      · exact ⟨q, List.mem_append_right _ (List.mem_singleton.mpr rfl), h.symm⟩
    · rintro ⟨p, hp, h⟩
      rcases List.mem_append.mp hp with hp | hp
      · exact .inl ⟨p, hp, h⟩
      · rw [List.mem_singleton.mp hp] at h; exact .inr h.symm
theorem perm_of_nd {l m : List (List Int)} (h1 : l.Nodup) (h2 : m.Nodup) (h : ∀ x, x ∈ l ↔ x ∈ m) : l.Perm m := List.perm_iff_count.mpr fun a => by
  by_cases ha : a ∈ l
  · rw [nd_count h1 ha, nd_count h2 ((h a).mp ha)]
  · rw [List.count_eq_zero.mpr ha, List.count_eq_zero.mpr fun z => ha ((h a).mpr z)]
theorem SEE_have {n m : Nat} (hn : n < 6) (hm : 0 < m) : (((SEE m (ATi n)).length : Nat) : Int) = (((LT n n).filter fun ks => rootK ks m).map HM).sum := by
  rw [← part_HM hn (P := fun ks => rootK ks m)]
  obtain ⟨a, b, _⟩ := SEE_ok (m := m) (ATi n)
  have : (SEE m (ATi n)).Perm ((ATi n).filter fun p => rootK (kindL p) m) := by
    refine perm_of_nd a ((ATi_nd n hn).filter _) fun x => ?_
    rw [b, List.mem_filter, rootK_q, decide_eq_true_iff]
    constructor
    · rintro ⟨p, hp, rfl⟩
      have hT := ATi_TN hn hp
      have hT2 := hT.tpow (k := (m : Int))
      refine ⟨ATi_all ?_, barL_tpow hT.2.2 hm⟩
      have := hT2.2.2
      unfold Turn at this
      rw [hT2.2.1] at this
      exact this
    · rintro ⟨hx, hb⟩
      obtain ⟨r1, r2⟩ := rootF_ok (ATi_TN hn hx) hm hb
      refine ⟨rootF x m, ATi_all ?_, r2⟩
      have := r1.2.2
      unfold Turn at this
      rw [r1.2.1] at this
      exact this
  rw [this.length_eq]
theorem tpow_id {p : List Int} {n m : Nat} (hp : TN n p) : tpow p m = rg n ↔ lcmL (kindL p) ∣ m := by
  constructor
  · intro e
    refine hp.2.2.home_dvd fun i i0 i1 => ?_
    have h3 := congrArg (fun l => G l i) e
    have h4 : G (tpow p (m : Int)) i = it p m i := by
      unfold tpow
      rw [if_neg (Int.not_lt.mpr (Int.natCast_nonneg _)), G_pw i0 i1, Int.toNat_natCast]
    rw [hp.2.1] at i1
    have h5 : G (tpow p (m : Int)) i = i := h3.trans (G_rg i0 i1)
    rw [← h4, h5]
  · intro h
    exact tpow_home hp rfl (Int.natCast_dvd_natCast.mpr h)
theorem homeB_q {p : List Int} {n m : Nat} (hp : TN n p) : homeB (kindL p) m = decide (tpow p m = rg n) := by
  rw [Bool.eq_iff_iff, decide_eq_true_iff, tpow_id hp, lcmL_dvd]
  unfold homeB
  rw [List.all_eq_true]
  refine forall_congr' fun l => forall_congr' fun hl => ?_
  have := (kindL_bd hp.2.2 (by have := hp.1; have := hp.2.1; omega) l hl).1
  obtain ⟨k, rfl⟩ : ∃ k : Nat, l = k := ⟨l.toNat, by omega⟩
  rw [decide_eq_true_iff, Int.toNat_natCast, ← Int.natCast_emod]
  constructor
  · intro z; exact Nat.dvd_of_mod_eq_zero (by omega)
  · intro z; rw [Nat.mod_eq_zero_of_dvd z]; rfl
end TL

/-! TL35: an expression that reads what one owns, and gives it back unfrozen; its value is new through and through. -/
namespace TL
open PySem PySem.Spec PyProof.Rows L2
def wBorE (i : Nat) (w : WE) : WE := fun ev Q _ => ∃ t, ev[i]? = some (some t) ∧ w (ev.set i (some t.frz)) (fun y ev' => y.closed = true ∧ condE (ev.set i none) (ev'.set i none) ∧ Q y (ev'.set i (some t))) fun _ _ => False
section
variable {X : Cx} {W : WX}
theorem DE.bor {e : Expr} {w : WE} {i : Nat} (h : DE X W e w) : DE X W e (wBorE i w) := PE.imp h fun σ H Q q => by
  obtain ⟨ev, F, L, Q0, X0, S, ⟨t, et, hw⟩, k1, _⟩ := q
  obtain ⟨v, L1, L2, ev1, ec, o, oE⟩ := S.own.get et
  have m1 : ∀ b ∈ L1, b ∈ L := fun b m => by
    rw [mem_iff_count] at m ⊢
    have := ec b; omega
  have m2 : ∀ b ∈ L2, b ∈ L := fun b m => by
    rw [mem_iff_count] at m ⊢
    have := ec b; omega
  have d12 : ∀ b, b ∈ L1 → b ∈ L2 → False := fun b n1 n2 => by
    have h1 := List.count_pos_iff.mpr n1
    have h2 := List.count_pos_iff.mpr n2
    have := ec b; have := S.nd b; omega
  have o' : Own X.K (fun a => F a ∨ a ∈ L1) H t.frz v [] := o.frz (fun _ => .inl) (fun _ => .inr)
  have oE' : OwnE X.K (fun a => F a ∨ a ∈ L1) H (ev.set i none) σ L2 := oE.mono (fun _ => .inl) fun _ _ _ z => z
  obtain ⟨L3, r3, s3⟩ := oE'.put (ot := some t.frz) ev1 (OwnE.one o')
  rw [List.set_set] at r3
  have sub3 : ∀ b : Nat, L3.count b ≤ L2.count b := fun b => by have := s3 b; rw [List.append_nil] at this; exact this
  have mem3 : ∀ b ∈ L3, b ∈ L2 := fun b m => Sub.mem (A := L3) (B := L2) sub3 m
  have Sf : St X.K (fun a => F a ∨ a ∈ L1) H (ev.set i (some t.frz)) σ L3 := ⟨r3, fun b => by have := sub3 b; have := ec b; have := S.nd b; omega, fun b m z => by
    rcases z with z | z
    · exact S.dj b (m2 b (mem3 b m)) z
    · exact d12 b z (mem3 b m), fun b z => by
    rcases z with z | z
    · exact S.dom b z
    · exact o.dom b z⟩
  refine ⟨_, _, L3, _, _, Sf, hw, fun y ev' v2 F' H' L' ⟨cy, c, q⟩ x S' => ?_, fun C ev' F' H' L' q => q.elim⟩
  have ev2 : (some v2 :: σ)[i + 1]? = some (some v) := ev1
  have k1' := fun b (z : F b ∨ b ∈ L1) => x.fr b z
  have keep1 : ∀ b o, F b ∨ b ∈ L1 → H b = some o → H' b = some o := fun b o z e => x.keep b o (fun m => Sf.dj b m z) e
  -- the slot's own thing again
  obtain ⟨L4, r4, s4⟩ : ∃ L4, OwnE X.K F' H' (some y :: ev'.set i none) (some v2 :: σ) L4 ∧ Sub L4 (L' ++ []) := S'.own.put ev2 OwnE.none1
  have sub4 : ∀ b : Nat, L4.count b ≤ L'.count b := fun b => by have := s4 b; rw [List.append_nil] at this; exact this
  have mem4 : ∀ b ∈ L4, b ∈ L' := fun b m => Sub.mem (A := L4) (B := L') sub4 m
  have nF : ∀ b ∈ L1, ¬ F b := fun b m => S.dj b (m1 b m)
  have r5 : OwnE X.K (fun b => F' b ∧ b ∉ L1) H' (some y :: ev'.set i none) (some v2 :: σ) L4 := OwnE.conv (ev := none :: ev.set i none) (L := L2) (fun b z => ⟨k1' b (.inl z), fun m => nF b m z⟩) (fun b o z e => keep1 b o (.inl z) e) ⟨some v2, σ, rfl, oE⟩ r4 ⟨.inr cy, c⟩
  have ot : Own X.K (fun b => F' b ∧ b ∉ L1) H' t v L1 := o.mono (fun b z => ⟨k1' b (.inl z), fun m => nF b m z⟩) keep1
  obtain ⟨L5, r6, s6⟩ : ∃ L5, OwnE X.K (fun b => F' b ∧ b ∉ L1) H' (some y :: ev'.set i (some t)) (some v2 :: σ) L5 ∧ Sub L5 (L4 ++ L1) := by
    obtain ⟨L5, r6, s6⟩ := r5.put ev2 (OwnE.one ot)
    refine ⟨L5, ?_, s6⟩
    rw [show (some y :: ev'.set i none).set (i + 1) (some t) = some y :: (ev'.set i none).set i (some t) from rfl, List.set_set] at r6
    exact r6
  have mem5 : ∀ b ∈ L5, b ∈ L4 ∨ b ∈ L1 := fun b m => List.mem_append.mp (Sub.mem (A := L5) (B := L4 ++ L1) s6 m)
  have dis : ∀ b ∈ L4, b ∉ L1 := fun b m n => S'.dj b (mem4 b m) (k1' b (.inr n))
  refine k1 y _ v2 (fun b => F' b ∧ b ∉ L1) H' L5 q ⟨fun b z => ⟨k1' b (.inl z), fun m => nF b m z⟩, fun b o n e => x.keep b o (fun m => n (m2 b (mem3 b m))) e, fun b z => ?_⟩ ⟨r6, fun b => ?_, fun b m z => ?_, fun b z => S'.dom b z.1⟩
  · rcases z with z | z
    · rcases x.new b (.inl z.1) with (y | y) | y
      · exact .inl y
      · exact absurd y z.2
      · exact .inr (y.imp_left fun m => m2 b (mem3 b m))
    · rcases mem5 b z with z | z
      · rcases x.new b (.inr (mem4 b z)) with (y | y) | y
        · exact .inl y
        · exact .inr (.inl (m1 b y))
        · exact .inr (y.imp_left fun m => m2 b (mem3 b m))
      · exact .inr (.inl (m1 b z))
  · have h1 := s6 b
    rw [List.count_append] at h1
    have h2 := sub4 b
    have h3 := S'.nd b
    have h4 := ec b
    have h5 := S.nd b
    by_cases z : b ∈ L1
    · have : b ∉ L4 := fun m => dis b m z
      rw [count_zero_of_not_mem this] at h1
      omega
    · rw [count_zero_of_not_mem z] at h1
      omega
  · rcases mem5 b m with m | m
    · exact S'.dj b (mem4 b m) z.1
    · exact z.2 m
end
end TL

/-! TL36: found[1].append(k), found a tuple of one's own of two: what is shared, and a list of ints. -/
namespace TL
open PySem PySem.Spec PyProof.Rows L2
def wAppT (x : Nat) (k : Int) : WE := fun ev Q _ => ∃ u ns, ev[x]? = some (some (.tup [u, .lst (ns.map T.int)])) ∧ u.shr = true ∧ ns.length < 16777216 ∧ Q .non (ev.set x (some (.tup [u, .lst ((ns ++ [k]).map T.int)])))
section
variable {K : PySem.W.Frag} {F : Addr → Prop} {H : Hp}
/-- what stands apart from a is not touched -/
theorem Own.far {t : T} {v : V} {L : List Addr} {a : Addr} {o : HO} (h : Own K F H t v L) (na : a ∉ L) (nf : ¬ F a) : Own K F (upd H a o) t v L := h.mono (fun _ z => z) fun b u hb e => by
  rw [upd_ne (fun z => by subst z; exact hb.elim nf na)]; exact e
theorem OwnE.far : ∀ {ev : Ev} {σ : L2.St} {L : List Addr} {a : Addr} {o : HO}, OwnE K F H ev σ L → a ∉ L → ¬ F a → OwnE K F (upd H a o) ev σ L := fun {ev σ L a o} h na nf => h.mono (fun _ z => z) fun b u hb e => by
  rw [upd_ne (fun z => by subst z; exact hb.elim nf na)]; exact e
theorem appT_run {W : WX} {x : Nat} {k : Int} {σ : L2.St} {H : Hp} {Q : VK} (q : liftE K W (wAppT x k) σ H Q) :
    tBM K "list" rAppend (tOp (rIx K) (tVar x) (tC (.int 1))) (tCons (tC (.int k)) tNil) σ H Q := by
  obtain ⟨ev, F, L, Q0, X0, S, ⟨u, ns, et, hu, hl, hq⟩, k1, _⟩ := q
  obtain ⟨v, L1, L2, ev1, ec, o, oE⟩ := S.own.get et
  obtain ⟨p, vs, M, ea, eL, hp, w1, vs1, M1, M2, e1, em1, o1, w2, vs2, M3, M4, e2, em2, ⟨a, us, M5, e3, em3, ha, r⟩, e4, em4⟩ := o
  have hus := ints_vals r
  have hM5 : M5 = [] := r.shr (by rw [List.all_map]; exact List.all_eq_true.mpr fun _ _ => rfl)
  have hM1 : M1 = [] := o1.shr hu
  subst hM1 hM5 em3 em4 em2 em1 eL e4 e3 e2 e1 ea hus
  have nda : ∀ b : Nat, L2.count b + (p :: ([] ++ ([a] ++ []))).count b ≤ 1 := fun b => by rw [ec]; exact S.nd b
  have npa : p ≠ a := fun e => by
    have := nda a
    subst e
    simp at this
  have na2 : a ∉ L2 := fun m => by
    have := nda a
    have h2 := List.count_pos_iff.mpr m
    have h3 : List.count a [p, a] = 1 := by rw [List.count_cons_of_ne npa, List.count_singleton_self]
    have this : List.count a L2 + List.count a [p, a] ≤ 1 := this
    omega
  have aL : a ∈ L := List.count_pos_iff.mp (by
    have h3 : List.count a [p, a] = 1 := by rw [List.count_cons_of_ne npa, List.count_singleton_self]
    have h4 : List.count a L2 + List.count a [p, a] = List.count a L := ec a
    omega)
  have nf : ¬ F a := S.dj a aL
  refine ⟨_, ev1, .inr (.inl ⟨p, [w1, .ref a], 1, .ref a, rfl, rfl, SqT.of hp, rfl, .inl ⟨rfl, _, SqL.of ha⟩, ?_⟩)⟩
  show rAppend (.ref a) [.int k] H Q
  refine ⟨a, ns.map V.int, .int k, rfl, rfl, ha, by rw [List.length_map]; exact hl, ?_⟩
  have ot : Own K F (upd H a (.lst (ns.map V.int ++ [.int k]))) (.tup [u, .lst ((ns ++ [k]).map T.int)]) (.ref p) [p, a] :=
    ⟨p, _, [a], rfl, rfl, by rw [upd_ne npa]; exact hp, w1, [.ref a], [], [a], rfl, rfl, o1.far (fun m => nomatch m) nf, .ref a, [], [a], [], rfl, rfl, ⟨a, _, [], rfl, rfl, upd_same, by
      have := ints_own (K := K) (F := F) (H := upd H a (.lst (ns.map V.int ++ [.int k]))) (ns := ns ++ [k])
      rw [List.map_append (f := V.int)] at this
      exact this⟩, rfl, rfl⟩
  obtain ⟨L', r6, s6⟩ := (oE.far (o := .lst (ns.map V.int ++ [.int k])) na2 nf).put ev1 (OwnE.one ot)
  rw [List.set_set] at r6
  have sub : ∀ b : Nat, L'.count b ≤ L.count b := fun b => by
    have h1 := s6 b
    have h4 : List.count b L2 + List.count b [p, a] = List.count b L := ec b
    rw [List.count_append] at h1
    omega
  have mem : ∀ b ∈ L', b ∈ L := fun b m => Sub.mem (A := L') (B := L) sub m
  refine k1 .non _ .non F _ L' hq ⟨fun _ z => z, fun b o n e => by rw [upd_ne (fun z => by subst z; exact n aL)]; exact e, fun b z => z.imp_right fun m => .inl (mem b m)⟩ ⟨⟨.non, σ, [], L', rfl, rfl, own_non, r6⟩, fun b => Nat.le_trans (sub b) (S.nd b), fun b m => S.dj b (mem b m), fun b z => ?_⟩
  rw [upd_ne (fun e => by subst e; exact nf z)]
  exact S.dom b z
end
section
variable {X : Cx} {W : WX} {o i e : Expr} {ip apos cpos : Pos} {x : Nat} {k : Int}
theorem de_appT (ho : PE X o (tVar x)) (hi : PE X i (tC (.int 1))) (he0 : PE X e (tC (.int k))) (hs : PlainIx i := by exact fun _ _ => rfl) (he : starEach [e] X.env = (false, eval e X.env) :: starEach [] X.env := by rfl)
    (hbase : attributeBase (.Subscript o i ip) "append" X.env (eval (.Subscript o i ip) X.env) = eval (.Subscript o i ip) X.env := by rfl)
    (hf : ((backTo cpos (starEach [e] X.env)).all (fun x => !x.1) && (backToKw cpos (keywordEach [] X.env)).all (fun x => x.1.isSome) && decide (([e]).length + ([] : List Keyword).length + (if ([] : List Keyword).isEmpty then 0 else 1) < 30)) = true := by rfl)
    (hline : (apos.endLine == cpos.line) = true := by rfl) :
    DE X W (.Call (.Attribute (.Subscript o i ip) "append" apos) [e] [] cpos) (wAppT x k) :=
  PE.imp (pe_bm PySem.F.plainAttrs_list PySem.F.slot_list_append PySem.F.type_list_append mt_append (pe_ix ix_seq ho hi hs) (pa_cons he0 pa_nil he) hbase hf hline he) fun σ H Q q => appT_run q
end
end TL

/-! TL37: t[i:], t a tuple of what is shared. -/
namespace TL
open PySem PySem.Spec PyProof.Rows L2
def sCutLoT : SpT := fun ts Q _ => ∃ i xs, ts = [.tup xs, .int i] ∧ xs.all T.shr = true ∧ HT.sIx xs.length 0 (some i) ≠ 0 ∧ Q (.tup (cut xs (some i) none)) [some (.tup xs), some (.int i)]
section
variable {X : Cx} {W : WX} {a b : Expr} {oa ob : Arg} {pos p2 : Pos}
theorem de_cutLoT (ha : DO X W a oa) (hb : DO X W b ob) : DE X W (.Subscript a (.Slice (some b) none none p2) pos) (wOp sCutLoT [oa, ob]) := PE.imp (pe_slice sl_tup ha (po_some hb) po_none) fun σ H Q q => by
  refine tOf_mono (wOp_run q) fun x H1 q => ?_
  refine tOf_mono q fun y H2 q => ?_
  obtain ⟨ts, F, L, Q0, X0, S, ⟨i, xs, e, h, hw, q⟩, k, _⟩ := (show spT X.K sCutLoT [x, y] H2 Q (fun c d H' => W c d σ H') from q)
  subst e
  obtain ⟨v, w, L1, L2, e1, el, o1, ⟨_, o2⟩⟩ := S.own.two'
  cases e1
  obtain ⟨u, us, M, eu, em, hu, ru⟩ := o1
  have z := ru.shr h
  subst z
  have hl := ru.len
  refine ⟨i, o2, u, us, eu, SqT.of hu, fun z => hw (by rw [hl]; exact z.1), fun p hp => ?_⟩
  have rc := ru.cut (some i) none
  obtain ⟨L', x', S'⟩ := S.cell hp (own_tup_new rc hp)
  exact k _ _ _ F _ L' q x' S'
end
theorem p_cutLoT {ev : Ev} {a b : Arg} {xs : List T} {i : Int} (n : apart2 a b = true) (ha : PO a ev (.tup xs)) (hb : PO b ev (.int i)) (h : xs.all T.shr = true) (hw : HT.sIx xs.length 0 (some i) ≠ 0) : Pure (wOp sCutLoT [a, b]) ev (.tup (cut xs (some i) none)) := op2 n (fun _ _ q => ⟨i, xs, rfl, h, hw, q⟩) ha hb
end TL

/-! TL38: for k in d, d a new dict by ints: locked from then on. -/
namespace TL
open PySem PySem.Spec PyProof.Rows L2
theorem pe_lockV {X : Cx} {e : Expr} {t : TE} (h : PE X e t) : PE X e (fun σ H Q => t σ H fun x H1 => ∃ d u, x = .ref d ∧ H1 d = some u ∧ Mut (some u) ∧ ∀ od, Q x (upd H1 d (.frz od u))) :=
  ⟨fun pins s σ H Q I q => thn (h.run pins s σ H _ I q) fun v s1 ⟨x, H1, I1, r, d, u, ex, hd, mu, q⟩ => by
    obtain ⟨od, I2⟩ := I1.lock hd mu
    exact ⟨x, _, I2, r, q od⟩⟩
def itK (ks : List Int) : IterT := ⟨ks.length, fun k => .int (ks.getD k 0), fun _ => True⟩
def wKeys (w : WE) : WI := fun ev Q X => w ev (fun t ev' => ∃ (ks : List Int) (us : List T), t = .dk (ks.map Sum.inl) us ∧ Q (itK ks) ev') X
theorem di_keys {X : Cx} {W : WX} {tg e : Expr} {w : WE} (h : DE X W e w) : DI X W [] tg e (wKeys w) := PI.imp (pi_keys (pe_lockV h)) fun σ H R q => by
  obtain ⟨ev, F, L, Q0, X0, S, hw, k, kx⟩ := q
  refine ⟨ev, F, L, _, X0, S, hw, fun t ev1 v F1 H1 L1 q x1 S1 => ?_, kx⟩
  obtain ⟨ks, us, rfl, hq⟩ := q
  obtain ⟨M1, M2, el, o, oe⟩ := S1.pop
  obtain ⟨a, vs, M, ea, eM, ha, l, r⟩ := o
  have hvl := r.len
  have aM : a ∈ M1 := by rw [eM]; exact List.mem_cons_self
  have aL : a ∈ L1 := by rw [el]; exact List.mem_append_left _ aM
  have nf : ¬ F1 a := S1.dj a aL
  have dis : ∀ b, b ∈ M1 → b ∉ M2 := fun b m1 m2 => by
    have h1 := List.count_pos_iff.mpr m1
    have h2 := List.count_pos_iff.mpr m2
    have h3 := S1.nd b
    rw [el, List.count_append] at h3; omega
  have far : ∀ od : Obj, ∀ b u, b ≠ a → H1 b = some u → upd H1 a (.frz od (.dK ((ks.map Sum.inl).zip vs))) b = some u := fun od b u n e => by rw [upd_ne n]; exact e
  refine ⟨a, _, ea, ha, trivial, fun od => ⟨a, od, ea, .inl ⟨_, upd_same, k (itK ks) ev1 _ (fun b => F1 b ∨ b ∈ M1) _ M2 hq ?_ ?_ ?_⟩⟩⟩
  · refine ⟨fun b z => .inl (x1.fr b z), fun b u n e => ?_, fun b z => ?_⟩
    · have e1 := x1.keep b u n e
      refine far od b u (fun z => ?_) e1
      subst z
      rcases x1.new b (.inr aL) with z | z | z
      · exact nf (x1.fr b z)
      · exact n z
      · rw [z] at e; cases e
    · rcases z with (z | z) | z
      · exact x1.new b (.inl z)
      · exact x1.new b (.inr (by rw [el]; exact List.mem_append_left _ z))
      · exact x1.new b (.inr (by rw [el]; exact List.mem_append_right _ z))
  · refine ⟨oe.mono (fun b z => .inl z) fun b u hb e => far od b u (fun z => ?_) e, fun b => ?_, fun b m z => ?_, fun b z => ?_⟩
    · subst z
      exact hb.elim nf (dis b aM)
    · have h3 := S1.nd b
      rw [el, List.count_append] at h3; omega
    · rcases z with z | z
      · exact S1.dj b (by rw [el]; exact List.mem_append_right _ m) z
      · exact dis b z m
    · by_cases e : b = a
      · subst e; rw [upd_same]; exact fun z => nomatch z
      · rw [upd_ne e]
        rcases z with z | z
        · exact S1.dom b z
        · have oo : Own X.K F1 H1 (.dk (ks.map Sum.inl) us) v M1 := ⟨a, vs, M, ea, eM, ha, l, r⟩
          exact oo.dom b z
  · intro n ev2 σ' F2 H2 L2 _ x2 S2 _
    have h2 : H2 a = some (.frz od (.dK ((ks.map Sum.inl).zip vs))) := x2.keep a _ (dis a aM) upd_same
    have hzl : ((ks.map (Sum.inl : Int → Key)).zip vs).length = ks.length := by
      rw [List.length_zip, List.length_map]
      rw [List.length_map] at l
      omega
    refine ⟨fun hn => ⟨⟨h2, by rw [hzl]; exact hn⟩, fun y H' hy => ?_⟩, fun hn => ⟨h2, by rw [hzl, hn]; exact Nat.le_refl _⟩⟩
    obtain ⟨rfl, key, v', hk, rfl⟩ := hy
    have hn' : n < ks.length := hn
    have hk1 : key = Sum.inl (ks.getD n 0) := by
      have h3 := (List.getElem?_zip_eq_some.mp hk).1
      rw [List.getElem?_map, List.getElem?_eq_getElem hn'] at h3
      rw [List.getD_eq_getElem?_getD, List.getElem?_eq_getElem hn']
      exact (Option.some.inj h3).symm
    subst hk1
    exact ⟨F2, L2, Ext.refl, ⟨⟨_, σ', [], L2, rfl, rfl, ⟨rfl, rfl⟩, S2.own⟩, S2.nd, S2.dj, S2.dom⟩⟩
end TL

/-! TL39: told[1], told a tuple of one's own of two (what is shared, and any thing), taken out of it for good. -/
namespace TL
open PySem PySem.Spec PyProof.Rows L2
def wTkT (x : Nat) : WE := fun ev Q _ => ∃ u r, ev[x]? = some (some (.tup [u, r])) ∧ u.shr = true ∧ Q r (ev.set x none)
section
variable {K : PySem.W.Frag} {F : Addr → Prop} {H : Hp}
theorem tkT_run {W : WX} {x : Nat} {σ : L2.St} {H : Hp} {Q : VK} (q : liftE K W (wTkT x) σ H Q) :
    tOp (rIx K) (tVar x) (tC (.int 1)) σ H Q := by
  obtain ⟨ev, F, L, Q0, X0, S, ⟨u, r, et, hu, hq⟩, k1, _⟩ := q
  obtain ⟨v, L1, L2, ev1, ec, o, oE⟩ := S.own.get et
  obtain ⟨p, vs, M, ea, eL, hp, w1, vs1, M1, M2, e1, em1, o1, w2, vs2, M3, M4, e2, em2, o2, e4, em4⟩ := o
  have hM1 : M1 = [] := o1.shr hu
  subst hM1 em4 em2 em1 eL e4 e2 e1 ea
  have ec2 : ∀ b : Nat, L2.count b + (p :: ([] ++ (M3 ++ []))).count b = L.count b := fun b => ec b
  have sub : ∀ b : Nat, (M3 ++ L2).count b ≤ L.count b := fun b => by
    have h1 := ec2 b
    rw [List.nil_append, List.append_nil] at h1
    have h2 : M3.count b ≤ (p :: M3).count b := List.count_le_count_cons
    rw [List.count_append]
    omega
  have mem : ∀ b ∈ M3 ++ L2, b ∈ L := fun b m => Sub.mem (A := M3 ++ L2) (B := L) sub m
  refine ⟨_, ev1, .inr (.inl ⟨p, [w1, w2], 1, w2, rfl, rfl, SqT.of hp, rfl, ?_⟩)⟩
  exact k1 r _ w2 F _ (M3 ++ L2) hq ⟨fun _ z => z, fun b o n e => e, fun b z => z.imp_right fun m => .inl (mem b m)⟩ ⟨⟨w2, σ, M3, L2, rfl, rfl, o2, oE⟩, fun b => Nat.le_trans (sub b) (S.nd b), fun b m => S.dj b (mem b m), fun b z => S.dom b z⟩
end
section
variable {X : Cx} {W : WX} {o i : Expr} {ip : Pos} {x : Nat}
theorem de_tkT (ho : PE X o (tVar x)) (hi : PE X i (tC (.int 1))) (hs : PlainIx i := by exact fun _ _ => rfl) : DE X W (.Subscript o i ip) (wTkT x) :=
  PE.imp (pe_ix ix_seq ho hi hs) fun σ H Q q => tkT_run q
end
end TL

/-! TL40: defs that run where no repr is under way (the guards are known: none). -/
namespace TL
open PySem PySem.Spec PyProof.Rows L2
/-- a def's promise, kept where the guards are known to be none -/
structure FnOkG (P : Program) (w : World) (K : PySem.W.Frag) (mg : Str → Option Value) (base : Heap) (k : Nat) (f : Addr) (fd : FuncData) (ps : List Str) (sp : Sp) : Prop where
  len : ∀ vs H Q E, sp vs H Q E → vs.length = ps.length
  go : ∀ (A : Around) (outer : List Env) (s : Shared) (H : Hp) (args : Args) (us : List Value) (vs : List V) (Q : VK) (E : XK), A.guards = some [] → Room k A → Env0 P w K mg base A outer s H → BindsTo s fd args (ps.zip us) → Vals vs us → sp vs H Q E →
    codeAny (model P w) A (.call (.ref f) args) (CR (L2.CX P w) outer P w H s Q E) s
section
variable {P : Program} {w : World} {K : PySem.W.Frag} {mg : Str → Option Value} {base : Heap} {k : Nat} {ps : List Str}
theorem FnOkG.of {f : Addr} {fd : FuncData} {sp : Sp} (F : FnOk P w K mg base (L2.CX P w) k f fd ps sp) : FnOkG P w K mg base k f fd ps sp :=
  ⟨F.len, fun A outer s H args us vs Q E _ hr => F.run A outer s H args us vs Q E hr⟩
theorem FnOkG.imp {f : Addr} {fd : FuncData} {sp sp' : Sp} (F : FnOkG P w K mg base k f fd ps sp) (h : ∀ vs H Q E, sp' vs H Q E → sp vs H Q E) : FnOkG P w K mg base k f fd ps sp' :=
  ⟨fun vs H Q E q => F.len vs H Q E (h vs H Q E q), fun A outer s H args us vs Q E hg hr he hb hv hs => F.go A outer s H args us vs Q E hg hr he hb hv (h vs H Q E hs)⟩
theorem FnOkG.mono {j : Nat} {f : Addr} {fd : FuncData} {sp : Sp} (F : FnOkG P w K mg base j f fd ps sp) (h : j ≤ k) : FnOkG P w K mg base k f fd ps sp :=
  ⟨F.len, fun A outer s H args us vs Q E hg hr => F.go A outer s H args us vs Q E hg (hr.mono h)⟩
/-- by its body -/
theorem fun_G {x qual : Str} {st : Stmt} {f : Addr} {fd : FuncData} {N : List Str} {sp : Sp} (F : Fun K x qual st f fd) (S : FnScope N ps (defScope st)) (len : ∀ vs H Q E, sp vs H Q E → vs.length = ps.length)
    (hbody : ∀ (cdv : Value) (A : Around) (outer : List Env) (s : Shared) (H : Hp) (vs : List V) (Q : VK) (E : XK), A.guards = some [] → Room k (A.deeper (envOfC qual (defScope st) s.heap.objs.size f cdv)) → sp vs H Q E →
      ∃ t, PSs (cxOf (L2.CX P w) P w K mg base N qual (defScope st) f cdv A outer s H E) (defBody st) t ∧ t { nx := fun _ H' => Q .non H', rt := Q } (start N vs) H) : FnOkG P w K mg base (k + 1) f fd ps sp := by
  obtain ⟨oc, od, kV, doc, pm, an, cd, ct, osl, rfl, lk, hcd⟩ := F.ex
  constructor
  · exact len
  intro A outer s H args us vs Q E hg hr e0 hb r hsp
  have hl := len vs H Q E hsp
  have K1 : K.In s.heap := e0.mod.kin.keeps fun b o e => (e0.bs b o e).1
  have lim : s.heap.NoLimit := e0.mod.nolimit.keeps fun b o e => (e0.bs b o e).1
  have hkind : ∀ y ∈ ps.zip us, (defScope st).names.lookup y.1 = some .local ∨ ((defScope st).names.lookup y.1 = some .cell ∧ ((cellsFrom (s.heap.objs.size + 1) (defScope st).names []).lookup y.1).isSome = true) := by
    rintro ⟨n, v⟩ hy
    refine (S.par n (List.of_mem_zip hy).1).imp id fun q => ⟨q, ?_⟩
    exact PySem.W.cellsFrom_some _ _ _ (.inl q)
  apply codeAny_call_function hr.depth (K1 _ _ lk) rfl S.co S.gen rfl (PySem.W.codeRec_of K1 hcd) (hb _ _ _ _ ?_)
  apply wpAny_newFunctionEnv_cells S.kind hkind
  intro env he s1 x
  subst he
  refine ⟨lim.keeps x.toInCall.keep, codeAny_func ?_⟩
  obtain ⟨t, ht, hq⟩ := hbody cd A outer s H vs Q E hg (hr.deeper _) hsp
  have I : Inv (cxOf (L2.CX P w) P w K mg base N qual (defScope st) f cd A outer s H E) [] (start N vs) H s1 := inv_start S hr.hd e0 hl r x
  have fin : ∀ {σ' : L2.St} {H' : Hp} {v : V} {u : Value} {s' : Shared}, Inv (cxOf (L2.CX P w) P w K mg base N qual (defScope st) f cd A outer s H E) [] σ' H' s' → RelV v u → Q v H' → CE outer P w H s Q u s' := by
    intro σ' H' v u s' J rv q
    exact ⟨v, H', J.os, J.bare, J.base, J.hok, rv, q⟩
  refine wpAny_mono (ht.run [] s1 _ H _ I hq) ?_ fun e s' hs => hs
  intro fl s' hs
  cases fl with
  | ret u => exact let ⟨v, σ', H', J, rv, q⟩ := hs; fin J rv q
  | next => exact let ⟨σ', H', J, q⟩ := hs; fin (v := V.non) (u := Value.none) J rfl q
  | brk => exact let ⟨_, _, _, q⟩ := hs; q.elim
  | cont => exact let ⟨_, _, _, q⟩ := hs; q.elim
/-- .. over trees -/
theorem fn_TG {x qual : Str} {st : Stmt} {f : Addr} {fd : FuncData} {N : List Str} {A : List Nat} {wb : WS}
    (F : Fun K x qual st f fd) (S : FnScope N ps (defScope st))
    (hbody : ∀ (cdv : Value) (Ar : Around) (outer : List Env) (s : Shared) (H : Hp) (E : XK), Ar.guards = some [] → Room k (Ar.deeper (envOfC qual (defScope st) s.heap.objs.size f cdv)) →
      Takes (cxT P w K mg base N qual st f cdv Ar outer s H E) (fun cls d _ H => E cls d H) → DSs (cxT P w K mg base N qual st f cdv Ar outer s H E) (fun cls d _ H => E cls d H) A (defBody st) wb)
    (hl : ps.length ≤ N.length := by decide) :
    FnOkG P w K mg base (k + 1) f fd ps (spT K (spW ps.length N.length A wb)) := by
  refine fun_G F S (fun vs H Q E h => ?_) (fun cdv Ar outer s H vs Q E hg hr h => ?_)
  · obtain ⟨ts, F, L, Q0, X0, S0, ⟨hl, _⟩, _⟩ := h
    rw [← S0.own.len]; exact hl
  · obtain ⟨ts, F0, L, Q0, X0, S0, ⟨hlen, hw⟩, k1, k2⟩ := h
    have hv : vs.length = ps.length := by rw [← S0.own.len]; exact hlen
    let kp : KP := fun j => if A.contains j then none else vs[j]?
    refine ⟨_, hbody cdv Ar outer s H E hg hr (takes_of rfl rfl rfl rfl) kp (fun j m => ?_), ?_⟩
    · show (if A.contains j = true then none else vs[j]?) = none
      rw [List.contains_iff_mem.mpr m, if_pos rfl]
    have oe : OwnE K F0 H (sp0 ps.length N.length ts) (L2.start N vs) (L ++ []) := by
      unfold sp0 L2.start
      refine S0.own.env.app ?_
      have := OwnE.nones (K := K) (F := F0) (H := H) (List.replicate (N.length - vs.length) (none : Option V))
      rw [List.length_replicate, hv] at this
      rw [hv]; exact this
    rw [List.append_nil] at oe
    have pinOk : pin kp (L2.start N vs) := fun j v e => by
      have e' : (if A.contains j = true then none else vs[j]?) = some v := e
      split at e'
      · cases e'
      · obtain ⟨hj, ej⟩ := List.getElem?_eq_some_iff.mp e'
        unfold L2.start
        rw [List.getElem?_append_left (by simpa using hj), List.getElem?_map, e']
        rfl
    have back : ∀ {F' : Addr → Prop} {H' : Hp} {ev' : Ev} {σ' : L2.St} {L' : List Addr}, OwnE K F' H' ev' σ' L' → pin kp σ' → ∃ M, OwnE K F' H' (parm A 0 ps.length ev') (vs.map some) M ∧ ∀ a : Nat, M.count a ≤ L'.count a := fun {F' H' ev' σ' L'} o p => by
      have := parm_ok (A := A) (vs := vs) (j := 0) o (fun i v e1 e2 => p i v (by
        show (if A.contains i = true then none else vs[i]?) = some v
        rw [show A.contains i = false by simpa using e2, if_neg Bool.false_ne_true]; exact e1))
      rw [hv] at this
      exact this
    refine ⟨sp0 ps.length N.length ts, F0, L, fnEnd ps.length A Q0 X0, ⟨oe, S0.nd, S0.dj, S0.dom⟩, pinOk, hw, fun ev' σ' F' H' L' q x S' p' => ?_, fun t ev' v σ' F' H' L' q x S' p' => ?_, fun ev' σ' F' H' L' q => q.elim, fun ev' σ' F' H' L' q => q.elim, fun C ev' σ' F' H' L' q x S' p' => ?_⟩
    · obtain ⟨M, r, s⟩ := back S'.own p'
      have mem : ∀ a ∈ M, a ∈ L' := fun a m => Sub.mem (A := M) (B := L') s m
      exact k1 .non _ .non F' H' ([] ++ M) q (x.sub (fun _ m => m) fun a m => .inl (mem a m)) ⟨⟨.non, vs.map some, [], M, rfl, rfl, ⟨rfl, rfl⟩, r⟩, fun a => Nat.le_trans (s a) (S'.nd a), fun a m => S'.dj a (mem a m), S'.dom⟩
    · obtain ⟨v', σ'', M1, M2, e, el, o, oe'⟩ := id S'.own
      cases e
      obtain ⟨M, r, s⟩ := back oe' p'
      have sub : ∀ a : Nat, (M1 ++ M).count a ≤ L'.count a := fun a => by have := s a; rw [el, List.count_append, List.count_append]; omega
      have mem : ∀ a ∈ M1 ++ M, a ∈ L' := fun a m => Sub.mem (A := M1 ++ M) (B := L') sub m
      exact k1 t _ v F' H' (M1 ++ M) q (x.sub (fun _ m => m) fun a m => .inl (mem a m)) ⟨⟨v, vs.map some, M1, M, rfl, rfl, o, r⟩, fun a => Nat.le_trans (sub a) (S'.nd a), fun a m => S'.dj a (mem a m), S'.dom⟩
    · obtain ⟨M, r, s⟩ := back S'.own p'
      have mem : ∀ a ∈ M, a ∈ L' := fun a m => Sub.mem (A := M) (B := L') s m
      exact k2 C _ F' H' M q (x.sub (fun _ m => m) fun a m => .inl (mem a m)) ⟨r, fun a => Nat.le_trans (s a) (S'.nd a), fun a m => S'.dj a (mem a m), S'.dom⟩
/-- the def by its name -/
structure FnTG (P : Program) (w : World) (K : PySem.W.Frag) (mg : Str → Option Value) (base : Heap) (k : Nat) (x : Str) (ps : List Str) (S : SpT) : Prop where
  ex : ∃ f fd, FnOkG P w K mg base k f fd ps (spT K S) ∧ mg x = some (.ref f) ∧ PySem.W.keepIn K (.ref f) = true ∧ Binds K fd ps []
theorem fn_ofG {x : Str} {st : Stmt} {N : List Str} {S0 : SpT} {A : List Nat} {wb : WS} (R : Rdy K mg x st ps) (S : FnScope N ps (defScope st)) (h : ∀ ts Q X, S0 ts Q X → spW ps.length N.length A wb ts Q X)
    (hbody : ∀ (f : Addr) (cdv : Value) (Ar : Around) (outer : List Env) (s : Shared) (H : Hp) (E : XK), Ar.guards = some [] → Room k (Ar.deeper (envOfC x (defScope st) s.heap.objs.size f cdv)) →
      Takes (cxT P w K mg base N x st f cdv Ar outer s H E) (fun cls d _ H => E cls d H) → DSs (cxT P w K mg base N x st f cdv Ar outer s H E) (fun cls d _ H => E cls d H) A (defBody st) wb)
    (hl : ps.length ≤ N.length := by decide) : FnTG P w K mg base (k + 1) x ps S0 :=
  let ⟨f, fd, F, hm, hk, hb⟩ := R.ex
  ⟨f, fd, (fn_TG F S (hbody f) hl).imp (spT_imp h), hm, hk, hb⟩
theorem fn_ofFG {x : Str} {st : Stmt} {f : Addr} {fd : FuncData} {N : List Str} {S0 : SpT} {A : List Nat} {wb : WS} (F : Fun K x x st f fd) (S : FnScope N ps (defScope st)) (h : ∀ ts Q X, S0 ts Q X → spW ps.length N.length A wb ts Q X)
    (hbody : ∀ (cdv : Value) (Ar : Around) (outer : List Env) (s : Shared) (H : Hp) (E : XK), Ar.guards = some [] → Room k (Ar.deeper (envOfC x (defScope st) s.heap.objs.size f cdv)) →
      Takes (cxT P w K mg base N x st f cdv Ar outer s H E) (fun cls d _ H => E cls d H) → DSs (cxT P w K mg base N x st f cdv Ar outer s H E) (fun cls d _ H => E cls d H) A (defBody st) wb)
    (hl : ps.length ≤ N.length := by decide) : FnOkG P w K mg base (k + 1) f fd ps (spT K S0) := (fn_TG F S hbody hl).imp (spT_imp h)
end
/-! ### calls of such -/
section
variable {X : Cx} {W : WX} {e : Expr} {pos p : Pos}
theorem de_fnG {k : Nat} {x : Str} {ps : List Str} {S : SpT} {es : List Expr} {as : List Arg} (G : FnTG X.prog X.w X.K X.mg X.base k x ps S) (gd : X.A.guards = some []) (hr : Room k X.A) (tk : Takes X W) (ha : DA X W (e :: es) as) (hg : Gl X x := by rfl) (hdb : (x == ("__debug__" : Str)) = false := by decide)
    (he : starEach (e :: es) X.env = (false, eval e X.env) :: starEach es X.env := by rfl) (hpl : (backTo pos (starEach es X.env)).any (·.1) = false := by rfl) : DE X W (.Call (.Name x p) (e :: es) [] pos) (wOp S as) := by
  obtain ⟨f, fd, F, hm, hk, hb⟩ := G.ex
  refine DE.fn ⟨fun pins s σ H Q I h => ?_⟩
  refine wpAny_Call_Name_kw (ld_glob I hg hm ?_ hdb)
  have la := ha.run pos pins s σ H _ I h
  refine PySem.W.callWith_K (h₀ := X.base) I.ok.mod.kin hk (thn la fun us s1 ⟨vs, H1, I1, r, q⟩ => ⟨I1.kIn, ?_⟩) he hpl
  have hl : us.length = ps.length := r.length.symm.trans (F.len _ _ _ _ q)
  have b := hb s1 us I1.kIn (by rw [List.append_nil]; exact hl)
  rw [List.append_nil] at b
  have pa := passAt tk σ
  refine wpAny_call (codeAny_mono (F.go X.A X.stack s1 H1 ⟨us, []⟩ us vs Q _ gd hr I1.env0 b r q) ?_)
  intro rr s' hq
  match rr, hq with
  | .error e, hq => exact pa pins H1 s1 e s' I1 hq
  | .ok (.ret u), hq => exact I1.after hq
  | .ok .next, hq => exact False.elim hq
  | .ok .brk, hq => exact False.elim hq
  | .ok .cont, hq => exact False.elim hq
end
/-! ### the law's end -/
theorem law_callG {P : Program} {w : World} {K : PySem.W.Frag} {mg mb : Str → Option Value} {k : Nat} {fa a : Addr} {fd : FuncData} {x : Str} {sp : Sp} {s₁ : Shared} {vs : List Value} {ns : List Int}
    (KX : K.In s₁.heap) (hns : s₁.heap.Ns mainGlobals mg) (hb : s₁.heap.Ns builtinsNs mb) (hbb : ∀ x : Str, x ≠ "__name__" → mb x = bootBuiltins x) (hlim : s₁.heap.NoLimit) (hg : s₁.gens = #[])
    (ha : s₁.heap.get? a = some { cls := .type "list", data := .seq vs.toArray }) (hi : IntsAre vs ns) (hl : ns.length ≤ sizeLine) (hr : Room k callerA)
    (F : ∀ base : Heap, K.In base → base.Ns mainGlobals mg → FnOkG P w K mg base k fa fd [x] sp) (hbind : ∀ (s : Shared) (u : Value), BindsTo s fd ⟨[u], []⟩ [(x, u)])
    (hsp : ∀ H : Hp, Only H → SqL K H a (ns.map V.int) → sp [.ref a] H (fun v _ => v = .bl true) fun _ _ _ => False)
    (hCX : ∀ H e s', L2.CX P w [] H s₁ (fun _ _ _ => False) e s' → False) :
    codeAny (model P w) callerA (.call (.ref fa) ⟨[.ref a], []⟩) (fun r s' => r = .ok (.ret (.bool true)) ∧ OldK s₁.heap s'.heap ∧ s'.os = s₁.os ∧ AllBare s'.gens) s₁ := by
  have rv := vals_ints hi
  have lenV := hi.length
  have core : ∀ H : Hp, Only H → SqL K H a (ns.map V.int) → HOk P w H s₁.heap → (∀ b, H b ≠ none → b = a) → (H a ≠ none → K.lookup a = none) →
      codeAny (model P w) callerA (.call (.ref fa) ⟨[.ref a], []⟩) (fun r s' => r = .ok (.ret (.bool true)) ∧ OldK s₁.heap s'.heap ∧ s'.os = s₁.os ∧ AllBare s'.gens) s₁ := by
    intro H hO hS hok hA hK
    have at_a : ∀ {b : Addr}, H b ≠ none → b = a := fun {b} h => hA b h
    have noA : ∀ {b : Addr} {o : Obj} {es : Array DictEntry} {ep : Nat}, s₁.heap.get? b = some o → o.data = .dict es ep → H b = none := by
      intro b o es ep e d
      refine Classical.byContradiction fun q => ?_
      have eb := at_a q
      rw [eb, ha] at e
      cases e
      exact nomatch (show Data.seq vs.toArray _ = Data.dict es ep from d)
    have kb : K.In (hidT s₁.heap H) := by
      intro b o e
      refine hidT_get (KX b o e) (Classical.byContradiction fun q => ?_)
      have eb := at_a q
      rw [eb] at q e
      rw [hK q] at e
      cases e
    have nsb : ∀ {b : Addr} {m : Str → Option Value}, s₁.heap.Ns b m → (hidT s₁.heap H).Ns b m := by
      rintro b m ⟨o, es, ep, e, d, r⟩
      exact ⟨o, es, ep, hidT_get e (noA e d), d, r⟩
    have mb1 : Mod K mg (hidT s₁.heap H) := ⟨kb, nsb hns, ⟨mb, nsb hb, hbb⟩, hlim.imp fun mc z => ⟨nsb z.1, z.2⟩⟩
    have e0 : Env0 P w K mg (hidT s₁.heap H) callerA [] s₁ H := by
      refine ⟨rfl, mb1, fun b o e => of_hidT e, Nat.le_of_eq (hidT_size _ _), trivial, ?_, hok, .of_eq hg⟩
      intro b hb
      exact nomatch (show b ∈ ([] : List Addr) from hb)
    refine codeAny_mono ((F _ kb (nsb hns)).go callerA [] s₁ H ⟨[.ref a], []⟩ [.ref a] [.ref a] _ _ rfl hr e0 (hbind s₁ (.ref a)) (.cons rfl .nil) (hsp H hO hS)) ?_
    intro r s' h
    match r, h with
    | .error e, h => exact (hCX H e s' h).elim
    | .ok .next, h => exact False.elim h
    | .ok .brk, h => exact False.elim h
    | .ok .cont, h => exact False.elim h
    | .ok (.ret u), h =>
      obtain ⟨v, H', os, bare, un, hok', r', q⟩ := h
      have q1 : v = .bl true := q
      rw [q1] at r'
      have eu : u = Value.bool true := r'
      rw [eu]
      refine ⟨rfl, OldK.of_keep ?_, os, bare⟩
      intro b o e
      rcases hO b with z | ⟨ob, xs, z⟩
      · exact un.keep b o e z (fun m => nomatch (show b ∈ ([] : List Addr) from m)) (fun m => nomatch m)
      · have z1 := (hok b _ z).1
        have z2 := (hok' b _ (un.frzs b ob _ z)).1
        rw [e] at z1
        cases z1
        exact z2
  by_cases hk : K.lookup a = none
  · refine core (fun b => if b = a then some (.frz { cls := .type "list", data := .seq vs.toArray } (.lst (ns.map V.int))) else none) (fun b => ?_) (.inl (.inr ⟨_, if_pos rfl⟩)) (fun b u z => ?_) (fun b z => ?_) fun _ => hk
    · by_cases hb : b = a
      · exact .inr ⟨_, _, if_pos hb⟩
      · exact .inl (if_neg hb)
    · by_cases hb : b = a
      · have z' := (if_pos hb).symm.trans z
        cases z'
        subst hb
        exact ⟨ha, by rw [List.length_map]; exact hl, vs, _, rv, ha⟩
      · exact nomatch ((if_neg hb).symm.trans z)
    · by_cases hb : b = a
      · exact hb
      · exact absurd (if_neg hb) z
  · obtain ⟨o, ho⟩ := Option.ne_none_iff_exists'.mp hk
    have e := KX a o ho
    rw [ha] at e
    cases e
    refine core (fun _ => none) (fun _ => .inl rfl) (.inr ⟨_, vs.toArray, _, ho, rfl, rfl, rfl, ?_, ?_⟩) (fun b u z => ?_) (fun b z => absurd rfl z) fun z => absurd rfl z
    · rw [List.size_toArray, lenV]; exact hl
    · simpa using rv
    · exact nomatch (show (none : Option HO) = some u from z)
theorem walk_ofG {l : PySem.W.OpenLaw} {n k : Nat} {q : Program} {loose : List Str} {XP : (Str → Option Value) → Heap → Prop} {YP : World → Heap → Prop} {d : DefRec} {K : Params → PySem.W.Frag} {sp : World → Sp} {x : Str}
    (hn : l.most = some n) (hn2 : n ≤ sizeLine) (hdf : d.params.defaults = []) (hr : Room k callerA)
    (hY : ∀ (w : World) (h : Heap), YP w h → (K w.params).In h)
    (F : ∀ (w : World) (mg : Str → Option Value) (fa : Addr) (h : Heap), (K w.params).In h → h.Ns mainGlobals mg → mg d.name = some (.ref fa) →
      ∃ fd : FuncData, (∀ (s : Shared) (u : Value), BindsTo s fd ⟨[u], []⟩ [(x, u)]) ∧
        ∀ base : Heap, (K w.params).In base → base.Ns mainGlobals mg → FnOkG l.prog w (K w.params) mg base k fa fd [x] (sp w))
    (hsp : ∀ (w : World) (H : Hp) (a : Addr) (ns : List Int), ns.length ≤ n → (∀ z ∈ ns, Builtin.Int.intBits z ≤ 1048576) → Only H → SqL (K w.params) H a (ns.map V.int) → sp w [.ref a] H (fun v _ => v = .bl true) fun _ _ _ => False)
    (hCX : ∀ (w : World) (H : Hp) (s : Shared) (e : Value) (s' : Shared), L2.CX l.prog w [] H s (fun _ _ _ => False) e s' → False) :
    PySem.W.WalkO q loose XP YP l.row.toRowW d [] (fun f vs => PySem.call f vs) := by
  apply Att.attach_callB hn hdf
  intro w s₀ s₁ mg mb fa o pm cd doc a vs ns G Y ho hd hcd hmg hobj hints hlen hbits hg
  obtain ⟨fd, hb, hF⟩ := F w mg fa _ (hY w _ Y) G.T.g hmg
  refine law_callG (hY w _ Y) G.T.g G.T.b G.T.builtins G.T.nolimit hg hobj hints (Nat.le_trans hlen hn2) hr hF hb ?_ ?_
  · intro H hO hS
    exact hsp w H a ns hlen hbits hO hS
  · intro H e s'
    exact hCX w H s₁ e s'
end TL

/-! TL41: repr. -/
namespace TL
open PySem PySem.Spec PyProof.Rows L2
/-- what repr answers of a value -/
def ShwV (K : PySem.W.Frag) (H : Hp) (x : V) (y : Str) : Prop :=
  (∃ d, Dp K H x d ∧ SeqAt.shaped d = true ∧ d.showable = true ∧ d.shown.length ≤ sizeLine ∧ y = d.shown) ∨ (∃ a, x = .ref a ∧ Rd H a (.dK []) ∧ y = PyData.shown (.dict []))
def rRepr (K : PySem.W.Frag) : List V → Hp → VK → Prop := fun xs H Q => ∃ x y, xs = [x] ∧ ShwV K H x y ∧ Q (.str y) H
theorem cr_repr {X : Cx} (gd : X.A.guards = some []) (hu : X.A.units + 66 < cLine) : CallR X (.builtin "repr") (rRepr X.K) := by
  intro pins s σ H xs us Q I r h
  obtain ⟨x, y, rfl, h, q⟩ := h
  obtain ⟨u, rfl, ru⟩ := vals1 r
  rcases h with ⟨d, hd, sd, sh, sz, rfl⟩ | ⟨a, rfl, ha, rfl⟩
  · obtain ⟨as, r1⟩ := Dp.reads I d x u hd ru
    have nd := PyData.hasDict_of_canLay d (SeqAt.canLay_of_shaped sd)
    have dep : d.depth ≤ 64 := by
      have h2 := sd
      unfold SeqAt.shaped at h2
      rw [Bool.and_eq_true] at h2
      exact of_decide_eq_true h2.2
    have fin : ∀ {v : Value}, (∃ a, v = .ref a) → RelV x v → Reads s.heap v d as → wpAny (model X.prog X.w) X.A (call (.builtin "repr") [v]) (EP X pins σ Q) X.xe s := by
      rintro v ⟨a, rfl⟩ rv r1
      refine repr_of_reads' r1 sh (PyData.noDict_hsm nd) gd (by omega) (fun _ _ e => e) (fun h' t tk hk => ?_) sz
      exact ⟨.str d.shown, H, I.kept hk, ⟨t, rfl⟩, q⟩
    cases d with
    | none =>
      cases r1
      exact PySem.P.repr_of_none ⟨.str _, H, I.tok _, ⟨_, rfl⟩, q⟩
    | bool b =>
      cases r1
      refine PySem.P.repr_of_bool ⟨.str _, H, I.tok _, ⟨_, rfl⟩, ?_⟩
      cases b <;> exact q
    | int i =>
      cases r1
      exact PySem.P.repr_of_int (of_decide_eq_true sh) ⟨.str _, H, I.tok _, ⟨_, rfl⟩, q⟩
    | str z =>
      cases r1
      exact PySem.P.repr_of_str ⟨.str _, H, I.tok _, ⟨_, rfl⟩, q⟩ sz
    | list ds => exact fin (by cases r1; exact ⟨_, rfl⟩) ru r1
    | tuple ds => exact fin (by cases r1; exact ⟨_, rfl⟩) ru r1
    | dict kvs => cases nd
  · obtain ⟨_, ns, vs, kv, o, es, ep, h1, h2, h3, h4, h5, h6⟩ := dk_rd I.hok ha
    have eu : u = Value.ref a := ru
    subst eu
    cases kv
    cases es with
    | mk l =>
      have h5' : Pairs (mixKind X.prog X.w) l [] := h5
      cases h5'
      have r1 : Reads s.heap (.ref a) (.dict []) (a :: ([] : List Addr) ++ []) := .dict h1 h2.1 h3 .nil .nil
      have hd0 : (PyData.dict []).depth ≤ 60 := by decide +kernel
      have hd1 : X.A.units + ((PyData.dict []).depth + 1) < cLine := by omega
      refine repr_of_reads' r1 rfl (fun _ hm => ?_) gd hd1 (fun _ _ e => e) (fun h' t tk hk => ?_) (by decide +kernel)
      · have e : sysModules = a := by simpa using hm
        rw [e] at ns
        simp at ns
      · exact ⟨.str _, H, I.kept hk, ⟨t, rfl⟩, q⟩
/-- .. of a tree -/
def T.Shw (t : T) (y : Str) : Prop := (SeqAt.shaped t.D = true ∧ t.D.showable = true ∧ t.D.shown.length ≤ sizeLine ∧ y = t.D.shown) ∨ ((t = .dk [] [] ∨ t = .fz (.dk [] [])) ∧ y = PyData.shown (.dict []))
def sRepr : SpT := fun ts Q _ => ∃ t y, ts = [t] ∧ t.Shw y ∧ Q (.str y) [some t]
theorem br_repr {K : PySem.W.Frag} : BrL K sRepr (rRepr K) := fun vs H Q E ⟨ts, F, L, Q0, X0, S, ⟨t, y, e, h, q⟩, k, _⟩ => by
  subst e
  obtain ⟨v, e1, o⟩ := S.own.one'
  subst e1
  refine ⟨v, y, rfl, ?_, k _ _ _ F H L q Ext.refl (S.ret ⟨rfl, rfl⟩)⟩
  rcases h with ⟨h1, h2, h3, h4⟩ | ⟨rfl | rfl, h4⟩
  · exact .inl ⟨_, o.dp (SeqAt.canLay_of_shaped h1), h1, h2, h3, h4⟩
  · obtain ⟨a, vs, L', ea, _, ha, hl, r⟩ := o
    obtain ⟨rfl, _⟩ := r
    exact .inr ⟨a, ea, .inl ha, h4⟩
  · obtain ⟨_, a, vs, ea, _, ha, hl, r⟩ := o
    have r : vs = [] := r
    subst r
    exact .inr ⟨a, ea, ha, h4⟩
section
variable {X : Cx} {W : WX} {e : Expr} {oa : Arg} {pos p : Pos}
theorem hu66 {A : Around} {k : Nat} (hr : Room k A) : A.units + 66 < cLine := by have := hr.un; omega
theorem de_repr (gd : X.A.guards = some []) (hu : X.A.units + 66 < cLine) (hg : Gl X "repr") (hm : X.mg "repr" = none) (h : DO X W e oa) (he : starEach [e] X.env = (false, eval e X.env) :: starEach [] X.env := by rfl) : DE X W (.Call (.Name "repr" p) [e] [] pos) (wOp sRepr [oa]) :=
  DE.call (pe_callB (cr_repr gd hu) hg hm (by decide +kernel) (da_cons (as := []) h da_nil he) (by decide) (by decide) he) br_repr
end
theorem p_repr {ev : Ev} {a : Arg} {t : T} {y : Str} (ha : PO a ev t) (h : t.Shw y) : Pure (wOp sRepr [a]) ev (.str y) := op1 ha fun _ _ q => ⟨t, y, rfl, h, q⟩
/-! ### texts of values: short ones, of known signs -/
theorem strOk_app {x y : Str} (hx : PyData.strOk x = true) (hy : PyData.strOk y = true) : PyData.strOk (x ++ y) = true := by
  unfold PyData.strOk at *
  show (x.cps ++ y.cps).all _ = true
  rw [Array.all_append, hx, hy]; rfl
theorem strOk_ofString (s : String) : PyData.strOk (Str.ofString s) = true := by
  unfold PyData.strOk
  rw [Str.ofString_eq_toList]
  simp only [List.all_toArray, List.all_map, List.all_eq_true]
  intro c hc
  exact decide_eq_true (by
    have := c.valid
    show c.val.toNat < 0x110000
    rcases this with h | h
    · have h' : c.val.toNat < 0xd800 := h
      omega
    · exact h.2)
/-- a value whose text has at most B signs -/
structure Sho (t : T) (B : Nat) : Prop where
  lay : t.D.canLay0 = true
  dep : t.D.depth ≤ 20
  shb : t.D.showable = true
  len : t.D.shown.length ≤ B
  ok : PyData.strOk t.D.shown = true
theorem Sho.mono {t : T} {B C : Nat} (h : Sho t B) (k : B ≤ C) : Sho t C := ⟨h.lay, h.dep, h.shb, Nat.le_trans h.len k, h.ok⟩
theorem Sho.shaped {t : T} {B : Nat} (h : Sho t B) : SeqAt.shaped t.D = true := by
  unfold SeqAt.shaped
  rw [h.lay, decide_eq_true (show t.D.depth ≤ 64 from Nat.le_trans h.dep (by decide))]; rfl
theorem Sho.shw {t : T} {B : Nat} (h : Sho t B) (k : B ≤ 16777216) : t.Shw t.D.shown := .inl ⟨h.shaped, h.shb, by rw [sizeLine_eq]; exact Nat.le_trans h.len k, rfl⟩
theorem Sho.okD {t : T} {B : Nat} (h : Sho t B) (s : t.shr = true) : OkD t := ⟨h.lay, Nat.le_trans h.dep (by decide), s⟩
theorem Sho.strG {t : T} {B : Nat} (h : Sho t B) : StrG t.D.shown := by
  unfold StrG SeqAt.shaped
  rw [show (T.str t.D.shown).D = .str t.D.shown from rfl, show PyData.canLay0 (.str t.D.shown) = PyData.strOk t.D.shown from rfl, h.ok]
  rfl
theorem log2_lt {i : Int} (h0 : -(10 ^ 40) < i) (h1 : i < 10 ^ 40) : i.natAbs.log2 < 1920 := by
  by_cases z : i.natAbs = 0
  · rw [z]; decide
  · rw [Nat.log2_lt z]
    have : i.natAbs < 10 ^ 40 := by omega
    exact Nat.lt_of_lt_of_le this (by decide +kernel)
theorem int_dep {i : Int} : (T.int i).D.depth = 0 := by rw [D_int]; simp only [PyData.depth]
theorem Sho.int {i : Int} (h0 : -(10 ^ 40) < i) (h1 : i < 10 ^ 40) : Sho (.int i) 41 := by
  have e : (T.int i).D.shown = Str.ofString (toString i) := rfl
  refine ⟨rfl, Nat.le_trans (Nat.le_of_eq int_dep) (by decide), decide_eq_true (log2_lt h0 h1), ?_, by rw [e]; exact strOk_ofString _⟩
  rw [e, PySem.ofString_length]
  exact int_text_length_le10 (k := 40) (by decide) (by omega)
theorem Sho.non : Sho .non 4 := ⟨rfl, by decide +kernel, rfl, by decide +kernel, by decide +kernel⟩
theorem Sho.bl {b : Bool} : Sho (.bl b) 5 := by cases b <;> exact ⟨rfl, by decide +kernel, rfl, by decide +kernel, by decide +kernel⟩
theorem Sho.fz {t : T} {B : Nat} (h : Sho t B) : Sho (.fz t) B := ⟨h.lay, h.dep, h.shb, h.len, h.ok⟩
theorem textFrom_ok : ∀ (ts : List Str) (k : Nat) (acc : Str), (∀ t ∈ ts, PyData.strOk t = true) → PyData.strOk acc = true → PyData.strOk (textFrom k acc ts) = true
  | [], _, _, _, h => h
  | t :: ts, k, acc, h, ha => by
    refine textFrom_ok ts (k + 1) _ (fun u hu => h u (List.mem_cons_of_mem _ hu)) (strOk_app (strOk_app ha ?_) (h t List.mem_cons_self))
    split <;> exact strOk_ofString _
theorem join_ok {sep : Str} (hs : PyData.strOk sep = true) : ∀ (ts : List Str), (∀ t ∈ ts, PyData.strOk t = true) → PyData.strOk (Str.join sep ts) = true
  | [], _ => by with_unfolding_all rfl
  | [x], h => h x List.mem_cons_self
  | x :: y :: r, h => strOk_app (strOk_app (h x List.mem_cons_self) hs) (join_ok hs (y :: r) fun t ht => h t (List.mem_cons_of_mem _ ht))
theorem shownAll_map : ∀ ds : List PyData, PyData.shownAll ds = ds.map PyData.shown
  | [] => rfl
  | d :: ds => by rw [PyData.shownAll, shownAll_map ds]; rfl
theorem piled_le {ts : List Str} {B : Nat} (h : ∀ t ∈ ts, t.length ≤ B) : piled ts ≤ ts.length * (B + 2) := by
  induction ts with
  | nil => exact Nat.zero_le _
  | cons t r ih =>
    rw [piled_cons]
    have h1 := h t List.mem_cons_self
    have h2 := ih fun u hu => h u (List.mem_cons_of_mem _ hu)
    rw [List.length_cons, Nat.succ_mul]; omega
theorem listText_le {ts : List Str} {B : Nat} (h : ∀ t ∈ ts, t.length ≤ B) : (listText ts).length ≤ ts.length * (B + 2) + 2 := by
  cases ts with
  | nil => exact Nat.le_trans (show (listText []).length ≤ 2 by decide +kernel) (Nat.le_add_left _ _)
  | cons t r =>
    have e : (listText (t :: r)).length = ((("[" : Str) ++ (if 0 > 0 then ", " else "" : String) ++ t).length + piled r) + 1 := by
      show (textFrom 1 _ r ++ ("]" : Str)).length = _
      rw [strLen_append, textFrom_length_pos r 1 _ (by decide)]; rfl
    rw [e, strLen_append, strLen_append]
    have h1 := h t List.mem_cons_self
    have h2 := piled_le (ts := r) (B := B) fun u hu => h u (List.mem_cons_of_mem _ hu)
    rw [List.length_cons, Nat.succ_mul]
    have e1 : ((Str.ofString "[") : Str).length = 1 := rfl
    have e2 : (Str.ofString (if 0 > 0 then ", " else "" : String)).length = 0 := rfl
    have e3 : (("[" : Str)).length = 1 := rfl
    omega
theorem tupleText_le {ts : List Str} {B : Nat} (h : ∀ t ∈ ts, t.length ≤ B) : (tupleText ts).length ≤ ts.length * (B + 2) + 3 := by
  unfold tupleText
  rw [strLen_append, strLen_append]
  have h0 : (Str.join ", " ts).length ≤ ts.length * (B + 2) := by
    by_cases z : ts = []
    · rw [z]; exact Nat.zero_le _
    · have := join_length_add ts z
      have := piled_le h
      omega
  have e1 : (("(" : Str)).length = 1 := rfl
  have e2 : (Str.ofString (if (ts.length == 1) = true then ",)" else ")" : String)).length ≤ 2 := by split <;> decide
  omega
theorem Shos {xs : List T} {B : Nat} (h : ∀ x ∈ xs, Sho x B ∧ x.D.depth ≤ 10) : PyData.canLayAll0 (T.Ds xs) = true ∧ PyData.depthAll (T.Ds xs) ≤ 10 ∧ PyData.showableAll (T.Ds xs) = true ∧ (∀ t ∈ PyData.shownAll (T.Ds xs), t.length ≤ B ∧ PyData.strOk t = true) ∧ (PyData.shownAll (T.Ds xs)).length = xs.length := by
  induction xs with
  | nil => exact ⟨rfl, by decide +kernel, rfl, fun _ h => (nomatch h), rfl⟩
  | cons x r ih =>
    obtain ⟨a, b, c, d, e⟩ := ih fun y hy => h y (List.mem_cons_of_mem _ hy)
    obtain ⟨hx, hd⟩ := h x List.mem_cons_self
    refine ⟨?_, ?_, ?_, ?_, ?_⟩
    · show (x.D.canLay0 && PyData.canLayAll0 (T.Ds r)) = true
      rw [hx.lay, a]; rfl
    · simp only [T.Ds, PyData.depthAll]; omega
    · show (x.D.showable && PyData.showableAll (T.Ds r)) = true
      rw [hx.shb, c]; rfl
    · intro t ht
      rcases List.mem_cons.mp (show t ∈ x.D.shown :: PyData.shownAll (T.Ds r) from ht) with rfl | ht
      · exact ⟨hx.len, hx.ok⟩
      · exact d t ht
    · show (x.D.shown :: PyData.shownAll (T.Ds r)).length = _
      rw [List.length_cons, List.length_cons, e]
theorem Sho.lst {xs : List T} {B : Nat} (h : ∀ x ∈ xs, Sho x B ∧ x.D.depth ≤ 10) : Sho (.lst xs) (xs.length * (B + 2) + 2) := by
  obtain ⟨a, b, c, d, e⟩ := Shos h
  refine ⟨a, ?_, c, ?_, ?_⟩
  · show (PyData.list (T.Ds xs)).depth ≤ 20
    simp only [PyData.depth]; omega
  · have := listText_le (B := B) fun t ht => (d t ht).1
    rw [e] at this; exact this
  · exact strOk_app (textFrom_ok _ _ _ (fun t ht => (d t ht).2) (strOk_ofString _)) (strOk_ofString _)
theorem Sho.tup {xs : List T} {B : Nat} (h : ∀ x ∈ xs, Sho x B ∧ x.D.depth ≤ 10) : Sho (.tup xs) (xs.length * (B + 2) + 3) := by
  obtain ⟨a, b, c, d, e⟩ := Shos h
  refine ⟨a, ?_, c, ?_, ?_⟩
  · show (PyData.tuple (T.Ds xs)).depth ≤ 20
    simp only [PyData.depth]; omega
  · have := tupleText_le (B := B) fun t ht => (d t ht).1
    rw [e] at this; exact this
  · exact strOk_app (strOk_app (strOk_ofString _) (join_ok (strOk_ofString _) _ fun t ht => (d t ht).2)) (strOk_ofString _)
theorem Sho.ints {ns : List Int} (h : ∀ i ∈ ns, -(10 ^ 40) < i ∧ i < 10 ^ 40) : Sho (.lst (ns.map T.int)) (ns.length * 43 + 2) := by
  have := Sho.lst (xs := ns.map T.int) (B := 41) fun x hx => by
    obtain ⟨i, hi, rfl⟩ := List.mem_map.mp hx
    exact ⟨Sho.int (h i hi).1 (h i hi).2, Nat.le_trans (Nat.le_of_eq int_dep) (by decide)⟩
  rw [List.length_map] at this
  exact this
end TL

/-! TL42: things that are no rearrangements. -/
namespace TL
open PySem PySem.Spec PyProof.Rows L2
/-- no whole number, by its type -/
def oddT (t : T) : Bool := match t.pyTy with
  | some k => !isI k "int" || isI k "bool"
  | none => true
/-- what may stand in a list that is handed in -/
def Itm (t : T) : Prop := OkD t ∧ ∃ k, t.pyTy = some k
inductive Odd : T → Prop
  | ty {t : T} {k : String} : t.pyTy = some k → isI k "list" = false → Odd t
  | items {xs ys : List T} : xs.map T.frz = ys → (∀ x ∈ ys, Itm x) → (∃ x ∈ ys, oddT x = true) → ys.length ≤ 16777216 → Odd (.fz (.lst xs))
/-- ns, or none at all -/
def IsT (t : T) (ns : List Int) : Prop := IsL t ns ∨ (Odd t ∧ turnB ns = false)
theorem IsL.T {t : T} {ns : List Int} (h : IsL t ns) : IsT t ns := .inl h
theorem IsT.isL {t : T} {ns : List Int} (h : IsT t ns) (hb : turnB ns = true) : IsL t ns := h.elim id fun z => by rw [z.2] at hb; cases hb
theorem Odd.isT {t : T} (h : Odd t) : IsT t [1] := .inr ⟨h, by decide +kernel⟩
theorem frz_itm {xs : List T} (h : ∀ x ∈ xs, Itm x) : xs.map T.frz = xs := by
  have := List.map_congr_left (l := xs) (f := T.frz) (g := id) fun x hx => T.frz_of (h x hx).1.2.2
  rw [this, List.map_id]
theorem oddT_of {t : T} {k : String} (h : t.pyTy = some k) : oddT t = (!isI k "int" || isI k "bool") := by unfold oddT; rw [h]
/-- the comprehension that finds what is no whole number, in a list of anything -/
theorem p_oddX {ev : Ev} {x y : Nat} {t : T} {xs : List T} (hx : ev[x]? = some (some t)) (hk : t.kids = some xs) (hq : t.isSeq false = true) (h : ∀ z ∈ xs, Itm z) (hl : xs.length ≤ 16777216) (hy : ev[y]? = some none) (hxy : (x != y) = true) :
    Pure (wLc (wList false (.pl x)) (gN y) (wOr (wNot (wTst (wOp sIsi [.pl y, .vl (wC (.ty "int"))]))) (wTst (wOp sIsi [.pl y, .vl (wC (.ty "bool"))]))) (wV y) [y]) ev (.lst (xs.filter oddT)) := fun Q X q => by
  have ne : y ≠ x := fun e => by simp [e] at hxy
  have hl2 := (List.getElem?_eq_some_iff.mp hy).1
  refine lc_list hx hk hq (by simp [hy, shrO]) hl (fun k acc ev' => acc = (xs.take k).filter oddT ∧ ev' = ev) ⟨rfl, wipe1 hy⟩ (fun k acc ev' _ e => by rw [e.2]; exact hx) (fun k acc ev' hk e => ?_) (fun acc ev' e => ?_)
  · obtain ⟨rfl, rfl⟩ := e
    have hz : xs[k]? = some (xs.getD k .non) := by rw [List.getD_eq_getElem?_getD, List.getElem?_eq_getElem hk]; rfl
    have hm : xs.getD k .non ∈ xs := by
      obtain ⟨h1, h2⟩ := List.getElem?_eq_some_iff.mp hz
      rw [← h2]; exact List.getElem_mem h1
    have htk : xs.take (k + 1) = xs.take k ++ [xs.getD k .non] := by rw [List.take_add_one, hz]; rfl
    obtain ⟨⟨_, _, hs⟩, m, hty⟩ := h _ hm
    rw [htk, List.filter_append]
    generalize xs.getD k .non = z at *
    refine ⟨hl2, ?_⟩
    have g : (ev'.set y (some z))[y]? = some (some z) := by rw [List.getElem?_set_self hl2]
    have p1 : Pure (wOp sIsi [.pl y, .vl (wC (.ty "int"))]) (ev'.set y (some z)) (.bl (isI m "int")) := p_isi rfl (PO.pl g) (PO.vl Pure.c) hty (by decide)
    have p2 : Pure (wOp sIsi [.pl y, .vl (wC (.ty "bool"))]) (ev'.set y (some z)) (.bl (isI m "bool")) := p_isi rfl (PO.pl g) (PO.vl Pure.c) hty (by decide)
    refine (PureT.or (PureT.not (PureT.tst p1)) fun _ => PureT.tst p2) _ _ ?_
    have ho := oddT_of hty
    have wp : wipeE (ev'.set y (some z)) [y] = ev' := by
      show (ev'.set y _).set y none = ev'
      rw [List.set_set]; exact wipe1 hy
    cases hc : (!isI m "int" || isI m "bool") with
    | true =>
      rw [hc] at ho
      rw [if_pos rfl]
      refine ⟨z, g, ?_⟩
      rw [T.frz_of hs, List.set_set, List.filter_cons_of_pos ho]
      exact ⟨rfl, wp⟩
    | false =>
      rw [hc] at ho
      rw [if_neg Bool.false_ne_true, List.filter_cons_of_neg (by rw [ho]; exact Bool.false_ne_true)]
      exact ⟨by rw [List.filter_nil, List.append_nil], wp⟩
  · obtain ⟨rfl, rfl⟩ := e
    rw [List.take_of_length_le (Nat.le_refl _)]
    show Q (.lst _) (ev'.set y (ev'[y]?).join)
    rw [hy]
    show Q (.lst _) (ev'.set y none)
    rw [wipe1 hy]; exact q
theorem odd_any {xs : List T} (h : ∃ x ∈ xs, oddT x = true) : (xs.filter oddT).isEmpty = false := by
  obtain ⟨x, hx, ho⟩ := h
  have : x ∈ xs.filter oddT := List.mem_filter.mpr ⟨hx, ho⟩
  cases e : xs.filter oddT with
  | nil => rw [e] at this; cases this
  | cons => rfl
/-! ### .. that can be shown -/
structure Bad (t : T) : Prop where
  shr : t.shr = true
  no : ∃ ns, IsT t ns ∧ ns.length ≤ 16777216 ∧ turnB ns = false
  shw : ∃ y, t.Shw y ∧ StrG y
theorem turnB_no {ns : List Int} (h : ¬ Turn ns) : turnB ns = false := by
  cases e : turnB ns with
  | false => rfl
  | true => exact absurd (turnB_iff.mp e).2 h
theorem Bad.ints {ns : List Int} (hl : ns.length ≤ 4000) (hb : ∀ i ∈ ns, -(10 ^ 40) < i ∧ i < 10 ^ 40) (hn : turnB ns = false) : Bad (.fz (.lst (ns.map T.int))) := by
  have hs := (Sho.ints hb).fz
  exact ⟨rfl, ⟨ns, .inl .fz, by omega, hn⟩, ⟨_, hs.shw (by omega), hs.strG⟩⟩
theorem Bad.items {xs : List T} {B : Nat} (h : ∀ x ∈ xs, Sho x B ∧ x.D.depth ≤ 10 ∧ x.shr = true ∧ ∃ k, x.pyTy = some k) (ho : ∃ x ∈ xs, oddT x = true) (hl : xs.length * (B + 2) + 2 ≤ 16777216) : Bad (.fz (.lst xs)) := by
  have hs := (Sho.lst (xs := xs) (B := B) fun x hx => ⟨(h x hx).1, (h x hx).2.1⟩).fz
  have hll : xs.length ≤ 16777216 := by
    have : xs.length * 1 ≤ xs.length * (B + 2) := Nat.mul_le_mul_left _ (by omega)
    omega
  have hi : ∀ x ∈ xs, Itm x := fun x hx => by
    obtain ⟨a, b, c, d⟩ := h x hx
    exact ⟨a.okD c, d⟩
  exact ⟨rfl, ⟨[1], (Odd.items (frz_itm hi) hi ho hll).isT, by decide, by decide +kernel⟩, ⟨_, hs.shw hl, hs.strG⟩⟩
theorem Bad.ty {t : T} {B : Nat} {k : String} (h : Sho t B) (hB : B ≤ 16777216) (hs : t.shr = true) (hk : t.pyTy = some k) (hl : isI k "list" = false) : Bad t :=
  ⟨hs, ⟨[1], (Odd.ty hk hl).isT, by decide, by decide +kernel⟩, ⟨_, h.shw hB, h.strG⟩⟩
theorem Bad.dict : Bad (.fz (.dk [] [])) := ⟨rfl, ⟨[1], (Odd.ty (k := "dict") rfl (by decide)).isT, by decide, by decide +kernel⟩, ⟨_, .inr ⟨.inr rfl, rfl⟩, by unfold StrG; decide +kernel⟩⟩
theorem Sho.strK {x : Str} {B : Nat} (h1 : PyData.strOk x = true) (h2 : (reprText x).length ≤ B) (h3 : PyData.strOk (reprText x) = true) : Sho (.str x) B := ⟨h1, by show (PyData.str x).depth ≤ 20; simp only [PyData.depth]; omega, rfl, h2, h3⟩
/-! ### is None, as a value -/
section
variable {X : Cx} {W : WX} {a b : Expr} {oa ob : Arg} {pos : Pos}
theorem de_isN (ha : DO X W a oa) (hb : DO X W b ob) (hm : behindInMarks .Is b = false := by first | exact nomark _ | rfl) : DE X W (.Compare a [.Is] [b] pos) (wOp sIsN [oa, ob]) := DE.op2 (pe_cmpR op_isN ha hb hm) br_isN
theorem de_notN (ha : DO X W a oa) (hb : DO X W b ob) (hm : behindInMarks .IsNot b = false := by first | exact nomark _ | rfl) : DE X W (.Compare a [.IsNot] [b] pos) (wOp sNotN [oa, ob]) := DE.op2 (pe_cmpR op_notN ha hb hm) br_notN
theorem de_isB (ha : DO X W a oa) (hb : DO X W b ob) (hm : behindInMarks .Is b = false := by first | exact nomark _ | rfl) : DE X W (.Compare a [.Is] [b] pos) (wOp sIsB [oa, ob]) := DE.op2 (pe_cmpR op_is_bl ha hb hm) br_isB
theorem de_notB (ha : DO X W a oa) (hb : DO X W b ob) (hm : behindInMarks .IsNot b = false := by first | exact nomark _ | rfl) : DE X W (.Compare a [.IsNot] [b] pos) (wOp sNotB [oa, ob]) := DE.op2 (pe_cmpR op_isnot_bl ha hb hm) br_notB
end
end TL

/-! TL43: str(X(text)), X a class of errors; isinstance of several classes; a text repeated. -/
namespace TL
open PySem PySem.Spec PyProof.Rows L2
def sStrX : SpT := fun ts Q _ => ∃ x, ts = [.str x] ∧ Q (.str x) [some (.str x)]
section
variable {X : Cx} {W : WX} {e : Expr} {oa : Arg} {p p2 pos pos2 : Pos}
theorem pe_strX {x : Str} {C : Addr} {ta : TE} (hu : X.A.units + 2 < cLine) (q : XcOk X.K X.mg x C) (hs : PySem.W.findIn X.K (.ref C) "__str__" = some (some (.builtin "BaseException.__str__"))) (hg : Gl X "str") (hm : X.mg "str" = none) (hgx : Gl X x) (he : PE X e ta)
    (na : starEach [e] X.env = (false, eval e X.env) :: starEach [] X.env := by rfl)
    (nb : starEach [Expr.Call (.Name x p2) [e] [] pos2] X.env = (false, eval (.Call (.Name x p2) [e] [] pos2) X.env) :: starEach [] X.env := by rfl) (hdb : (x == ("__debug__" : Str)) = false := by decide) :
    PE X (.Call (.Name "str" p) [.Call (.Name x p2) [e] [] pos2] [] pos) (fun σ H Q => ta σ H fun v H1 => ∃ m, v = .str m ∧ Q (.str m) H1) := by
  refine ⟨fun pins s σ H Q I h => ?_⟩
  refine wpAny_Call_Name_kw (ld_blt I hg hm (show bootBuiltins "str" = some (.type "str") by decide +kernel) ?_ (by decide) (by decide))
  refine PyProof.Rows.callWith_type1 ?_ nb (by rfl)
  rw [nb]
  refine Calls.spliced_cons ?_
  refine wpAny_Call_Name_kw (ld_glob I hgx q.g ?_ hdb)
  refine PySem.W.callWith_K (h₀ := X.base) I.ok.mod.kin q.k ?_ na (by rfl)
  rw [na]
  show wpAny _ _ (spliced ((false, eval e X.env) :: backTo pos2 (starEach [] X.env))) _ _ s
  refine Calls.spliced_cons (thn (he.run pins s σ H _ I h) fun u s1 ⟨v, H1, I1, r1, q1⟩ => ?_)
  refine Calls.spliced_nil ⟨I1.kIn, ?_⟩
  show wpAny _ _ (call (.ref C) [u]) _ _ _
  obtain ⟨m, rfl, q1⟩ := q1
  obtain ⟨tk, rfl⟩ : ∃ tk, u = Value.str m tk := r1
  obtain ⟨bm, N, nm, qn, bs, hdct, sn, sub, ab, col, dd, k0, k1, k2, k3, k5, mN, hC, hN, hni, T⟩ := exc_obj I1.kIn q.q
  refine wpAny_call_exc_subT PySem.F.excBase_ValueError T hC hN hni (fun h' a hm' => ?_) (by show 1 ≤ sizeLine; rw [sizeLine_eq]; omega)
  refine Calls.spliced_nil ?_
  obtain ⟨t, ht, _, ht2⟩ := hm'.there
  have I2 : Inv X pins σ H1 { s1 with heap := h' } := I1.kept hm'.keeps
  refine PySem.P.str_of_C_one (C := C) (e := a) (t0 := t) (tk := tk) hu ⟨I2.kIn, _, _, ht, rfl, rfl, rfl⟩ ?_ hs q.b ⟨.str m, H1, I2, ⟨tk, rfl⟩, q1⟩
  exact ⟨_, _, ht2, rfl, rfl⟩
theorem de_strX {x : Str} {C : Addr} (hu : X.A.units + 66 < cLine) (q : XcOk X.K X.mg x C) (hs : PySem.W.findIn X.K (.ref C) "__str__" = some (some (.builtin "BaseException.__str__"))) (hg : Gl X "str") (hm : X.mg "str" = none) (hgx : Gl X x) (he : DO X W e oa)
    (na : starEach [e] X.env = (false, eval e X.env) :: starEach [] X.env := by rfl)
    (nb : starEach [Expr.Call (.Name x p2) [e] [] pos2] X.env = (false, eval (.Call (.Name x p2) [e] [] pos2) X.env) :: starEach [] X.env := by rfl) (hdb : (x == ("__debug__" : Str)) = false := by decide) :
    DE X W (.Call (.Name "str" p) [.Call (.Name x p2) [e] [] pos2] [] pos) (wOp sStrX [oa]) := PE.imp (pe_strX (p := p) (pos := pos) (by omega) q hs hg hm hgx he na nb hdb) fun σ H Q q => by
  refine tOf_mono (wOp_run q) fun v H1 z => ?_
  obtain ⟨ts, F, L, Q0, X0, S, ⟨m, e, q⟩, k, _⟩ := (show spT X.K sStrX [v] H1 Q (fun c d H' => W c d σ H') from z)
  subst e
  obtain ⟨w, e1, o⟩ := S.own.one'
  cases e1
  have ev : v = .str m := o.2
  exact ⟨m, ev, k _ _ _ F H1 L q Ext.refl (S.ret ⟨rfl, rfl⟩)⟩
end
theorem p_strX {ev : Ev} {a : Arg} {x : Str} (ha : PO a ev (.str x)) : Pure (wOp sStrX [a]) ev (.str x) := op1 ha fun _ _ q => ⟨x, rfl, q⟩
/-! ### isinstance(e, (A, B, ..)) of an error that is of none of them -/
def sIsXs (isx : Addr → T → Bool → Prop) : SpT := fun ts Q _ => ∃ D, ∃ cs : List Addr, ts = [.exc D, .tup (cs.map T.cls)] ∧ (∀ c ∈ cs, isx D (.cls c) false) ∧ (∃ c, c ∈ cs) ∧ Q (.bl false) [some (.exc D), some (.tup (cs.map T.cls))]
def rIsXs (K : PySem.W.Frag) : List V → Hp → VK → Prop := fun xs H Q => ∃ (a D tp : Addr) (cs : List Addr), xs = [.ref a, .ref tp] ∧ H a = some (excO D a) ∧ H tp = some (.tup (cs.map V.ref)) ∧ ExcC K D ∧ PySem.W.kitAny K (.ref D) (cs.map Value.ref) = some false ∧ Q (.bl false) H
theorem refs_vals : ∀ {cs : List Addr} {us : List Value}, Vals (cs.map V.ref) us → us = cs.map Value.ref
  | [], _, h => by cases h; rfl
  | c :: cs, _, h => by
    cases h with
    | cons r t =>
      rw [refs_vals t, show _ = Value.ref c from r]; rfl
theorem call_isXs {X : Cx} : CallR X (.builtin "isinstance") (rIsXs X.K) := by
  intro pins s σ H xs us Q I r h
  obtain ⟨a, D, tp, cs, rfl, ha, ht, C, e, q⟩ := h
  cases r with
  | cons rx rr =>
    cases rr with
    | cons rt rr =>
      cases rr
      cases rx
      cases rt
      obtain ⟨oe, hget, hz, vs, hv⟩ := (I.hok a _ ha).1
      obtain ⟨_, its, rv, o, h1, h2, n, h3⟩ := (show ObjOk X.prog X.w H s.heap tp (.tup (cs.map V.ref)) from I.hok tp _ ht)
      have e3 := refs_vals rv
      subst e3
      obtain ⟨oc, od, dt, sl⟩ := o
      simp only at h2 h3
      subst h2 h3
      have J : PySem.W.InstAt s.heap a oe D none := by
        obtain ⟨oc, od, oda, osl⟩ := oe
        obtain ⟨h1, h2⟩ := hz
        dsimp only at h1 h2 hv
        subst h1 h2 hv
        exact ⟨hget, rfl, rfl, trivial⟩
      exact PySem.W.kia_tup (PySem.W.handS_kitx_exc C.hg C.hk C.hs C.hd C.ha C.hn C.ht C.hm) I.kIn J h1 e (fun z => nomatch z) fun tk => ⟨.bl false, H, I.kept (t' := tk) fun _ _ z => z, rfl, q⟩
theorem clss_vals {K : PySem.W.Frag} {F : Addr → Prop} {H : Hp} : ∀ {cs : List Addr} {vs : List V} {L : List Addr}, Owns K F H (cs.map T.cls) vs L → vs = cs.map V.ref
  | [], _, _, h => h.1
  | c :: cs, _, _, ⟨v, vs', L1, L2, e, el, o, r⟩ => by
    have ev : v = .ref c := o.2
    rw [e, clss_vals r, ev]; rfl
theorem kit_no {K : PySem.W.Frag} {D : Addr} : ∀ {cs : List Addr}, (∀ c ∈ cs, Isx K D (.cls c) false) → PySem.W.kitAny K (.ref D) (cs.map Value.ref) = some false
  | [], _ => kitAny_nil
  | c :: cs, h => by
    obtain ⟨_, p, hp, hk⟩ := h c List.mem_cons_self
    cases hp
    exact kitAny_cons (b := false) hk (fun _ => kit_no fun x hx => h x (List.mem_cons_of_mem _ hx)) (fun z => nomatch z)
theorem br_isXs {K : PySem.W.Frag} : BrL K (sIsXs (Isx K)) (rIsXs K) := fun vs H Q E ⟨ts, F, L, Q0, X0, S, ⟨D, cs, e, h, ⟨c, hc⟩, q⟩, k, _⟩ => by
  subst e
  obtain ⟨v, w, L1, L2, e1, el, ⟨_, a, ea, _, ha⟩, o2⟩ := S.own.two'
  subst e1 ea
  obtain ⟨tp, us, M, et, _, ht, r⟩ := o2
  have eu := clss_vals r
  subst et eu
  exact ⟨a, D, tp, cs, rfl, ha, ht, (h c hc).1, kit_no h, k _ _ _ F H L q Ext.refl (S.ret own_bl)⟩
section
variable {X : Cx} {W : WX} {a b : Expr} {oa ob : Arg} {pos p : Pos} {isx : Addr → T → Bool → Prop}
theorem de_isXs (hx : ∀ D t b, isx D t b → Isx X.K D t b) (hg : Gl X "isinstance") (hm : X.mg "isinstance" = none) (h : DO X W a oa) (h2 : DO X W b ob) (he : starEach [a, b] X.env = (false, eval a X.env) :: starEach [b] X.env := by rfl) (he2 : starEach [b] X.env = (false, eval b X.env) :: starEach [] X.env := by rfl) (hpl : (backTo pos (starEach [b] X.env)).any (·.1) = false := by rfl) :
    DE X W (.Call (.Name "isinstance" p) [a, b] [] pos) (wOp (sIsXs isx) [oa, ob]) :=
  de_call2 call_isXs (fun vs H Q E ⟨ts, F, L, Q0, X0, S, ⟨D, cs, e, i, c, q⟩, k, k'⟩ => br_isXs vs H Q E ⟨ts, F, L, Q0, X0, S, ⟨D, cs, e, fun c hc => hx D _ _ (i c hc), c, q⟩, k, k'⟩) hg hm (by decide +kernel) h h2 (by decide) (by decide) he he2 hpl
end
/-! ### a text, many times -/
def strN (x : Str) (n : Nat) : Str := ⟨(List.replicate n x.cps).foldl (· ++ ·) #[]⟩
def sStrN : SpT := fun ts Q _ => ∃ (x : Str) (n : Nat), ts = [.str x, .int n] ∧ 2 ≤ n ∧ n ≤ 4000 ∧ x.length = 1 ∧ (strN x n).length ≤ 4000 ∧ Q (.str (strN x n)) [some (.str x), some (.int n)]
theorem op_strN {X : Cx} : OpR X (binaryOp .Mult) (fun x y H Q => ∃ (t : Str) (n : Nat), x = .str t ∧ y = .int n ∧ 2 ≤ n ∧ n ≤ 4000 ∧ t.length = 1 ∧ (strN t n).length ≤ 4000 ∧ Q (.str (strN t n)) H) := by
  intro pins s σ H x y v u Q I rx ry h
  obtain ⟨t, n, rfl, rfl, h2, h4, ht, hl, q⟩ := h
  obtain ⟨tk, rfl⟩ := rx
  obtain ⟨uk, rfl⟩ := ry
  have e1 : ((n : Int) == 1 || t.length == 0) = false := by
    rw [ht, beq_eq_false_iff_ne.mpr (by omega)]; rfl
  refine PySem.P.mul_str ?_ (fun _ _ => ?_) (fun _ _ => ?_) ?_
  · rw [decide_eq_false (by omega), decide_eq_false (by omega)]; rfl
  · rw [ht]
    have : (1 : Int) ≤ (2 ^ 63 - 1) / (n : Int) := by
      rw [Int.le_ediv_iff_mul_le (by omega)]; omega
    omega
  · rw [ht]
    show decide (1 * (n : Int).toNat > sizeLine) = false
    rw [sizeLine_eq]
    exact decide_eq_false (by omega)
  · rw [if_neg (by omega), e1, if_neg Bool.false_ne_true]
    refine ⟨?_, .str (strN t n), H, I.tok _, ⟨_, rfl⟩, q⟩
    show (strN t n).length ≤ sizeLine
    rw [sizeLine_eq]; omega
theorem br_strN {K : PySem.W.Frag} : Br2 K sStrN (fun x y H Q => ∃ (t : Str) (n : Nat), x = .str t ∧ y = .int n ∧ 2 ≤ n ∧ n ≤ 4000 ∧ t.length = 1 ∧ (strN t n).length ≤ 4000 ∧ Q (.str (strN t n)) H) := fun x y H Q E ⟨ts, F, L, Q0, X0, S, ⟨t, n, e, h2, h4, ht, hl, q⟩, k, _⟩ => by
  subst e
  obtain ⟨v, w, L1, L2, e1, el, ⟨_, o1⟩, ⟨_, o2⟩⟩ := S.own.two'
  have o1' : v = .str t := o1
  have o2' : w = .int n := o2
  subst o1' o2'
  cases e1
  exact ⟨t, n, rfl, rfl, h2, h4, ht, hl, k _ _ _ F H L q Ext.refl (S.ret ⟨rfl, rfl⟩)⟩
theorem de_strN {X : Cx} {W : WX} {a b : Expr} {oa ob : Arg} {pos : Pos} (ha : DO X W a oa) (hb : DO X W b ob) : DE X W (.BinOp a .Mult b pos) (wOp sStrN [oa, ob]) := DE.op2 (pe_op op_strN ha hb) br_strN
theorem p_strN {ev : Ev} {a b : Arg} {x : Str} {n : Nat} (nn : apart2 a b = true) (ha : PO a ev (.str x)) (hb : PO b ev (.int n)) (h2 : 2 ≤ n) (h4 : n ≤ 4000) (ht : x.length = 1) (hl : (strN x n).length ≤ 4000) : Pure (wOp sStrN [a, b]) ev (.str (strN x n)) := op2 nn (fun _ _ q => ⟨x, n, rfl, h2, h4, ht, hl, q⟩) ha hb
end TL

namespace TL
open PySem PySem.Spec PyProof.Rows L2
local macro_rules | `(tactic| ac_rfl) => `(tactic| with_reducible (first
  | exact Pure.c | (refine Pure.s (by with_unfolding_all rfl) (by with_unfolding_all rfl)) | (refine Pure.v (by with_unfolding_all rfl) (by with_unfolding_all rfl)) | (refine PO.pl (by with_unfolding_all rfl)) | (apply PO.vl; ac_rfl)
  | (apply p_add <;> ac_rfl) | (apply p_sub <;> ac_rfl) | (apply p_at <;> ac_rfl) | (apply p_len <;> ac_rfl) | (apply p_lt <;> ac_rfl) | (apply p_le <;> ac_rfl) | (apply p_gt <;> ac_rfl) | (apply p_ge <;> ac_rfl)
  | (apply p_eqI <;> ac_rfl) | (apply p_neI <;> ac_rfl) | (apply p_eqL <;> ac_rfl) | (apply p_neL <;> ac_rfl) | (apply p_eqLL <;> ac_rfl) | (apply p_neLL <;> ac_rfl) | (refine p_neE (by with_unfolding_all rfl) (PO.pl (by with_unfolding_all rfl)) (PO.vl p_lst0) (by assumption)) | (apply p_min2 <;> ac_rfl) | (apply p_max2 <;> ac_rfl) | (apply p_mul <;> ac_rfl) | (apply p_div <;> ac_rfl) | (apply p_mod <;> ac_rfl) | (apply p_pow <;> ac_rfl) | (apply p_neg <;> ac_rfl)
  | (apply p_isX <;> ac_rfl) | (apply p_countB <;> ac_rfl) | (apply p_indexB <;> ac_rfl) | ((show T.bls _ = some _); with_unfolding_all rfl) | ((show T.tyN _ = _); with_unfolding_all rfl) | (apply p_isi <;> ac_rfl) | (apply p_isN <;> ac_rfl) | (apply p_notN <;> ac_rfl) | (apply p_isB <;> ac_rfl) | (apply p_notB <;> ac_rfl)
  | (apply p_list <;> ac_rfl) | (apply p_sum <;> ac_rfl) | (apply p_rep0 <;> ac_rfl) | (apply p_catL <;> ac_rfl) | (apply p_cat <;> ac_rfl) | ((show T.kidL _ = some _); with_unfolding_all rfl) | (apply p_rgL1 <;> ac_rfl) | (apply p_rgL2 <;> ac_rfl) | (apply p_sortI <;> ac_rfl) | (apply p_sortR <;> ac_rfl) | (apply p_revI <;> ac_rfl)
  | (apply p_index <;> ac_rfl) | (apply p_count <;> ac_rfl) | (apply p_minL <;> ac_rfl) | (apply p_maxL <;> ac_rfl) | (apply p_cutLoI <;> ac_rfl) | (apply p_cutHiI <;> ac_rfl) | (apply p_cutLo <;> ac_rfl) | (apply p_cutHi <;> ac_rfl) | (apply p_rev <;> ac_rfl)
  | exact p_odd (by with_unfolding_all rfl) (by first | assumption | exact IsL.own | exact IsL.fz) (by omega) (by with_unfolding_all rfl) (by decide)
  | (apply p_mulS <;> ac_rfl) | (apply p_andV <;> ac_rfl) | (apply p_orV <;> ac_rfl) | (apply p_notV <;> ac_rfl) | (apply p_fzL <;> ac_rfl) | (nofun; (show Pure _ _ _); ac_rfl)
  | (refine lc_map1 (by with_unfolding_all rfl) (by first | assumption | exact IsL.own | exact IsL.fz) (by with_unfolding_all rfl) (by first | assumption | exact IsL.own | exact IsL.fz) (by first | omega | assumption) ?_ (by with_unfolding_all rfl) (by with_unfolding_all rfl) (by decide) (by decide); first | assumption | skip)
  | exact p_dk | (apply p_inDk <;> ac_rfl) | (apply p_ninDk <;> ac_rfl) | ((show T.dkeys _ = some _); with_unfolding_all rfl)
  | exact p_lst0 | (apply p_lst1 <;> ac_rfl) | (apply p_lst2 <;> ac_rfl) | (apply p_lst3 <;> ac_rfl) | (apply p_lst4 <;> ac_rfl) | (apply p_lstN <;> ac_rfl) | exact PAs.nil | (apply PAs.cons <;> ac_rfl) | ((show Nat.ble _ _ = true); with_unfolding_all rfl) | (apply p_tup1 <;> ac_rfl) | (apply p_tup2 <;> ac_rfl) | (apply p_tup3 <;> ac_rfl) | (apply p_tupN <;> ac_rfl)
  | (apply PureT.tst; ac_rfl) | (apply PureT.not; ac_rfl) | (apply PureT.and <;> ac_rfl) | (apply PureT.or <;> ac_rfl) | exact PureT.yes | (refine PureT.bor (by with_unfolding_all rfl) ?_ ?_ <;> ac_rfl) | ((show condE _ _); skip) | (nofun; (show PureT _ _ _); ac_rfl)
  | assumption | exact IsL.own | exact IsL.fz | exact IsL.of1 | exact IsL.of2 | exact IsL.nil | exact IsLL.frz (by assumption) | exact IsLL.nil | (apply IsLL.two <;> ac_rfl) | (apply IsLL.one <;> ac_rfl) | exact IsLL.own | exact IsLL.len (by assumption) | exact IsLL.pyTy (by assumption) | ((show T.atT (.fz (.lst _)) _ = _); with_unfolding_all rfl) | exact IsL.frz (by assumption) | exact IsL.len (by first | assumption | exact IsL.own | exact IsL.fz) | exact IsL.kidS (by first | assumption | exact IsL.own | exact IsL.fz) | exact IsL.kidLS (by assumption) | exact IsL.kidL (by assumption) | exact IsL.pyTy (by assumption) | exact IsL.isN (by assumption) | exact IsL.atG (by assumption) (by omega) (by omega) | exact IsL.atG IsL.own (by omega) (by omega) | exact IsL.atLast (by first | assumption | exact IsL.own | exact IsL.fz) (by omega) | exact scr_at (by omega) (by omega)
  | ((show apart2 _ _ = true); with_unfolding_all rfl) | ((show T.len _ = some _); with_unfolding_all rfl) | ((show T.pyTy _ = some _); with_unfolding_all rfl) | ((show T.isN _ = some _); with_unfolding_all rfl) | ((show _ ∈ ["bool", "int", "str", "list", "tuple"]); decide) | exact at3_0 | exact at3_1 | exact at3_2 | exact at4_any (by omega) (by omega) | exact at3_any (by omega) (by omega) | exact at2_any (by omega) (by omega) | exact at6_any (by omega) (by omega)
  | ((show CMulW _ _); first | exact Sm.cmul (n := 120) (m := 120) (Sm.of (by omega) (by omega)) (Sm.of (by omega) (by omega)) (by decide) | skip) | ((show CMul _ _); first | exact .inl ⟨by omega, by omega⟩ | exact .inr ⟨by omega, by omega⟩ | skip) | ((show CDivW _ _); first | exact Sm.cdiv (n := 120) (Sm.of (by omega) (by omega)) (by omega) (by decide) | skip) | ((show CPow _ _); first | exact cpow_of (by omega) (by omega) (by omega) (by omega) | skip) | (show RgOk _ _; skip) | ((show (_ : Int) < _); first | omega | skip) | ((show (_ : Int) ≤ _); first | omega | skip) | ((show (_ : Int) ≤ _ ∧ _); first | omega | skip) | ((show (_ : Nat) < _); first | omega | skip) | ((show (_ : Nat) ≤ _); first | omega | skip) | (show T.atT _ _ = some _; skip) | (show T.len _ = some _; skip) | (show T.kidS _ = some _; skip) | (show T.kidLS _ = some _; skip) | (show T.kidL _ = some _; skip) | (show (_ : Int) ∈ (_ : List Int); skip)))
local macro_rules | `(tactic| nofun) => `(tactic| with_reducible (first
  | exact r_bot1 | exact r_bot2
  | (refine r_dt ?_; intro _) | (refine r_df ?_; intro _) | (refine r_nt ?_; nofun) | (refine r_nf ?_; nofun) | (refine r_at ?_; nofun; nofun) | (refine r_of ?_; nofun; nofun) | intro _))
local macro_rules | `(tactic| infer_instance) => `(tactic| repeat' with_reducible (first
  | apply r_feN | apply r_feR | apply r_seq | apply r_pass | apply r_break | apply r_cont | apply r_retN | apply r_raise | apply r_tryK
  | (apply r_setP; case' h => ac_rfl; case' hi => with_unfolding_all rfl)
  | (apply r_eP; case' h => ac_rfl)
  | (apply r_retP; case' h => ac_rfl)
  | (refine r_retM (by with_unfolding_all rfl) ?_)
  | (apply r_ifP; case' h => ac_rfl; case' h1 => nofun; case' h2 => nofun)
  | apply r_set | apply r_e | apply r_ret | apply r_if | apply r_store | apply r_a0 | (refine r_aP (by with_unfolding_all rfl) ?_) | apply r_aV
  | (refine r_lt (by with_unfolding_all rfl) ?_) | (refine r_tyP (by with_unfolding_all rfl) (by with_unfolding_all rfl) ?_) | (refine r_tyV (by with_unfolding_all rfl) ?_)
  | (refine r_tk (by with_unfolding_all rfl) ?_)
  | (refine r_M (by with_unfolding_all rfl) ?_)
  | (apply r_pure; case' h => ac_rfl) | (apply r_pureT; case' h => ac_rfl)
  | (refine r_VL (by with_unfolding_all rfl) ?_) | (refine r_V (by with_unfolding_all rfl) ?_)
  | apply r_fz | apply r_andV | apply r_orV | apply r_notV | apply r_par | (refine r_par2 (by with_unfolding_all rfl) (by with_unfolding_all rfl) (by with_unfolding_all rfl) (by with_unfolding_all rfl) ?_) | apply r_op | apply r_meth | apply r_tst | apply r_bl | apply r_and | apply r_or | apply r_not | (apply r_ite <;> nofun)
  | apply r_set3_0 | apply r_set3_2 | (refine r_appendI ?_ ?_) | (refine r_append ?_ ?_) | (refine r_popAtG ?_ ?_ ?_ ?_) | (refine r_popAtT ?_ ?_ ?_ ?_) | (refine r_setII ?_ ?_ ?_) | (refine r_setI ?_ ?_ ?_) | (refine r_gN (by with_unfolding_all rfl) ?_) | (refine r_gT2 (by with_unfolding_all rfl) (by with_unfolding_all rfl) ?_) | (refine r_gT2i (by with_unfolding_all rfl) (by with_unfolding_all rfl) ?_)
  | apply r_lst1 | apply r_lst2 | apply r_lst3 | apply r_lst4 | apply r_lst5 | apply r_lst6 | apply r_forV | (refine r_putDk ?_ ?_ ?_) | apply r_lcV | (apply r_extendI; (case' h => ac_rfl)) | apply r_tup1 | apply r_tup2 | apply r_tup3 | (apply r_atX; (case' h => ac_rfl)) | apply r_II0 | (refine r_II ?_ ?_) | apply r_eqI | apply r_neI | (apply r_eqL; (case' h1 => ac_rfl); (case' h2 => ac_rfl)) | (apply r_neL; (case' h1 => ac_rfl); (case' h2 => ac_rfl)) | (apply r_eqLL; (case' h1 => ac_rfl); (case' h2 => ac_rfl)) | (apply r_neLL; (case' h1 => ac_rfl); (case' h2 => ac_rfl)) | (refine r_rgL1 ⟨by omega, by omega⟩ ?_) | (apply r_listX; (case' h => ac_rfl)) | (apply r_lenX; (case' h => ac_rfl)) | (apply r_sortIX; (case' h => ac_rfl)) | (refine r_sortLLX (by with_unfolding_all rfl) ?_) | (refine r_sortLLFX (by with_unfolding_all rfl) ?_) | (apply r_sortRX; (case' h => ac_rfl)) | (apply r_revX; (case' h => ac_rfl))
  | apply r_cat42 | ((show CMulW _ _); exact Sm.cmul (n := 120) (m := 120) (Sm.of (by omega) (by omega)) (Sm.of (by omega) (by omega)) (by decide)) | ((show CDivW _ _); exact Sm.cdiv (n := 120) (Sm.of (by omega) (by omega)) (by omega) (by decide)) | ((show (_ : Int) < _); omega) | ((show (_ : Int) ≤ _); omega) | ((show (_ : Nat) < _); omega) | ((show (_ : Nat) ≤ _); omega)
  | dsimp only [List.set_cons_zero, List.set_cons_succ, restE, wipeE, List.getElem?_cons_zero, List.getElem?_cons_succ, Option.join_some, Option.join_none, giveA, List.cons_append, List.nil_append]))
def S__law_pool : SpT := fun ts Q _ => ∃ ns k, ts = [.scr ns, .int k] ∧ 0 ≤ k ∧ k ≤ 1000 ∧ ∀ t', Pool 43000 t' → Q t' [some (.scr ns), some (.int k)]
/-! ### _law_pool -/
def b__law_pool : WS :=
    sSeq (sSet 2 (wC (.int 0)))
    (sSeq (sIf (wTst (wOp sLt [.vl (wS 1), .vl (wOp sLen [.pl 0])]))
    (sSet 2 (wOp sAt [.pl 0, .vl (wS 1)]))
    (sPass))
    (sSeq (sIf (wTst (wOp sGe [.vl (wS 2), .vl (wOp sPow [.vl (wC (.int 10)), .vl (wC (.int 18))])]))
    (sRet (wOp sLst [.vl (wOp sSub [.vl (wS 2), .vl (wOp sPow [.vl (wC (.int 10)), .vl (wC (.int 18))])]), .vl (wC (.int 1)), .vl (wC (.int 0))]))
    (sPass))
    (sRet (wOp sLst [.vl (wS 2), .vl (wC (.int 0)), .vl (wOp sMul [.vl (wC (.int 43)), .vl (wS 1)])]))))
abbrev w__law_pool : SpT := spW 2 3 [2] (b__law_pool)
/- slots: 0 script 1 k 2 cell -/
theorem r__law_pool {ts : List T} {Q : T → List (Option T) → Prop} {X : Addr → List (Option T) → Prop} (h : S__law_pool ts Q X) : w__law_pool ts Q X := by
  obtain ⟨ns, k, rfl, h0, h1, q⟩ := h
  refine ⟨rfl, ?_⟩
  show b__law_pool [some (.scr ns), some (.int k), none] _
  unfold b__law_pool
  infer_instance
  · exact q _ ⟨_, _, _, rfl, by omega, by omega⟩
  · exact q _ ⟨_, _, _, rfl, by omega, by omega⟩
  · exact q _ ⟨_, _, _, rfl, by omega, by omega⟩
  · exact q _ ⟨_, _, _, rfl, by omega, by omega⟩
def S__law_take : SpT := fun ts Q X => ∃ t m B, ts = [t, .int m] ∧ Pool B t ∧ B < 2 ^ 40 ∧ 0 < m ∧ m < 2 ^ 100 ∧ ∀ r t', 0 ≤ r → r < m → Pool (B + 1) t' → Q (.int r) [some t', some (.int m)]
/-! ### _law_take -/
def b__law_take : WS :=
    sSeq (sIf (wTst (wOp sEq [.vl (wOp sAt [.pl 0, .vl (wC (.int 1))]), .vl (wC (.int 1))]))
    (sSeq (sSet 2 (wOp sMod [.vl (wOp sAt [.pl 0, .vl (wC (.int 0))]), .vl (wS 1)]))
    (sSeq (sStore sSetI (.pl 0) (.vl (wC (.int 0))) (wOp sDiv [.vl (wOp sAt [.pl 0, .vl (wC (.int 0))]), .vl (wS 1)]))
    (sRet (wS 2))))
    (sPass))
    (sSeq (sStore sSetI (.pl 0) (.vl (wC (.int 2))) (wOp sAdd [.vl (wOp sAt [.pl 0, .vl (wC (.int 2))]), .vl (wC (.int 1))]))
    (sSeq (sSet 3 (wOp sAt [.pl 0, .vl (wC (.int 2))]))
    (sSeq (sSet 4 (wOp sMul [.vl (wOp sAdd [.vl (wOp sMod [.vl (wOp sAt [.pl 0, .vl (wC (.int 0))]), .vl (wC (.int 9999999577))]), .vl (wC (.int 1009))]), .vl (wOp sAdd [.vl (wOp sMul [.vl (wC (.int 37)), .vl (wS 3)]), .vl (wC (.int 67))])]))
    (sSeq (sSet 4 (wOp sAdd [.vl (wS 4), .vl (wOp sMul [.vl (wOp sMul [.vl (wC (.int 3557)), .vl (wS 3)]), .vl (wS 3)])]))
    (sSeq (sSet 4 (wOp sMod [.vl (wOp sMul [.vl (wS 4), .vl (wS 4)]), .vl (wC (.int 99999999599))]))
    (sRet (wOp sMod [.vl (wOp sDiv [.vl (wOp sMod [.vl (wOp sMul [.vl (wS 4), .vl (wOp sAdd [.vl (wS 4), .vl (wC (.int 47))])]), .vl (wC (.int 99999999907))]), .vl (wC (.int 101))]), .vl (wS 1)])))))))
abbrev w__law_take : SpT := spW 2 5 [2, 3, 4] (b__law_take)
/- slots: 0 pool 1 many 2 found 3 step 4 mark -/
theorem r__law_take {ts : List T} {Q : T → List (Option T) → Prop} {X : Addr → List (Option T) → Prop} (h : S__law_take ts Q X) : w__law_take ts Q X := by
  obtain ⟨t, m, B, rfl, ⟨a, b, c, rfl, h0, hB⟩, hB2, hm, hm2, q⟩ := h
  refine ⟨rfl, ?_⟩
  show b__law_take [some (.lst [.int a, .int b, .int c]), some (.int m), none, none, none] _
  unfold b__law_take
  have hs : Sm 41 (c + 1) := Sm.of (by omega) (by omega)
  have s37 : Sm 6 37 := by show (37 : Int).natAbs < 2 ^ 6; decide
  have s67 : Sm 47 67 := by show (67 : Int).natAbs < 2 ^ 47; decide
  have s3557 : Sm 12 3557 := by show (3557 : Int).natAbs < 2 ^ 12; decide
  have sA : Sm 35 (a % 9999999577 + 1009) := Sm.of (by omega) (by omega)
  have sB : Sm 48 (37 * (c + 1) + 67) := (s37.mul hs).add s67
  have sC : Sm 53 (3557 * (c + 1)) := s3557.mul hs
  have sD : Sm 95 ((a % 9999999577 + 1009) * (37 * (c + 1) + 67) + 3557 * (c + 1) * (c + 1)) := ((sA.mul sB).mono (by decide)).add ((sC.mul hs).mono (by decide : 53 + 41 ≤ 94))
  have hmd : CDivW a m := (Sm.of (n := 100) (by omega) (by omega)).cdiv hm (by decide)
  infer_instance
  · exact q _ _ (Int.emod_nonneg _ (by omega)) (Int.emod_lt_of_pos _ hm) ⟨_, _, _, rfl, h0, by omega⟩
  · exact sD.cmul sD (by decide)
  · exact q _ _ (Int.emod_nonneg _ (by omega)) (Int.emod_lt_of_pos _ hm) ⟨_, _, _, rfl, by omega, by omega⟩
def S__law_lengths : SpT := fun ts Q _ => ∃ t B n, ts = [t, .int n] ∧ Pool B t ∧ 0 ≤ n ∧ n ≤ 1000 ∧ B + 2 + n < 2 ^ 40 ∧ ∀ (ls : List Int) t', (∀ x ∈ ls, 1 ≤ x) → ls.sum = n → Pool (B + 2 + n) t' → Q (.lst (ls.map T.int)) [some t', some (.int n)]
/-! ### _law_lengths -/
def b__law_lengths : WS :=
    sSeq (sSet 2 (wOp (S__law_take) [.pl 0, .vl (wC (.int 4))]))
    (sSeq (sSet 3 (wOp sAdd [.vl (wC (.int 1)), .vl (wOp (S__law_take) [.pl 0, .vl (wC (.int 6))])]))
    (sSeq (sSet 4 (wOp sLst []))
    (sSeq (sSet 5 (wS 1))
    (sSeq (sWhile (wTst (wOp sGt [.vl (wS 5), .vl (wC (.int 0))]))
    (sSeq (sSet 6 (wOp sAt [.vl (wOp sLst [.vl (wS 5), .vl (wOp sMin2 [.vl (wS 5), .vl (wC (.int 6))]), .vl (wOp sMin2 [.vl (wS 5), .vl (wS 3)]), .vl (wS 5)]), .vl (wS 2)]))
    (sSeq (sIf (wTst (wOp sEq [.vl (wS 2), .vl (wC (.int 2))]))
    (sSet 7 (wS 6))
    (sSet 7 (wOp sAdd [.vl (wC (.int 1)), .vl (wOp (S__law_take) [.pl 0, .vl (wS 6)])])))
    (sSeq (sE (wMeth "list" sAppend (.pl 4) [.vl (wS 7)]))
    (sSet 5 (wOp sSub [.vl (wS 5), .vl (wS 7)]))))))
    (sRet (wM 4))))))
abbrev w__law_lengths : SpT := spW 2 8 [2, 3, 4, 5, 6, 7] (b__law_lengths)
/- slots: 0 pool 1 many 2 way 3 like 4 found 5 left 6 most 7 length -/
theorem r__law_lengths {ts : List T} {Q : T → List (Option T) → Prop} {X : Addr → List (Option T) → Prop} (h : S__law_lengths ts Q X) : w__law_lengths ts Q X := by
  obtain ⟨t, B, n, rfl, hP, h0, h1, hB, q⟩ := h
  refine ⟨rfl, ?_⟩
  show b__law_lengths [some t, some (.int n), none, none, none, none, none, none] _
  unfold b__law_lengths
  infer_instance
  refine ⟨t, 4, B, rfl, hP, by omega, by omega, by omega, fun way t1 w0 w1 hP1 => ?_⟩
  infer_instance
  refine ⟨t1, 6, B + 1, rfl, hP1, by omega, by omega, by omega, fun like t2 l0 l1 hP2 => ?_⟩
  infer_instance
  refine ⟨fun m ev => ∃ (tp : T) (left : Int) (ls : List Int) (y z : Option T), ev = [some tp, some (.int n), some (.int way), some (.int (1 + like)), some (.lst (ls.map T.int)), some (.int left), y, z] ∧ left.toNat = m ∧ 0 ≤ left ∧ left ≤ n ∧ (∀ x ∈ ls, 1 ≤ x) ∧ ls.sum + left = n ∧ ls.length + left ≤ n ∧ Pool (B + 2 + (n - left)) tp, ⟨n.toNat, t2, n, [], none, none, rfl, rfl, h0, by omega, fun _ h => (nomatch h), by simp, by simp, (show B + 1 + 1 = B + 2 + (n - n) by omega) ▸ hP2⟩, fun m ev h => ?_⟩
  obtain ⟨tp, left, ls, y, z, rfl, hm, b0, b1, hls, hsum, hlen, hP3⟩ := h
  have hG : 0 < left → 1 ≤ G [left, min left 6, min left (1 + like), left] way ∧ G [left, min left 6, min left (1 + like), left] way ≤ left := fun h => by
    rcases G4 (a := left) (b := min left 6) (c := min left (1 + like)) (d := left) w0 w1 with ⟨_, e⟩ | ⟨_, e⟩ | ⟨_, e⟩ | ⟨_, e⟩ <;> rw [e] <;> omega
  infer_instance
  · obtain ⟨g0, g1⟩ := hG (by assumption)
    refine ⟨_, ?_, tp, _, ls ++ [G [left, min left 6, min left (1 + like), left] way], _, _, rfl, rfl, by omega, by omega, fun x hx => ?_, ?_, ?_, hP3.mono (by omega)⟩
    · omega
    · rcases List.mem_append.mp hx with hx | hx
      · exact hls x hx
      · rw [List.mem_singleton.mp hx]; exact g0
    · rw [List.sum_append, List.sum_singleton]; omega
    · rw [List.length_append, List.length_singleton]; omega
  · obtain ⟨g0, g1⟩ := hG (by assumption)
    refine ⟨tp, _, _, rfl, hP3, by omega, by omega, by omega, fun r t' r0 r1 hP' => ?_⟩
    infer_instance
    refine ⟨_, ?_, t', _, ls ++ [1 + r], _, _, rfl, rfl, by omega, by omega, fun x hx => ?_, ?_, ?_, hP'.mono (by omega)⟩
    · omega
    · rcases List.mem_append.mp hx with hx | hx
      · exact hls x hx
      · rw [List.mem_singleton.mp hx]; omega
    · rw [List.sum_append, List.sum_singleton]; omega
    · rw [List.length_append, List.length_singleton]; omega
  · exact q _ _ hls (by omega) (hP3.mono (by omega))
def S__law_bad_kind : SpT := fun ts Q _ => ∃ t, ∃ ks : List Int, ∃ B, ts = [t, .fz (.lst (ks.map T.int))] ∧ Pool B t ∧ B + 10 < 2 ^ 40 ∧ ks.length ≤ 1000 ∧ ∀ (rs : List Int) t', Pool (B + 5) t' → rs.length ≤ 4000 → Q (.fz (.lst (rs.map T.int))) [some t', some (.fz (.lst (ks.map T.int)))]
/-! ### _law_bad_kind -/
def b__law_bad_kind : WS :=
    sSeq (sSet 2 (wOp (S__law_take) [.pl 0, .vl (wOp sPow [.vl (wC (.int 10)), .vl (wC (.int 29))])]))
    (sSeq (sSet 3 (wOp (S__law_take) [.pl 0, .vl (wOp sAdd [.vl (wOp sLen [.pl 1]), .vl (wC (.int 1))])]))
    (sSeq (sSet 4 (wOp sAt [.vl (wOp sLst [.vl (wC (.int 0)), .vl (wOp sNeg [.vl (wC (.int 1))]), .vl (wC (.int 41)), .vl (wOp sAdd [.vl (wC (.int 41)), .vl (wS 2)]), .vl (wOp sSub [.vl (wOp sNeg [.vl (wC (.int 1))]), .vl (wS 2)]), .vl (wOp sAdd [.vl (wC (.int 1)), .vl (wOp (S__law_take) [.pl 0, .vl (wC (.int 40))])])]), .vl (wOp (S__law_take) [.pl 0, .vl (wC (.int 6))])]))
    (sSeq (sSet 5 (wOp sLst [.vl (wOp sCat [.vl (wOp sCat [.vl (wOp sCutHi [.pl 1, .vl (wS 3)]), .vl (wOp sLst [.vl (wS 4)])]), .vl (wOp sCutLo [.pl 1, .vl (wS 3)])]), .vl (wOp sCat [.vl (wOp sCat [.vl (wOp sCutHi [.pl 1, .vl (wS 3)]), .vl (wOp sLst [.vl (wS 4)])]), .vl (wOp sCutLo [.pl 1, .vl (wOp sAdd [.vl (wS 3), .vl (wC (.int 1))])])]), .vl (wOp sRev [.pl 1]), .vl (wOp sCat [.vl (wV 1), .vl (wV 1)])]))
    (sSeq (sSet 5 (wOp sCat [.vl (wV 5), .vl (wFz (wOp sLst [.vl (wOp sCat [.vl (wOp sCat [.vl (wOp sCutHi [.pl 1, .vl (wS 3)]), .vl (wOp sLst [.vl (wC (.int 40))])]), .vl (wOp sCutLo [.pl 1, .vl (wS 3)])]), .vl (wOp sRep [.vl (wOp sLst [.vl (wC (.int 1))]), .vl (wOp sAdd [.vl (wC (.int 41)), .vl (wOp sMod [.vl (wS 2), .vl (wC (.int 2960))])])]), .vl (wOp sCat [.vl (wOp sCat [.vl (wOp sCutHi [.pl 1, .vl (wS 3)]), .vl (wOp sLst [.vl (wS 4), .vl (wS 4)])]), .vl (wOp sCutLo [.pl 1, .vl (wS 3)])])]))]))
    (sRet (wOp sAt [.vl (wV 5), .vl (wOp (S__law_take) [.pl 0, .vl (wC (.int 7))])]))))))
abbrev w__law_bad_kind : SpT := spW 2 6 [2, 3, 4, 5] (b__law_bad_kind)
/- slots: 0 pool 1 kind 2 far 3 at 4 odd 5 rows -/
theorem r__law_bad_kind {ts : List T} {Q : T → List (Option T) → Prop} {X : Addr → List (Option T) → Prop} (h : S__law_bad_kind ts Q X) : w__law_bad_kind ts Q X := by
  obtain ⟨t, ks, B, rfl, hP, hB, hl, q⟩ := h
  generalize hu0 : T.fz (.lst (ks.map T.int)) = u at *
  have hu : IsL u ks := .inr hu0.symm
  have huf : u.frz = u := by rw [← hu0]; rfl
  refine ⟨rfl, ?_⟩
  show b__law_bad_kind [some t, some u, none, none, none, none] _
  unfold b__law_bad_kind
  infer_instance
  refine ⟨t, _, B, rfl, hP, by omega, by decide, by decide, fun far t1 f0 f1 hP1 => ?_⟩
  infer_instance
  refine ⟨t1, _, _, rfl, hP1, by omega, by omega, by omega, fun at_ t2 a0 a1 hP2 => ?_⟩
  infer_instance
  refine ⟨t2, _, _, rfl, hP2, by omega, by decide, by decide, fun r3 t3 r30 r31 hP3 => ?_⟩
  infer_instance
  refine ⟨t3, _, _, rfl, hP3, by omega, by decide, by decide, fun r4 t4 r40 r41 hP4 => ?_⟩
  infer_instance
  all_goals first | (show (_ : Nat) ≤ _; simp only [List.length_append, List.length_take, List.length_drop, List.length_cons, List.length_nil]; omega) | skip
  simp only [huf]
  generalize G [0, -1, 41, 41 + far, -1 - far, 1 + r3] r4 = od at *
  refine ⟨_, _, _, _, rfl, hu.kidL, hu.kidL, by rw [List.length_map]; show _ ≤ 16777216; omega, ?_⟩
  infer_instance
  all_goals first | (show (_ : Nat) ≤ _; simp only [List.length_append, List.length_take, List.length_drop, List.length_cons, List.length_nil]; omega) | skip
  refine ⟨_, _, _, _, rfl, rfl, rfl, by show (7 : Nat) ≤ 16777216; decide, ?_⟩
  have hfar : (41 + far % 2960).toNat ≤ 3000 := by omega
  have hR : ∀ i : Int, 0 ≤ i → i < 7 → ∃ rs : List Int, T.atT (.fz (.lst (List.map T.frz [T.lst ((ks.take at_.toNat ++ [od] ++ ks.drop at_.toNat).map T.int), T.lst ((ks.take at_.toNat ++ [od] ++ ks.drop (at_ + 1).toNat).map T.int), T.lst (ks.reverse.map T.int), T.lst (ks.map T.int ++ ks.map T.int)] ++ List.map T.frz [T.lst ((ks.take at_.toNat ++ [40] ++ ks.drop at_.toNat).map T.int), T.lst ((List.replicate (41 + far % 2960).toNat 1).map T.int), T.lst ((ks.take at_.toNat ++ [od, od] ++ ks.drop at_.toNat).map T.int)]))) i = some (.fz (.lst (rs.map T.int))) ∧ rs.length ≤ 4000 := fun i i0 i1 => by
    have : i = 0 ∨ i = 1 ∨ i = 2 ∨ i = 3 ∨ i = 4 ∨ i = 5 ∨ i = 6 := by omega
    rcases this with rfl | rfl | rfl | rfl | rfl | rfl | rfl
    · exact ⟨_, rfl, by simp only [List.length_append, List.length_take, List.length_drop, List.length_cons, List.length_nil]; omega⟩
    · exact ⟨_, rfl, by simp only [List.length_append, List.length_take, List.length_drop, List.length_cons, List.length_nil]; omega⟩
    · exact ⟨_, rfl, by simp only [List.length_reverse]; omega⟩
    · refine ⟨ks ++ ks, ?_, by simp only [List.length_append]; omega⟩
      show some (T.fz (.lst (ks.map T.int ++ ks.map T.int))) = _
      rw [← List.map_append]
    · exact ⟨_, rfl, by simp only [List.length_append, List.length_take, List.length_drop, List.length_cons, List.length_nil]; omega⟩
    · exact ⟨_, rfl, by simp only [List.length_replicate]; omega⟩
    · exact ⟨_, rfl, by simp only [List.length_append, List.length_take, List.length_drop, List.length_cons, List.length_nil]; omega⟩
  generalize (List.map T.frz [T.lst ((ks.take at_.toNat ++ [od] ++ ks.drop at_.toNat).map T.int), T.lst ((ks.take at_.toNat ++ [od] ++ ks.drop (at_ + 1).toNat).map T.int), T.lst (ks.reverse.map T.int), T.lst (ks.map T.int ++ ks.map T.int)] ++ List.map T.frz [T.lst ((ks.take at_.toNat ++ [40] ++ ks.drop at_.toNat).map T.int), T.lst ((List.replicate (41 + far % 2960).toNat 1).map T.int), T.lst ((ks.take at_.toNat ++ [od, od] ++ ks.drop at_.toNat).map T.int)]) = L at *
  infer_instance
  refine ⟨t4, _, _, rfl, hP4, by omega, by decide, by decide, fun r5 t5 r50 r51 hP5 => ?_⟩
  obtain ⟨rs, hrs, hrl⟩ := hR r5 r50 r51
  infer_instance
  exact q rs t5 (hP5.mono (by omega)) hrl
def S_need_counted (c_NoNumber c_TooMany : Addr) : SpT := fun ts Q X => ∃ n : Int, ts = [.int n] ∧ (0 ≤ n → n ≤ 12 → Q .non [some (.int n)]) ∧ (12 < n → X c_TooMany [some (.int n)]) ∧ (n < 0 → X c_NoNumber [some (.int n)])
/-! ### need_counted -/
def b_need_counted (c_NoNumber : Addr) (c_TooMany : Addr) : WS :=
    sSeq (sIf (wTst (wOp sGt [.vl (wS 0), .vl (wC (.int 12))]))
    (sRaise c_TooMany)
    (sPass))
    (sIf (wTst (wOp sLt [.vl (wS 0), .vl (wC (.int 0))]))
    (sRaise c_NoNumber)
    (sPass))
abbrev w_need_counted (c_NoNumber : Addr) (c_TooMany : Addr) : SpT := spW 1 1 [] (b_need_counted c_NoNumber c_TooMany)
/- slots: 0 n -/
theorem r_need_counted {c_NoNumber c_TooMany : Addr} {ts : List T} {Q : T → List (Option T) → Prop} {X : Addr → List (Option T) → Prop} (h : S_need_counted c_NoNumber c_TooMany ts Q X) : w_need_counted c_NoNumber c_TooMany ts Q X := by
  obtain ⟨n, rfl, q1, q2, q3⟩ := h
  refine ⟨rfl, ?_⟩
  show b_need_counted _ _ [some (.int n)] _
  unfold b_need_counted
  infer_instance
  · rename_i e; exact q2 e
  · rename_i e; exact q3 e
  all_goals exact q1 (by omega) (by omega)
def S_lists_to : Nat → SpT
  | 0 => fun _ _ _ => False
  | n + 1 => fun ts Q _ => ∃ l m : Nat, ts = [.int l, .int m] ∧ l ≤ n ∧ l < 13 ∧ m < 13 ∧ Q (.lst ((LT l m).map owL)) [some (.int l), some (.int m)]
/-! ### lists_to -/
def b_lists_to (rn : Nat) : WS :=
    sSeq (sIf (wTst (wOp sEq [.vl (wS 0), .vl (wC (.int 0))]))
    (sRet (wOp sLst [.vl (wOp sLst [])]))
    (sPass))
    (sSeq (sSet 2 (wOp sLst []))
    (sSeq (sFor (wRng2 (.vl (wC (.int 1))) (.vl (wOp sAdd [.vl (wOp sMin2 [.vl (wS 0), .vl (wS 1)]), .vl (wC (.int 1))]))) (gN 3)
    (sE (wMeth "list" sExtend (.pl 2) [.vl (wLc (wList false (.vl (wFz (wOp (S_lists_to rn) [.vl (wOp sSub [.vl (wS 0), .vl (wS 3)]), .vl (wS 3)])))) (gN 4) (wYes) (wOp sCat [.vl (wOp sLst [.vl (wS 3)]), .pl 4]) [4])])))
    (sRet (wM 2))))
abbrev w_lists_to (rn : Nat) : SpT := spW 2 5 [2, 3] (b_lists_to rn)
/- slots: 0 left 1 most 2 found 3 first 4 more -/
theorem r_lists_to {rn : Nat} {ts : List T} {Q : T → List (Option T) → Prop} {X : Addr → List (Option T) → Prop} (h : S_lists_to (rn + 1) ts Q X) : w_lists_to rn ts Q X := by
  obtain ⟨l, m, rfl, hn, hl, hm, q⟩ := h
  refine ⟨rfl, ?_⟩
  show b_lists_to _ [some (.int l), some (.int m), none, none, none] _
  unfold b_lists_to
  infer_instance
  · rename_i e
    obtain rfl : l = 0 := by omega
    exact q
  rename_i e
  have e : l ≠ 0 := fun z => e (by omega)
  have hst := LT_step (m := m) e
  have hk : (min (l : Int) (m : Int) + 1 - 1).toNat = min l m := by omega
  refine for_rng2 (i := 1) (j := min (l : Int) (m : Int) + 1) (PO.vl (by ac_rfl)) (PO.vl (by ac_rfl)) ⟨rfl, rfl⟩ (by omega) (I := fun j ev => ∃ y3 : Option T, ev = [some (.int l), some (.int m), some (.lst ((((List.range' 1 (min l m)).take j).flatMap (LTf l)).map owL)), y3, none]) ⟨_, rfl⟩ (fun j ev hj h => ?_) (fun ev h => ?_)
  · obtain ⟨y3, rfl⟩ := h
    rw [hk] at hj
    obtain ⟨n, rfl⟩ : ∃ n, rn = n + 1 := ⟨rn - 1, by omega⟩
    have ht := LT_take hj
    rw [ht, List.flatMap_append, List.flatMap_singleton]
    obtain ⟨f, hf⟩ : ∃ f : Nat, f = 1 + j := ⟨_, rfl⟩
    rw [← hf, show (1 : Int) + (j : Int) = (f : Int) by omega]
    have hacc := flat_len (f := LTf l) (b := 77) (ls := (List.range' 1 (min l m)).take j) fun x hx => by
      have := List.mem_of_mem_take hx
      rw [List.mem_range'_1] at this
      unfold LTf; rw [List.length_map]
      exact (LT_bd _ (by omega) _ (by omega)).1
    have hacc2 : ((List.range' 1 (min l m)).take j).length ≤ 12 := by rw [List.length_take, List.length_range']; omega
    obtain ⟨b1, b2⟩ := LT_bd (l - f) (by omega) f (by omega)
    generalize ((List.range' 1 (min l m)).take j).flatMap (LTf l) = acc at *
    have hacc3 : acc.length ≤ 12 * 77 := Nat.le_trans hacc (Nat.mul_le_mul_right _ hacc2)
    infer_instance
    refine ⟨l - f, f, by rw [show ((l - f : Nat) : Int) = (l : Int) - f by omega], by omega, by omega, by omega, ?_⟩
    infer_instance
    refine ⟨(LT (l - f) f).map fzL, congrArg some frz_owL, rfl, rfl, by rw [List.length_map]; exact Nat.le_trans b1 (by decide), fun k ac ev => ac = (((LT (l - f) f).take k).map fun r => owL ((f : Int) :: r)) ∧ ev = [some (.int l), some (.int m), some (.lst (acc.map owL)), some (.int f), none], ⟨rfl, rfl⟩, fun _ _ _ _ _ => trivial, fun k ac ev hk h => ?_, fun ac ev h => ?_⟩
    · obtain ⟨rfl, rfl⟩ := h
      rw [List.length_map] at hk
      have ht : (LT (l - f) f).take (k + 1) = (LT (l - f) f).take k ++ [(LT (l - f) f)[k]] := by rw [List.take_add_one, List.getElem?_eq_getElem hk]; rfl
      have hi : ((LT (l - f) f).map fzL).getD k .non = fzL (LT (l - f) f)[k] := by rw [List.getD_eq_getElem?_getD, List.getElem?_map, List.getElem?_eq_getElem hk]; rfl
      have hc := b2 _ (List.getElem_mem hk)
      rw [hi]
      simp only [ht]
      generalize (LT (l - f) f)[k] = c at *
      have hc2 : [(f : Int)].length + c.length ≤ 16777216 := by show 1 + c.length ≤ _; omega
      infer_instance
      refine ⟨?_, rfl⟩
      rw [List.map_append]; rfl
    · obtain ⟨rfl, rfl⟩ := h
      rw [List.length_map, List.take_of_length_le (Nat.le_refl _)]
      infer_instance
      refine ⟨_, _, _, rfl, rfl, by rw [List.length_map, List.length_map]; exact Nat.le_trans (show _ ≤ 1100 by omega) (by decide), some (.int f), ?_⟩
      rw [show (LT (l - f) f).map (fun r => owL ((f : Int) :: r)) = (LTf l f).map owL by unfold LTf; rw [List.map_map]; rfl, ← List.map_append]
      rfl
  · obtain ⟨y3, rfl⟩ := h
    rw [hk, List.take_of_length_le (by rw [List.length_range']; omega), ← hst]
    infer_instance
    exact q
/-- the kinds of so many things -/
def KS (n : Nat) : List (List Int) := srtLL (LT n n)
theorem KS_perm (n : Nat) : (KS n).Perm (LT n n) := srtLL_perm _
theorem KS_len {n : Nat} (h : n < 13) : (KS n).length ≤ 77 := by rw [(KS_perm n).length_eq]; exact (LT_bd n h n h).1
theorem KS_row {n : Nat} (h : n < 13) {r : List Int} (m : r ∈ KS n) : r.length ≤ 12 := (LT_bd n h n h).2 r ((KS_perm n).mem_iff.mp m)
def S_kinds_of (c_NoNumber c_TooMany : Addr) : SpT := fun ts Q X => ∃ n : Int, ts = [.int n] ∧ (0 ≤ n → n ≤ 12 → Q (.lst ((KS n.toNat).map owL)) [some (.int n)]) ∧ (12 < n → X c_TooMany [some (.int n)]) ∧ (n < 0 → X c_NoNumber [some (.int n)])
/-! ### kinds_of -/
def b_kinds_of (c_NoNumber : Addr) (c_TooMany : Addr) : WS :=
    sSeq (sE (wOp (S_need_counted c_NoNumber c_TooMany) [.vl (wS 0)]))
    (sRet (wOp sSortLL [.vl (wOp (S_lists_to 14) [.vl (wS 0), .vl (wS 0)])]))
abbrev w_kinds_of (c_NoNumber : Addr) (c_TooMany : Addr) : SpT := spW 1 1 [] (b_kinds_of c_NoNumber c_TooMany)
/- slots: 0 n -/
theorem r_kinds_of {c_NoNumber c_TooMany : Addr} {ts : List T} {Q : T → List (Option T) → Prop} {X : Addr → List (Option T) → Prop} (h : S_kinds_of c_NoNumber c_TooMany ts Q X) : w_kinds_of c_NoNumber c_TooMany ts Q X := by
  obtain ⟨n, rfl, q1, q2, q3⟩ := h
  refine ⟨rfl, ?_⟩
  show b_kinds_of _ _ [some (.int n)] _
  unfold b_kinds_of
  infer_instance
  refine ⟨n, rfl, fun h0 h12 => ?_, q2, q3⟩
  infer_instance
  obtain ⟨m, rfl⟩ : ∃ m : Nat, n = m := ⟨n.toNat, by omega⟩
  refine ⟨m, m, rfl, by show m ≤ 13; omega, by omega, by omega, ?_⟩
  infer_instance
  exact q1 h0 h12
def S_need_times (c_NoNumber : Addr) : SpT := fun ts Q X => ∃ n : Int, ts = [.int n] ∧ (1 ≤ n → Q .non [some (.int n)]) ∧ (n < 1 → X c_NoNumber [some (.int n)])
/-! ### need_times -/
def b_need_times (c_NoNumber : Addr) : WS :=
    sIf (wTst (wOp sLt [.vl (wS 0), .vl (wC (.int 1))]))
    (sRaise c_NoNumber)
    (sPass)
abbrev w_need_times (c_NoNumber : Addr) : SpT := spW 1 1 [] (b_need_times c_NoNumber)
/- slots: 0 m -/
theorem r_need_times {c_NoNumber : Addr} {ts : List T} {Q : T → List (Option T) → Prop} {X : Addr → List (Option T) → Prop} (h : S_need_times c_NoNumber ts Q X) : w_need_times c_NoNumber ts Q X := by
  obtain ⟨n, rfl, q1, q2⟩ := h
  refine ⟨rfl, ?_⟩
  show b_need_times _ [some (.int n)] _
  unfold b_need_times
  infer_instance
  · rename_i e; exact q2 e
  all_goals exact q1 (by omega)
def S_product_to : SpT := fun ts Q _ => ∃ n : Nat, ts = [.int n] ∧ n ≤ 41 ∧ Q (.int (facI n)) [some (.int n)]
/-! ### product_to -/
def b_product_to : WS :=
    sSeq (sSet 1 (wC (.int 1)))
    (sSeq (sFor (wRng2 (.vl (wC (.int 2))) (.vl (wOp sAdd [.vl (wS 0), .vl (wC (.int 1))]))) (gN 2)
    (sSet 1 (wOp sMulS [.vl (wS 1), .vl (wS 2)])))
    (sRet (wS 1)))
abbrev w_product_to : SpT := spW 1 3 [1, 2] (b_product_to)
/- slots: 0 number 1 found 2 k -/
theorem r_product_to {ts : List T} {Q : T → List (Option T) → Prop} {X : Addr → List (Option T) → Prop} (h : S_product_to ts Q X) : w_product_to ts Q X := by
  obtain ⟨n, rfl, hn, q⟩ := h
  refine ⟨rfl, ?_⟩
  show b_product_to [some (.int n), none, none] _
  unfold b_product_to
  infer_instance
  refine for_rng2 (i := 2) (j := (n : Int) + 1) (PO.vl (by ac_rfl)) (PO.vl (by ac_rfl)) ⟨rfl, rfl⟩ (by omega) (I := fun j ev => ∃ y2 : Option T, ev = [some (.int n), some (.int (facI (j + 1))), y2]) ⟨_, rfl⟩ (fun j ev hj h => ?_) (fun ev h => ?_)
  · obtain ⟨y2, rfl⟩ := h
    obtain ⟨f1, f2⟩ := facI_sm (n := j + 1) (by omega)
    have s : Sm 120 (2 + (j : Int)) := Sm.of (by omega) (by omega)
    rw [show facI (j + 1 + 1) = facI (j + 1) * (2 + (j : Int)) by show facI (j + 1) * (((j + 1 : Nat) : Int) + 1) = _; congr 1; omega]
    generalize facI (j + 1) = f at *
    infer_instance
    all_goals first
      | exact .inr ⟨by omega, by omega⟩
      | exact (f2.mono (show _ ≤ 500 by omega)).cmul s (by decide)
      | exact ⟨_, rfl⟩
  · obtain ⟨y2, rfl⟩ := h
    infer_instance
    by_cases h0 : n = 0
    · subst h0; exact q
    · rw [show ((n : Int) + 1 - 2).toNat + 1 = n by omega]; exact q
theorem fall_of : ∀ {ks : List Int}, (∀ i : Nat, i + 1 < ks.length → G ks ((i + 1 : Nat) : Int) ≤ G ks (i : Int)) → ks.Pairwise (fun a b => b ≤ a)
  | [], _ => .nil
  | [a], _ => List.pairwise_singleton _ _
  | a :: b :: r, h => by
    have ih := fall_of (ks := b :: r) fun i hi => h (i + 1) (by simp only [List.length_cons] at hi ⊢; omega)
    have hab : b ≤ a := h 0 (by simp only [List.length_cons]; omega)
    refine List.pairwise_cons.mpr ⟨fun x hx => ?_, ih⟩
    rcases List.mem_cons.mp hx with rfl | hx
    · exact hab
    · exact Int.le_trans ((List.pairwise_cons.mp ih).1 x hx) hab
def S_how_many_of (c_NoKind : Addr) : SpT := fun ts Q X => ∃ t ks, ts = [t] ∧ IsL t ks ∧ ks.length ≤ 4000 ∧ (KD ks → Q (.int (HM ks)) [some t]) ∧ (¬ KD ks → X c_NoKind [some t])
/-! ### how_many_of -/
def b_how_many_of (c_NoKind : Addr) : WS :=
    sSeq (sSet 1 (wLc (wRng2 (.vl (wC (.int 1))) (.vl (wOp sLen [.pl 0]))) (gN 5) (wTst (wOp sGt [.vl (wOp sAt [.pl 0, .vl (wS 5)]), .vl (wOp sAt [.pl 0, .vl (wOp sSub [.vl (wS 5), .vl (wC (.int 1))])])])) (wS 5) [5]))
    (sSeq (sIf (wOr (wTst (wOp sNe [.vl (wLc (wList false (.pl 0)) (gN 6) (wTst (wOp sLt [.vl (wS 6), .vl (wC (.int 1))])) (wS 6) [6]), .vl (wOp sLst [])])) (wOr (wTst (wOp sNe [.pl 1, .vl (wOp sLst [])])) (wTst (wOp sGt [.vl (wOp sSum [.pl 0]), .vl (wC (.int 40))]))))
    (sRaise c_NoKind)
    (sPass))
    (sSeq (sSet 2 (wOp (S_product_to) [.vl (wOp sSum [.pl 0])]))
    (sSeq (sFor (wList false (.vl (wOp sSortSet [.pl 0]))) (gN 3)
    (sSeq (sFor (wRng1 (.vl (wMeth "list" sCount (.pl 0) [.vl (wS 3)]))) (gN 4)
    (sSet 2 (wOp sDiv [.vl (wS 2), .vl (wS 3)])))
    (sSet 2 (wOp sDiv [.vl (wS 2), .vl (wOp (S_product_to) [.vl (wMeth "list" sCount (.pl 0) [.vl (wS 3)])])]))))
    (sRet (wS 2)))))
abbrev w_how_many_of (c_NoKind : Addr) : SpT := spW 1 7 [1, 2, 3, 4] (b_how_many_of c_NoKind)
/- slots: 0 kind 1 rising 2 found 3 length 4 turn 5 k 6 one -/
theorem r_how_many_of {c_NoKind : Addr} {ts : List T} {Q : T → List (Option T) → Prop} {X : Addr → List (Option T) → Prop} (h : S_how_many_of c_NoKind ts Q X) : w_how_many_of c_NoKind ts Q X := by
  obtain ⟨t, ks, rfl, ht, hl4, q, qn⟩ := h
  by_cases hK : KD ks
  · replace q := q hK
    have hl := hK.len
    have hbd := hK.bd
    have hs0 := hK.sum0
    have hs40 := hK.2.2
    have h64 : ks.length < 64 := by omega
    refine ⟨rfl, ?_⟩
    show b_how_many_of _ [some t, none, none, none, none, none, none] _
    unfold b_how_many_of
    have hfall : ∀ (i j : Nat), i < j → j < ks.length → G ks j ≤ G ks i := fun i j hij hj => by
      have h1 := List.pairwise_iff_getElem.mp hK.2.1 i j (by omega) hj hij
      rw [G_of (List.getElem?_eq_getElem hj), G_of (List.getElem?_eq_getElem (show i < ks.length by omega))]; exact h1
    infer_instance
    refine lc_rng2 (i := 1) (j := (ks.length : Int)) (by ac_rfl) (p_len (PO.pl rfl) ht.len) (by omega) (Nat.le_trans (show _ ≤ 40 by omega) (by decide)) rfl (I := fun j acc ev => acc = [] ∧ ev = [some t, none, none, none, none, none, none]) ⟨rfl, rfl⟩ (fun j acc ev hj h => ?_) (fun acc ev' h => ?_)
    · obtain ⟨rfl, rfl⟩ := h
      have h1 := hfall j (j + 1) (by omega) (by omega)
      have a1 := ht.atG (i := 1 + (j : Int)) (by omega) (by omega)
      have a2 := ht.atG (i := 1 + (j : Int) - 1) (by omega) (by omega)
      infer_instance
      · rename_i e
        rw [show (1 : Int) + (j : Int) - 1 = (j : Int) by omega, show (1 : Int) + (j : Int) = ((j + 1 : Nat) : Int) by omega] at e
        exact absurd e (by omega)
      · exact ⟨rfl, rfl⟩
    · obtain ⟨rfl, rfl⟩ := h
      have hc1 : Pure (wLc (wList false (Arg.pl 0)) (gN 6) (wTst (wOp sLt [Arg.vl (wS 6), Arg.vl (wC (T.int 1))])) (wS 6) [6]) [some t, some (T.lst []), none, none, none, none, none] (.lst []) := fun Q X q => by
        refine lc_list (t := t) (items := ks.map T.int) rfl ht.kids ht.isSeq rfl (by rw [List.length_map]; exact Nat.le_trans hl (by decide)) (I := fun j acc ev => acc = [] ∧ ev = [some t, some (.lst []), none, none, none, none, none]) ⟨rfl, rfl⟩ (fun _ _ _ _ h => by rw [h.2]; rfl) (fun j acc ev hj h => ?_) (fun acc ev' h => ?_)
        · obtain ⟨rfl, rfl⟩ := h
          rw [List.length_map] at hj
          rw [item_int hj]
          have := hbd _ (G_mem (ns := ks) (i := j) (by omega) (by omega))
          infer_instance
          · rename_i e; exact absurd e (by omega)
          · exact ⟨rfl, rfl⟩
        · obtain ⟨rfl, rfl⟩ := h
          exact q
      infer_instance
      · exact absurd rfl (by assumption)
      · rename_i e; simp at e; omega
      refine ⟨ks.sum.toNat, by rw [Int.toNat_of_nonneg hs0], by omega, ?_⟩
      infer_instance
      refine ⟨t, ks, rfl, ht.kidLS, h64, fun ms hms hmem => ?_⟩
      have hmb : ∀ x ∈ ms, 1 ≤ x ∧ x ≤ 40 := fun x hx => hbd x ((hmem x).mp hx)
      unfold HM at q
      obtain ⟨A0, _⟩ := facI_sm (n := ks.sum.toNat) (by omega)
      generalize facI ks.sum.toNat = A at *
      infer_instance
      refine ⟨ms.map T.int, by show some ((ms.map T.int).map T.frz) = _; rw [List.map_map]; rfl, rfl, fun j ev => ∃ y3 y4 : Option T, ev = [some t, some (.lst []), some (.int (A / FR (upto ks (ms.take j)))), y3, y4, none, none], ⟨_, _, by rw [List.take_zero, upto_nil, show FR [] = 1 from rfl, Int.ediv_one]⟩, fun _ _ _ _ => trivial, fun j ev hj h => ?_, fun ev h => ?_⟩
      · obtain ⟨y3, y4, rfl⟩ := h
        rw [List.length_map] at hj
        rw [item_int hj]
        have hb := hmb _ (G_mem (ns := ms) (i := j) (by omega) (by omega))
        have ht2 : ms.take (j + 1) = ms.take j ++ [G ms j] := by rw [List.take_add_one, G_getN hj]; rfl
        have hnm : G ms j ∉ ms.take j := fun m => by
          obtain ⟨i, hi, e⟩ := List.getElem_of_mem m
          rw [List.length_take] at hi
          rw [List.getElem_take] at e
          have h1 := List.pairwise_iff_getElem.mp hms i j (by omega) hj (by omega)
          rw [G_of (List.getElem?_eq_getElem hj)] at e
          omega
        simp only [ht2, FR_upto hnm]
        obtain ⟨u1, u2⟩ := upto_bd (ms := ms.take j) hK
        obtain ⟨d1, d2⟩ := FR_sm u1 u2
        have hcl : ks.count (G ms j) ≤ 40 := Nat.le_trans List.count_le_length hl
        generalize FR (upto ks (ms.take j)) = D at *
        clear u1 u2 hnm ht2
        generalize G ms j = l at *
        generalize hc : ks.count l = c at *
        have hcount : Pure (wMeth "list" sCount (Arg.pl 0) [Arg.vl (wS 3)]) [some t, some (T.lst []), some (T.int (A / D)), some (T.int l), y4, none, none] (.int (c : Nat)) := by
          rw [← hc]; ac_rfl
        infer_instance
        refine for_rng1 (n := (c : Int)) (PO.vl hcount) (by omega) (I := fun k ev => ∃ y4 : Option T, ev = [some t, some (.lst []), some (.int (A / (D * l ^ k))), some (.int l), y4, none, none]) ⟨_, by rw [Int.pow_zero, Int.mul_one]⟩ (fun k ev hk h => ?_) (fun ev h => ?_)
        · obtain ⟨y4, rfl⟩ := h
          have hp := pow_pos' hb.1 k
          have hp2 : 1 * 1 ≤ D * l ^ k := Int.mul_le_mul d1 hp (by decide) (by omega)
          rw [Int.pow_succ, ← Int.mul_assoc, ← Int.ediv_ediv_of_nonneg (show 0 ≤ D * l ^ k by omega)]
          infer_instance
          exact ⟨_, rfl⟩
        · obtain ⟨y4, rfl⟩ := h
          rw [Int.toNat_natCast]
          have hp := pow_pos' hb.1 c
          have hp2 : 1 * 1 ≤ D * l ^ c := Int.mul_le_mul d1 hp (by decide) (by omega)
          obtain ⟨e1, e2⟩ := facI_sm (n := c) (by omega)
          have hcount : Pure (wMeth "list" sCount (Arg.pl 0) [Arg.vl (wS 3)]) [some t, some (T.lst []), some (T.int (A / (D * l ^ c))), some (T.int l), y4, none, none] (.int (c : Nat)) := by
            rw [← hc]; ac_rfl
          rw [← Int.mul_assoc, ← Int.ediv_ediv_of_nonneg (show 0 ≤ D * l ^ c by omega)]
          infer_instance
          refine ⟨c, by rw [hc], by omega, ?_⟩
          infer_instance
          · exact e2.cdiv (by omega) (by omega)
          · exact ⟨_, _, rfl⟩
      · obtain ⟨y3, y4, rfl⟩ := h
        rw [List.length_map, List.take_of_length_le (Nat.le_refl _), upto_all hmem]
        infer_instance
        exact q
  · replace qn := qn hK
    refine ⟨rfl, ?_⟩
    show b_how_many_of _ [some t, none, none, none, none, none, none] _
    unfold b_how_many_of
    infer_instance
    refine lc_rng2 (i := 1) (j := (ks.length : Int)) (by ac_rfl) (p_len (PO.pl rfl) ht.len) (by omega) (Nat.le_trans (show _ ≤ 4000 by omega) (by decide)) rfl (I := fun j acc ev => ∃ rs : List Int, acc = rs.map T.int ∧ (rs = [] → ∀ i : Nat, i < j → i + 1 < ks.length → G ks ((i + 1 : Nat) : Int) ≤ G ks (i : Int)) ∧ ev = [some t, none, none, none, none, none, none]) ⟨[], rfl, fun _ i hi => by omega, rfl⟩ (fun j acc ev hj h => ?_) (fun acc ev' h => ?_)
    · obtain ⟨rs, rfl, hrs, rfl⟩ := h
      have a1 := ht.atG (i := 1 + (j : Int)) (by omega) (by omega)
      have a2 := ht.atG (i := 1 + (j : Int) - 1) (by omega) (by omega)
      infer_instance
      · exact ⟨rs ++ [1 + (j : Int)], by rw [List.map_append]; rfl, fun z => by simp at z, rfl⟩
      · rename_i e
        refine ⟨rs, rfl, fun z i hi hi2 => ?_, rfl⟩
        by_cases hij : i < j
        · exact hrs z i hij hi2
        · obtain rfl : i = j := by omega
          rw [show (1 : Int) + (i : Int) - 1 = (i : Int) by omega, show (1 : Int) + (i : Int) = ((i + 1 : Nat) : Int) by omega] at e
          omega
    · obtain ⟨rs, rfl, hrs, rfl⟩ := h
      have hc1 : Pure (wLc (wList false (Arg.pl 0)) (gN 6) (wTst (wOp sLt [Arg.vl (wS 6), Arg.vl (wC (T.int 1))])) (wS 6) [6]) [some t, some (T.lst (rs.map T.int)), none, none, none, none, none] (.lst ((ks.filter fun x => decide (x < 1)).map T.int)) := fun Q X q => by
        refine lc_list (t := t) (items := ks.map T.int) rfl ht.kids ht.isSeq rfl (by rw [List.length_map]; exact Nat.le_trans hl4 (by decide)) (I := fun j acc ev => acc = ((ks.take j).filter fun x => decide (x < 1)).map T.int ∧ ev = [some t, some (.lst (rs.map T.int)), none, none, none, none, none]) ⟨rfl, rfl⟩ (fun _ _ _ _ h => by rw [h.2]; rfl) (fun j acc ev hj h => ?_) (fun acc ev' h => ?_)
        · obtain ⟨rfl, rfl⟩ := h
          rw [List.length_map] at hj
          rw [item_int hj]
          have htk : ks.take (j + 1) = ks.take j ++ [G ks j] := by rw [List.take_add_one, G_getN hj]; rfl
          rw [htk, List.filter_append, List.map_append]
          generalize G ks j = g at *
          infer_instance
          · rename_i e
            exact ⟨by simp [e], rfl⟩
          · rename_i e
            exact ⟨by simp [show ¬ g < 1 by omega], rfl⟩
        · obtain ⟨rfl, rfl⟩ := h
          rw [List.length_map, List.take_of_length_le (Nat.le_refl _)]
          exact q
      infer_instance
      all_goals first | exact qn | skip
      exfalso
      rename_i e1 e2 e3
      refine hK ⟨fun x hx => ?_, fall_of fun i hi => hrs e2 i (by omega) hi, by omega⟩
      refine Classical.byContradiction fun z => ?_
      have : x ∈ ks.filter fun x => decide (x < 1) := List.mem_filter.mpr ⟨hx, decide_eq_true (by omega)⟩
      rw [e1] at this
      cases this
def S_need_number (c_NoNumber : Addr) : SpT := fun ts Q X => ∃ n : Int, ts = [.int n] ∧ (1 ≤ n → Q .non [some (.int n)]) ∧ (n < 1 → X c_NoNumber [some (.int n)])
/-! ### need_number -/
def b_need_number (c_NoNumber : Addr) : WS :=
    sIf (wOr (wNot (wTst (wOp sIsi [.pl 0, .vl (wC (.ty "int"))]))) (wOr (wTst (wOp sIsi [.pl 0, .vl (wC (.ty "bool"))])) (wTst (wOp sLt [.vl (wS 0), .vl (wC (.int 1))]))))
    (sRaise c_NoNumber)
    (sPass)
abbrev w_need_number (c_NoNumber : Addr) : SpT := spW 1 1 [] (b_need_number c_NoNumber)
/- slots: 0 number -/
theorem r_need_number {c_NoNumber : Addr} {ts : List T} {Q : T → List (Option T) → Prop} {X : Addr → List (Option T) → Prop} (h : S_need_number c_NoNumber ts Q X) : w_need_number c_NoNumber ts Q X := by
  obtain ⟨n, rfl, q1, q2⟩ := h
  refine ⟨rfl, ?_⟩
  show b_need_number _ [some (.int n)] _
  unfold b_need_number
  infer_instance
  · rename_i e
    exact q2 (by simpa [isI] using e)
  all_goals exact q1 (by omega)
def S_parts_both : SpT := fun ts Q _ => ∃ a b : Int, ts = [.int a, .int b] ∧ 0 ≤ a ∧ 0 ≤ b ∧ Q (.int (Nat.gcd a.toNat b.toNat : Nat)) [none, none]
/-! ### parts_both -/
def b_parts_both : WS :=
    sSeq (sWhile (wTst (wOp sNe [.vl (wS 1), .vl (wC (.int 0))]))
    (sPar 0 1 [.vl (wS 1), .vl (wOp sMod [.vl (wS 0), .vl (wS 1)])]))
    (sRet (wS 0))
abbrev w_parts_both : SpT := spW 2 2 [0, 1] (b_parts_both)
/- slots: 0 one 1 other -/
theorem r_parts_both {ts : List T} {Q : T → List (Option T) → Prop} {X : Addr → List (Option T) → Prop} (h : S_parts_both ts Q X) : w_parts_both ts Q X := by
  obtain ⟨a, b, rfl, ha, hb, q⟩ := h
  refine ⟨rfl, ?_⟩
  show b_parts_both [some (.int a), some (.int b)] _
  unfold b_parts_both
  infer_instance
  refine ⟨fun m ev => ∃ x y : Nat, ev = [some (.int x), some (.int y)] ∧ y = m ∧ Nat.gcd x y = Nat.gcd a.toNat b.toNat, ⟨b.toNat, a.toNat, b.toNat, by rw [Int.toNat_of_nonneg ha, Int.toNat_of_nonneg hb], rfl, rfl⟩, fun m ev h => ?_⟩
  obtain ⟨x, y, rfl, rfl, hg⟩ := h
  infer_instance
  · rename_i hy
    refine ⟨x % y, Nat.mod_lt _ (by omega), y, x % y, by rw [← Int.natCast_emod], rfl, ?_⟩
    rw [← hg, Nat.gcd_comm x y, Nat.gcd_rec y x, Nat.gcd_comm]
  · rename_i hy
    obtain rfl : y = 0 := by omega
    rw [Nat.gcd_zero_right] at hg
    rw [hg]
    exact q
def S_least_right (c_NoNumber : Addr) : SpT := fun ts Q X => ∃ l m : Int, ts = [.int l, .int m] ∧ l < 2 ^ 120 ∧ m < 2 ^ 120 ∧ (1 ≤ l → 1 ≤ m → Q (.int (lr l.toNat m.toNat : Nat)) [some (.int l), some (.int m)]) ∧ ((l < 1 ∨ m < 1) → X c_NoNumber [some (.int l), some (.int m)])
/-! ### least_right -/
def b_least_right (c_NoNumber : Addr) : WS :=
    sSeq (sE (wOp (S_need_number c_NoNumber) [.vl (wS 0)]))
    (sSeq (sE (wOp (S_need_number c_NoNumber) [.vl (wS 1)]))
    (sSeq (sSet 2 (wS 1))
    (sSeq (sWhile (wTst (wOp sGt [.vl (wOp (S_parts_both) [.vl (wS 2), .vl (wS 0)]), .vl (wC (.int 1))]))
    (sSet 2 (wOp sDiv [.vl (wS 2), .vl (wOp (S_parts_both) [.vl (wS 2), .vl (wS 0)])])))
    (sRet (wOp sDiv [.vl (wS 1), .vl (wS 2)])))))
abbrev w_least_right (c_NoNumber : Addr) : SpT := spW 2 3 [2] (b_least_right c_NoNumber)
/- slots: 0 l 1 m 2 rest -/
theorem r_least_right {c_NoNumber : Addr} {ts : List T} {Q : T → List (Option T) → Prop} {X : Addr → List (Option T) → Prop} (h : S_least_right c_NoNumber ts Q X) : w_least_right c_NoNumber ts Q X := by
  obtain ⟨l, m, rfl, hl2, hm2, q1, q2⟩ := h
  refine ⟨rfl, ?_⟩
  show b_least_right _ [some (.int l), some (.int m), none] _
  unfold b_least_right
  infer_instance
  refine ⟨l, rfl, fun hl => ?_, fun hl => q2 (.inl hl)⟩
  infer_instance
  refine ⟨m, rfl, fun hm => ?_, fun hm => q2 (.inr hm)⟩
  infer_instance
  refine ⟨fun f ev => ∃ r : Nat, ev = [some (.int l), some (.int m), some (.int r)] ∧ r = f ∧ 0 < r ∧ r ∣ m.toNat ∧ ∃ k, m.toNat / r ∣ l.toNat ^ k, ⟨m.toNat, m.toNat, by rw [Int.toNat_of_nonneg (by omega)], rfl, by omega, Nat.dvd_refl _, 0, by rw [Nat.div_self (by omega)]; exact Nat.one_dvd _⟩, fun f ev h => ?_⟩
  obtain ⟨r, rfl, rfl, r0, hr, k, hk⟩ := h
  have hrm := Nat.le_of_dvd (by omega) hr
  infer_instance
  refine ⟨r, l, rfl, by omega, by omega, ?_⟩
  have er : ((r : Int).toNat) = r := by omega
  rw [er]
  have gp : 0 < Nat.gcd r l.toNat := Nat.gcd_pos_of_pos_left _ r0
  have gr : Nat.gcd r l.toNat ∣ r := Nat.gcd_dvd_left ..
  have gle := Nat.le_of_dvd r0 gr
  infer_instance
  · rename_i hg
    refine ⟨r, l, rfl, by omega, by omega, ?_⟩
    rw [er]
    infer_instance
    have hlt : r / Nat.gcd r l.toNat < r := Nat.div_lt_self r0 (by omega)
    refine ⟨r / Nat.gcd r l.toNat, hlt, r / Nat.gcd r l.toNat, by rw [← Int.natCast_ediv], rfl, Nat.div_pos gle gp, Nat.dvd_trans (Nat.div_dvd_of_dvd gr) hr, k + 1, ?_⟩
    have e1 : m.toNat / (r / Nat.gcd r l.toNat) = (m.toNat / r) * Nat.gcd r l.toNat := div_div_mul hr gr r0
    rw [e1, Nat.pow_succ]
    exact Nat.mul_dvd_mul hk (Nat.gcd_dvd_right ..)
  · rename_i hg
    have h1 : Nat.gcd r l.toNat = 1 := by omega
    infer_instance
    have e : m / (r : Int) = ((m.toNat / r : Nat) : Int) := by
      rw [Int.natCast_ediv, Int.toNat_of_nonneg (by omega)]
    rw [e]
    have hL : IsLr l.toNat m.toNat (m.toNat / r) := ⟨Nat.div_dvd_of_dvd hr, by rw [Nat.div_div_self hr (by omega)]; exact h1, k, hk⟩
    have := q1 hl hm
    rw [lr_eq hL] at this
    exact this
def S_has_root_by_kind (c_NoNumber : Addr) : SpT := fun ts Q _ => ∃ t ks, ∃ m : Nat, ts = [t, .int m] ∧ IsL t ks ∧ KD ks ∧ 0 < m ∧ (m : Int) < 2 ^ 120 ∧ Q (.bl (rootK ks m)) [some t, some (.int m)]
/-! ### has_root_by_kind -/
def b_has_root_by_kind (c_NoNumber : Addr) : WS :=
    sRet (wOp sEq [.vl (wLc (wList false (.pl 0)) (gN 2) (wTst (wOp sNe [.vl (wOp sMod [.vl (wMeth "list" sCount (.pl 0) [.vl (wS 2)]), .vl (wOp (S_least_right c_NoNumber) [.vl (wS 2), .vl (wS 1)])]), .vl (wC (.int 0))])) (wS 2) [2]), .vl (wOp sLst [])])
abbrev w_has_root_by_kind (c_NoNumber : Addr) : SpT := spW 2 3 [] (b_has_root_by_kind c_NoNumber)
/- slots: 0 kind 1 m 2 one -/
theorem r_has_root_by_kind {c_NoNumber : Addr} {ts : List T} {Q : T → List (Option T) → Prop} {X : Addr → List (Option T) → Prop} (h : S_has_root_by_kind c_NoNumber ts Q X) : w_has_root_by_kind c_NoNumber ts Q X := by
  obtain ⟨t, ks, m, rfl, ht, hK, hm0, hm, q⟩ := h
  have hl := hK.len
  have hbd := hK.bd
  refine ⟨rfl, ?_⟩
  show b_has_root_by_kind _ [some t, some (.int m), none] _
  unfold b_has_root_by_kind
  infer_instance
  refine lc_list (t := t) (items := ks.map T.int) rfl ht.kids ht.isSeq rfl (by rw [List.length_map]; exact Nat.le_trans hl (by decide)) (I := fun j acc ev => acc = (((ks.take j).filter fun l => !decide (ks.count l % lr l.toNat m = 0)).map T.int) ∧ ev = [some t, some (.int m), none]) ⟨rfl, rfl⟩ (fun _ _ _ _ h => by rw [h.2]; rfl) (fun j acc ev hj h => ?_) (fun acc ev' h => ?_)
  · obtain ⟨rfl, rfl⟩ := h
    rw [List.length_map] at hj
    rw [item_int hj]
    have hb := hbd _ (G_mem (ns := ks) (i := j) (by omega) (by omega))
    have ht2 : ks.take (j + 1) = ks.take j ++ [G ks j] := by rw [List.take_add_one, G_getN hj]; rfl
    simp only [ht2, List.filter_append, List.map_append]
    have hcl : ks.count (G ks j) ≤ 40 := Nat.le_trans List.count_le_length hl
    generalize G ks j = l at *
    obtain ⟨ln, rfl⟩ : ∃ ln : Nat, l = ln := ⟨l.toNat, by omega⟩
    have hlr := lr_is (l := ln) (m := m) (by omega) hm0
    have hlp := lr_pos (l := ln) (m := m) (by omega) hm0
    have hle := Nat.le_of_dvd hm0 hlr.1
    infer_instance
    refine ⟨(ln : Int), (m : Int), rfl, by omega, hm, fun _ _ => ?_, fun z => by omega⟩
    rw [Int.toNat_natCast, Int.toNat_natCast]
    generalize hd : lr ln m = d at *
    infer_instance
    · rename_i e
      refine ⟨?_, rfl⟩
      have e2 : ¬ ks.count (ln : Int) % d = 0 := fun z => e (by rw [← Int.natCast_emod, z]; rfl)
      congr 1
      rw [List.filter_cons, Int.toNat_natCast]
      simp [hd, e2]
    · rename_i e
      refine ⟨?_, rfl⟩
      have e2 : ks.count (ln : Int) % d = 0 := by rw [← Int.natCast_emod] at e; omega
      rw [List.filter_cons, Int.toNat_natCast]
      simp [hd, e2]
  · obtain ⟨rfl, rfl⟩ := h
    rw [List.length_map, List.take_of_length_le (Nat.le_refl _)]
    infer_instance
    have : decide (ks.filter (fun l => !decide (ks.count l % lr l.toNat m = 0)) = []) = rootK ks m := by
      unfold rootK
      rw [Bool.eq_iff_iff, decide_eq_true_iff, List.filter_eq_nil_iff, List.all_eq_true]
      refine forall_congr' fun a => forall_congr' fun _ => ?_
      simp
    rw [this]
    exact q
noncomputable def HAVE (n m : Nat) : Int := (((KS n).filter fun ks => rootK ks m).map HM).sum
def S_how_many_have (c_NoKind c_NoNumber c_TooMany : Addr) : SpT := fun ts Q X => ∃ n m : Int, ts = [.int n, .int m] ∧ m < 2 ^ 120 ∧ (12 < n → X c_TooMany [some (.int n), some (.int m)]) ∧ (n < 0 → X c_NoNumber [some (.int n), some (.int m)]) ∧ (0 ≤ n → n ≤ 12 → m < 1 → X c_NoNumber [some (.int n), some (.int m)]) ∧
  (0 ≤ n → n ≤ 12 → 1 ≤ m → ∀ r : Int, Q (.int r) [some (.int n), some (.int m)])
/-! ### how_many_have -/
def b_how_many_have (c_NoKind : Addr) (c_NoNumber : Addr) (c_TooMany : Addr) : WS :=
    sSeq (sE (wOp (S_need_counted c_NoNumber c_TooMany) [.vl (wS 0)]))
    (sSeq (sE (wOp (S_need_times c_NoNumber) [.vl (wS 1)]))
    (sRet (wOp sSum [.vl (wLc (wList false (.vl (wFz (wOp (S_kinds_of c_NoNumber c_TooMany) [.vl (wS 0)])))) (gN 2) (wTst (wOp (S_has_root_by_kind c_NoNumber) [.pl 2, .vl (wS 1)])) (wOp (S_how_many_of c_NoKind) [.pl 2]) [2])])))
abbrev w_how_many_have (c_NoKind : Addr) (c_NoNumber : Addr) (c_TooMany : Addr) : SpT := spW 2 3 [] (b_how_many_have c_NoKind c_NoNumber c_TooMany)
/- slots: 0 n 1 m 2 kind -/
theorem r_how_many_have {c_NoKind c_NoNumber c_TooMany : Addr} {ts : List T} {Q : T → List (Option T) → Prop} {X : Addr → List (Option T) → Prop} (h : S_how_many_have c_NoKind c_NoNumber c_TooMany ts Q X) : w_how_many_have c_NoKind c_NoNumber c_TooMany ts Q X := by
  obtain ⟨n, m, rfl, hm, x1, x2, x3, q⟩ := h
  refine ⟨rfl, ?_⟩
  show b_how_many_have _ _ _ [some (.int n), some (.int m), none] _
  unfold b_how_many_have
  infer_instance
  refine ⟨n, rfl, fun n0 n1 => ?_, fun z => x1 z, fun z => x2 z⟩
  infer_instance
  refine ⟨m, rfl, fun m1 => ?_, fun z => x3 n0 n1 z⟩
  replace q := q n0 n1 m1
  obtain ⟨n, rfl⟩ : ∃ k : Nat, n = k := ⟨n.toNat, by omega⟩
  obtain ⟨m, rfl⟩ : ∃ k : Nat, m = k := ⟨m.toNat, by omega⟩
  have hn : n < 13 := by omega
  have hm0 : 0 < m := by omega
  have hkl := KS_len hn
  have hkd : ∀ r ∈ KS n, KD r := fun r hr => (LT_KD hn ((KS_perm n).mem_iff.mp hr)).1
  infer_instance
  refine ⟨(n : Int), rfl, fun _ _ => ?_, fun z => by omega, fun z => by omega⟩
  rw [Int.toNat_natCast]
  generalize KS n = cs at *
  infer_instance
  refine ⟨cs.map fzL, congrArg some frz_owL, rfl, rfl, by rw [List.length_map]; exact Nat.le_trans hkl (by decide), fun j acc ev => acc = ((((cs.take j).filter fun ks => rootK ks m).map HM).map T.int) ∧ ev = [some (.int n), some (.int m), none], ⟨rfl, rfl⟩, fun _ _ _ _ _ => trivial, fun j acc ev hj h => ?_, fun acc ev' h => ?_⟩
  · obtain ⟨rfl, rfl⟩ := h
    rw [List.length_map] at hj
    have ht2 : cs.take (j + 1) = cs.take j ++ [cs.getD j []] := by rw [List.take_add_one, List.getElem?_eq_getElem hj, List.getD_eq_getElem?_getD, List.getElem?_eq_getElem hj]; rfl
    have hk := hkd _ (getD_mem (d := []) hj)
    rw [item_fz hj]
    simp only [ht2, List.filter_append, List.map_append]
    generalize cs.getD j [] = ks at *
    infer_instance
    refine ⟨_, ks, m, rfl, IsL.fz, hk, hm0, hm, ?_⟩
    have hf : [ks].filter (fun ks => rootK ks m) = if rootK ks m = true then [ks] else [] := by simp only [List.filter_cons, List.filter_nil]
    rw [hf]
    generalize rootK ks m = b at *
    cases b
    · infer_instance
      refine ⟨?_, rfl⟩
      rw [if_neg Bool.false_ne_true, List.map_nil, List.map_nil, List.append_nil]
    · infer_instance
      refine ⟨_, ks, rfl, IsL.fz, (by have := hk.len; omega), fun _ => ?_, fun z => absurd hk z⟩
      exact ⟨rfl, rfl⟩
  · obtain ⟨rfl, rfl⟩ := h
    rw [List.length_map, List.take_of_length_le (Nat.le_refl _)]
    infer_instance
    refine ⟨_, _, rfl, IsL.own.kidLS, ?_⟩
    infer_instance
    exact q _
def HOME (n m : Nat) : Int := (((KS n).filter fun ks => homeB ks m).map HM).sum
def S_how_many_home (c_NoKind c_NoNumber c_TooMany : Addr) : SpT := fun ts Q X => ∃ n m : Int, ts = [.int n, .int m] ∧ m < 2 ^ 120 ∧ (12 < n → X c_TooMany [some (.int n), some (.int m)]) ∧ (n < 0 → X c_NoNumber [some (.int n), some (.int m)]) ∧ (0 ≤ n → n ≤ 12 → m < 1 → X c_NoNumber [some (.int n), some (.int m)]) ∧
  (0 ≤ n → n ≤ 12 → 1 ≤ m → ∀ r : Int, Q (.int r) [some (.int n), some (.int m)])
/-! ### how_many_home -/
def b_how_many_home (c_NoKind : Addr) (c_NoNumber : Addr) (c_TooMany : Addr) : WS :=
    sSeq (sE (wOp (S_need_counted c_NoNumber c_TooMany) [.vl (wS 0)]))
    (sSeq (sE (wOp (S_need_times c_NoNumber) [.vl (wS 1)]))
    (sRet (wOp sSum [.vl (wLc (wList false (.vl (wFz (wOp (S_kinds_of c_NoNumber c_TooMany) [.vl (wS 0)])))) (gN 2) (wTst (wOp sEq [.vl (wLc (wList false (.pl 2)) (gN 3) (wTst (wOp sNe [.vl (wOp sMod [.vl (wS 1), .vl (wS 3)]), .vl (wC (.int 0))])) (wS 3) [3]), .vl (wOp sLst [])])) (wOp (S_how_many_of c_NoKind) [.pl 2]) [2])])))
abbrev w_how_many_home (c_NoKind : Addr) (c_NoNumber : Addr) (c_TooMany : Addr) : SpT := spW 2 4 [] (b_how_many_home c_NoKind c_NoNumber c_TooMany)
/- slots: 0 n 1 m 2 kind 3 one -/
theorem r_how_many_home {c_NoKind c_NoNumber c_TooMany : Addr} {ts : List T} {Q : T → List (Option T) → Prop} {X : Addr → List (Option T) → Prop} (h : S_how_many_home c_NoKind c_NoNumber c_TooMany ts Q X) : w_how_many_home c_NoKind c_NoNumber c_TooMany ts Q X := by
  obtain ⟨n, m, rfl, hm, x1, x2, x3, q⟩ := h
  refine ⟨rfl, ?_⟩
  show b_how_many_home _ _ _ [some (.int n), some (.int m), none, none] _
  unfold b_how_many_home
  infer_instance
  refine ⟨n, rfl, fun n0 n1 => ?_, fun z => x1 z, fun z => x2 z⟩
  infer_instance
  refine ⟨m, rfl, fun m1 => ?_, fun z => x3 n0 n1 z⟩
  replace q := q n0 n1 m1
  obtain ⟨n, rfl⟩ : ∃ k : Nat, n = k := ⟨n.toNat, by omega⟩
  obtain ⟨m, rfl⟩ : ∃ k : Nat, m = k := ⟨m.toNat, by omega⟩
  have hn : n < 13 := by omega
  have hm0 : 0 < m := by omega
  have hkl := KS_len hn
  have hkd : ∀ r ∈ KS n, KD r := fun r hr => (LT_KD hn ((KS_perm n).mem_iff.mp hr)).1
  infer_instance
  refine ⟨(n : Int), rfl, fun _ _ => ?_, fun z => by omega, fun z => by omega⟩
  rw [Int.toNat_natCast]
  generalize KS n = cs at *
  infer_instance
  refine ⟨cs.map fzL, congrArg some frz_owL, rfl, rfl, by rw [List.length_map]; exact Nat.le_trans hkl (by decide), fun j acc ev => acc = ((((cs.take j).filter fun ks => homeB ks m).map HM).map T.int) ∧ ev = [some (.int n), some (.int m), none, none], ⟨rfl, rfl⟩, fun _ _ _ _ _ => trivial, fun j acc ev hj h => ?_, fun acc ev' h => ?_⟩
  · obtain ⟨rfl, rfl⟩ := h
    rw [List.length_map] at hj
    have ht2 : cs.take (j + 1) = cs.take j ++ [cs.getD j []] := by rw [List.take_add_one, List.getElem?_eq_getElem hj, List.getD_eq_getElem?_getD, List.getElem?_eq_getElem hj]; rfl
    have hk := hkd _ (getD_mem (d := []) hj)
    rw [item_fz hj]
    simp only [ht2, List.filter_append, List.map_append]
    generalize cs.getD j [] = ks at *
    infer_instance
    have hl := hk.len
    have hbd := hk.bd
    refine lc_list (t := fzL ks) (items := ks.map T.int) rfl (IsL.fz (ns := ks)).kids rfl rfl (by rw [List.length_map]; exact Nat.le_trans hl (by decide)) (I := fun i acc ev => acc = (((ks.take i).filter fun l => !decide ((m : Int) % l = 0)).map T.int) ∧ ev = [some (.int n), some (.int m), some (fzL ks), none]) ⟨rfl, rfl⟩ (fun _ _ _ _ h => by rw [h.2]; rfl) (fun i acc ev hi h => ?_) (fun acc ev' h => ?_)
    · obtain ⟨rfl, rfl⟩ := h
      rw [List.length_map] at hi
      rw [item_int hi]
      have hb := hbd _ (G_mem (ns := ks) (i := i) (by omega) (by omega))
      have ht2 : ks.take (i + 1) = ks.take i ++ [G ks i] := by rw [List.take_add_one, G_getN hi]; rfl
      simp only [ht2, List.filter_append, List.map_append]
      generalize G ks i = l at *
      infer_instance
      · rename_i e
        refine ⟨?_, rfl⟩
        have e2 : ¬ (m : Int) % l = 0 := e
        congr 1
        rw [List.filter_cons]
        simp [e2]
      · rename_i e
        refine ⟨?_, rfl⟩
        have e2 : (m : Int) % l = 0 := by omega
        rw [List.filter_cons]
        simp [e2]
    obtain ⟨rfl, rfl⟩ := h
    rw [List.length_map, List.take_of_length_le (Nat.le_refl _)]
    have hfb : decide (ks.filter (fun l => !decide ((m : Int) % l = 0)) = []) = homeB ks m := by
      unfold homeB
      rw [Bool.eq_iff_iff, decide_eq_true_iff, List.filter_eq_nil_iff, List.all_eq_true]
      refine forall_congr' fun a => forall_congr' fun _ => ?_
      simp
    have hf1 : [ks].filter (fun ks => homeB ks m) = if homeB ks m = true then [ks] else [] := by simp only [List.filter_cons, List.filter_nil]
    rw [hf1]
    infer_instance
    · rename_i e
      rw [decide_eq_true e] at hfb
      refine ⟨_, ks, rfl, IsL.fz, (by have := hk.len; omega), fun _ => ?_, fun z => absurd hk z⟩
      rw [← hfb, if_pos rfl]
      exact ⟨rfl, rfl⟩
    · rename_i e
      rw [decide_eq_false e] at hfb
      rw [← hfb, if_neg Bool.false_ne_true, List.map_nil, List.map_nil, List.append_nil]
      exact ⟨rfl, rfl⟩
  · obtain ⟨rfl, rfl⟩ := h
    rw [List.length_map, List.take_of_length_le (Nat.le_refl _)]
    infer_instance
    refine ⟨_, _, rfl, IsL.own.kidLS, ?_⟩
    infer_instance
    exact q _
def S__law_caught (c_NoKind c_NoNumber c_TooMany : Addr) : SpT := fun ts Q _ => (∃ w n m : Int, ts = [.int w, .int n, .int m] ∧ 0 ≤ w ∧ w ≤ 2 ∧ m < 2 ^ 120 ∧ (12 < n → Q (.exc c_TooMany) [some (.int w), some (.int n), some (.int m)]) ∧ (n < 0 → Q (.exc c_NoNumber) [some (.int w), some (.int n), some (.int m)]) ∧
    (0 ≤ n → n ≤ 12 → 0 < w → m < 1 → Q (.exc c_NoNumber) [some (.int w), some (.int n), some (.int m)]) ∧ (0 ≤ n → n ≤ 12 → (w = 0 ∨ 1 ≤ m) → Q .non [some (.int w), some (.int n), some (.int m)])) ∨
  (∃ t ks, ∃ m : Int, ts = [.int 3, t, .int m] ∧ IsL t ks ∧ ks.length ≤ 4000 ∧ (KD ks → Q .non [some (.int 3), some t, some (.int m)]) ∧ (¬ KD ks → Q (.exc c_NoKind) [some (.int 3), some t, some (.int m)]))
/-! ### _law_caught -/
def b__law_caught (c_NoKind : Addr) (c_NoNumber : Addr) (c_TooMany : Addr) : WS :=
    sSeq (sSet 3 (wC .non))
    (sSeq (sTryK 4 3 [c_NoKind, c_NoNumber, c_TooMany]
    (sIf (wTst (wOp sEq [.vl (wS 0), .vl (wC (.int 0))]))
    (sE (wOp (S_kinds_of c_NoNumber c_TooMany) [.pl 1]))
    (sIf (wTst (wOp sEq [.vl (wS 0), .vl (wC (.int 1))]))
    (sE (wOp (S_how_many_have c_NoKind c_NoNumber c_TooMany) [.pl 1, .pl 2]))
    (sIf (wTst (wOp sEq [.vl (wS 0), .vl (wC (.int 2))]))
    (sE (wOp (S_how_many_home c_NoKind c_NoNumber c_TooMany) [.pl 1, .pl 2]))
    (sE (wOp (S_how_many_of c_NoKind) [.pl 1]))))))
    (sRet (wS 3)))
abbrev w__law_caught (c_NoKind : Addr) (c_NoNumber : Addr) (c_TooMany : Addr) : SpT := spW 3 5 [3, 4] (b__law_caught c_NoKind c_NoNumber c_TooMany)
/- slots: 0 way 1 one 2 other 3 caught 4 e -/
theorem r__law_caught {c_NoKind c_NoNumber c_TooMany : Addr} {ts : List T} {Q : T → List (Option T) → Prop} {X : Addr → List (Option T) → Prop} (h : S__law_caught c_NoKind c_NoNumber c_TooMany ts Q X) : w__law_caught c_NoKind c_NoNumber c_TooMany ts Q X := by
  refine ⟨by rcases h with ⟨w, n, m, rfl, _⟩ | ⟨t, ks, m, rfl, _⟩ <;> rfl, ?_⟩
  rcases h with ⟨w, n, m, rfl, w0, w2, hm, x1, x2, x3, q⟩ | ⟨t, ks, m, rfl, ht, hl, q1, q2⟩
  · show b__law_caught _ _ _ [some (.int w), some (.int n), some (.int m), none, none] _
    unfold b__law_caught
    have hw : w = 0 ∨ w = 1 ∨ w = 2 := by omega
    rcases hw with rfl | rfl | rfl
    · infer_instance
      all_goals first | (exfalso; omega) | skip
      refine ⟨n, rfl, fun n0 n1 => ?_, fun z => ?_, fun z => ?_⟩
      · infer_instance
        exact q n0 n1 (.inl rfl)
      · refine ⟨by simp, by show (4 : Nat) < 5; decide, by show (3 : Nat) < 5; decide, ?_⟩
        infer_instance
        exact x1 z
      · refine ⟨by simp, by show (4 : Nat) < 5; decide, by show (3 : Nat) < 5; decide, ?_⟩
        infer_instance
        exact x2 z
    · infer_instance
      all_goals first | (exfalso; omega) | skip
      refine ⟨n, m, rfl, hm, fun z => ?_, fun z => ?_, fun n0 n1 z => ?_, fun n0 n1 z r => ?_⟩
      · refine ⟨by simp, by show (4 : Nat) < 5; decide, by show (3 : Nat) < 5; decide, ?_⟩
        infer_instance
        exact x1 z
      · refine ⟨by simp, by show (4 : Nat) < 5; decide, by show (3 : Nat) < 5; decide, ?_⟩
        infer_instance
        exact x2 z
      · refine ⟨by simp, by show (4 : Nat) < 5; decide, by show (3 : Nat) < 5; decide, ?_⟩
        infer_instance
        exact x3 n0 n1 (by decide) z
      · infer_instance
        exact q n0 n1 (.inr z)
    · infer_instance
      all_goals first | (exfalso; omega) | skip
      refine ⟨n, m, rfl, hm, fun z => ?_, fun z => ?_, fun n0 n1 z => ?_, fun n0 n1 z r => ?_⟩
      · refine ⟨by simp, by show (4 : Nat) < 5; decide, by show (3 : Nat) < 5; decide, ?_⟩
        infer_instance
        exact x1 z
      · refine ⟨by simp, by show (4 : Nat) < 5; decide, by show (3 : Nat) < 5; decide, ?_⟩
        infer_instance
        exact x2 z
      · refine ⟨by simp, by show (4 : Nat) < 5; decide, by show (3 : Nat) < 5; decide, ?_⟩
        infer_instance
        exact x3 n0 n1 (by decide) z
      · infer_instance
        exact q n0 n1 (.inr z)
  · show b__law_caught _ _ _ [some (.int 3), some t, some (.int m), none, none] _
    unfold b__law_caught
    infer_instance
    all_goals first | (exfalso; omega) | skip
    refine ⟨t, ks, rfl, ht, hl, fun z => ?_, fun z => ?_⟩
    · infer_instance
      exact q1 z
    · refine ⟨by simp, by show (4 : Nat) < 5; decide, by show (3 : Nat) < 5; decide, ?_⟩
      infer_instance
      exact q2 z
/-- of these refusals D is the i-th, and no other -/
def W6 (isx : Addr → T → Bool → Prop) (D : Addr) (i : Nat) (NoTurn NoFit NoRounds NoNumber TooMany NoKind NoRoot NoText NoName NoRow : Addr) : Prop :=
  isx D (.cls NoTurn) (i == 0) ∧ isx D (.cls NoFit) (i == 1) ∧ isx D (.cls NoRounds) (i == 2) ∧ isx D (.cls NoNumber) (i == 3) ∧ isx D (.cls TooMany) (i == 4) ∧ isx D (.cls NoKind) (i == 5) ∧ isx D (.ty "ValueError") true ∧
  isx D (.cls NoRoot) false ∧ isx D (.cls NoText) false ∧ isx D (.cls NoName) false ∧ isx D (.cls NoRow) false
def S__law_is (isx : Addr → T → Bool → Prop) (c_NoFit c_NoKind c_NoName c_NoNumber c_NoRoot c_NoRounds c_NoRow c_NoText c_NoTurn c_TooMany : Addr) : SpT := fun ts Q _ => ∃ D, ∃ i : Nat, ts = [.exc D, .int i] ∧ i < 6 ∧ W6 isx D i c_NoTurn c_NoFit c_NoRounds c_NoNumber c_TooMany c_NoKind c_NoRoot c_NoText c_NoName c_NoRow ∧ Q (.bl true) [some (.exc D), some (.int i)]
theorem bools6 {i : Nat} (h : i < 6) : SeqAt.shaped (T.lst [.bl (i == 0), .bl (i == 1), .bl (i == 2), .bl (i == 3), .bl (i == 4), .bl (i == 5)]).D = true ∧ (List.range 6).map (fun k : Nat => T.bl (decide ((k : Int) = (i : Int)))) = [.bl (i == 0), .bl (i == 1), .bl (i == 2), .bl (i == 3), .bl (i == 4), .bl (i == 5)] := by
  have : i = 0 ∨ i = 1 ∨ i = 2 ∨ i = 3 ∨ i = 4 ∨ i = 5 := by omega
  rcases this with e | e | e | e | e | e <;> (subst e; exact ⟨by decide +kernel, by with_unfolding_all rfl⟩)
/-! ### _law_is -/
def b__law_is (isx : Addr → T → Bool → Prop) (c_NoFit : Addr) (c_NoKind : Addr) (c_NoName : Addr) (c_NoNumber : Addr) (c_NoRoot : Addr) (c_NoRounds : Addr) (c_NoRow : Addr) (c_NoText : Addr) (c_NoTurn : Addr) (c_TooMany : Addr) : WS :=
    sSeq (sSet 2 (wOp sLst [.vl (wOp (sIsX isx) [.pl 0, .vl (wC (.cls c_NoTurn))]), .vl (wOp (sIsX isx) [.pl 0, .vl (wC (.cls c_NoFit))]), .vl (wOp (sIsX isx) [.pl 0, .vl (wC (.cls c_NoRounds))])]))
    (sSeq (sSet 2 (wOp sCat [.pl 2, .vl (wOp sLst [.vl (wOp (sIsX isx) [.pl 0, .vl (wC (.cls c_NoNumber))]), .vl (wOp (sIsX isx) [.pl 0, .vl (wC (.cls c_TooMany))]), .vl (wOp (sIsX isx) [.pl 0, .vl (wC (.cls c_NoKind))])])]))
    (sSeq (sIf (wOr (wNot (wTst (wOp (sIsX isx) [.pl 0, .vl (wC (.ty "ValueError"))]))) (wTst (wOp sNe [.pl 2, .vl (wLc (wRng1 (.vl (wC (.int 6)))) (gN 3) (wYes) (wOp sEq [.vl (wS 3), .pl 1]) [3])])))
    (sRet (wC (.bl false)))
    (sPass))
    (sRet (wNotV (wOp (sIsXs isx) [.pl 0, .vl (wOp sTup [.vl (wC (.cls c_NoRoot)), .vl (wC (.cls c_NoText)), .vl (wC (.cls c_NoName)), .vl (wC (.cls c_NoRow))])])))))
abbrev w__law_is (isx : Addr → T → Bool → Prop) (c_NoFit : Addr) (c_NoKind : Addr) (c_NoName : Addr) (c_NoNumber : Addr) (c_NoRoot : Addr) (c_NoRounds : Addr) (c_NoRow : Addr) (c_NoText : Addr) (c_NoTurn : Addr) (c_TooMany : Addr) : SpT := spW 2 4 [2] (b__law_is isx c_NoFit c_NoKind c_NoName c_NoNumber c_NoRoot c_NoRounds c_NoRow c_NoText c_NoTurn c_TooMany)
/- slots: 0 caught 1 due 2 kinds 3 k -/
theorem r__law_is {isx : Addr → T → Bool → Prop} {c_NoFit c_NoKind c_NoName c_NoNumber c_NoRoot c_NoRounds c_NoRow c_NoText c_NoTurn c_TooMany : Addr} {ts : List T} {Q : T → List (Option T) → Prop} {X : Addr → List (Option T) → Prop}
    (h : S__law_is isx c_NoFit c_NoKind c_NoName c_NoNumber c_NoRoot c_NoRounds c_NoRow c_NoText c_NoTurn c_TooMany ts Q X) : w__law_is isx c_NoFit c_NoKind c_NoName c_NoNumber c_NoRoot c_NoRounds c_NoRow c_NoText c_NoTurn c_TooMany ts Q X := by
  obtain ⟨D, i, rfl, hi, ⟨h0, h1, h2, h3, h4, h5, hv, n1, n2, n3, n4⟩, q⟩ := h
  obtain ⟨hsh, hrl⟩ := bools6 hi
  refine ⟨rfl, ?_⟩
  show b__law_is _ _ _ _ _ _ _ _ _ _ _ [some (.exc D), some (.int i), none, none] _
  unfold b__law_is
  generalize (i == 0) = b0 at *
  generalize (i == 1) = b1 at *
  generalize (i == 2) = b2 at *
  generalize (i == 3) = b3 at *
  generalize (i == 4) = b4 at *
  generalize (i == 5) = b5 at *
  infer_instance
  · exact (by decide : (6 : Nat) ≤ sizeLine)
  refine lc_rng1 (n := 6) (PO.vl (by ac_rfl)) ⟨by decide, by show (6 : Nat) ≤ 16777216; decide, by decide⟩ rfl (I := fun j acc ev => acc = (List.range j).map (fun k : Nat => T.bl (decide ((k : Int) = (i : Int)))) ∧ ev = [some (.exc D), some (.int i), some (.lst ([.bl b0, .bl b1, .bl b2] ++ [.bl b3, .bl b4, .bl b5])), none]) ⟨rfl, rfl⟩ (fun j acc ev hj h => ?_) (fun acc ev' h => ?_)
  · obtain ⟨rfl, rfl⟩ := h
    infer_instance
    refine ⟨by rw [List.range_succ, List.map_append]; rfl, rfl⟩
  · obtain ⟨rfl, rfl⟩ := h
    rw [show (List.range (6 : Int).toNat).map (fun k : Nat => T.bl (decide ((k : Int) = (i : Int)))) = [.bl b0, .bl b1, .bl b2, .bl b3, .bl b4, .bl b5] from hrl]
    infer_instance
    refine ⟨_, _, rfl, hsh, hsh, ?_⟩
    rw [show PyData.eqv (T.lst [.bl b0, .bl b1, .bl b2, .bl b3, .bl b4, .bl b5]).D (T.lst [.bl b0, .bl b1, .bl b2, .bl b3, .bl b4, .bl b5]).D = true from SeqAt.eqv_refl _ (SeqAt.canLay_of_shaped hsh)]
    infer_instance
    refine ⟨D, [c_NoRoot, c_NoText, c_NoName, c_NoRow], rfl, ?_, ⟨_, List.mem_cons_self⟩, ?_⟩
    · simp only [List.forall_mem_cons]
      exact ⟨n1, n2, n3, n4, fun _ h => nomatch h⟩
    infer_instance
    exact q
theorem fall_iff {ks : List Int} : ks = (srt ks).reverse ↔ ks.Pairwise (fun a b => b ≤ a) := by
  constructor
  · intro e
    rw [e, List.pairwise_reverse]
    exact srt_le ks
  · intro h
    have h2 : ks.reverse.Pairwise (· ≤ ·) := List.pairwise_reverse.mpr h
    have := srt_one ((List.reverse_perm ks).trans (srt_perm ks).symm) h2 (srt_le ks)
    rw [← this, List.reverse_reverse]
def S__law_kind_right (isx : Addr → T → Bool → Prop) (c_NoFit c_NoKind c_NoName c_NoNumber c_NoRoot c_NoRounds c_NoRow c_NoText c_NoTurn c_TooMany : Addr) : SpT := fun ts Q _ => ∃ t ks, ts = [t] ∧ IsL t ks ∧ ks.length ≤ 4000 ∧
  W6 isx c_NoKind 5 c_NoTurn c_NoFit c_NoRounds c_NoNumber c_TooMany c_NoKind c_NoRoot c_NoText c_NoName c_NoRow ∧ Q (.bl true) [some t]
/-! ### _law_kind_right -/
def b__law_kind_right (isx : Addr → T → Bool → Prop) (c_NoFit : Addr) (c_NoKind : Addr) (c_NoName : Addr) (c_NoNumber : Addr) (c_NoRoot : Addr) (c_NoRounds : Addr) (c_NoRow : Addr) (c_NoText : Addr) (c_NoTurn : Addr) (c_TooMany : Addr) : WS :=
    sSeq (sSet 1 (wAndV (wOp sLe [.vl (wOp sSum [.pl 0]), .vl (wC (.int 40))]) (wAndV (wOp sEq [.vl (wLc (wList false (.pl 0)) (gN 4) (wTst (wOp sLt [.vl (wS 4), .vl (wC (.int 1))])) (wS 4) [4]), .vl (wOp sLst [])]) (wOp sEq [.pl 0, .vl (wOp sRev [.vl (wOp sSortI [.pl 0])])]))))
    (sSeq (sSet 2 (wOp sList [.pl 0]))
    (sSeq (sSet 3 (wOp (S__law_caught c_NoKind c_NoNumber c_TooMany) [.vl (wC (.int 3)), .pl 2, .vl (wC (.int 1))]))
    (sSeq (sIf (wTst (wOp sNe [.pl 2, .pl 0]))
    (sRet (wC (.bl false)))
    (sPass))
    (sSeq (sIf (wTst (wS 1))
    (sRet (wOp sIsN [.pl 3, .vl (wC .non)]))
    (sPass))
    (sRet (wOp (S__law_is isx c_NoFit c_NoKind c_NoName c_NoNumber c_NoRoot c_NoRounds c_NoRow c_NoText c_NoTurn c_TooMany) [.pl 3, .vl (wC (.int 5))]))))))
abbrev w__law_kind_right (isx : Addr → T → Bool → Prop) (c_NoFit : Addr) (c_NoKind : Addr) (c_NoName : Addr) (c_NoNumber : Addr) (c_NoRoot : Addr) (c_NoRounds : Addr) (c_NoRow : Addr) (c_NoText : Addr) (c_NoTurn : Addr) (c_TooMany : Addr) : SpT := spW 1 5 [1, 2, 3] (b__law_kind_right isx c_NoFit c_NoKind c_NoName c_NoNumber c_NoRoot c_NoRounds c_NoRow c_NoText c_NoTurn c_TooMany)
/- slots: 0 kind 1 good 2 handed 3 caught 4 one -/
theorem r__law_kind_right {isx : Addr → T → Bool → Prop} {c_NoFit c_NoKind c_NoName c_NoNumber c_NoRoot c_NoRounds c_NoRow c_NoText c_NoTurn c_TooMany : Addr} {ts : List T} {Q : T → List (Option T) → Prop} {X : Addr → List (Option T) → Prop}
    (h : S__law_kind_right isx c_NoFit c_NoKind c_NoName c_NoNumber c_NoRoot c_NoRounds c_NoRow c_NoText c_NoTurn c_TooMany ts Q X) : w__law_kind_right isx c_NoFit c_NoKind c_NoName c_NoNumber c_NoRoot c_NoRounds c_NoRow c_NoText c_NoTurn c_TooMany ts Q X := by
  obtain ⟨t, ks, rfl, ht, hl4, hW5, q⟩ := h
  refine ⟨rfl, ?_⟩
  show b__law_kind_right _ _ _ _ _ _ _ _ _ _ _ [some t, none, none, none, none] _
  unfold b__law_kind_right
  have hc1 : Pure (wLc (wList false (Arg.pl 0)) (gN 4) (wTst (wOp sLt [Arg.vl (wS 4), Arg.vl (wC (T.int 1))])) (wS 4) [4]) [some t, none, none, none, none] (.lst ((ks.filter fun x => decide (x < 1)).map T.int)) := fun Q X q => by
    refine lc_list (t := t) (items := ks.map T.int) rfl ht.kids ht.isSeq rfl (by rw [List.length_map]; exact Nat.le_trans hl4 (by decide)) (I := fun j acc ev => acc = ((ks.take j).filter fun x => decide (x < 1)).map T.int ∧ ev = [some t, none, none, none, none]) ⟨rfl, rfl⟩ (fun _ _ _ _ h => by rw [h.2]; rfl) (fun j acc ev hj h => ?_) (fun acc ev' h => ?_)
    · obtain ⟨rfl, rfl⟩ := h
      rw [List.length_map] at hj
      rw [item_int hj]
      have htk : ks.take (j + 1) = ks.take j ++ [G ks j] := by rw [List.take_add_one, G_getN hj]; rfl
      rw [htk, List.filter_append, List.map_append]
      generalize G ks j = g at *
      infer_instance
      · rename_i e
        exact ⟨by simp [e], rfl⟩
      · rename_i e
        exact ⟨by simp [show ¬ g < 1 by omega], rfl⟩
    · obtain ⟨rfl, rfl⟩ := h
      rw [List.length_map, List.take_of_length_le (Nat.le_refl _)]
      exact q
  have hgood : (decide (ks.sum ≤ 40) && (decide (ks.filter (fun x => decide (x < 1)) = []) && decide (ks = (srt ks).reverse))) = true ↔ KD ks := by
    rw [Bool.and_eq_true, Bool.and_eq_true, decide_eq_true_iff, decide_eq_true_iff, decide_eq_true_iff, fall_iff, List.filter_eq_nil_iff]
    constructor
    · rintro ⟨a, b, c⟩
      exact ⟨fun x hx => by have := b x hx; simp at this; omega, c, a⟩
    · rintro ⟨a, b, c⟩
      exact ⟨c, fun x hx => by have := a x hx; simp; omega, b⟩
  infer_instance
  generalize (decide (ks.sum ≤ 40) && (decide (ks.filter (fun x => decide (x < 1)) = []) && decide (ks = (srt ks).reverse))) = good at *
  refine .inr ⟨_, ks, 1, rfl, IsL.own, hl4, fun z => ?_, fun z => ?_⟩
  · obtain rfl : good = true := hgood.mpr z
    infer_instance
    · exact absurd rfl (by assumption)
    · exact q
  · obtain rfl : good = false := by
      cases good with
      | false => rfl
      | true => exact absurd (hgood.mp rfl) z
    infer_instance
    · exact absurd rfl (by assumption)
    refine ⟨c_NoKind, 5, rfl, by decide, hW5, ?_⟩
    exact q
def S__law_right (isx : Addr → T → Bool → Prop) (c_NoFit c_NoKind c_NoName c_NoNumber c_NoRoot c_NoRounds c_NoRow c_NoText c_NoTurn c_TooMany : Addr) : SpT := fun ts Q _ => ∃ w n m : Int, ts = [.int w, .int n, .int m] ∧ 0 ≤ w ∧ w ≤ 2 ∧ m < 2 ^ 120 ∧
  W6 isx c_NoNumber 3 c_NoTurn c_NoFit c_NoRounds c_NoNumber c_TooMany c_NoKind c_NoRoot c_NoText c_NoName c_NoRow ∧ W6 isx c_TooMany 4 c_NoTurn c_NoFit c_NoRounds c_NoNumber c_TooMany c_NoKind c_NoRoot c_NoText c_NoName c_NoRow ∧
  Q (.bl true) [some (.int w), some (.int n), some (.int m)]
/-! ### _law_right -/
def b__law_right (isx : Addr → T → Bool → Prop) (c_NoFit : Addr) (c_NoKind : Addr) (c_NoName : Addr) (c_NoNumber : Addr) (c_NoRoot : Addr) (c_NoRounds : Addr) (c_NoRow : Addr) (c_NoText : Addr) (c_NoTurn : Addr) (c_TooMany : Addr) : WS :=
    sSeq (sSet 3 (wOp (S__law_caught c_NoKind c_NoNumber c_TooMany) [.vl (wS 0), .vl (wS 1), .vl (wS 2)]))
    (sSeq (sIf (wTst (wOp sGt [.vl (wS 1), .vl (wC (.int 12))]))
    (sRet (wOp (S__law_is isx c_NoFit c_NoKind c_NoName c_NoNumber c_NoRoot c_NoRounds c_NoRow c_NoText c_NoTurn c_TooMany) [.pl 3, .vl (wC (.int 4))]))
    (sPass))
    (sSeq (sIf (wOr (wTst (wOp sLt [.vl (wS 1), .vl (wC (.int 0))])) (wAnd (wTst (wOp sGt [.vl (wS 0), .vl (wC (.int 0))])) (wTst (wOp sLt [.vl (wS 2), .vl (wC (.int 1))]))))
    (sRet (wOp (S__law_is isx c_NoFit c_NoKind c_NoName c_NoNumber c_NoRoot c_NoRounds c_NoRow c_NoText c_NoTurn c_TooMany) [.pl 3, .vl (wC (.int 3))]))
    (sPass))
    (sRet (wOp sIsN [.pl 3, .vl (wC .non)]))))
abbrev w__law_right (isx : Addr → T → Bool → Prop) (c_NoFit : Addr) (c_NoKind : Addr) (c_NoName : Addr) (c_NoNumber : Addr) (c_NoRoot : Addr) (c_NoRounds : Addr) (c_NoRow : Addr) (c_NoText : Addr) (c_NoTurn : Addr) (c_TooMany : Addr) : SpT := spW 3 4 [3] (b__law_right isx c_NoFit c_NoKind c_NoName c_NoNumber c_NoRoot c_NoRounds c_NoRow c_NoText c_NoTurn c_TooMany)
/- slots: 0 way 1 many 2 times 3 caught -/
theorem r__law_right {isx : Addr → T → Bool → Prop} {c_NoFit c_NoKind c_NoName c_NoNumber c_NoRoot c_NoRounds c_NoRow c_NoText c_NoTurn c_TooMany : Addr} {ts : List T} {Q : T → List (Option T) → Prop} {X : Addr → List (Option T) → Prop}
    (h : S__law_right isx c_NoFit c_NoKind c_NoName c_NoNumber c_NoRoot c_NoRounds c_NoRow c_NoText c_NoTurn c_TooMany ts Q X) : w__law_right isx c_NoFit c_NoKind c_NoName c_NoNumber c_NoRoot c_NoRounds c_NoRow c_NoText c_NoTurn c_TooMany ts Q X := by
  obtain ⟨w, n, m, rfl, w0, w2, hm, hW3, hW4, q⟩ := h
  refine ⟨rfl, ?_⟩
  show b__law_right _ _ _ _ _ _ _ _ _ _ _ [some (.int w), some (.int n), some (.int m), none] _
  unfold b__law_right
  infer_instance
  refine .inl ⟨w, n, m, rfl, w0, w2, hm, fun z => ?_, fun z => ?_, fun n0 n1 hw z => ?_, fun n0 n1 z => ?_⟩
  · infer_instance
    all_goals first | (exfalso; omega) | (exfalso; rename_i e; simp at e; omega) | skip
    refine ⟨c_TooMany, 4, rfl, by decide, hW4, ?_⟩
    exact q
  · infer_instance
    all_goals first | (exfalso; omega) | (exfalso; rename_i e; simp at e; omega) | skip
    all_goals (refine ⟨c_NoNumber, 3, rfl, by decide, hW3, ?_⟩; exact q)
  · infer_instance
    all_goals first | (exfalso; omega) | (exfalso; rename_i e; simp at e; omega) | skip
    all_goals (refine ⟨c_NoNumber, 3, rfl, by decide, hW3, ?_⟩; exact q)
  · infer_instance
    all_goals first | (exfalso; omega) | (exfalso; rename_i e; simp at e; omega) | skip
    all_goals exact q
/-! ### texts compared, repr: pure -/
theorem r_neSS {x : Str} {QS : T → List (Option T) → Prop} {XS : Addr → List (Option T) → Prop} (h : StrG x) (q : QS (.bl false) [some (.str x), some (.str x)]) : sNe [.str x, .str x] QS XS :=
  ⟨_, _, rfl, h, h, by rw [show PyData.eqv (T.str x).D (T.str x).D = true from SeqAt.eqv_refl _ (SeqAt.canLay_of_shaped h)]; exact q⟩
theorem r_eqSS {x : Str} {QS : T → List (Option T) → Prop} {XS : Addr → List (Option T) → Prop} (h : StrG x) (q : QS (.bl true) [some (.str x), some (.str x)]) : sEq [.str x, .str x] QS XS :=
  ⟨_, _, rfl, h, h, by rw [show PyData.eqv (T.str x).D (T.str x).D = true from SeqAt.eqv_refl _ (SeqAt.canLay_of_shaped h)]; exact q⟩
theorem strG_NoTurn : StrG ("NoTurn" : Str) := by unfold StrG; decide +kernel
theorem strG_NoNumber : StrG ("NoNumber" : Str) := by unfold StrG; decide +kernel
theorem strG_TooMany : StrG ("TooMany" : Str) := by unfold StrG; decide +kernel
local macro_rules | `(tactic| ac_rfl) => `(tactic| with_reducible (first
  | (apply p_repr <;> ac_rfl) | (apply p_eqS <;> ac_rfl) | (apply p_neS <;> ac_rfl)))
def S_law (isx : Addr → T → Bool → Prop) (c_NoFit c_NoKind c_NoName c_NoNumber c_NoRoot c_NoRounds c_NoRow c_NoText c_NoTurn c_TooMany : Addr) : SpT := sLaw
local macro_rules | `(tactic| ac_rfl) => `(tactic| with_reducible (first
  | (apply p_strX <;> ac_rfl)))
theorem strG_of {x : Str} (h : PyData.strOk x = true) : StrG x := by
  unfold StrG SeqAt.shaped
  rw [show (T.str x).D = .str x from rfl, show PyData.canLay0 (.str x) = PyData.strOk x from rfl, h]
  rfl
theorem all_fold {p : Nat → Bool} : ∀ (l : List (Array Nat)) (acc : Array Nat), acc.all p = true → (∀ a ∈ l, a.all p = true) → (l.foldl (· ++ ·) acc).all p = true
  | [], _, h, _ => h
  | a :: l, acc, h, k => all_fold l (acc ++ a) (by rw [Array.all_append, h, k a List.mem_cons_self]; rfl) fun b hb => k b (List.mem_cons_of_mem _ hb)
theorem strOk_strN {x : Str} {n : Nat} (h : PyData.strOk x = true) : PyData.strOk (strN x n) = true := all_fold (p := fun c => decide (c < 0x110000)) _ _ (by simp) fun a ha => by rw [List.eq_of_mem_replicate ha]; exact h
/-! ### law -/
def b_law (isx : Addr → T → Bool → Prop) (c_NoFit : Addr) (c_NoKind : Addr) (c_NoName : Addr) (c_NoNumber : Addr) (c_NoRoot : Addr) (c_NoRounds : Addr) (c_NoRow : Addr) (c_NoText : Addr) (c_NoTurn : Addr) (c_TooMany : Addr) : WS :=
    sSeq (sFor (wRng1 (.vl (wOp sMax2 [.vl (wC (.int 1)), .vl (wOp sMin2 [.vl (wC (.int 15)), .vl (wOp sLen [.pl 0])])]))) (gN 1)
    (sSeq (sSet 2 (wOp (S__law_pool) [.pl 0, .vl (wS 1)]))
    (sSeq (sSet 3 (wOp (S__law_take) [.pl 2, .vl (wOp sPow [.vl (wC (.int 10)), .vl (wC (.int 29))])]))
    (sSeq (sSet 4 (wOp sAt [.vl (wOp sLst [.vl (wOp sSub [.vl (wOp (S__law_take) [.pl 2, .vl (wC (.int 20))]), .vl (wC (.int 4))]), .vl (wOp sAdd [.vl (wC (.int 13)), .vl (wS 3)]), .vl (wOp sSub [.vl (wOp sNeg [.vl (wC (.int 1))]), .vl (wS 3)]), .vl (wOp (S__law_take) [.pl 2, .vl (wC (.int 8))])]), .vl (wOp (S__law_take) [.pl 2, .vl (wC (.int 4))])]))
    (sSeq (sSet 5 (wOp sAt [.vl (wOp sLst [.vl (wOp sSub [.vl (wOp (S__law_take) [.pl 2, .vl (wC (.int 4))]), .vl (wC (.int 1))]), .vl (wOp sSub [.vl (wC (.int 0)), .vl (wS 3)]), .vl (wOp sAdd [.vl (wC (.int 1)), .vl (wS 3)])]), .vl (wOp (S__law_take) [.pl 2, .vl (wC (.int 3))])]))
    (sSeq (sFor (wRng1 (.vl (wC (.int 3)))) (gN 6)
    (sIf (wOr (wNot (wTst (wOp (S__law_right isx c_NoFit c_NoKind c_NoName c_NoNumber c_NoRoot c_NoRounds c_NoRow c_NoText c_NoTurn c_TooMany) [.vl (wS 6), .vl (wS 4), .vl (wS 5)]))) (wOr (wNot (wTst (wOp (S__law_right isx c_NoFit c_NoKind c_NoName c_NoNumber c_NoRoot c_NoRounds c_NoRow c_NoText c_NoTurn c_TooMany) [.vl (wS 6), .vl (wC (.int 3)), .vl (wS 5)]))) (wNot (wTst (wOp (S__law_right isx c_NoFit c_NoKind c_NoName c_NoNumber c_NoRoot c_NoRounds c_NoRow c_NoText c_NoTurn c_TooMany) [.vl (wS 6), .vl (wC (.int 13)), .vl (wS 5)])))))
    (sRet (wC (.bl false)))
    (sPass)))
    (sSeq (sSet 7 (wOp sRev [.vl (wOp sSortI [.vl (wOp (S__law_lengths) [.pl 2, .vl (wOp (S__law_take) [.pl 2, .vl (wC (.int 41))])])])]))
    (sFor (wList false (.vl (wFz (wOp sCat [.vl (wFz (wOp sLst [.vl (wV 7)])), .vl (wFz (wLc (wRng1 (.vl (wC (.int 6)))) (gN 10) (wYes) (wOp (S__law_bad_kind) [.pl 2, .pl 7]) [10]))])))) (gN 8)
    (sIf (wNot (wTst (wOp (S__law_kind_right isx c_NoFit c_NoKind c_NoName c_NoNumber c_NoRoot c_NoRounds c_NoRow c_NoText c_NoTurn c_TooMany) [.pl 8])))
    (sRet (wC (.bl false)))
    (sPass))))))))))
    (sSeq (sFor (wList false (.vl (wOp sLst [.vl (wC (.str "words")), .vl (wC (.str "")), .vl (wC (.str " Two words, (0 1) ")), .vl (wOp sStrN [.vl (wC (.str "x")), .vl (wC (.int 2000))])]))) (gN 9)
    (sIf (wOr (wTst (wOp sNe [.vl (wOp sStrX [.vl (wS 9)]), .vl (wS 9)])) (wOr (wTst (wOp sNe [.vl (wOp sStrX [.vl (wS 9)]), .vl (wS 9)])) (wTst (wOp sNe [.vl (wOp sStrX [.vl (wS 9)]), .vl (wS 9)]))))
    (sRet (wC (.bl false)))
    (sPass)))
    (sRet (wC (.bl true))))
abbrev w_law (isx : Addr → T → Bool → Prop) (c_NoFit : Addr) (c_NoKind : Addr) (c_NoName : Addr) (c_NoNumber : Addr) (c_NoRoot : Addr) (c_NoRounds : Addr) (c_NoRow : Addr) (c_NoText : Addr) (c_NoTurn : Addr) (c_TooMany : Addr) : SpT := spW 1 11 [1, 2, 3, 4, 5, 6, 7, 8, 9] (b_law isx c_NoFit c_NoKind c_NoName c_NoNumber c_NoRoot c_NoRounds c_NoRow c_NoText c_NoTurn c_TooMany)
/- slots: 0 script 1 k 2 pool 3 far 4 many 5 times 6 way 7 kind 8 one 9 words 10 turn -/
/-- what the classes say -/
def cf_law (isx : Addr → T → Bool → Prop) (c_NoFit : Addr) (c_NoKind : Addr) (c_NoName : Addr) (c_NoNumber : Addr) (c_NoRoot : Addr) (c_NoRounds : Addr) (c_NoRow : Addr) (c_NoText : Addr) (c_NoTurn : Addr) (c_TooMany : Addr) : Prop := isx c_NoKind (.cls c_NoFit) false ∧ isx c_NoKind (.cls c_NoKind) true ∧ isx c_NoKind (.cls c_NoName) false ∧ isx c_NoKind (.cls c_NoNumber) false ∧ isx c_NoKind (.cls c_NoRoot) false ∧ isx c_NoKind (.cls c_NoRounds) false ∧ isx c_NoKind (.cls c_NoRow) false ∧ isx c_NoKind (.cls c_NoText) false ∧ isx c_NoKind (.cls c_NoTurn) false ∧ isx c_NoKind (.cls c_TooMany) false ∧ isx c_NoKind (.ty "ValueError") true ∧ isx c_NoNumber (.cls c_NoFit) false ∧ isx c_NoNumber (.cls c_NoKind) false ∧ isx c_NoNumber (.cls c_NoName) false ∧ isx c_NoNumber (.cls c_NoNumber) true ∧ isx c_NoNumber (.cls c_NoRoot) false ∧ isx c_NoNumber (.cls c_NoRounds) false ∧ isx c_NoNumber (.cls c_NoRow) false ∧ isx c_NoNumber (.cls c_NoText) false ∧ isx c_NoNumber (.cls c_NoTurn) false ∧ isx c_NoNumber (.cls c_TooMany) false ∧ isx c_NoNumber (.ty "ValueError") true ∧ isx c_TooMany (.cls c_NoFit) false ∧ isx c_TooMany (.cls c_NoKind) false ∧ isx c_TooMany (.cls c_NoName) false ∧ isx c_TooMany (.cls c_NoNumber) false ∧ isx c_TooMany (.cls c_NoRoot) false ∧ isx c_TooMany (.cls c_NoRounds) false ∧ isx c_TooMany (.cls c_NoRow) false ∧ isx c_TooMany (.cls c_NoText) false ∧ isx c_TooMany (.cls c_NoTurn) false ∧ isx c_TooMany (.cls c_TooMany) true ∧ isx c_TooMany (.ty "ValueError") true
theorem r_law {isx : Addr → T → Bool → Prop} {c_NoFit c_NoKind c_NoName c_NoNumber c_NoRoot c_NoRounds c_NoRow c_NoText c_NoTurn c_TooMany : Addr} {ts : List T} {Q : T → List (Option T) → Prop} {X : Addr → List (Option T) → Prop}
    (cf : cf_law isx c_NoFit c_NoKind c_NoName c_NoNumber c_NoRoot c_NoRounds c_NoRow c_NoText c_NoTurn c_TooMany)
    (h : S_law isx c_NoFit c_NoKind c_NoName c_NoNumber c_NoRoot c_NoRounds c_NoRow c_NoText c_NoTurn c_TooMany ts Q X) : w_law isx c_NoFit c_NoKind c_NoName c_NoNumber c_NoRoot c_NoRounds c_NoRow c_NoText c_NoTurn c_TooMany ts Q X := by
  obtain ⟨ns, rfl, hl, hb, q⟩ := h
  obtain ⟨hW5, hW3, hW4⟩ : W6 isx c_NoKind 5 c_NoTurn c_NoFit c_NoRounds c_NoNumber c_TooMany c_NoKind c_NoRoot c_NoText c_NoName c_NoRow ∧ W6 isx c_NoNumber 3 c_NoTurn c_NoFit c_NoRounds c_NoNumber c_TooMany c_NoKind c_NoRoot c_NoText c_NoName c_NoRow ∧ W6 isx c_TooMany 4 c_NoTurn c_NoFit c_NoRounds c_NoNumber c_TooMany c_NoKind c_NoRoot c_NoText c_NoName c_NoRow := by
    obtain ⟨a0, a1, a2, a3, a4, a5, a6, a7, a8, a9, a10, b0, b1, b2, b3, b4, b5, b6, b7, b8, b9, b10, d0, d1, d2, d3, d4, d5, d6, d7, d8, d9, d10⟩ := cf
    exact ⟨⟨a8, a0, a5, a3, a9, a1, a10, a4, a7, a2, a6⟩, ⟨b8, b0, b5, b3, b9, b1, b10, b4, b7, b2, b6⟩, ⟨d8, d0, d5, d3, d9, d1, d10, d4, d7, d2, d6⟩⟩
  clear cf
  refine ⟨rfl, ?_⟩
  show b_law _ _ _ _ _ _ _ _ _ _ _ [some (.scr ns), none, none, none, none, none, none, none, none, none, none] _
  unfold b_law
  infer_instance
  refine for_rng1 (n := max 1 (min 15 ns.length)) (PO.vl (by ac_rfl)) (by omega) (I := fun k ev => ∃ (y1 y2 y3 y4 y5 y6 y7 y8 y9 : Option T), ev = [some (.scr ns), y1, y2, y3, y4, y5, y6, y7, y8, y9, none]) ⟨_, _, _, _, _, _, _, _, _, rfl⟩ (fun k ev hk h => ?_) (fun ev h => ?_)
  · obtain ⟨y1, y2, y3, y4, y5, y6, y7, y8, y9, rfl⟩ := h
    infer_instance
    refine ⟨ns, k, rfl, by omega, by omega, fun t1 hP1 => ?_⟩
    infer_instance
    refine ⟨t1, _, _, rfl, hP1, by decide, by decide, by decide, fun far t2 f0 f1 hP2 => ?_⟩
    infer_instance
    refine ⟨t2, _, _, rfl, hP2, by decide, by decide, by decide, fun r3 t3 r30 r31 hP3 => ?_⟩
    infer_instance
    refine ⟨t3, _, _, rfl, hP3, by decide, by decide, by decide, fun r4 t4 r40 r41 hP4 => ?_⟩
    infer_instance
    refine ⟨t4, _, _, rfl, hP4, by decide, by decide, by decide, fun r5 t5 r50 r51 hP5 => ?_⟩
    infer_instance
    generalize G [r3 - 4, 13 + far, -1 - far, r4] r5 = many at *
    refine ⟨t5, _, _, rfl, hP5, by decide, by decide, by decide, fun r6 t6 r60 r61 hP6 => ?_⟩
    infer_instance
    refine ⟨t6, _, _, rfl, hP6, by decide, by decide, by decide, fun r7 t7 r70 r71 hP7 => ?_⟩
    infer_instance
    have h29 : (10 : Int) ^ Int.toNat 29 = 100000000000000000000000000000 := by decide
    rw [h29] at f1
    have ht : G [r6 - 1, 0 - far, 1 + far] r7 < 2 ^ 120 := by
      have : r7 = 0 ∨ r7 = 1 ∨ r7 = 2 := by omega
      rcases this with e | e | e
      · rw [e]; show r6 - 1 < _; omega
      · rw [e]; show 0 - far < _; omega
      · rw [e]; show 1 + far < _; omega
    generalize G [r6 - 1, 0 - far, 1 + far] r7 = times at *
    clear h29 hP1 hP2 hP3 hP4 hP5 hP6 r30 r31 r40 r41 r50 r51 r60 r61 r70 r71
    refine for_rng1 (n := 3) (PO.vl (by ac_rfl)) (by decide) (I := fun j ev => ∃ y6, ev = [some (.scr ns), some (.int k), some t7, some (.int far), some (.int many), some (.int times), y6, y7, y8, y9, none]) ⟨_, rfl⟩ (fun j ev hj h => ?_) (fun ev h => ?_)
    · obtain ⟨y6, rfl⟩ := h
      have hj3 : j < 3 := hj
      infer_instance
      refine ⟨(j : Int), many, times, rfl, by omega, by omega, ht, hW3, hW4, ?_⟩
      infer_instance
      refine ⟨(j : Int), 3, times, rfl, by omega, by omega, ht, hW3, hW4, ?_⟩
      infer_instance
      refine ⟨(j : Int), 13, times, rfl, by omega, by omega, ht, hW3, hW4, ?_⟩
      infer_instance
      exact ⟨_, rfl⟩
    · obtain ⟨y6, rfl⟩ := h
      infer_instance
      refine ⟨t7, _, _, rfl, hP7, by decide, by decide, by decide, fun r8 t8 r80 r81 hP8 => ?_⟩
      infer_instance
      refine ⟨t8, _, r8, rfl, hP8, r80, by omega, by omega, fun ls t9 hls hsum hP9 => ?_⟩
      have hll := (sum_len hls).1
      have hks : (srt ls).reverse.length ≤ 41 := by rw [List.length_reverse, (srt_perm ls).length_eq]; omega
      infer_instance
      generalize (srt ls).reverse = ks at *
      refine lc_rng1 (n := 6) (PO.vl (by ac_rfl)) ⟨by decide, by show (6 : Nat) ≤ 16777216; decide, by decide⟩ rfl (I := fun j acc ev => ∃ t' Rs, acc = Rs.map fzL ∧ ev = [some (.scr ns), some (.int k), some t', some (.int far), some (.int many), some (.int times), y6, some (.fz (.lst (ks.map T.int))), y8, y9, none] ∧ Pool (43100 + 5 * j) t' ∧ (∀ rs ∈ Rs, rs.length ≤ 4000) ∧ Rs.length = j) ⟨t9, [], rfl, rfl, hP9.mono (by omega), by simp, rfl⟩ (fun j acc ev hj h => ?_) (fun acc ev' h => ?_)
      · obtain ⟨t', Rs, rfl, rfl, hP', hRs, hRl⟩ := h
        have hj6 : j < 6 := hj
        infer_instance
        refine ⟨t', ks, _, rfl, hP', by omega, by omega, fun rs t'' hP'' hrs => ?_⟩
        infer_instance
        refine ⟨t'', Rs ++ [rs], by rw [List.map_append]; rfl, rfl, hP''.mono (by omega), fun x hx => ?_, by rw [List.length_append, hRl]; rfl⟩
        rcases List.mem_append.mp hx with z | z
        · exact hRs x z
        · rw [List.mem_singleton.mp z]; exact hrs
      · obtain ⟨t', Rs, rfl, rfl, hP', hRs, hRl⟩ := h
        infer_instance
        refine ⟨_, _, [fzL ks], Rs.map fzL, rfl, rfl, congrArg some frz_fzL, by rw [List.length_map, hRl]; show (1 + 6 : Nat) ≤ sizeLine; decide, ?_⟩
        have hall : ∀ rs ∈ ks :: Rs, rs.length ≤ 4000 := fun rs hrs => by
          rcases List.mem_cons.mp hrs with rfl | z
          · omega
          · exact hRs rs z
        refine ⟨(ks :: Rs).map fzL, (by show some (((ks :: Rs).map fzL).map T.frz) = _; rw [frz_fzL]), rfl, fun j ev => ∃ y8, ev = [some (.scr ns), some (.int k), some t', some (.int far), some (.int many), some (.int times), y6, some (.fz (.lst (ks.map T.int))), y8, y9, none], ⟨_, rfl⟩, fun _ _ _ _ => trivial, fun j ev hj h => ?_, fun ev h => ?_⟩
        · obtain ⟨y8, rfl⟩ := h
          rw [List.length_map] at hj
          rw [item_fz hj]
          have hr := hall _ (getD_mem (d := []) hj)
          generalize (ks :: Rs).getD j [] = rs at *
          infer_instance
          refine ⟨_, rs, rfl, IsL.fz, hr, hW5, ?_⟩
          infer_instance
          exact ⟨_, rfl⟩
        · obtain ⟨y8, rfl⟩ := h
          exact ⟨_, _, _, _, _, _, _, _, _, rfl⟩
  · obtain ⟨y1, y2, y3, y4, y5, y6, y7, y8, y9, rfl⟩ := h
    infer_instance
    refine ⟨"x", 2000, rfl, by decide, by decide, by decide +kernel, by decide +kernel, ?_⟩
    infer_instance
    have hw : ∀ x ∈ [T.str (Str.ofString "words"), T.str (Str.ofString ""), T.str (Str.ofString " Two words, (0 1) "), T.str (strN (Str.ofString "x") 2000)], ∃ w, x = .str w ∧ StrG w := by
      simp only [List.forall_mem_cons]
      refine ⟨⟨_, rfl, ?_⟩, ⟨_, rfl, ?_⟩, ⟨_, rfl, ?_⟩, ⟨_, rfl, ?_⟩, fun _ h => nomatch h⟩
      · unfold StrG; decide +kernel
      · unfold StrG; decide +kernel
      · unfold StrG; decide +kernel
      · exact strG_of (strOk_strN (by decide +kernel))
    refine ⟨[T.str (Str.ofString "words"), T.str (Str.ofString ""), T.str (Str.ofString " Two words, (0 1) "), T.str (strN (Str.ofString "x") 2000)], rfl, rfl, fun j ev => ∃ y9, ev = [some (.scr ns), y1, y2, y3, y4, y5, y6, y7, y8, y9, none], ⟨_, rfl⟩, fun _ _ _ _ => trivial, fun j ev hj h => ?_, fun ev h => ?_⟩
    · obtain ⟨y9, rfl⟩ := h
      obtain ⟨w, hwe, hg⟩ := hw _ (List.getElem_mem hj)
      rw [List.getD_eq_getElem?_getD, List.getElem?_eq_getElem hj, Option.getD_some, hwe]
      infer_instance
      · rename_i e
        simp at e
      · exact ⟨_, rfl⟩
    · obtain ⟨y9, rfl⟩ := h
      infer_instance
      exact q _

/-! ### the text -/
def topS (i : Nat) : Stmt := PySem.Challenge.pw_turnroots_k43_counted_refused.main.body.getD i (.Pass ⟨0, 0, 0, 0⟩)
/-- what stands in the module -/
structure Txt (K : PySem.W.Frag) (mg : Str → Option Value) (c_NoFit : Addr) (c_NoKind : Addr) (c_NoName : Addr) (c_NoNumber : Addr) (c_NoRoot : Addr) (c_NoRounds : Addr) (c_NoRow : Addr) (c_NoText : Addr) (c_NoTurn : Addr) (c_TooMany : Addr) (c_TurnError : Addr) : Prop where
  n_MOST_COUNTED : ∃ t, mg "MOST_COUNTED" = some (.int 12 t)
  n_MOST_THINGS : ∃ t, mg "MOST_THINGS" = some (.int 40 t)
  n_ValueError : mg "ValueError" = none
  n_bool : mg "bool" = none
  x_NoKind : XcOk K mg "NoKind" c_NoKind
  x_NoNumber : XcOk K mg "NoNumber" c_NoNumber
  x_TooMany : XcOk K mg "TooMany" c_TooMany
  g_NoFit : mg "NoFit" = some (.ref c_NoFit)
  g_NoKind : mg "NoKind" = some (.ref c_NoKind)
  g_NoName : mg "NoName" = some (.ref c_NoName)
  g_NoNumber : mg "NoNumber" = some (.ref c_NoNumber)
  g_NoRoot : mg "NoRoot" = some (.ref c_NoRoot)
  g_NoRounds : mg "NoRounds" = some (.ref c_NoRounds)
  g_NoRow : mg "NoRow" = some (.ref c_NoRow)
  g_NoText : mg "NoText" = some (.ref c_NoText)
  g_NoTurn : mg "NoTurn" = some (.ref c_NoTurn)
  g_TooMany : mg "TooMany" = some (.ref c_TooMany)
  e_NoKind_TurnError : PySem.W.exmOne K (.ref c_NoKind) (.ref c_TurnError) = some true
  e_NoNumber_TurnError : PySem.W.exmOne K (.ref c_NoNumber) (.ref c_TurnError) = some true
  e_TooMany_TurnError : PySem.W.exmOne K (.ref c_TooMany) (.ref c_TurnError) = some true
  g_TurnError : mg "TurnError" = some (.ref c_TurnError)
  n_int : mg "int" = none
  n_isinstance : mg "isinstance" = none
  n_len : mg "len" = none
  n_list : mg "list" = none
  n_max : mg "max" = none
  n_min : mg "min" = none
  n_range : mg "range" = none
  n_set : mg "set" = none
  n_sorted : mg "sorted" = none
  n_str : mg "str" = none
  st_NoKind : PySem.W.findIn K (.ref c_NoKind) "__str__" = some (some (.builtin "BaseException.__str__"))
  st_NoNumber : PySem.W.findIn K (.ref c_NoNumber) "__str__" = some (some (.builtin "BaseException.__str__"))
  st_TooMany : PySem.W.findIn K (.ref c_TooMany) "__str__" = some (some (.builtin "BaseException.__str__"))
  n_sum : mg "sum" = none
  cf : cf_law (Isx K) c_NoFit c_NoKind c_NoName c_NoNumber c_NoRoot c_NoRounds c_NoRow c_NoText c_NoTurn c_TooMany
abbrev s__law_pool : Stmt := topS 29
theorem sc__law_pool : FnScope [("script" : Str), "k", "cell"] [("script" : Str), "k"] (defScope s__law_pool) := ⟨rfl, rfl, rfl, by decide +kernel, rfl, by decide +kernel, by decide +kernel⟩
abbrev s__law_take : Stmt := topS 30
theorem sc__law_take : FnScope [("pool" : Str), "many", "found", "step", "mark"] [("pool" : Str), "many"] (defScope s__law_take) := ⟨rfl, rfl, rfl, by decide +kernel, rfl, by decide +kernel, by decide +kernel⟩
abbrev s__law_lengths : Stmt := topS 33
theorem sc__law_lengths : FnScope [("pool" : Str), "many", "way", "like", "found", "left", "most", "length"] [("pool" : Str), "many"] (defScope s__law_lengths) := ⟨rfl, rfl, rfl, by decide +kernel, rfl, by decide +kernel, by decide +kernel⟩
abbrev s__law_bad_kind : Stmt := topS 38
theorem sc__law_bad_kind : FnScope [("pool" : Str), "kind", "far", "at", "odd", "rows"] [("pool" : Str), "kind"] (defScope s__law_bad_kind) := ⟨rfl, rfl, rfl, by decide +kernel, rfl, by decide +kernel, by decide +kernel⟩
abbrev s_need_counted : Stmt := topS 20
theorem sc_need_counted : FnScope [("n" : Str)] [("n" : Str)] (defScope s_need_counted) := ⟨rfl, rfl, rfl, by decide +kernel, rfl, by decide +kernel, by decide +kernel⟩
abbrev s_lists_to : Stmt := topS 22
theorem sc_lists_to : FnScope [("left" : Str), "most", "found", "first", "more"] [("left" : Str), "most"] (defScope s_lists_to) := ⟨rfl, rfl, rfl, by decide +kernel, rfl, by decide +kernel, by decide +kernel⟩
abbrev s_kinds_of : Stmt := topS 23
theorem sc_kinds_of : FnScope [("n" : Str)] [("n" : Str)] (defScope s_kinds_of) := ⟨rfl, rfl, rfl, by decide +kernel, rfl, by decide +kernel, by decide +kernel⟩
abbrev s_need_times : Stmt := topS 21
theorem sc_need_times : FnScope [("m" : Str)] [("m" : Str)] (defScope s_need_times) := ⟨rfl, rfl, rfl, by decide +kernel, rfl, by decide +kernel, by decide +kernel⟩
abbrev s_product_to : Stmt := topS 19
theorem sc_product_to : FnScope [("number" : Str), "found", "k"] [("number" : Str)] (defScope s_product_to) := ⟨rfl, rfl, rfl, by decide +kernel, rfl, by decide +kernel, by decide +kernel⟩
abbrev s_how_many_of : Stmt := topS 24
theorem sc_how_many_of : FnScope [("kind" : Str), "rising", "found", "length", "turn", "k", "one"] [("kind" : Str)] (defScope s_how_many_of) := ⟨rfl, rfl, rfl, by decide +kernel, rfl, by decide +kernel, by decide +kernel⟩
abbrev s_need_number : Stmt := topS 14
theorem sc_need_number : FnScope [("number" : Str)] [("number" : Str)] (defScope s_need_number) := ⟨rfl, rfl, rfl, by decide +kernel, rfl, by decide +kernel, by decide +kernel⟩
abbrev s_parts_both : Stmt := topS 15
theorem sc_parts_both : FnScope [("one" : Str), "other"] [("one" : Str), "other"] (defScope s_parts_both) := ⟨rfl, rfl, rfl, by decide +kernel, rfl, by decide +kernel, by decide +kernel⟩
abbrev s_least_right : Stmt := topS 16
theorem sc_least_right : FnScope [("l" : Str), "m", "rest"] [("l" : Str), "m"] (defScope s_least_right) := ⟨rfl, rfl, rfl, by decide +kernel, rfl, by decide +kernel, by decide +kernel⟩
abbrev s_has_root_by_kind : Stmt := topS 25
theorem sc_has_root_by_kind : FnScope [("kind" : Str), "m", "one"] [("kind" : Str), "m"] (defScope s_has_root_by_kind) := ⟨rfl, rfl, rfl, by decide +kernel, rfl, by decide +kernel, by decide +kernel⟩
abbrev s_how_many_have : Stmt := topS 26
theorem sc_how_many_have : FnScope [("n" : Str), "m", "kind"] [("n" : Str), "m"] (defScope s_how_many_have) := ⟨rfl, rfl, rfl, by decide +kernel, rfl, by decide +kernel, by decide +kernel⟩
abbrev s_how_many_home : Stmt := topS 27
theorem sc_how_many_home : FnScope [("n" : Str), "m", "kind", "one"] [("n" : Str), "m"] (defScope s_how_many_home) := ⟨rfl, rfl, rfl, by decide +kernel, rfl, by decide +kernel, by decide +kernel⟩
abbrev s__law_caught : Stmt := topS 36
theorem sc__law_caught : FnScope [("way" : Str), "one", "other", "caught", "e"] [("way" : Str), "one", "other"] (defScope s__law_caught) := ⟨rfl, rfl, rfl, by decide +kernel, rfl, by decide +kernel, by decide +kernel⟩
abbrev s__law_is : Stmt := topS 35
theorem sc__law_is : FnScope [("caught" : Str), "due", "kinds", "k"] [("caught" : Str), "due"] (defScope s__law_is) := ⟨rfl, rfl, rfl, by decide +kernel, rfl, by decide +kernel, by decide +kernel⟩
abbrev s__law_kind_right : Stmt := topS 39
theorem sc__law_kind_right : FnScope [("kind" : Str), "good", "handed", "caught", "one"] [("kind" : Str)] (defScope s__law_kind_right) := ⟨rfl, rfl, rfl, by decide +kernel, rfl, by decide +kernel, by decide +kernel⟩
abbrev s__law_right : Stmt := topS 37
theorem sc__law_right : FnScope [("way" : Str), "many", "times", "caught"] [("way" : Str), "many", "times"] (defScope s__law_right) := ⟨rfl, rfl, rfl, by decide +kernel, rfl, by decide +kernel, by decide +kernel⟩
abbrev s_law : Stmt := topS 40
theorem sc_law : FnScope [("script" : Str), "k", "pool", "far", "many", "times", "way", "kind", "one", "words", "turn"] [("script" : Str)] (defScope s_law) := ⟨rfl, rfl, rfl, by decide +kernel, rfl, by decide +kernel, by decide +kernel⟩
section
variable {P : Program} {w : World} {K : PySem.W.Frag} {mg : Str → Option Value} {base : Heap} {c_NoFit : Addr} {c_NoKind : Addr} {c_NoName : Addr} {c_NoNumber : Addr} {c_NoRoot : Addr} {c_NoRounds : Addr} {c_NoRow : Addr} {c_NoText : Addr} {c_NoTurn : Addr} {c_TooMany : Addr} {c_TurnError : Addr}
theorem ok__law_pool (T : Txt K mg c_NoFit c_NoKind c_NoName c_NoNumber c_NoRoot c_NoRounds c_NoRow c_NoText c_NoTurn c_TooMany c_TurnError) (R : Rdy K mg "_law_pool" s__law_pool [("script" : Str), "k"]) : FnT P w K mg base 1 "_law_pool" [("script" : Str), "k"] (S__law_pool) :=
  have nd : ([("script" : Str), "k", "cell"] : List Str).Nodup := sc__law_pool.nd
  fn_of (A := [2]) (wb := b__law_pool) (k := 0) R sc__law_pool (fun _ _ _ h => r__law_pool h) fun f cdv Ar outer s H E hr tk => DSs.sub (dss_cons (ds_set (i := 2) nd rfl (by first | exact .inl rfl | exact .inr rfl) (de_int))
    (dss_cons (ds_if (dt_lt (do_vl (DE.s (pv 1))) (do_vl (de_len (by rfl) T.n_len (do_pl 0))))
    (dss_one (ds_set (i := 2) nd rfl (by first | exact .inl rfl | exact .inr rfl) (de_at (do_pl 0) (do_vl (DE.s (pv 1))))))
    (dss_nil))
    (dss_cons (ds_if (dt_ge (do_vl (DE.s (pv 2))) (do_vl (de_pow (do_vl (de_int)) (do_vl (de_int)))))
    (dss_one (ds_ret (de_lstD (da_cons (do_vl (de_sub (do_vl (DE.s (pv 2))) (do_vl (de_pow (do_vl (de_int)) (do_vl (de_int)))))) (da_cons (do_vl (de_int)) (da_cons (do_vl (de_int)) da_nil))))))
    (dss_nil))
    (dss_one (ds_ret (de_lstD (da_cons (do_vl (DE.s (pv 2))) (da_cons (do_vl (de_int)) (da_cons (do_vl (de_mul (do_vl (de_int)) (do_vl (DE.s (pv 1))))) da_nil)))))))))
theorem ok__law_take (T : Txt K mg c_NoFit c_NoKind c_NoName c_NoNumber c_NoRoot c_NoRounds c_NoRow c_NoText c_NoTurn c_TooMany c_TurnError) (R : Rdy K mg "_law_take" s__law_take [("pool" : Str), "many"]) : FnT P w K mg base 1 "_law_take" [("pool" : Str), "many"] (S__law_take) :=
  have nd : ([("pool" : Str), "many", "found", "step", "mark"] : List Str).Nodup := sc__law_take.nd
  fn_of (A := [2, 3, 4]) (wb := b__law_take) (k := 0) R sc__law_take (fun _ _ _ h => r__law_take h) fun f cdv Ar outer s H E hr tk => DSs.sub (dss_cons (ds_if (dt_eq (hu64 hr) (do_vl (de_at (do_pl 0) (do_vl (de_int)))) (do_vl (de_int)))
    (dss_cons (ds_set (i := 2) nd rfl (by first | exact .inl rfl | exact .inr rfl) (de_mod (do_vl (de_at (do_pl 0) (do_vl (de_int)))) (do_vl (DE.s (pv 1)))))
    (dss_cons (ds_setI (do_pl 0) (do_vl (de_int)) (de_div (do_vl (de_at (do_pl 0) (do_vl (de_int)))) (do_vl (DE.s (pv 1)))))
    (dss_one (ds_ret (DE.s (pv 2))))))
    (dss_nil))
    (dss_cons (ds_setI (do_pl 0) (do_vl (de_int)) (de_add (do_vl (de_at (do_pl 0) (do_vl (de_int)))) (do_vl (de_int))))
    (dss_cons (ds_set (i := 3) nd rfl (by first | exact .inl rfl | exact .inr rfl) (de_at (do_pl 0) (do_vl (de_int))))
    (dss_cons (ds_set (i := 4) nd rfl (by first | exact .inl rfl | exact .inr rfl) (de_mul (do_vl (de_add (do_vl (de_mod (do_vl (de_at (do_pl 0) (do_vl (de_int)))) (do_vl (de_int)))) (do_vl (de_int)))) (do_vl (de_add (do_vl (de_mul (do_vl (de_int)) (do_vl (DE.s (pv 3))))) (do_vl (de_int))))))
    (dss_cons (ds_set (i := 4) nd rfl (by first | exact .inl rfl | exact .inr rfl) (de_add (do_vl (DE.s (pv 4))) (do_vl (de_mul (do_vl (de_mul (do_vl (de_int)) (do_vl (DE.s (pv 3))))) (do_vl (DE.s (pv 3)))))))
    (dss_cons (ds_set (i := 4) nd rfl (by first | exact .inl rfl | exact .inr rfl) (de_mod (do_vl (de_mul (do_vl (DE.s (pv 4))) (do_vl (DE.s (pv 4))))) (do_vl (de_int))))
    (dss_one (ds_ret (de_mod (do_vl (de_div (do_vl (de_mod (do_vl (de_mul (do_vl (DE.s (pv 4))) (do_vl (de_add (do_vl (DE.s (pv 4))) (do_vl (de_int)))))) (do_vl (de_int)))) (do_vl (de_int)))) (do_vl (DE.s (pv 1))))))))))))
theorem ok__law_lengths (T : Txt K mg c_NoFit c_NoKind c_NoName c_NoNumber c_NoRoot c_NoRounds c_NoRow c_NoText c_NoTurn c_TooMany c_TurnError) (G__law_take : FnT P w K mg base 1 "_law_take" [("pool" : Str), "many"] (S__law_take)) (R : Rdy K mg "_law_lengths" s__law_lengths [("pool" : Str), "many"]) : FnT P w K mg base 2 "_law_lengths" [("pool" : Str), "many"] (S__law_lengths) :=
  have nd : ([("pool" : Str), "many", "way", "like", "found", "left", "most", "length"] : List Str).Nodup := sc__law_lengths.nd
  fn_of (A := [2, 3, 4, 5, 6, 7]) (wb := b__law_lengths) (k := 1) R sc__law_lengths (fun _ _ _ h => r__law_lengths h) fun f cdv Ar outer s H E hr tk => DSs.sub (dss_cons (ds_set (i := 2) nd rfl (by first | exact .inl rfl | exact .inr rfl) (de_fn G__law_take (hr.mono (by decide)) tk (da_cons (do_pl 0) (da_cons (do_vl (de_int)) da_nil))))
    (dss_cons (ds_set (i := 3) nd rfl (by first | exact .inl rfl | exact .inr rfl) (de_add (do_vl (de_int)) (do_vl (de_fn G__law_take (hr.mono (by decide)) tk (da_cons (do_pl 0) (da_cons (do_vl (de_int)) da_nil))))))
    (dss_cons (ds_set (i := 4) nd rfl (by first | exact .inl rfl | exact .inr rfl) (de_lstD (da_nil)))
    (dss_cons (ds_set (i := 5) nd rfl (by first | exact .inl rfl | exact .inr rfl) (DE.s (pv 1)))
    (dss_cons (ds_while (passes_of rfl) (dt_gt (do_vl (DE.s (pv 5))) (do_vl (de_int)))
    (dss_cons (ds_set (i := 6) nd rfl (by first | exact .inl rfl | exact .inr rfl) (de_at (do_vl (de_lstD (da_cons (do_vl (DE.s (pv 5))) (da_cons (do_vl (de_min2 rfl (by rfl) T.n_min (do_vl (DE.s (pv 5))) (do_vl (de_int)))) (da_cons (do_vl (de_min2 rfl (by rfl) T.n_min (do_vl (DE.s (pv 5))) (do_vl (DE.s (pv 3))))) (da_cons (do_vl (DE.s (pv 5))) da_nil)))))) (do_vl (DE.s (pv 2)))))
    (dss_cons (ds_if (dt_eq (hu64 hr) (do_vl (DE.s (pv 2))) (do_vl (de_int)))
    (dss_one (ds_set (i := 7) nd rfl (by first | exact .inl rfl | exact .inr rfl) (DE.s (pv 6))))
    (dss_one (ds_set (i := 7) nd rfl (by first | exact .inl rfl | exact .inr rfl) (de_add (do_vl (de_int)) (do_vl (de_fn G__law_take (hr.mono (by decide)) tk (da_cons (do_pl 0) (da_cons (do_vl (DE.s (pv 6))) da_nil))))))))
    (dss_cons (ds_expr (de_append (do_pl 4) (do_vl (DE.s (pv 7)))))
    (dss_one (ds_set (i := 5) nd rfl (by first | exact .inl rfl | exact .inr rfl) (de_sub (do_vl (DE.s (pv 5))) (do_vl (DE.s (pv 7))))))))))
    (dss_one (ds_ret (DE.m (pv 4)))))))))
theorem ok__law_bad_kind (T : Txt K mg c_NoFit c_NoKind c_NoName c_NoNumber c_NoRoot c_NoRounds c_NoRow c_NoText c_NoTurn c_TooMany c_TurnError) (G__law_take : FnT P w K mg base 1 "_law_take" [("pool" : Str), "many"] (S__law_take)) (R : Rdy K mg "_law_bad_kind" s__law_bad_kind [("pool" : Str), "kind"]) : FnT P w K mg base 2 "_law_bad_kind" [("pool" : Str), "kind"] (S__law_bad_kind) :=
  have nd : ([("pool" : Str), "kind", "far", "at", "odd", "rows"] : List Str).Nodup := sc__law_bad_kind.nd
  fn_of (A := [2, 3, 4, 5]) (wb := b__law_bad_kind) (k := 1) R sc__law_bad_kind (fun _ _ _ h => r__law_bad_kind h) fun f cdv Ar outer s H E hr tk => DSs.sub (dss_cons (ds_set (i := 2) nd rfl (by first | exact .inl rfl | exact .inr rfl) (de_fn G__law_take (hr.mono (by decide)) tk (da_cons (do_pl 0) (da_cons (do_vl (de_pow (do_vl (de_int)) (do_vl (de_int)))) da_nil))))
    (dss_cons (ds_set (i := 3) nd rfl (by first | exact .inl rfl | exact .inr rfl) (de_fn G__law_take (hr.mono (by decide)) tk (da_cons (do_pl 0) (da_cons (do_vl (de_add (do_vl (de_len (by rfl) T.n_len (do_pl 1))) (do_vl (de_int)))) da_nil))))
    (dss_cons (ds_set (i := 4) nd rfl (by first | exact .inl rfl | exact .inr rfl) (de_at (do_vl (de_lstD (da_cons (do_vl (de_int)) (da_cons (do_vl (de_neg (do_vl (de_int)))) (da_cons (do_vl (de_int)) (da_cons (do_vl (de_add (do_vl (de_int)) (do_vl (DE.s (pv 2))))) (da_cons (do_vl (de_sub (do_vl (de_neg (do_vl (de_int)))) (do_vl (DE.s (pv 2))))) (da_cons (do_vl (de_add (do_vl (de_int)) (do_vl (de_fn G__law_take (hr.mono (by decide)) tk (da_cons (do_pl 0) (da_cons (do_vl (de_int)) da_nil)))))) da_nil)))))))) (do_vl (de_fn G__law_take (hr.mono (by decide)) tk (da_cons (do_pl 0) (da_cons (do_vl (de_int)) da_nil))))))
    (dss_cons (ds_set (i := 5) nd rfl (by first | exact .inl rfl | exact .inr rfl) (de_lstD (da_cons (do_vl (de_cat (do_vl (de_cat (do_vl (de_cutHi (do_pl 1) (do_vl (DE.s (pv 3))))) (do_vl (de_lstD (da_cons (do_vl (DE.s (pv 4))) da_nil))))) (do_vl (de_cutLo (do_pl 1) (do_vl (DE.s (pv 3))))))) (da_cons (do_vl (de_cat (do_vl (de_cat (do_vl (de_cutHi (do_pl 1) (do_vl (DE.s (pv 3))))) (do_vl (de_lstD (da_cons (do_vl (DE.s (pv 4))) da_nil))))) (do_vl (de_cutLo (do_pl 1) (do_vl (de_add (do_vl (DE.s (pv 3))) (do_vl (de_int)))))))) (da_cons (do_vl (de_rev (do_pl 1))) (da_cons (do_vl (de_cat (do_vl (DE.v (pv 1))) (do_vl (DE.v (pv 1))))) da_nil))))))
    (dss_cons (ds_set (i := 5) nd rfl (by first | exact .inl rfl | exact .inr rfl) (de_cat (do_vl (DE.v (pv 5))) (do_vl (DE.fz (de_lstD (da_cons (do_vl (de_cat (do_vl (de_cat (do_vl (de_cutHi (do_pl 1) (do_vl (DE.s (pv 3))))) (do_vl (de_lstD (da_cons (do_vl (de_int)) da_nil))))) (do_vl (de_cutLo (do_pl 1) (do_vl (DE.s (pv 3))))))) (da_cons (do_vl (de_rep (do_vl (de_lstD (da_cons (do_vl (de_int)) da_nil))) (do_vl (de_add (do_vl (de_int)) (do_vl (de_mod (do_vl (DE.s (pv 2))) (do_vl (de_int)))))))) (da_cons (do_vl (de_cat (do_vl (de_cat (do_vl (de_cutHi (do_pl 1) (do_vl (DE.s (pv 3))))) (do_vl (de_lstD (da_cons (do_vl (DE.s (pv 4))) (da_cons (do_vl (DE.s (pv 4))) da_nil)))))) (do_vl (de_cutLo (do_pl 1) (do_vl (DE.s (pv 3))))))) da_nil))))))))
    (dss_one (ds_ret (de_at (do_vl (DE.v (pv 5))) (do_vl (de_fn G__law_take (hr.mono (by decide)) tk (da_cons (do_pl 0) (da_cons (do_vl (de_int)) da_nil))))))))))))
theorem ok_need_counted (T : Txt K mg c_NoFit c_NoKind c_NoName c_NoNumber c_NoRoot c_NoRounds c_NoRow c_NoText c_NoTurn c_TooMany c_TurnError) (R : Rdy K mg "need_counted" s_need_counted [("n" : Str)]) : FnT P w K mg base 1 "need_counted" [("n" : Str)] (S_need_counted c_NoNumber c_TooMany) :=
  have nd : ([("n" : Str)] : List Str).Nodup := sc_need_counted.nd
  fn_of (A := []) (wb := b_need_counted c_NoNumber c_TooMany) (k := 0) R sc_need_counted (fun _ _ _ h => r_need_counted h) fun f cdv Ar outer s H E hr tk => DSs.sub (dss_cons (ds_if (dt_gt (do_vl (DE.s (pv 0))) (do_vl (de_globI (by rfl) T.n_MOST_COUNTED)))
    (dss_one (ds_raise rfl tk (T.x_TooMany.pm (by rfl))))
    (dss_nil))
    (dss_one (ds_if (dt_lt (do_vl (DE.s (pv 0))) (do_vl (de_int)))
    (dss_one (ds_raise rfl tk (T.x_NoNumber.pm (by rfl))))
    (dss_nil))))
theorem ok_lists_to (T : Txt K mg c_NoFit c_NoKind c_NoName c_NoNumber c_NoRoot c_NoRounds c_NoRow c_NoText c_NoTurn c_TooMany c_TurnError) (R : Rdy K mg "lists_to" s_lists_to [("left" : Str), "most"]) : ∀ rn : Nat, FnT P w K mg base (0 + rn) "lists_to" [("left" : Str), "most"] (S_lists_to rn)
  | 0 => FnT.never R fun _ _ _ h => h
  | rn + 1 =>
    have G_lists_to := ok_lists_to T  R rn
    have nd : ([("left" : Str), "most", "found", "first", "more"] : List Str).Nodup := sc_lists_to.nd
    fn_of (A := [2, 3]) (wb := b_lists_to rn) (k := 0 + rn) R sc_lists_to (fun _ _ _ h => r_lists_to h) fun f cdv Ar outer s H E hr tk => DSs.sub (dss_cons (ds_if (dt_eq (hu64 hr) (do_vl (DE.s (pv 0))) (do_vl (de_int)))
    (dss_one (ds_ret (de_lstD (da_cons (do_vl (de_lstD (da_nil))) da_nil))))
    (dss_nil))
    (dss_cons (ds_set (i := 2) nd rfl (by first | exact .inl rfl | exact .inr rfl) (de_lstD (da_nil)))
    (dss_cons (ds_for (passes_of rfl) rfl (di_rng2 (by rfl) T.n_range (do_vl (de_int)) (do_vl (de_add (do_vl (de_min2 rfl (by rfl) T.n_min (do_vl (DE.s (pv 0))) (do_vl (DE.s (pv 1))))) (do_vl (de_int))))) (dg_name (i := 3) nd rfl (by first | exact .inl rfl | exact .inr rfl))
    (dss_one (ds_expr (de_extend (do_pl 2) (do_vl (de_lc rfl nd (di_list (do_vl (DE.fz (de_fn G_lists_to (hr.mono (by omega)) tk (da_cons (do_vl (de_sub (do_vl (DE.s (pv 0))) (do_vl (DE.s (pv 3))))) (da_cons (do_vl (DE.s (pv 3))) da_nil)))))) (blkOk_by (own := [("more", 4)]) (by rfl)) (gN_ok (i := 4)) (fun _ _ _ _ _ => pg_name (i := 4) nd rfl (by first | exact .inl rfl | exact .inr rfl)) (fun _ _ _ _ _ => dts_nil) (fun _ _ _ _ _ => de_cat (do_vl (de_lstD (da_cons (do_vl (DE.s (pv 3))) da_nil))) (do_pl 4))))))))
    (dss_one (ds_ret (DE.m (pv 2)))))))
theorem ok_kinds_of (T : Txt K mg c_NoFit c_NoKind c_NoName c_NoNumber c_NoRoot c_NoRounds c_NoRow c_NoText c_NoTurn c_TooMany c_TurnError) (G_need_counted : FnT P w K mg base 1 "need_counted" [("n" : Str)] (S_need_counted c_NoNumber c_TooMany)) (G_lists_to : FnT P w K mg base 14 "lists_to" [("left" : Str), "most"] (S_lists_to 14)) (R : Rdy K mg "kinds_of" s_kinds_of [("n" : Str)]) : FnT P w K mg base 15 "kinds_of" [("n" : Str)] (S_kinds_of c_NoNumber c_TooMany) :=
  have nd : ([("n" : Str)] : List Str).Nodup := sc_kinds_of.nd
  fn_of (A := []) (wb := b_kinds_of c_NoNumber c_TooMany) (k := 14) R sc_kinds_of (fun _ _ _ h => r_kinds_of h) fun f cdv Ar outer s H E hr tk => DSs.sub (dss_cons (ds_expr (de_fn G_need_counted (hr.mono (by decide)) tk (da_cons (do_vl (DE.s (pv 0))) da_nil)))
    (dss_one (ds_ret (de_sortLL (hu64 hr) (by rfl) T.n_sorted (do_vl (de_fn G_lists_to (hr.mono (by decide)) tk (da_cons (do_vl (DE.s (pv 0))) (da_cons (do_vl (DE.s (pv 0))) da_nil))))))))
theorem ok_need_times (T : Txt K mg c_NoFit c_NoKind c_NoName c_NoNumber c_NoRoot c_NoRounds c_NoRow c_NoText c_NoTurn c_TooMany c_TurnError) (R : Rdy K mg "need_times" s_need_times [("m" : Str)]) : FnT P w K mg base 1 "need_times" [("m" : Str)] (S_need_times c_NoNumber) :=
  have nd : ([("m" : Str)] : List Str).Nodup := sc_need_times.nd
  fn_of (A := []) (wb := b_need_times c_NoNumber) (k := 0) R sc_need_times (fun _ _ _ h => r_need_times h) fun f cdv Ar outer s H E hr tk => DSs.sub (dss_one (ds_if (dt_lt (do_vl (DE.s (pv 0))) (do_vl (de_int)))
    (dss_one (ds_raise rfl tk (T.x_NoNumber.pm (by rfl))))
    (dss_nil)))
theorem ok_product_to (T : Txt K mg c_NoFit c_NoKind c_NoName c_NoNumber c_NoRoot c_NoRounds c_NoRow c_NoText c_NoTurn c_TooMany c_TurnError) (R : Rdy K mg "product_to" s_product_to [("number" : Str)]) : FnT P w K mg base 1 "product_to" [("number" : Str)] (S_product_to) :=
  have nd : ([("number" : Str), "found", "k"] : List Str).Nodup := sc_product_to.nd
  fn_of (A := [1, 2]) (wb := b_product_to) (k := 0) R sc_product_to (fun _ _ _ h => r_product_to h) fun f cdv Ar outer s H E hr tk => DSs.sub (dss_cons (ds_set (i := 1) nd rfl (by first | exact .inl rfl | exact .inr rfl) (de_int))
    (dss_cons (ds_for (passes_of rfl) rfl (di_rng2 (by rfl) T.n_range (do_vl (de_int)) (do_vl (de_add (do_vl (DE.s (pv 0))) (do_vl (de_int))))) (dg_name (i := 2) nd rfl (by first | exact .inl rfl | exact .inr rfl))
    (dss_one (ds_augM (i := 1) nd rfl (by first | exact .inl rfl | exact .inr rfl) (DE.s (pv 2)))))
    (dss_one (ds_ret (DE.s (pv 1))))))
theorem ok_how_many_of (T : Txt K mg c_NoFit c_NoKind c_NoName c_NoNumber c_NoRoot c_NoRounds c_NoRow c_NoText c_NoTurn c_TooMany c_TurnError) (G_product_to : FnT P w K mg base 1 "product_to" [("number" : Str)] (S_product_to)) (R : Rdy K mg "how_many_of" s_how_many_of [("kind" : Str)]) : FnT P w K mg base 2 "how_many_of" [("kind" : Str)] (S_how_many_of c_NoKind) :=
  have nd : ([("kind" : Str), "rising", "found", "length", "turn", "k", "one"] : List Str).Nodup := sc_how_many_of.nd
  fn_of (A := [1, 2, 3, 4]) (wb := b_how_many_of c_NoKind) (k := 1) R sc_how_many_of (fun _ _ _ h => r_how_many_of h) fun f cdv Ar outer s H E hr tk => DSs.sub (dss_cons (ds_setLc (i := 1) rfl nd rfl rfl (sw_true rfl rfl rfl (by rfl)) (di_rng2 (by rfl) T.n_range (do_vl (de_int)) (do_vl (de_len (by rfl) T.n_len (do_pl 0)))) (blkOk_by (own := [("k", 5)]) (by rfl)) (gN_ok (i := 5)) (fun _ _ _ _ _ => pg_name (i := 5) nd rfl (by first | exact .inl rfl | exact .inr rfl)) (fun _ _ _ _ _ => dts_one (dt_gt (do_vl (de_at (do_pl 0) (do_vl (DE.s (pv 5))))) (do_vl (de_at (do_pl 0) (do_vl (de_sub (do_vl (DE.s (pv 5))) (do_vl (de_int)))))))) (fun _ _ _ _ _ => DE.s (pv 5)))
    (dss_cons (ds_if (DW.dt (DW.or (dt_ne (hu64 hr) (do_vl (de_lc rfl nd (di_list (do_pl 0)) (blkOk_by (own := [("one", 6)]) (by rfl)) (gN_ok (i := 6)) (fun _ _ _ _ _ => pg_name (i := 6) nd rfl (by first | exact .inl rfl | exact .inr rfl)) (fun _ _ _ _ _ => dts_one (dt_lt (do_vl (DE.s (pv 6))) (do_vl (de_int)))) (fun _ _ _ _ _ => DE.s (pv 6)))) (do_vl (de_lstD (da_nil)))) (DW.or (dt_ne (hu64 hr) (do_pl 1) (do_vl (de_lstD (da_nil)))) (DW.or1 (dt_gt (do_vl (de_sum rfl (by rfl) T.n_sum (do_pl 0))) (do_vl (de_globI (by rfl) T.n_MOST_THINGS)))))))
    (dss_one (ds_raise rfl tk (T.x_NoKind.pm (by rfl))))
    (dss_nil))
    (dss_cons (ds_set (i := 2) nd rfl (by first | exact .inl rfl | exact .inr rfl) (de_fn G_product_to (hr.mono (by decide)) tk (da_cons (do_vl (de_sum rfl (by rfl) T.n_sum (do_pl 0))) da_nil)))
    (dss_cons (ds_for (passes_of rfl) rfl (di_list (do_vl (de_sortSet rfl (by rfl) T.n_sorted (by rfl) T.n_set (do_pl 0)))) (dg_name (i := 3) nd rfl (by first | exact .inl rfl | exact .inr rfl))
    (dss_cons (ds_for (passes_of rfl) rfl (di_rng1 (by rfl) T.n_range (do_vl (de_count (do_pl 0) (do_vl (DE.s (pv 3)))))) (dg_name (i := 4) nd rfl (by first | exact .inl rfl | exact .inr rfl))
    (dss_one (ds_augD (i := 2) nd rfl (by first | exact .inl rfl | exact .inr rfl) (DE.s (pv 3)))))
    (dss_one (ds_augD (i := 2) nd rfl (by first | exact .inl rfl | exact .inr rfl) (de_fn G_product_to (hr.mono (by decide)) tk (da_cons (do_vl (de_count (do_pl 0) (do_vl (DE.s (pv 3))))) da_nil))))))
    (dss_one (ds_ret (DE.s (pv 2))))))))
theorem ok_need_number (T : Txt K mg c_NoFit c_NoKind c_NoName c_NoNumber c_NoRoot c_NoRounds c_NoRow c_NoText c_NoTurn c_TooMany c_TurnError) (R : Rdy K mg "need_number" s_need_number [("number" : Str)]) : FnT P w K mg base 1 "need_number" [("number" : Str)] (S_need_number c_NoNumber) :=
  have nd : ([("number" : Str)] : List Str).Nodup := sc_need_number.nd
  fn_of (A := []) (wb := b_need_number c_NoNumber) (k := 0) R sc_need_number (fun _ _ _ h => r_need_number h) fun f cdv Ar outer s H E hr tk => DSs.sub (dss_one (ds_if (DW.dt (DW.or (DT.not (DT.of (de_isi (by rfl) T.n_isinstance (do_pl 0) (do_vl (de_ty (by rfl) T.n_int (by decide +kernel)))))) (DW.or (DT.of (de_isi (by rfl) T.n_isinstance (do_pl 0) (do_vl (de_ty (by rfl) T.n_bool (by decide +kernel))))) (DW.or1 (dt_lt (do_vl (DE.s (pv 0))) (do_vl (de_int)))))))
    (dss_one (ds_raise rfl tk (T.x_NoNumber.pm (by rfl))))
    (dss_nil)))
theorem ok_parts_both (T : Txt K mg c_NoFit c_NoKind c_NoName c_NoNumber c_NoRoot c_NoRounds c_NoRow c_NoText c_NoTurn c_TooMany c_TurnError) (R : Rdy K mg "parts_both" s_parts_both [("one" : Str), "other"]) : FnT P w K mg base 1 "parts_both" [("one" : Str), "other"] (S_parts_both) :=
  have nd : ([("one" : Str), "other"] : List Str).Nodup := sc_parts_both.nd
  fn_of (A := [0, 1]) (wb := b_parts_both) (k := 0) R sc_parts_both (fun _ _ _ h => r_parts_both h) fun f cdv Ar outer s H E hr tk => DSs.sub (dss_cons (ds_while (passes_of rfl) (dt_ne (hu64 hr) (do_vl (DE.s (pv 1))) (do_vl (de_int)))
    (dss_one (ds_par (i := 0) (j := 1) rfl nd rfl rfl (by decide) rfl rfl (da_cons (do_vl (DE.s (pv 1))) (da_cons (do_vl (de_mod (do_vl (DE.s (pv 0))) (do_vl (DE.s (pv 1))))) da_nil)) (by rfl))))
    (dss_one (ds_ret (DE.s (pv 0)))))
theorem ok_least_right (T : Txt K mg c_NoFit c_NoKind c_NoName c_NoNumber c_NoRoot c_NoRounds c_NoRow c_NoText c_NoTurn c_TooMany c_TurnError) (G_need_number : FnT P w K mg base 1 "need_number" [("number" : Str)] (S_need_number c_NoNumber)) (G_parts_both : FnT P w K mg base 1 "parts_both" [("one" : Str), "other"] (S_parts_both)) (R : Rdy K mg "least_right" s_least_right [("l" : Str), "m"]) : FnT P w K mg base 2 "least_right" [("l" : Str), "m"] (S_least_right c_NoNumber) :=
  have nd : ([("l" : Str), "m", "rest"] : List Str).Nodup := sc_least_right.nd
  fn_of (A := [2]) (wb := b_least_right c_NoNumber) (k := 1) R sc_least_right (fun _ _ _ h => r_least_right h) fun f cdv Ar outer s H E hr tk => DSs.sub (dss_cons (ds_expr (de_fn G_need_number (hr.mono (by decide)) tk (da_cons (do_vl (DE.s (pv 0))) da_nil)))
    (dss_cons (ds_expr (de_fn G_need_number (hr.mono (by decide)) tk (da_cons (do_vl (DE.s (pv 1))) da_nil)))
    (dss_cons (ds_set (i := 2) nd rfl (by first | exact .inl rfl | exact .inr rfl) (DE.s (pv 1)))
    (dss_cons (ds_while (passes_of rfl) (dt_gt (do_vl (de_fn G_parts_both (hr.mono (by decide)) tk (da_cons (do_vl (DE.s (pv 2))) (da_cons (do_vl (DE.s (pv 0))) da_nil)))) (do_vl (de_int)))
    (dss_one (ds_set (i := 2) nd rfl (by first | exact .inl rfl | exact .inr rfl) (de_div (do_vl (DE.s (pv 2))) (do_vl (de_fn G_parts_both (hr.mono (by decide)) tk (da_cons (do_vl (DE.s (pv 2))) (da_cons (do_vl (DE.s (pv 0))) da_nil))))))))
    (dss_one (ds_ret (de_div (do_vl (DE.s (pv 1))) (do_vl (DE.s (pv 2))))))))))
theorem ok_has_root_by_kind (T : Txt K mg c_NoFit c_NoKind c_NoName c_NoNumber c_NoRoot c_NoRounds c_NoRow c_NoText c_NoTurn c_TooMany c_TurnError) (G_least_right : FnT P w K mg base 2 "least_right" [("l" : Str), "m"] (S_least_right c_NoNumber)) (R : Rdy K mg "has_root_by_kind" s_has_root_by_kind [("kind" : Str), "m"]) : FnT P w K mg base 3 "has_root_by_kind" [("kind" : Str), "m"] (S_has_root_by_kind c_NoNumber) :=
  have nd : ([("kind" : Str), "m", "one"] : List Str).Nodup := sc_has_root_by_kind.nd
  fn_of (A := []) (wb := b_has_root_by_kind c_NoNumber) (k := 2) R sc_has_root_by_kind (fun _ _ _ h => r_has_root_by_kind h) fun f cdv Ar outer s H E hr tk => DSs.sub (dss_one (ds_ret (de_eq (hu64 hr) (do_vl (de_lc rfl nd (di_list (do_pl 0)) (blkOk_by (own := [("one", 2)]) (by rfl)) (gN_ok (i := 2)) (fun _ _ _ _ _ => pg_name (i := 2) nd rfl (by first | exact .inl rfl | exact .inr rfl)) (fun _ _ _ _ _ => dts_one (dt_ne (hu64 hr) (do_vl (de_mod (do_vl (de_count (do_pl 0) (do_vl (DE.s (pv 2))))) (do_vl (de_fn G_least_right (hr.mono (by decide)) takesN (da_cons (do_vl (DE.s (pv 2))) (da_cons (do_vl (DE.s (pv 1))) da_nil)))))) (do_vl (de_int)))) (fun _ _ _ _ _ => DE.s (pv 2)))) (do_vl (de_lstD (da_nil))))))
theorem ok_how_many_have (T : Txt K mg c_NoFit c_NoKind c_NoName c_NoNumber c_NoRoot c_NoRounds c_NoRow c_NoText c_NoTurn c_TooMany c_TurnError) (G_need_counted : FnT P w K mg base 1 "need_counted" [("n" : Str)] (S_need_counted c_NoNumber c_TooMany)) (G_need_times : FnT P w K mg base 1 "need_times" [("m" : Str)] (S_need_times c_NoNumber)) (G_kinds_of : FnT P w K mg base 15 "kinds_of" [("n" : Str)] (S_kinds_of c_NoNumber c_TooMany)) (G_has_root_by_kind : FnT P w K mg base 3 "has_root_by_kind" [("kind" : Str), "m"] (S_has_root_by_kind c_NoNumber)) (G_how_many_of : FnT P w K mg base 2 "how_many_of" [("kind" : Str)] (S_how_many_of c_NoKind)) (R : Rdy K mg "how_many_have" s_how_many_have [("n" : Str), "m"]) : FnT P w K mg base 16 "how_many_have" [("n" : Str), "m"] (S_how_many_have c_NoKind c_NoNumber c_TooMany) :=
  have nd : ([("n" : Str), "m", "kind"] : List Str).Nodup := sc_how_many_have.nd
  fn_of (A := []) (wb := b_how_many_have c_NoKind c_NoNumber c_TooMany) (k := 15) R sc_how_many_have (fun _ _ _ h => r_how_many_have h) fun f cdv Ar outer s H E hr tk => DSs.sub (dss_cons (ds_expr (de_fn G_need_counted (hr.mono (by decide)) tk (da_cons (do_vl (DE.s (pv 0))) da_nil)))
    (dss_cons (ds_expr (de_fn G_need_times (hr.mono (by decide)) tk (da_cons (do_vl (DE.s (pv 1))) da_nil)))
    (dss_one (ds_ret (de_sum rfl (by rfl) T.n_sum (do_vl (de_lc rfl nd (di_list (do_vl (DE.fz (de_fn G_kinds_of (hr.mono (by decide)) tk (da_cons (do_vl (DE.s (pv 0))) da_nil))))) (blkOk_by (own := [("kind", 2)]) (by rfl)) (gN_ok (i := 2)) (fun _ _ _ _ _ => pg_name (i := 2) nd rfl (by first | exact .inl rfl | exact .inr rfl)) (fun _ _ _ _ _ => dts_one (DT.of (de_fn G_has_root_by_kind (hr.mono (by decide)) takesN (da_cons (do_pl 2) (da_cons (do_vl (DE.s (pv 1))) da_nil))))) (fun _ _ _ _ _ => de_fn G_how_many_of (hr.mono (by decide)) takesN (da_cons (do_pl 2) da_nil)))))))))
theorem ok_how_many_home (T : Txt K mg c_NoFit c_NoKind c_NoName c_NoNumber c_NoRoot c_NoRounds c_NoRow c_NoText c_NoTurn c_TooMany c_TurnError) (G_need_counted : FnT P w K mg base 1 "need_counted" [("n" : Str)] (S_need_counted c_NoNumber c_TooMany)) (G_need_times : FnT P w K mg base 1 "need_times" [("m" : Str)] (S_need_times c_NoNumber)) (G_kinds_of : FnT P w K mg base 15 "kinds_of" [("n" : Str)] (S_kinds_of c_NoNumber c_TooMany)) (G_how_many_of : FnT P w K mg base 2 "how_many_of" [("kind" : Str)] (S_how_many_of c_NoKind)) (R : Rdy K mg "how_many_home" s_how_many_home [("n" : Str), "m"]) : FnT P w K mg base 16 "how_many_home" [("n" : Str), "m"] (S_how_many_home c_NoKind c_NoNumber c_TooMany) :=
  have nd : ([("n" : Str), "m", "kind", "one"] : List Str).Nodup := sc_how_many_home.nd
  fn_of (A := []) (wb := b_how_many_home c_NoKind c_NoNumber c_TooMany) (k := 15) R sc_how_many_home (fun _ _ _ h => r_how_many_home h) fun f cdv Ar outer s H E hr tk => DSs.sub (dss_cons (ds_expr (de_fn G_need_counted (hr.mono (by decide)) tk (da_cons (do_vl (DE.s (pv 0))) da_nil)))
    (dss_cons (ds_expr (de_fn G_need_times (hr.mono (by decide)) tk (da_cons (do_vl (DE.s (pv 1))) da_nil)))
    (dss_one (ds_ret (de_sum rfl (by rfl) T.n_sum (do_vl (de_lc rfl nd (di_list (do_vl (DE.fz (de_fn G_kinds_of (hr.mono (by decide)) tk (da_cons (do_vl (DE.s (pv 0))) da_nil))))) (blkOk_by (own := [("kind", 2)]) (by rfl)) (gN_ok (i := 2)) (fun _ _ _ _ _ => pg_name (i := 2) nd rfl (by first | exact .inl rfl | exact .inr rfl)) (fun _ _ _ _ _ => dts_one (dt_eq (hu64 hr) (do_vl (de_lc rfl nd (di_list (do_pl 2)) (blkOk_by (own := [("one", 3)]) (by rfl)) (gN_ok (i := 3)) (fun _ _ _ _ _ => pg_name (i := 3) nd rfl (by first | exact .inl rfl | exact .inr rfl)) (fun _ _ _ _ _ => dts_one (dt_ne (hu64 hr) (do_vl (de_mod (do_vl (DE.s (pv 1))) (do_vl (DE.s (pv 3))))) (do_vl (de_int)))) (fun _ _ _ _ _ => DE.s (pv 3)))) (do_vl (de_lstD (da_nil))))) (fun _ _ _ _ _ => de_fn G_how_many_of (hr.mono (by decide)) takesN (da_cons (do_pl 2) da_nil)))))))))
theorem ok__law_caught (T : Txt K mg c_NoFit c_NoKind c_NoName c_NoNumber c_NoRoot c_NoRounds c_NoRow c_NoText c_NoTurn c_TooMany c_TurnError) (G_kinds_of : FnT P w K mg base 15 "kinds_of" [("n" : Str)] (S_kinds_of c_NoNumber c_TooMany)) (G_how_many_have : FnT P w K mg base 16 "how_many_have" [("n" : Str), "m"] (S_how_many_have c_NoKind c_NoNumber c_TooMany)) (G_how_many_home : FnT P w K mg base 16 "how_many_home" [("n" : Str), "m"] (S_how_many_home c_NoKind c_NoNumber c_TooMany)) (G_how_many_of : FnT P w K mg base 2 "how_many_of" [("kind" : Str)] (S_how_many_of c_NoKind)) (R : Rdy K mg "_law_caught" s__law_caught [("way" : Str), "one", "other"]) : FnT P w K mg base 17 "_law_caught" [("way" : Str), "one", "other"] (S__law_caught c_NoKind c_NoNumber c_TooMany) :=
  have nd : ([("way" : Str), "one", "other", "caught", "e"] : List Str).Nodup := sc__law_caught.nd
  fn_of (A := [3, 4]) (wb := b__law_caught c_NoKind c_NoNumber c_TooMany) (k := 16) R sc__law_caught (fun _ _ _ h => r__law_caught h) fun f cdv Ar outer s H E hr tk => DSs.sub (dss_cons (ds_set (i := 3) nd rfl (by first | exact .inl rfl | exact .inr rfl) (de_non))
    (dss_cons (ds_tryK (i := 4) (j := 3) nd rfl rfl (by first | exact .inl rfl | exact .inr rfl) ⟨by rfl, by decide, .inl T.g_TurnError⟩ (all_cons T.e_NoKind_TurnError (all_cons T.e_NoNumber_TurnError (all_cons T.e_TooMany_TurnError (all_nil)))) (fun _ _ _ tk =>
    dss_one (ds_if (dt_eq (hu64 hr) (do_vl (DE.s (pv 0))) (do_vl (de_int)))
    (dss_one (ds_expr (de_fn G_kinds_of (hr.mono (by decide)) tk (da_cons (do_pl 1) da_nil))))
    (dss_one (ds_if (dt_eq (hu64 hr) (do_vl (DE.s (pv 0))) (do_vl (de_int)))
    (dss_one (ds_expr (de_fn G_how_many_have (hr.mono (by decide)) tk (da_cons (do_pl 1) (da_cons (do_pl 2) da_nil)))))
    (dss_one (ds_if (dt_eq (hu64 hr) (do_vl (DE.s (pv 0))) (do_vl (de_int)))
    (dss_one (ds_expr (de_fn G_how_many_home (hr.mono (by decide)) tk (da_cons (do_pl 1) (da_cons (do_pl 2) da_nil)))))
    (dss_one (ds_expr (de_fn G_how_many_of (hr.mono (by decide)) tk (da_cons (do_pl 1) da_nil)))))))))))
    (dss_one (ds_ret (DE.s (pv 3))))))
theorem ok__law_is (T : Txt K mg c_NoFit c_NoKind c_NoName c_NoNumber c_NoRoot c_NoRounds c_NoRow c_NoText c_NoTurn c_TooMany c_TurnError) (R : Rdy K mg "_law_is" s__law_is [("caught" : Str), "due"]) : FnT P w K mg base 1 "_law_is" [("caught" : Str), "due"] (S__law_is (Isx K) c_NoFit c_NoKind c_NoName c_NoNumber c_NoRoot c_NoRounds c_NoRow c_NoText c_NoTurn c_TooMany) :=
  have nd : ([("caught" : Str), "due", "kinds", "k"] : List Str).Nodup := sc__law_is.nd
  fn_of (A := [2]) (wb := b__law_is (Isx K) c_NoFit c_NoKind c_NoName c_NoNumber c_NoRoot c_NoRounds c_NoRow c_NoText c_NoTurn c_TooMany) (k := 0) R sc__law_is (fun _ _ _ h => r__law_is h) fun f cdv Ar outer s H E hr tk => DSs.sub (dss_cons (ds_set (i := 2) nd rfl (by first | exact .inl rfl | exact .inr rfl) (de_lstD (da_cons (do_vl (de_isX (fun _ _ _ h => h) (by rfl) T.n_isinstance (do_pl 0) (do_vl (de_cls (by rfl) T.g_NoTurn)))) (da_cons (do_vl (de_isX (fun _ _ _ h => h) (by rfl) T.n_isinstance (do_pl 0) (do_vl (de_cls (by rfl) T.g_NoFit)))) (da_cons (do_vl (de_isX (fun _ _ _ h => h) (by rfl) T.n_isinstance (do_pl 0) (do_vl (de_cls (by rfl) T.g_NoRounds)))) da_nil)))))
    (dss_cons (ds_set (i := 2) nd rfl (by first | exact .inl rfl | exact .inr rfl) (de_cat (do_pl 2) (do_vl (de_lstD (da_cons (do_vl (de_isX (fun _ _ _ h => h) (by rfl) T.n_isinstance (do_pl 0) (do_vl (de_cls (by rfl) T.g_NoNumber)))) (da_cons (do_vl (de_isX (fun _ _ _ h => h) (by rfl) T.n_isinstance (do_pl 0) (do_vl (de_cls (by rfl) T.g_TooMany)))) (da_cons (do_vl (de_isX (fun _ _ _ h => h) (by rfl) T.n_isinstance (do_pl 0) (do_vl (de_cls (by rfl) T.g_NoKind)))) da_nil)))))))
    (dss_cons (ds_if (DW.dt (DW.or (DT.not (DT.of (de_isX (fun _ _ _ h => h) (by rfl) T.n_isinstance (do_pl 0) (do_vl (de_ty (by rfl) T.n_ValueError (by decide +kernel)))))) (DW.or1 (dt_ne (hu64 hr) (do_pl 2) (do_vl (de_lc rfl nd (di_rng1 (by rfl) T.n_range (do_vl (de_int))) (blkOk_by (own := [("k", 3)]) (by rfl)) (gN_ok (i := 3)) (fun _ _ _ _ _ => pg_name (i := 3) nd rfl (by first | exact .inl rfl | exact .inr rfl)) (fun _ _ _ _ _ => dts_nil) (fun _ _ _ _ _ => de_eq (hu64 hr) (do_vl (DE.s (pv 3))) (do_pl 1))))))))
    (dss_one (ds_ret (de_bl)))
    (dss_nil))
    (dss_one (ds_ret (de_not (de_isXs (fun _ _ _ h => h) (by rfl) T.n_isinstance (do_pl 0) (do_vl (de_tupD (da_cons (do_vl (de_cls (by rfl) T.g_NoRoot)) (da_cons (do_vl (de_cls (by rfl) T.g_NoText)) (da_cons (do_vl (de_cls (by rfl) T.g_NoName)) (da_cons (do_vl (de_cls (by rfl) T.g_NoRow)) da_nil)))))))))))))
theorem ok__law_kind_right (T : Txt K mg c_NoFit c_NoKind c_NoName c_NoNumber c_NoRoot c_NoRounds c_NoRow c_NoText c_NoTurn c_TooMany c_TurnError) (G__law_caught : FnT P w K mg base 17 "_law_caught" [("way" : Str), "one", "other"] (S__law_caught c_NoKind c_NoNumber c_TooMany)) (G__law_is : FnT P w K mg base 1 "_law_is" [("caught" : Str), "due"] (S__law_is (Isx K) c_NoFit c_NoKind c_NoName c_NoNumber c_NoRoot c_NoRounds c_NoRow c_NoText c_NoTurn c_TooMany)) (R : Rdy K mg "_law_kind_right" s__law_kind_right [("kind" : Str)]) : FnT P w K mg base 18 "_law_kind_right" [("kind" : Str)] (S__law_kind_right (Isx K) c_NoFit c_NoKind c_NoName c_NoNumber c_NoRoot c_NoRounds c_NoRow c_NoText c_NoTurn c_TooMany) :=
  have nd : ([("kind" : Str), "good", "handed", "caught", "one"] : List Str).Nodup := sc__law_kind_right.nd
  fn_of (A := [1, 2, 3]) (wb := b__law_kind_right (Isx K) c_NoFit c_NoKind c_NoName c_NoNumber c_NoRoot c_NoRounds c_NoRow c_NoText c_NoTurn c_TooMany) (k := 17) R sc__law_kind_right (fun _ _ _ h => r__law_kind_right h) fun f cdv Ar outer s H E hr tk => DSs.sub (dss_cons (ds_set (i := 1) nd rfl (by first | exact .inl rfl | exact .inr rfl) (de_and (de_le (do_vl (de_sum rfl (by rfl) T.n_sum (do_pl 0))) (do_vl (de_int))) (de_and (de_eq (hu64 hr) (do_vl (de_lc rfl nd (di_list (do_pl 0)) (blkOk_by (own := [("one", 4)]) (by rfl)) (gN_ok (i := 4)) (fun _ _ _ _ _ => pg_name (i := 4) nd rfl (by first | exact .inl rfl | exact .inr rfl)) (fun _ _ _ _ _ => dts_one (dt_lt (do_vl (DE.s (pv 4))) (do_vl (de_int)))) (fun _ _ _ _ _ => DE.s (pv 4)))) (do_vl (de_lstD (da_nil)))) (de_one (de_eq (hu64 hr) (do_pl 0) (do_vl (de_rev (do_vl (de_sortI (by rfl) T.n_sorted (do_pl 0))))))))))
    (dss_cons (ds_set (i := 2) nd rfl (by first | exact .inl rfl | exact .inr rfl) (de_list (by rfl) T.n_list (do_pl 0)))
    (dss_cons (ds_set (i := 3) nd rfl (by first | exact .inl rfl | exact .inr rfl) (de_fn G__law_caught (hr.mono (by decide)) tk (da_cons (do_vl (de_int)) (da_cons (do_pl 2) (da_cons (do_vl (de_int)) da_nil)))))
    (dss_cons (ds_if (dt_ne (hu64 hr) (do_pl 2) (do_pl 0))
    (dss_one (ds_ret (de_bl)))
    (dss_nil))
    (dss_cons (ds_if (DT.of (DE.s (pv 1)))
    (dss_one (ds_ret (de_isN (do_pl 3) (do_vl (de_non)))))
    (dss_nil))
    (dss_one (ds_ret (de_fn G__law_is (hr.mono (by decide)) tk (da_cons (do_pl 3) (da_cons (do_vl (de_int)) da_nil))))))))))
theorem ok__law_right (T : Txt K mg c_NoFit c_NoKind c_NoName c_NoNumber c_NoRoot c_NoRounds c_NoRow c_NoText c_NoTurn c_TooMany c_TurnError) (G__law_caught : FnT P w K mg base 17 "_law_caught" [("way" : Str), "one", "other"] (S__law_caught c_NoKind c_NoNumber c_TooMany)) (G__law_is : FnT P w K mg base 1 "_law_is" [("caught" : Str), "due"] (S__law_is (Isx K) c_NoFit c_NoKind c_NoName c_NoNumber c_NoRoot c_NoRounds c_NoRow c_NoText c_NoTurn c_TooMany)) (R : Rdy K mg "_law_right" s__law_right [("way" : Str), "many", "times"]) : FnT P w K mg base 18 "_law_right" [("way" : Str), "many", "times"] (S__law_right (Isx K) c_NoFit c_NoKind c_NoName c_NoNumber c_NoRoot c_NoRounds c_NoRow c_NoText c_NoTurn c_TooMany) :=
  have nd : ([("way" : Str), "many", "times", "caught"] : List Str).Nodup := sc__law_right.nd
  fn_of (A := [3]) (wb := b__law_right (Isx K) c_NoFit c_NoKind c_NoName c_NoNumber c_NoRoot c_NoRounds c_NoRow c_NoText c_NoTurn c_TooMany) (k := 17) R sc__law_right (fun _ _ _ h => r__law_right h) fun f cdv Ar outer s H E hr tk => DSs.sub (dss_cons (ds_set (i := 3) nd rfl (by first | exact .inl rfl | exact .inr rfl) (de_fn G__law_caught (hr.mono (by decide)) tk (da_cons (do_vl (DE.s (pv 0))) (da_cons (do_vl (DE.s (pv 1))) (da_cons (do_vl (DE.s (pv 2))) da_nil)))))
    (dss_cons (ds_if (dt_gt (do_vl (DE.s (pv 1))) (do_vl (de_int)))
    (dss_one (ds_ret (de_fn G__law_is (hr.mono (by decide)) tk (da_cons (do_pl 3) (da_cons (do_vl (de_int)) da_nil)))))
    (dss_nil))
    (dss_cons (ds_if (DW.dt (DW.or (dt_lt (do_vl (DE.s (pv 1))) (do_vl (de_int))) (DW.or1 (DW.dt (DW.and (dt_gt (do_vl (DE.s (pv 0))) (do_vl (de_int))) (DW.and1 (dt_lt (do_vl (DE.s (pv 2))) (do_vl (de_int)))))))))
    (dss_one (ds_ret (de_fn G__law_is (hr.mono (by decide)) tk (da_cons (do_pl 3) (da_cons (do_vl (de_int)) da_nil)))))
    (dss_nil))
    (dss_one (ds_ret (de_isN (do_pl 3) (do_vl (de_non))))))))
theorem ok_law {f : Addr} {fd : FuncData} (T : Txt K mg c_NoFit c_NoKind c_NoName c_NoNumber c_NoRoot c_NoRounds c_NoRow c_NoText c_NoTurn c_TooMany c_TurnError) (G__law_pool : FnT P w K mg base 1 "_law_pool" [("script" : Str), "k"] (S__law_pool)) (G__law_take : FnT P w K mg base 1 "_law_take" [("pool" : Str), "many"] (S__law_take)) (G__law_right : FnT P w K mg base 18 "_law_right" [("way" : Str), "many", "times"] (S__law_right (Isx K) c_NoFit c_NoKind c_NoName c_NoNumber c_NoRoot c_NoRounds c_NoRow c_NoText c_NoTurn c_TooMany)) (G__law_lengths : FnT P w K mg base 2 "_law_lengths" [("pool" : Str), "many"] (S__law_lengths)) (G__law_bad_kind : FnT P w K mg base 2 "_law_bad_kind" [("pool" : Str), "kind"] (S__law_bad_kind)) (G__law_kind_right : FnT P w K mg base 18 "_law_kind_right" [("kind" : Str)] (S__law_kind_right (Isx K) c_NoFit c_NoKind c_NoName c_NoNumber c_NoRoot c_NoRounds c_NoRow c_NoText c_NoTurn c_TooMany)) (F : Fun K "law" "law" s_law f fd) : FnOk P w K mg base (L2.CX P w) 19 f fd [("script" : Str)] (spT K (S_law (Isx K) c_NoFit c_NoKind c_NoName c_NoNumber c_NoRoot c_NoRounds c_NoRow c_NoText c_NoTurn c_TooMany)) :=
  have nd : ([("script" : Str), "k", "pool", "far", "many", "times", "way", "kind", "one", "words", "turn"] : List Str).Nodup := sc_law.nd
  fn_ofF (A := [1, 2, 3, 4, 5, 6, 7, 8, 9]) (wb := b_law (Isx K) c_NoFit c_NoKind c_NoName c_NoNumber c_NoRoot c_NoRounds c_NoRow c_NoText c_NoTurn c_TooMany) (k := 18) F sc_law (fun _ _ _ h => r_law T.cf h) fun cdv Ar outer s H E hr tk => DSs.sub (dss_cons (ds_for (passes_of rfl) rfl (di_rng1 (by rfl) T.n_range (do_vl (de_max2 rfl (by rfl) T.n_max (do_vl (de_int)) (do_vl (de_min2 rfl (by rfl) T.n_min (do_vl (de_int)) (do_vl (de_len (by rfl) T.n_len (do_pl 0)))))))) (dg_name (i := 1) nd rfl (by first | exact .inl rfl | exact .inr rfl))
    (dss_cons (ds_set (i := 2) nd rfl (by first | exact .inl rfl | exact .inr rfl) (de_fn G__law_pool (hr.mono (by decide)) tk (da_cons (do_pl 0) (da_cons (do_vl (DE.s (pv 1))) da_nil))))
    (dss_cons (ds_set (i := 3) nd rfl (by first | exact .inl rfl | exact .inr rfl) (de_fn G__law_take (hr.mono (by decide)) tk (da_cons (do_pl 2) (da_cons (do_vl (de_pow (do_vl (de_int)) (do_vl (de_int)))) da_nil))))
    (dss_cons (ds_set (i := 4) nd rfl (by first | exact .inl rfl | exact .inr rfl) (de_at (do_vl (de_lstD (da_cons (do_vl (de_sub (do_vl (de_fn G__law_take (hr.mono (by decide)) tk (da_cons (do_pl 2) (da_cons (do_vl (de_int)) da_nil)))) (do_vl (de_int)))) (da_cons (do_vl (de_add (do_vl (de_int)) (do_vl (DE.s (pv 3))))) (da_cons (do_vl (de_sub (do_vl (de_neg (do_vl (de_int)))) (do_vl (DE.s (pv 3))))) (da_cons (do_vl (de_fn G__law_take (hr.mono (by decide)) tk (da_cons (do_pl 2) (da_cons (do_vl (de_int)) da_nil)))) da_nil)))))) (do_vl (de_fn G__law_take (hr.mono (by decide)) tk (da_cons (do_pl 2) (da_cons (do_vl (de_int)) da_nil))))))
    (dss_cons (ds_set (i := 5) nd rfl (by first | exact .inl rfl | exact .inr rfl) (de_at (do_vl (de_lstD (da_cons (do_vl (de_sub (do_vl (de_fn G__law_take (hr.mono (by decide)) tk (da_cons (do_pl 2) (da_cons (do_vl (de_int)) da_nil)))) (do_vl (de_int)))) (da_cons (do_vl (de_sub (do_vl (de_int)) (do_vl (DE.s (pv 3))))) (da_cons (do_vl (de_add (do_vl (de_int)) (do_vl (DE.s (pv 3))))) da_nil))))) (do_vl (de_fn G__law_take (hr.mono (by decide)) tk (da_cons (do_pl 2) (da_cons (do_vl (de_int)) da_nil))))))
    (dss_cons (ds_for (passes_of rfl) rfl (di_rng1 (by rfl) T.n_range (do_vl (de_int))) (dg_name (i := 6) nd rfl (by first | exact .inl rfl | exact .inr rfl))
    (dss_one (ds_if (DW.dt (DW.or (DT.not (DT.of (de_fn G__law_right (hr.mono (by decide)) tk (da_cons (do_vl (DE.s (pv 6))) (da_cons (do_vl (DE.s (pv 4))) (da_cons (do_vl (DE.s (pv 5))) da_nil)))))) (DW.or (DT.not (DT.of (de_fn G__law_right (hr.mono (by decide)) tk (da_cons (do_vl (DE.s (pv 6))) (da_cons (do_vl (de_int)) (da_cons (do_vl (DE.s (pv 5))) da_nil)))))) (DW.or1 (DT.not (DT.of (de_fn G__law_right (hr.mono (by decide)) tk (da_cons (do_vl (DE.s (pv 6))) (da_cons (do_vl (de_int)) (da_cons (do_vl (DE.s (pv 5))) da_nil))))))))))
    (dss_one (ds_ret (de_bl)))
    (dss_nil))))
    (dss_cons (ds_set (i := 7) nd rfl (by first | exact .inl rfl | exact .inr rfl) (de_rev (do_vl (de_sortI (by rfl) T.n_sorted (do_vl (de_fn G__law_lengths (hr.mono (by decide)) tk (da_cons (do_pl 2) (da_cons (do_vl (de_fn G__law_take (hr.mono (by decide)) tk (da_cons (do_pl 2) (da_cons (do_vl (de_int)) da_nil)))) da_nil))))))))
    (dss_one (ds_for (passes_of rfl) rfl (di_list (do_vl (DE.fz (de_cat (do_vl (DE.fz (de_lstD (da_cons (do_vl (DE.v (pv 7))) da_nil)))) (do_vl (DE.fz (de_lc rfl nd (di_rng1 (by rfl) T.n_range (do_vl (de_int))) (blkOk_by (own := [("turn", 10)]) (by rfl)) (gN_ok (i := 10)) (fun _ _ _ _ _ => pg_name (i := 10) nd rfl (by first | exact .inl rfl | exact .inr rfl)) (fun _ _ _ _ _ => dts_nil) (fun _ _ _ _ _ => de_fn G__law_bad_kind (hr.mono (by decide)) takesN (da_cons (do_pl 2) (da_cons (do_pl 7) da_nil)))))))))) (dg_name (i := 8) nd rfl (by first | exact .inl rfl | exact .inr rfl))
    (dss_one (ds_if (DT.not (DT.of (de_fn G__law_kind_right (hr.mono (by decide)) tk (da_cons (do_pl 8) da_nil))))
    (dss_one (ds_ret (de_bl)))
    (dss_nil))))))))))))
    (dss_cons (ds_for (passes_of rfl) rfl (di_list (do_vl (de_lstD (da_cons (do_vl (de_str)) (da_cons (do_vl (de_str)) (da_cons (do_vl (de_str)) (da_cons (do_vl (de_strN (do_vl (de_str)) (do_vl (de_int)))) da_nil))))))) (dg_name (i := 9) nd rfl (by first | exact .inl rfl | exact .inr rfl))
    (dss_one (ds_if (DW.dt (DW.or (dt_ne (hu64 hr) (do_vl (de_strX (hu66 hr) T.x_NoKind T.st_NoKind (by rfl) T.n_str (by rfl) (do_vl (DE.s (pv 9))))) (do_vl (DE.s (pv 9)))) (DW.or (dt_ne (hu64 hr) (do_vl (de_strX (hu66 hr) T.x_TooMany T.st_TooMany (by rfl) T.n_str (by rfl) (do_vl (DE.s (pv 9))))) (do_vl (DE.s (pv 9)))) (DW.or1 (dt_ne (hu64 hr) (do_vl (de_strX (hu66 hr) T.x_NoNumber T.st_NoNumber (by rfl) T.n_str (by rfl) (do_vl (DE.s (pv 9))))) (do_vl (DE.s (pv 9))))))))
    (dss_one (ds_ret (de_bl)))
    (dss_nil))))
    (dss_one (ds_ret (de_bl)))))
theorem ok_all {f : Addr} {fd : FuncData} (T : Txt K mg c_NoFit c_NoKind c_NoName c_NoNumber c_NoRoot c_NoRounds c_NoRow c_NoText c_NoTurn c_TooMany c_TurnError)
    (R__law_pool : Rdy K mg "_law_pool" s__law_pool [("script" : Str), "k"])
    (R__law_take : Rdy K mg "_law_take" s__law_take [("pool" : Str), "many"])
    (R__law_lengths : Rdy K mg "_law_lengths" s__law_lengths [("pool" : Str), "many"])
    (R__law_bad_kind : Rdy K mg "_law_bad_kind" s__law_bad_kind [("pool" : Str), "kind"])
    (R_need_counted : Rdy K mg "need_counted" s_need_counted [("n" : Str)])
    (R_lists_to : Rdy K mg "lists_to" s_lists_to [("left" : Str), "most"])
    (R_kinds_of : Rdy K mg "kinds_of" s_kinds_of [("n" : Str)])
    (R_need_times : Rdy K mg "need_times" s_need_times [("m" : Str)])
    (R_product_to : Rdy K mg "product_to" s_product_to [("number" : Str)])
    (R_how_many_of : Rdy K mg "how_many_of" s_how_many_of [("kind" : Str)])
    (R_need_number : Rdy K mg "need_number" s_need_number [("number" : Str)])
    (R_parts_both : Rdy K mg "parts_both" s_parts_both [("one" : Str), "other"])
    (R_least_right : Rdy K mg "least_right" s_least_right [("l" : Str), "m"])
    (R_has_root_by_kind : Rdy K mg "has_root_by_kind" s_has_root_by_kind [("kind" : Str), "m"])
    (R_how_many_have : Rdy K mg "how_many_have" s_how_many_have [("n" : Str), "m"])
    (R_how_many_home : Rdy K mg "how_many_home" s_how_many_home [("n" : Str), "m"])
    (R__law_caught : Rdy K mg "_law_caught" s__law_caught [("way" : Str), "one", "other"])
    (R__law_is : Rdy K mg "_law_is" s__law_is [("caught" : Str), "due"])
    (R__law_kind_right : Rdy K mg "_law_kind_right" s__law_kind_right [("kind" : Str)])
    (R__law_right : Rdy K mg "_law_right" s__law_right [("way" : Str), "many", "times"])
    (F_law : Fun K "law" "law" s_law f fd)
    : FnOk P w K mg base (L2.CX P w) 19 f fd [("script" : Str)] (spT K (S_law (Isx K) c_NoFit c_NoKind c_NoName c_NoNumber c_NoRoot c_NoRounds c_NoRow c_NoText c_NoTurn c_TooMany)) :=
  have G__law_pool := ok__law_pool (P := P) (w := w) (base := base) T  R__law_pool
  have G__law_take := ok__law_take (P := P) (w := w) (base := base) T  R__law_take
  have G__law_lengths := ok__law_lengths (P := P) (w := w) (base := base) T G__law_take R__law_lengths
  have G__law_bad_kind := ok__law_bad_kind (P := P) (w := w) (base := base) T G__law_take R__law_bad_kind
  have G_need_counted := ok_need_counted (P := P) (w := w) (base := base) T  R_need_counted
  have G_lists_to : FnT P w K mg base 14 "lists_to" [("left" : Str), "most"] (S_lists_to 14) := ok_lists_to (P := P) (w := w) (base := base) T  R_lists_to 14
  have G_kinds_of := ok_kinds_of (P := P) (w := w) (base := base) T G_need_counted G_lists_to R_kinds_of
  have G_need_times := ok_need_times (P := P) (w := w) (base := base) T  R_need_times
  have G_product_to := ok_product_to (P := P) (w := w) (base := base) T  R_product_to
  have G_how_many_of := ok_how_many_of (P := P) (w := w) (base := base) T G_product_to R_how_many_of
  have G_need_number := ok_need_number (P := P) (w := w) (base := base) T  R_need_number
  have G_parts_both := ok_parts_both (P := P) (w := w) (base := base) T  R_parts_both
  have G_least_right := ok_least_right (P := P) (w := w) (base := base) T G_need_number G_parts_both R_least_right
  have G_has_root_by_kind := ok_has_root_by_kind (P := P) (w := w) (base := base) T G_least_right R_has_root_by_kind
  have G_how_many_have := ok_how_many_have (P := P) (w := w) (base := base) T G_need_counted G_need_times G_kinds_of G_has_root_by_kind G_how_many_of R_how_many_have
  have G_how_many_home := ok_how_many_home (P := P) (w := w) (base := base) T G_need_counted G_need_times G_kinds_of G_how_many_of R_how_many_home
  have G__law_caught := ok__law_caught (P := P) (w := w) (base := base) T G_kinds_of G_how_many_have G_how_many_home G_how_many_of R__law_caught
  have G__law_is := ok__law_is (P := P) (w := w) (base := base) T  R__law_is
  have G__law_kind_right := ok__law_kind_right (P := P) (w := w) (base := base) T G__law_caught G__law_is R__law_kind_right
  have G__law_right := ok__law_right (P := P) (w := w) (base := base) T G__law_caught G__law_is R__law_right
  have G_law := ok_law (P := P) (w := w) (base := base) T G__law_pool G__law_take G__law_right G__law_lengths G__law_bad_kind G__law_kind_right F_law
  G_law
end
theorem all_mk {l : PySem.W.OpenLaw} {w : World} {K : PySem.W.Frag} {h : Heap} {mg : Str → Option Value} {fa : Addr} {c_NoFit : Addr} {c_NoKind : Addr} {c_NoName : Addr} {c_NoNumber : Addr} {c_NoRoot : Addr} {c_NoRounds : Addr} {c_NoRow : Addr} {c_NoText : Addr} {c_NoTurn : Addr} {c_TooMany : Addr} {c_TurnError : Addr} {f1 f2 f3 f4 f5 f6 f7 f8 f9 f10 f11 f12 f13 f14 f15 f16 f17 f18 f19 f20 f21 : Addr} (X : K.In h) (G : h.Ns mainGlobals mg) (hfa : mg "law" = some (.ref fa))
    {od1 an1 od2 an2 od3 an3 od4 an4 od5 an5 od6 an6 od7 an7 od8 an8 od9 an9 od10 an10 od11 an11 od12 an12 od13 an13 od14 an14 od15 an15 od16 an16 od17 an17 od18 an18 od19 an19 od20 an20 od21 an21 : Option Addr} {sl1 sl2 sl3 sl4 sl5 sl6 sl7 sl8 sl9 sl10 sl11 sl12 sl13 sl14 sl15 sl16 sl17 sl18 sl19 sl20 sl21 : Array (Option Value)} {oc1 kV1 dc1 pm1 cd1 ct1 oc2 kV2 dc2 pm2 cd2 ct2 oc3 kV3 dc3 pm3 cd3 ct3 oc4 kV4 dc4 pm4 cd4 ct4 oc5 kV5 dc5 pm5 cd5 ct5 oc6 kV6 dc6 pm6 cd6 ct6 oc7 kV7 dc7 pm7 cd7 ct7 oc8 kV8 dc8 pm8 cd8 ct8 oc9 kV9 dc9 pm9 cd9 ct9 oc10 kV10 dc10 pm10 cd10 ct10 oc11 kV11 dc11 pm11 cd11 ct11 oc12 kV12 dc12 pm12 cd12 ct12 oc13 kV13 dc13 pm13 cd13 ct13 oc14 kV14 dc14 pm14 cd14 ct14 oc15 kV15 dc15 pm15 cd15 ct15 oc16 kV16 dc16 pm16 cd16 ct16 oc17 kV17 dc17 pm17 cd17 ct17 oc18 kV18 dc18 pm18 cd18 ct18 oc19 kV19 dc19 pm19 cd19 ct19 oc20 kV20 dc20 pm20 cd20 ct20 oc21 kV21 dc21 pm21 cd21 ct21 : Value}
    (a1 : PySem.W.nsIn K mainGlobals "_law_pool" = some (some (.ref f1))) (l1 : K.lookup f1 = some ⟨oc1, od1, .func (PySem.W.fnOf "_law_pool" "_law_pool" (defArgs s__law_pool) (defBody s__law_pool) (defScope s__law_pool) .none kV1 dc1 pm1 an1 cd1 ct1), sl1⟩) (c1 : PySem.W.codeIn K cd1 "_law_pool" = true) (k1 : PySem.W.keepIn K (.ref f1) = true)
    (a2 : PySem.W.nsIn K mainGlobals "_law_take" = some (some (.ref f2))) (l2 : K.lookup f2 = some ⟨oc2, od2, .func (PySem.W.fnOf "_law_take" "_law_take" (defArgs s__law_take) (defBody s__law_take) (defScope s__law_take) .none kV2 dc2 pm2 an2 cd2 ct2), sl2⟩) (c2 : PySem.W.codeIn K cd2 "_law_take" = true) (k2 : PySem.W.keepIn K (.ref f2) = true)
    (a3 : PySem.W.nsIn K mainGlobals "_law_lengths" = some (some (.ref f3))) (l3 : K.lookup f3 = some ⟨oc3, od3, .func (PySem.W.fnOf "_law_lengths" "_law_lengths" (defArgs s__law_lengths) (defBody s__law_lengths) (defScope s__law_lengths) .none kV3 dc3 pm3 an3 cd3 ct3), sl3⟩) (c3 : PySem.W.codeIn K cd3 "_law_lengths" = true) (k3 : PySem.W.keepIn K (.ref f3) = true)
    (a4 : PySem.W.nsIn K mainGlobals "_law_bad_kind" = some (some (.ref f4))) (l4 : K.lookup f4 = some ⟨oc4, od4, .func (PySem.W.fnOf "_law_bad_kind" "_law_bad_kind" (defArgs s__law_bad_kind) (defBody s__law_bad_kind) (defScope s__law_bad_kind) .none kV4 dc4 pm4 an4 cd4 ct4), sl4⟩) (c4 : PySem.W.codeIn K cd4 "_law_bad_kind" = true) (k4 : PySem.W.keepIn K (.ref f4) = true)
    (a5 : PySem.W.nsIn K mainGlobals "need_counted" = some (some (.ref f5))) (l5 : K.lookup f5 = some ⟨oc5, od5, .func (PySem.W.fnOf "need_counted" "need_counted" (defArgs s_need_counted) (defBody s_need_counted) (defScope s_need_counted) .none kV5 dc5 pm5 an5 cd5 ct5), sl5⟩) (c5 : PySem.W.codeIn K cd5 "need_counted" = true) (k5 : PySem.W.keepIn K (.ref f5) = true)
    (a6 : PySem.W.nsIn K mainGlobals "lists_to" = some (some (.ref f6))) (l6 : K.lookup f6 = some ⟨oc6, od6, .func (PySem.W.fnOf "lists_to" "lists_to" (defArgs s_lists_to) (defBody s_lists_to) (defScope s_lists_to) .none kV6 dc6 pm6 an6 cd6 ct6), sl6⟩) (c6 : PySem.W.codeIn K cd6 "lists_to" = true) (k6 : PySem.W.keepIn K (.ref f6) = true)
    (a7 : PySem.W.nsIn K mainGlobals "kinds_of" = some (some (.ref f7))) (l7 : K.lookup f7 = some ⟨oc7, od7, .func (PySem.W.fnOf "kinds_of" "kinds_of" (defArgs s_kinds_of) (defBody s_kinds_of) (defScope s_kinds_of) .none kV7 dc7 pm7 an7 cd7 ct7), sl7⟩) (c7 : PySem.W.codeIn K cd7 "kinds_of" = true) (k7 : PySem.W.keepIn K (.ref f7) = true)
    (a8 : PySem.W.nsIn K mainGlobals "need_times" = some (some (.ref f8))) (l8 : K.lookup f8 = some ⟨oc8, od8, .func (PySem.W.fnOf "need_times" "need_times" (defArgs s_need_times) (defBody s_need_times) (defScope s_need_times) .none kV8 dc8 pm8 an8 cd8 ct8), sl8⟩) (c8 : PySem.W.codeIn K cd8 "need_times" = true) (k8 : PySem.W.keepIn K (.ref f8) = true)
    (a9 : PySem.W.nsIn K mainGlobals "product_to" = some (some (.ref f9))) (l9 : K.lookup f9 = some ⟨oc9, od9, .func (PySem.W.fnOf "product_to" "product_to" (defArgs s_product_to) (defBody s_product_to) (defScope s_product_to) .none kV9 dc9 pm9 an9 cd9 ct9), sl9⟩) (c9 : PySem.W.codeIn K cd9 "product_to" = true) (k9 : PySem.W.keepIn K (.ref f9) = true)
    (a10 : PySem.W.nsIn K mainGlobals "how_many_of" = some (some (.ref f10))) (l10 : K.lookup f10 = some ⟨oc10, od10, .func (PySem.W.fnOf "how_many_of" "how_many_of" (defArgs s_how_many_of) (defBody s_how_many_of) (defScope s_how_many_of) .none kV10 dc10 pm10 an10 cd10 ct10), sl10⟩) (c10 : PySem.W.codeIn K cd10 "how_many_of" = true) (k10 : PySem.W.keepIn K (.ref f10) = true)
    (a11 : PySem.W.nsIn K mainGlobals "need_number" = some (some (.ref f11))) (l11 : K.lookup f11 = some ⟨oc11, od11, .func (PySem.W.fnOf "need_number" "need_number" (defArgs s_need_number) (defBody s_need_number) (defScope s_need_number) .none kV11 dc11 pm11 an11 cd11 ct11), sl11⟩) (c11 : PySem.W.codeIn K cd11 "need_number" = true) (k11 : PySem.W.keepIn K (.ref f11) = true)
    (a12 : PySem.W.nsIn K mainGlobals "parts_both" = some (some (.ref f12))) (l12 : K.lookup f12 = some ⟨oc12, od12, .func (PySem.W.fnOf "parts_both" "parts_both" (defArgs s_parts_both) (defBody s_parts_both) (defScope s_parts_both) .none kV12 dc12 pm12 an12 cd12 ct12), sl12⟩) (c12 : PySem.W.codeIn K cd12 "parts_both" = true) (k12 : PySem.W.keepIn K (.ref f12) = true)
    (a13 : PySem.W.nsIn K mainGlobals "least_right" = some (some (.ref f13))) (l13 : K.lookup f13 = some ⟨oc13, od13, .func (PySem.W.fnOf "least_right" "least_right" (defArgs s_least_right) (defBody s_least_right) (defScope s_least_right) .none kV13 dc13 pm13 an13 cd13 ct13), sl13⟩) (c13 : PySem.W.codeIn K cd13 "least_right" = true) (k13 : PySem.W.keepIn K (.ref f13) = true)
    (a14 : PySem.W.nsIn K mainGlobals "has_root_by_kind" = some (some (.ref f14))) (l14 : K.lookup f14 = some ⟨oc14, od14, .func (PySem.W.fnOf "has_root_by_kind" "has_root_by_kind" (defArgs s_has_root_by_kind) (defBody s_has_root_by_kind) (defScope s_has_root_by_kind) .none kV14 dc14 pm14 an14 cd14 ct14), sl14⟩) (c14 : PySem.W.codeIn K cd14 "has_root_by_kind" = true) (k14 : PySem.W.keepIn K (.ref f14) = true)
    (a15 : PySem.W.nsIn K mainGlobals "how_many_have" = some (some (.ref f15))) (l15 : K.lookup f15 = some ⟨oc15, od15, .func (PySem.W.fnOf "how_many_have" "how_many_have" (defArgs s_how_many_have) (defBody s_how_many_have) (defScope s_how_many_have) .none kV15 dc15 pm15 an15 cd15 ct15), sl15⟩) (c15 : PySem.W.codeIn K cd15 "how_many_have" = true) (k15 : PySem.W.keepIn K (.ref f15) = true)
    (a16 : PySem.W.nsIn K mainGlobals "how_many_home" = some (some (.ref f16))) (l16 : K.lookup f16 = some ⟨oc16, od16, .func (PySem.W.fnOf "how_many_home" "how_many_home" (defArgs s_how_many_home) (defBody s_how_many_home) (defScope s_how_many_home) .none kV16 dc16 pm16 an16 cd16 ct16), sl16⟩) (c16 : PySem.W.codeIn K cd16 "how_many_home" = true) (k16 : PySem.W.keepIn K (.ref f16) = true)
    (a17 : PySem.W.nsIn K mainGlobals "_law_caught" = some (some (.ref f17))) (l17 : K.lookup f17 = some ⟨oc17, od17, .func (PySem.W.fnOf "_law_caught" "_law_caught" (defArgs s__law_caught) (defBody s__law_caught) (defScope s__law_caught) .none kV17 dc17 pm17 an17 cd17 ct17), sl17⟩) (c17 : PySem.W.codeIn K cd17 "_law_caught" = true) (k17 : PySem.W.keepIn K (.ref f17) = true)
    (a18 : PySem.W.nsIn K mainGlobals "_law_is" = some (some (.ref f18))) (l18 : K.lookup f18 = some ⟨oc18, od18, .func (PySem.W.fnOf "_law_is" "_law_is" (defArgs s__law_is) (defBody s__law_is) (defScope s__law_is) .none kV18 dc18 pm18 an18 cd18 ct18), sl18⟩) (c18 : PySem.W.codeIn K cd18 "_law_is" = true) (k18 : PySem.W.keepIn K (.ref f18) = true)
    (a19 : PySem.W.nsIn K mainGlobals "_law_kind_right" = some (some (.ref f19))) (l19 : K.lookup f19 = some ⟨oc19, od19, .func (PySem.W.fnOf "_law_kind_right" "_law_kind_right" (defArgs s__law_kind_right) (defBody s__law_kind_right) (defScope s__law_kind_right) .none kV19 dc19 pm19 an19 cd19 ct19), sl19⟩) (c19 : PySem.W.codeIn K cd19 "_law_kind_right" = true) (k19 : PySem.W.keepIn K (.ref f19) = true)
    (a20 : PySem.W.nsIn K mainGlobals "_law_right" = some (some (.ref f20))) (l20 : K.lookup f20 = some ⟨oc20, od20, .func (PySem.W.fnOf "_law_right" "_law_right" (defArgs s__law_right) (defBody s__law_right) (defScope s__law_right) .none kV20 dc20 pm20 an20 cd20 ct20), sl20⟩) (c20 : PySem.W.codeIn K cd20 "_law_right" = true) (k20 : PySem.W.keepIn K (.ref f20) = true)
    (a21 : PySem.W.nsIn K mainGlobals "law" = some (some (.ref f21))) (l21 : K.lookup f21 = some ⟨oc21, od21, .func (PySem.W.fnOf "law" "law" (defArgs s_law) (defBody s_law) (defScope s_law) .none kV21 dc21 pm21 an21 cd21 ct21), sl21⟩) (c21 : PySem.W.codeIn K cd21 "law" = true) (k21 : PySem.W.keepIn K (.ref f21) = true)
    {tk_MOST_COUNTED : Tok} (z_MOST_COUNTED : PySem.W.nsIn K mainGlobals "MOST_COUNTED" = some (some (.int 12 tk_MOST_COUNTED)))
    {tk_MOST_THINGS : Tok} (z_MOST_THINGS : PySem.W.nsIn K mainGlobals "MOST_THINGS" = some (some (.int 40 tk_MOST_THINGS)))
    (z_ValueError : PySem.W.nsIn K mainGlobals "ValueError" = some none)
    (z_bool : PySem.W.nsIn K mainGlobals "bool" = some none)
    (xa_NoKind : PySem.W.nsIn K mainGlobals "NoKind" = some (some (.ref c_NoKind))) (xq_NoKind : PySem.W.excIn K c_NoKind [.type "ValueError", .type "Exception", .type "BaseException", .type "object"] "ValueError.__new__" = true) (xk_NoKind : PySem.W.keepIn K (.ref c_NoKind) = true) (xb_NoKind : PySem.W.subIn K (.ref c_NoKind) (.type "BaseException") = some true) (xt_NoKind : PySem.W.typeIn K (.ref c_NoKind) = some (.type "type"))
    (xa_NoNumber : PySem.W.nsIn K mainGlobals "NoNumber" = some (some (.ref c_NoNumber))) (xq_NoNumber : PySem.W.excIn K c_NoNumber [.type "ValueError", .type "Exception", .type "BaseException", .type "object"] "ValueError.__new__" = true) (xk_NoNumber : PySem.W.keepIn K (.ref c_NoNumber) = true) (xb_NoNumber : PySem.W.subIn K (.ref c_NoNumber) (.type "BaseException") = some true) (xt_NoNumber : PySem.W.typeIn K (.ref c_NoNumber) = some (.type "type"))
    (xa_TooMany : PySem.W.nsIn K mainGlobals "TooMany" = some (some (.ref c_TooMany))) (xq_TooMany : PySem.W.excIn K c_TooMany [.type "ValueError", .type "Exception", .type "BaseException", .type "object"] "ValueError.__new__" = true) (xk_TooMany : PySem.W.keepIn K (.ref c_TooMany) = true) (xb_TooMany : PySem.W.subIn K (.ref c_TooMany) (.type "BaseException") = some true) (xt_TooMany : PySem.W.typeIn K (.ref c_TooMany) = some (.type "type"))
    (ga_NoFit : PySem.W.nsIn K mainGlobals "NoFit" = some (some (.ref c_NoFit)))
    (ga_NoKind : PySem.W.nsIn K mainGlobals "NoKind" = some (some (.ref c_NoKind)))
    (ga_NoName : PySem.W.nsIn K mainGlobals "NoName" = some (some (.ref c_NoName)))
    (ga_NoNumber : PySem.W.nsIn K mainGlobals "NoNumber" = some (some (.ref c_NoNumber)))
    (ga_NoRoot : PySem.W.nsIn K mainGlobals "NoRoot" = some (some (.ref c_NoRoot)))
    (ga_NoRounds : PySem.W.nsIn K mainGlobals "NoRounds" = some (some (.ref c_NoRounds)))
    (ga_NoRow : PySem.W.nsIn K mainGlobals "NoRow" = some (some (.ref c_NoRow)))
    (ga_NoText : PySem.W.nsIn K mainGlobals "NoText" = some (some (.ref c_NoText)))
    (ga_NoTurn : PySem.W.nsIn K mainGlobals "NoTurn" = some (some (.ref c_NoTurn)))
    (ga_TooMany : PySem.W.nsIn K mainGlobals "TooMany" = some (some (.ref c_TooMany)))
    (ga_TurnError : PySem.W.nsIn K mainGlobals "TurnError" = some (some (.ref c_TurnError)))
    (z_int : PySem.W.nsIn K mainGlobals "int" = some none)
    (z_isinstance : PySem.W.nsIn K mainGlobals "isinstance" = some none)
    (z_len : PySem.W.nsIn K mainGlobals "len" = some none)
    (z_list : PySem.W.nsIn K mainGlobals "list" = some none)
    (z_max : PySem.W.nsIn K mainGlobals "max" = some none)
    (z_min : PySem.W.nsIn K mainGlobals "min" = some none)
    (z_range : PySem.W.nsIn K mainGlobals "range" = some none)
    (z_set : PySem.W.nsIn K mainGlobals "set" = some none)
    (z_sorted : PySem.W.nsIn K mainGlobals "sorted" = some none)
    (z_str : PySem.W.nsIn K mainGlobals "str" = some none)
    (zs_NoKind : PySem.W.findIn K (.ref c_NoKind) "__str__" = some (some (.builtin "BaseException.__str__")))
    (zs_NoNumber : PySem.W.findIn K (.ref c_NoNumber) "__str__" = some (some (.builtin "BaseException.__str__")))
    (zs_TooMany : PySem.W.findIn K (.ref c_TooMany) "__str__" = some (some (.builtin "BaseException.__str__")))
    (z_sum : PySem.W.nsIn K mainGlobals "sum" = some none)
    (hE0_NoKind : PySem.W.findIn K (.ref c_NoKind) "__getattribute__" = some (some (.builtin "BaseException.__getattribute__")))
    (hE1_NoKind : PySem.W.findIn K (.ref c_NoKind) "__getattr__" = some none)
    (hE2_NoKind : PySem.W.subIn K (.ref c_NoKind) (.type "BaseException") = some true)
    (hE3_NoKind : PySem.W.hasDictIn K c_NoKind = true)
    (hE4_NoKind : PySem.W.findIn K (.ref c_NoKind) "__class__" = some (some (.builtin "object.__class__")))
    (hE5_NoKind : PySem.W.specialIn K (.builtin "object.__class__") "__get__" = some (some (.builtin "getset_descriptor.__get__")))
    (hE6_NoKind : PySem.W.takesIn K (.builtin "object.__class__") = some true)
    (hE7_NoKind : PySem.W.mroIn K c_NoKind (.type "object") = some true)
    (hE0_NoNumber : PySem.W.findIn K (.ref c_NoNumber) "__getattribute__" = some (some (.builtin "BaseException.__getattribute__")))
    (hE1_NoNumber : PySem.W.findIn K (.ref c_NoNumber) "__getattr__" = some none)
    (hE2_NoNumber : PySem.W.subIn K (.ref c_NoNumber) (.type "BaseException") = some true)
    (hE3_NoNumber : PySem.W.hasDictIn K c_NoNumber = true)
    (hE4_NoNumber : PySem.W.findIn K (.ref c_NoNumber) "__class__" = some (some (.builtin "object.__class__")))
    (hE5_NoNumber : PySem.W.specialIn K (.builtin "object.__class__") "__get__" = some (some (.builtin "getset_descriptor.__get__")))
    (hE6_NoNumber : PySem.W.takesIn K (.builtin "object.__class__") = some true)
    (hE7_NoNumber : PySem.W.mroIn K c_NoNumber (.type "object") = some true)
    (hE0_TooMany : PySem.W.findIn K (.ref c_TooMany) "__getattribute__" = some (some (.builtin "BaseException.__getattribute__")))
    (hE1_TooMany : PySem.W.findIn K (.ref c_TooMany) "__getattr__" = some none)
    (hE2_TooMany : PySem.W.subIn K (.ref c_TooMany) (.type "BaseException") = some true)
    (hE3_TooMany : PySem.W.hasDictIn K c_TooMany = true)
    (hE4_TooMany : PySem.W.findIn K (.ref c_TooMany) "__class__" = some (some (.builtin "object.__class__")))
    (hE5_TooMany : PySem.W.specialIn K (.builtin "object.__class__") "__get__" = some (some (.builtin "getset_descriptor.__get__")))
    (hE6_TooMany : PySem.W.takesIn K (.builtin "object.__class__") = some true)
    (hE7_TooMany : PySem.W.mroIn K c_TooMany (.type "object") = some true)
    (hb_TurnError : PySem.W.subIn K (.ref c_TurnError) (.type "BaseException") = some true)
    (hd_NoFit : PySem.W.hasDictIn K c_NoFit = true)
    (hd_NoKind : PySem.W.hasDictIn K c_NoKind = true)
    (hd_NoName : PySem.W.hasDictIn K c_NoName = true)
    (hd_NoNumber : PySem.W.hasDictIn K c_NoNumber = true)
    (hd_NoRoot : PySem.W.hasDictIn K c_NoRoot = true)
    (hd_NoRounds : PySem.W.hasDictIn K c_NoRounds = true)
    (hd_NoRow : PySem.W.hasDictIn K c_NoRow = true)
    (hd_NoText : PySem.W.hasDictIn K c_NoText = true)
    (hd_NoTurn : PySem.W.hasDictIn K c_NoTurn = true)
    (hd_TooMany : PySem.W.hasDictIn K c_TooMany = true)
    (hd_TurnError : PySem.W.hasDictIn K c_TurnError = true)
    (ht_NoFit : PySem.W.typeIn K (.ref c_NoFit) = some (.type "type"))
    (ht_NoKind : PySem.W.typeIn K (.ref c_NoKind) = some (.type "type"))
    (ht_NoName : PySem.W.typeIn K (.ref c_NoName) = some (.type "type"))
    (ht_NoNumber : PySem.W.typeIn K (.ref c_NoNumber) = some (.type "type"))
    (ht_NoRoot : PySem.W.typeIn K (.ref c_NoRoot) = some (.type "type"))
    (ht_NoRounds : PySem.W.typeIn K (.ref c_NoRounds) = some (.type "type"))
    (ht_NoRow : PySem.W.typeIn K (.ref c_NoRow) = some (.type "type"))
    (ht_NoText : PySem.W.typeIn K (.ref c_NoText) = some (.type "type"))
    (ht_NoTurn : PySem.W.typeIn K (.ref c_NoTurn) = some (.type "type"))
    (ht_TooMany : PySem.W.typeIn K (.ref c_TooMany) = some (.type "type"))
    (ht_TurnError : PySem.W.typeIn K (.ref c_TurnError) = some (.type "type"))
    (hs_NoKind_NoFit : PySem.W.subIn K (.ref c_NoKind) (.ref c_NoFit) = some false)
    (hs_NoKind_NoName : PySem.W.subIn K (.ref c_NoKind) (.ref c_NoName) = some false)
    (hs_NoKind_NoNumber : PySem.W.subIn K (.ref c_NoKind) (.ref c_NoNumber) = some false)
    (hs_NoKind_NoRoot : PySem.W.subIn K (.ref c_NoKind) (.ref c_NoRoot) = some false)
    (hs_NoKind_NoRounds : PySem.W.subIn K (.ref c_NoKind) (.ref c_NoRounds) = some false)
    (hs_NoKind_NoRow : PySem.W.subIn K (.ref c_NoKind) (.ref c_NoRow) = some false)
    (hs_NoKind_NoText : PySem.W.subIn K (.ref c_NoKind) (.ref c_NoText) = some false)
    (hs_NoKind_NoTurn : PySem.W.subIn K (.ref c_NoKind) (.ref c_NoTurn) = some false)
    (hs_NoKind_TooMany : PySem.W.subIn K (.ref c_NoKind) (.ref c_TooMany) = some false)
    (hs_NoKind_TurnError : PySem.W.subIn K (.ref c_NoKind) (.ref c_TurnError) = some true)
    (hs_NoNumber_NoFit : PySem.W.subIn K (.ref c_NoNumber) (.ref c_NoFit) = some false)
    (hs_NoNumber_NoKind : PySem.W.subIn K (.ref c_NoNumber) (.ref c_NoKind) = some false)
    (hs_NoNumber_NoName : PySem.W.subIn K (.ref c_NoNumber) (.ref c_NoName) = some false)
    (hs_NoNumber_NoRoot : PySem.W.subIn K (.ref c_NoNumber) (.ref c_NoRoot) = some false)
    (hs_NoNumber_NoRounds : PySem.W.subIn K (.ref c_NoNumber) (.ref c_NoRounds) = some false)
    (hs_NoNumber_NoRow : PySem.W.subIn K (.ref c_NoNumber) (.ref c_NoRow) = some false)
    (hs_NoNumber_NoText : PySem.W.subIn K (.ref c_NoNumber) (.ref c_NoText) = some false)
    (hs_NoNumber_NoTurn : PySem.W.subIn K (.ref c_NoNumber) (.ref c_NoTurn) = some false)
    (hs_NoNumber_TooMany : PySem.W.subIn K (.ref c_NoNumber) (.ref c_TooMany) = some false)
    (hs_NoNumber_TurnError : PySem.W.subIn K (.ref c_NoNumber) (.ref c_TurnError) = some true)
    (hs_TooMany_NoFit : PySem.W.subIn K (.ref c_TooMany) (.ref c_NoFit) = some false)
    (hs_TooMany_NoKind : PySem.W.subIn K (.ref c_TooMany) (.ref c_NoKind) = some false)
    (hs_TooMany_NoName : PySem.W.subIn K (.ref c_TooMany) (.ref c_NoName) = some false)
    (hs_TooMany_NoNumber : PySem.W.subIn K (.ref c_TooMany) (.ref c_NoNumber) = some false)
    (hs_TooMany_NoRoot : PySem.W.subIn K (.ref c_TooMany) (.ref c_NoRoot) = some false)
    (hs_TooMany_NoRounds : PySem.W.subIn K (.ref c_TooMany) (.ref c_NoRounds) = some false)
    (hs_TooMany_NoRow : PySem.W.subIn K (.ref c_TooMany) (.ref c_NoRow) = some false)
    (hs_TooMany_NoText : PySem.W.subIn K (.ref c_TooMany) (.ref c_NoText) = some false)
    (hs_TooMany_NoTurn : PySem.W.subIn K (.ref c_TooMany) (.ref c_NoTurn) = some false)
    (hs_TooMany_TurnError : PySem.W.subIn K (.ref c_TooMany) (.ref c_TurnError) = some true)
    (hv_NoKind : PySem.W.subIn K (.ref c_NoKind) (.type "ValueError") = some true)
    (hv_NoNumber : PySem.W.subIn K (.ref c_NoNumber) (.type "ValueError") = some true)
    (hv_TooMany : PySem.W.subIn K (.ref c_TooMany) (.type "ValueError") = some true)
    (hn_NoKind_NoFit : (c_NoKind == c_NoFit) = false)
    (hn_NoKind_NoName : (c_NoKind == c_NoName) = false)
    (hn_NoKind_NoNumber : (c_NoKind == c_NoNumber) = false)
    (hn_NoKind_NoRoot : (c_NoKind == c_NoRoot) = false)
    (hn_NoKind_NoRounds : (c_NoKind == c_NoRounds) = false)
    (hn_NoKind_NoRow : (c_NoKind == c_NoRow) = false)
    (hn_NoKind_NoText : (c_NoKind == c_NoText) = false)
    (hn_NoKind_NoTurn : (c_NoKind == c_NoTurn) = false)
    (hn_NoKind_TooMany : (c_NoKind == c_TooMany) = false)
    (hn_NoNumber_NoFit : (c_NoNumber == c_NoFit) = false)
    (hn_NoNumber_NoKind : (c_NoNumber == c_NoKind) = false)
    (hn_NoNumber_NoName : (c_NoNumber == c_NoName) = false)
    (hn_NoNumber_NoRoot : (c_NoNumber == c_NoRoot) = false)
    (hn_NoNumber_NoRounds : (c_NoNumber == c_NoRounds) = false)
    (hn_NoNumber_NoRow : (c_NoNumber == c_NoRow) = false)
    (hn_NoNumber_NoText : (c_NoNumber == c_NoText) = false)
    (hn_NoNumber_NoTurn : (c_NoNumber == c_NoTurn) = false)
    (hn_NoNumber_TooMany : (c_NoNumber == c_TooMany) = false)
    (hn_TooMany_NoFit : (c_TooMany == c_NoFit) = false)
    (hn_TooMany_NoKind : (c_TooMany == c_NoKind) = false)
    (hn_TooMany_NoName : (c_TooMany == c_NoName) = false)
    (hn_TooMany_NoNumber : (c_TooMany == c_NoNumber) = false)
    (hn_TooMany_NoRoot : (c_TooMany == c_NoRoot) = false)
    (hn_TooMany_NoRounds : (c_TooMany == c_NoRounds) = false)
    (hn_TooMany_NoRow : (c_TooMany == c_NoRow) = false)
    (hn_TooMany_NoText : (c_TooMany == c_NoText) = false)
    (hn_TooMany_NoTurn : (c_TooMany == c_NoTurn) = false)
    : ∃ fd : FuncData, (∀ (s : Shared) (v : Value), BindsTo s fd ⟨[v], []⟩ [("script", v)]) ∧ ∀ base : Heap, K.In base → base.Ns mainGlobals mg → FnOk l.prog w K mg base (L2.CX l.prog w) 19 fa fd ["script"] (spT K (S_law (Isx K) c_NoFit c_NoKind c_NoName c_NoNumber c_NoRoot c_NoRounds c_NoRow c_NoText c_NoTurn c_TooMany)) := by
  have E_NoKind : ExcC K c_NoKind := ⟨hE0_NoKind, hE1_NoKind, hE2_NoKind, hE3_NoKind, hE4_NoKind, hE5_NoKind, hE6_NoKind, hE7_NoKind⟩
  have E_NoNumber : ExcC K c_NoNumber := ⟨hE0_NoNumber, hE1_NoNumber, hE2_NoNumber, hE3_NoNumber, hE4_NoNumber, hE5_NoNumber, hE6_NoNumber, hE7_NoNumber⟩
  have E_TooMany : ExcC K c_TooMany := ⟨hE0_TooMany, hE1_TooMany, hE2_TooMany, hE3_TooMany, hE4_TooMany, hE5_TooMany, hE6_TooMany, hE7_TooMany⟩
  have T : Txt K mg c_NoFit c_NoKind c_NoName c_NoNumber c_NoRoot c_NoRounds c_NoRow c_NoText c_NoTurn c_TooMany c_TurnError := ⟨⟨_, PySem.W.mg_of X G z_MOST_COUNTED⟩, ⟨_, PySem.W.mg_of X G z_MOST_THINGS⟩, PySem.W.mg_none_of X G z_ValueError, PySem.W.mg_none_of X G z_bool, ⟨xq_NoKind, PySem.W.mg_of X G xa_NoKind, xk_NoKind, xb_NoKind, xt_NoKind⟩, ⟨xq_NoNumber, PySem.W.mg_of X G xa_NoNumber, xk_NoNumber, xb_NoNumber, xt_NoNumber⟩, ⟨xq_TooMany, PySem.W.mg_of X G xa_TooMany, xk_TooMany, xb_TooMany, xt_TooMany⟩, PySem.W.mg_of X G ga_NoFit, PySem.W.mg_of X G ga_NoKind, PySem.W.mg_of X G ga_NoName, PySem.W.mg_of X G ga_NoNumber, PySem.W.mg_of X G ga_NoRoot, PySem.W.mg_of X G ga_NoRounds, PySem.W.mg_of X G ga_NoRow, PySem.W.mg_of X G ga_NoText, PySem.W.mg_of X G ga_NoTurn, PySem.W.mg_of X G ga_TooMany, exm_own hb_TurnError hd_TurnError ht_TurnError hs_NoKind_TurnError, exm_own hb_TurnError hd_TurnError ht_TurnError hs_NoNumber_TurnError, exm_own hb_TurnError hd_TurnError ht_TurnError hs_TooMany_TurnError, PySem.W.mg_of X G ga_TurnError, PySem.W.mg_none_of X G z_int, PySem.W.mg_none_of X G z_isinstance, PySem.W.mg_none_of X G z_len, PySem.W.mg_none_of X G z_list, PySem.W.mg_none_of X G z_max, PySem.W.mg_none_of X G z_min, PySem.W.mg_none_of X G z_range, PySem.W.mg_none_of X G z_set, PySem.W.mg_none_of X G z_sorted, PySem.W.mg_none_of X G z_str, zs_NoKind, zs_NoNumber, zs_TooMany, PySem.W.mg_none_of X G z_sum, ⟨isx_own E_NoKind hs_NoKind_NoFit hd_NoFit ht_NoFit hn_NoKind_NoFit, isx_self E_NoKind, isx_own E_NoKind hs_NoKind_NoName hd_NoName ht_NoName hn_NoKind_NoName, isx_own E_NoKind hs_NoKind_NoNumber hd_NoNumber ht_NoNumber hn_NoKind_NoNumber, isx_own E_NoKind hs_NoKind_NoRoot hd_NoRoot ht_NoRoot hn_NoKind_NoRoot, isx_own E_NoKind hs_NoKind_NoRounds hd_NoRounds ht_NoRounds hn_NoKind_NoRounds, isx_own E_NoKind hs_NoKind_NoRow hd_NoRow ht_NoRow hn_NoKind_NoRow, isx_own E_NoKind hs_NoKind_NoText hd_NoText ht_NoText hn_NoKind_NoText, isx_own E_NoKind hs_NoKind_NoTurn hd_NoTurn ht_NoTurn hn_NoKind_NoTurn, isx_own E_NoKind hs_NoKind_TooMany hd_TooMany ht_TooMany hn_NoKind_TooMany, isx_val E_NoKind hv_NoKind, isx_own E_NoNumber hs_NoNumber_NoFit hd_NoFit ht_NoFit hn_NoNumber_NoFit, isx_own E_NoNumber hs_NoNumber_NoKind hd_NoKind ht_NoKind hn_NoNumber_NoKind, isx_own E_NoNumber hs_NoNumber_NoName hd_NoName ht_NoName hn_NoNumber_NoName, isx_self E_NoNumber, isx_own E_NoNumber hs_NoNumber_NoRoot hd_NoRoot ht_NoRoot hn_NoNumber_NoRoot, isx_own E_NoNumber hs_NoNumber_NoRounds hd_NoRounds ht_NoRounds hn_NoNumber_NoRounds, isx_own E_NoNumber hs_NoNumber_NoRow hd_NoRow ht_NoRow hn_NoNumber_NoRow, isx_own E_NoNumber hs_NoNumber_NoText hd_NoText ht_NoText hn_NoNumber_NoText, isx_own E_NoNumber hs_NoNumber_NoTurn hd_NoTurn ht_NoTurn hn_NoNumber_NoTurn, isx_own E_NoNumber hs_NoNumber_TooMany hd_TooMany ht_TooMany hn_NoNumber_TooMany, isx_val E_NoNumber hv_NoNumber, isx_own E_TooMany hs_TooMany_NoFit hd_NoFit ht_NoFit hn_TooMany_NoFit, isx_own E_TooMany hs_TooMany_NoKind hd_NoKind ht_NoKind hn_TooMany_NoKind, isx_own E_TooMany hs_TooMany_NoName hd_NoName ht_NoName hn_TooMany_NoName, isx_own E_TooMany hs_TooMany_NoNumber hd_NoNumber ht_NoNumber hn_TooMany_NoNumber, isx_own E_TooMany hs_TooMany_NoRoot hd_NoRoot ht_NoRoot hn_TooMany_NoRoot, isx_own E_TooMany hs_TooMany_NoRounds hd_NoRounds ht_NoRounds hn_TooMany_NoRounds, isx_own E_TooMany hs_TooMany_NoRow hd_NoRow ht_NoRow hn_TooMany_NoRow, isx_own E_TooMany hs_TooMany_NoText hd_NoText ht_NoText hn_TooMany_NoText, isx_own E_TooMany hs_TooMany_NoTurn hd_NoTurn ht_NoTurn hn_TooMany_NoTurn, isx_self E_TooMany, isx_val E_TooMany hv_TooMany⟩⟩
  have F1 := fun_mk (st := s__law_pool) l1 c1 k1
  have R1 : Rdy K mg "_law_pool" s__law_pool [("script" : Str), "k"] := ⟨_, _, F1, PySem.W.mg_of X G a1, k1, F1.binds fun _ _ _ _ _ _ us hl => match us, hl with | [_, _], _ => rfl⟩
  have F2 := fun_mk (st := s__law_take) l2 c2 k2
  have R2 : Rdy K mg "_law_take" s__law_take [("pool" : Str), "many"] := ⟨_, _, F2, PySem.W.mg_of X G a2, k2, F2.binds fun _ _ _ _ _ _ us hl => match us, hl with | [_, _], _ => rfl⟩
  have F3 := fun_mk (st := s__law_lengths) l3 c3 k3
  have R3 : Rdy K mg "_law_lengths" s__law_lengths [("pool" : Str), "many"] := ⟨_, _, F3, PySem.W.mg_of X G a3, k3, F3.binds fun _ _ _ _ _ _ us hl => match us, hl with | [_, _], _ => rfl⟩
  have F4 := fun_mk (st := s__law_bad_kind) l4 c4 k4
  have R4 : Rdy K mg "_law_bad_kind" s__law_bad_kind [("pool" : Str), "kind"] := ⟨_, _, F4, PySem.W.mg_of X G a4, k4, F4.binds fun _ _ _ _ _ _ us hl => match us, hl with | [_, _], _ => rfl⟩
  have F5 := fun_mk (st := s_need_counted) l5 c5 k5
  have R5 : Rdy K mg "need_counted" s_need_counted [("n" : Str)] := ⟨_, _, F5, PySem.W.mg_of X G a5, k5, F5.binds fun _ _ _ _ _ _ us hl => match us, hl with | [_], _ => rfl⟩
  have F6 := fun_mk (st := s_lists_to) l6 c6 k6
  have R6 : Rdy K mg "lists_to" s_lists_to [("left" : Str), "most"] := ⟨_, _, F6, PySem.W.mg_of X G a6, k6, F6.binds fun _ _ _ _ _ _ us hl => match us, hl with | [_, _], _ => rfl⟩
  have F7 := fun_mk (st := s_kinds_of) l7 c7 k7
  have R7 : Rdy K mg "kinds_of" s_kinds_of [("n" : Str)] := ⟨_, _, F7, PySem.W.mg_of X G a7, k7, F7.binds fun _ _ _ _ _ _ us hl => match us, hl with | [_], _ => rfl⟩
  have F8 := fun_mk (st := s_need_times) l8 c8 k8
  have R8 : Rdy K mg "need_times" s_need_times [("m" : Str)] := ⟨_, _, F8, PySem.W.mg_of X G a8, k8, F8.binds fun _ _ _ _ _ _ us hl => match us, hl with | [_], _ => rfl⟩
  have F9 := fun_mk (st := s_product_to) l9 c9 k9
  have R9 : Rdy K mg "product_to" s_product_to [("number" : Str)] := ⟨_, _, F9, PySem.W.mg_of X G a9, k9, F9.binds fun _ _ _ _ _ _ us hl => match us, hl with | [_], _ => rfl⟩
  have F10 := fun_mk (st := s_how_many_of) l10 c10 k10
  have R10 : Rdy K mg "how_many_of" s_how_many_of [("kind" : Str)] := ⟨_, _, F10, PySem.W.mg_of X G a10, k10, F10.binds fun _ _ _ _ _ _ us hl => match us, hl with | [_], _ => rfl⟩
  have F11 := fun_mk (st := s_need_number) l11 c11 k11
  have R11 : Rdy K mg "need_number" s_need_number [("number" : Str)] := ⟨_, _, F11, PySem.W.mg_of X G a11, k11, F11.binds fun _ _ _ _ _ _ us hl => match us, hl with | [_], _ => rfl⟩
  have F12 := fun_mk (st := s_parts_both) l12 c12 k12
  have R12 : Rdy K mg "parts_both" s_parts_both [("one" : Str), "other"] := ⟨_, _, F12, PySem.W.mg_of X G a12, k12, F12.binds fun _ _ _ _ _ _ us hl => match us, hl with | [_, _], _ => rfl⟩
  have F13 := fun_mk (st := s_least_right) l13 c13 k13
  have R13 : Rdy K mg "least_right" s_least_right [("l" : Str), "m"] := ⟨_, _, F13, PySem.W.mg_of X G a13, k13, F13.binds fun _ _ _ _ _ _ us hl => match us, hl with | [_, _], _ => rfl⟩
  have F14 := fun_mk (st := s_has_root_by_kind) l14 c14 k14
  have R14 : Rdy K mg "has_root_by_kind" s_has_root_by_kind [("kind" : Str), "m"] := ⟨_, _, F14, PySem.W.mg_of X G a14, k14, F14.binds fun _ _ _ _ _ _ us hl => match us, hl with | [_, _], _ => rfl⟩
  have F15 := fun_mk (st := s_how_many_have) l15 c15 k15
  have R15 : Rdy K mg "how_many_have" s_how_many_have [("n" : Str), "m"] := ⟨_, _, F15, PySem.W.mg_of X G a15, k15, F15.binds fun _ _ _ _ _ _ us hl => match us, hl with | [_, _], _ => rfl⟩
  have F16 := fun_mk (st := s_how_many_home) l16 c16 k16
  have R16 : Rdy K mg "how_many_home" s_how_many_home [("n" : Str), "m"] := ⟨_, _, F16, PySem.W.mg_of X G a16, k16, F16.binds fun _ _ _ _ _ _ us hl => match us, hl with | [_, _], _ => rfl⟩
  have F17 := fun_mk (st := s__law_caught) l17 c17 k17
  have R17 : Rdy K mg "_law_caught" s__law_caught [("way" : Str), "one", "other"] := ⟨_, _, F17, PySem.W.mg_of X G a17, k17, F17.binds fun _ _ _ _ _ _ us hl => match us, hl with | [_, _, _], _ => rfl⟩
  have F18 := fun_mk (st := s__law_is) l18 c18 k18
  have R18 : Rdy K mg "_law_is" s__law_is [("caught" : Str), "due"] := ⟨_, _, F18, PySem.W.mg_of X G a18, k18, F18.binds fun _ _ _ _ _ _ us hl => match us, hl with | [_, _], _ => rfl⟩
  have F19 := fun_mk (st := s__law_kind_right) l19 c19 k19
  have R19 : Rdy K mg "_law_kind_right" s__law_kind_right [("kind" : Str)] := ⟨_, _, F19, PySem.W.mg_of X G a19, k19, F19.binds fun _ _ _ _ _ _ us hl => match us, hl with | [_], _ => rfl⟩
  have F20 := fun_mk (st := s__law_right) l20 c20 k20
  have R20 : Rdy K mg "_law_right" s__law_right [("way" : Str), "many", "times"] := ⟨_, _, F20, PySem.W.mg_of X G a20, k20, F20.binds fun _ _ _ _ _ _ us hl => match us, hl with | [_, _, _], _ => rfl⟩
  have F21 := fun_mk (st := s_law) l21 c21 k21
  have e := hfa.symm.trans (PySem.W.mg_of X G a21)
  cases e
  refine ⟨PySem.W.fnOf "law" "law" (defArgs s_law) (defBody s_law) (defScope s_law) .none kV21 dc21 pm21 an21 cd21 ct21, fun s v => .of_eq rfl, fun base _ _ => ?_⟩
  exact ok_all (P := l.prog) (w := w) (base := base) T R1 R2 R3 R4 R5 R6 R7 R8 R9 R10 R11 R12 R13 R14 R15 R16 R17 R18 R19 R20 F21
end TL
open PySem PySem.W PyProof.Rows
set_option maxHeartbeats 0 in
theorem PySem.Challenge.cw_turnroots_k43_counted_refused_holds : PySem.Challenge.rw_turnroots_k43_counted_refused.Holds := by
  w_on; o_law; k_head; (case hw => w_witness2)
  k_fill
  refine L2.walk_ofB (l := PySem.Challenge.rw_turnroots_k43_counted_refused) (n := 63) (k := 19) (x := "script") (CX := fun w => L2.CX PySem.Challenge.rw_turnroots_k43_counted_refused.prog w) (sp := fun w => TL.spT _ TL.sLaw) rfl (by decide) rfl ⟨rfl, by decide, by decide⟩ (fun w h Y => PySem.W.kIn_of Y) ?F (fun w H a ns hl hb hO hS => TL.law_end hl hb hS) (fun w H s e s' h => TL.cx_none h)
  case F =>
    intro w mg fa h KX G hmg
    refine' TL.all_mk KX G hmg ?a1 ?l1 ?c1 ?k1 ?a2 ?l2 ?c2 ?k2 ?a3 ?l3 ?c3 ?k3 ?a4 ?l4 ?c4 ?k4 ?a5 ?l5 ?c5 ?k5 ?a6 ?l6 ?c6 ?k6 ?a7 ?l7 ?c7 ?k7 ?a8 ?l8 ?c8 ?k8 ?a9 ?l9 ?c9 ?k9 ?a10 ?l10 ?c10 ?k10 ?a11 ?l11 ?c11 ?k11 ?a12 ?l12 ?c12 ?k12 ?a13 ?l13 ?c13 ?k13 ?a14 ?l14 ?c14 ?k14 ?a15 ?l15 ?c15 ?k15 ?a16 ?l16 ?c16 ?k16 ?a17 ?l17 ?c17 ?k17 ?a18 ?l18 ?c18 ?k18 ?a19 ?l19 ?c19 ?k19 ?a20 ?l20 ?c20 ?k20 ?a21 ?l21 ?c21 ?k21 ?z_MOST_COUNTED ?z_MOST_THINGS ?z_ValueError ?z_bool ?xa_NoKind ?xq_NoKind ?xk_NoKind ?xb_NoKind ?xt_NoKind ?xa_NoNumber ?xq_NoNumber ?xk_NoNumber ?xb_NoNumber ?xt_NoNumber ?xa_TooMany ?xq_TooMany ?xk_TooMany ?xb_TooMany ?xt_TooMany ?ga_NoFit ?ga_NoKind ?ga_NoName ?ga_NoNumber ?ga_NoRoot ?ga_NoRounds ?ga_NoRow ?ga_NoText ?ga_NoTurn ?ga_TooMany ?ga_TurnError ?z_int ?z_isinstance ?z_len ?z_list ?z_max ?z_min ?z_range ?z_set ?z_sorted ?z_str ?zs_NoKind ?zs_NoNumber ?zs_TooMany ?z_sum ?hE0_NoKind ?hE1_NoKind ?hE2_NoKind ?hE3_NoKind ?hE4_NoKind ?hE5_NoKind ?hE6_NoKind ?hE7_NoKind ?hE0_NoNumber ?hE1_NoNumber ?hE2_NoNumber ?hE3_NoNumber ?hE4_NoNumber ?hE5_NoNumber ?hE6_NoNumber ?hE7_NoNumber ?hE0_TooMany ?hE1_TooMany ?hE2_TooMany ?hE3_TooMany ?hE4_TooMany ?hE5_TooMany ?hE6_TooMany ?hE7_TooMany ?hb_TurnError ?hd_NoFit ?hd_NoKind ?hd_NoName ?hd_NoNumber ?hd_NoRoot ?hd_NoRounds ?hd_NoRow ?hd_NoText ?hd_NoTurn ?hd_TooMany ?hd_TurnError ?ht_NoFit ?ht_NoKind ?ht_NoName ?ht_NoNumber ?ht_NoRoot ?ht_NoRounds ?ht_NoRow ?ht_NoText ?ht_NoTurn ?ht_TooMany ?ht_TurnError ?hs_NoKind_NoFit ?hs_NoKind_NoName ?hs_NoKind_NoNumber ?hs_NoKind_NoRoot ?hs_NoKind_NoRounds ?hs_NoKind_NoRow ?hs_NoKind_NoText ?hs_NoKind_NoTurn ?hs_NoKind_TooMany ?hs_NoKind_TurnError ?hs_NoNumber_NoFit ?hs_NoNumber_NoKind ?hs_NoNumber_NoName ?hs_NoNumber_NoRoot ?hs_NoNumber_NoRounds ?hs_NoNumber_NoRow ?hs_NoNumber_NoText ?hs_NoNumber_NoTurn ?hs_NoNumber_TooMany ?hs_NoNumber_TurnError ?hs_TooMany_NoFit ?hs_TooMany_NoKind ?hs_TooMany_NoName ?hs_TooMany_NoNumber ?hs_TooMany_NoRoot ?hs_TooMany_NoRounds ?hs_TooMany_NoRow ?hs_TooMany_NoText ?hs_TooMany_NoTurn ?hs_TooMany_TurnError ?hv_NoKind ?hv_NoNumber ?hv_TooMany ?hn_NoKind_NoFit ?hn_NoKind_NoName ?hn_NoKind_NoNumber ?hn_NoKind_NoRoot ?hn_NoKind_NoRounds ?hn_NoKind_NoRow ?hn_NoKind_NoText ?hn_NoKind_NoTurn ?hn_NoKind_TooMany ?hn_NoNumber_NoFit ?hn_NoNumber_NoKind ?hn_NoNumber_NoName ?hn_NoNumber_NoRoot ?hn_NoNumber_NoRounds ?hn_NoNumber_NoRow ?hn_NoNumber_NoText ?hn_NoNumber_NoTurn ?hn_NoNumber_TooMany ?hn_TooMany_NoFit ?hn_TooMany_NoKind ?hn_TooMany_NoName ?hn_TooMany_NoNumber ?hn_TooMany_NoRoot ?hn_TooMany_NoRounds ?hn_TooMany_NoRow ?hn_TooMany_NoText ?hn_TooMany_NoTurn
    (case a1 => k_is); (case l1 => k_is); (case c1 => k_is); (case k1 => k_is); (case a2 => k_is); (case l2 => k_is); (case c2 => k_is); (case k2 => k_is)
    (case a3 => k_is); (case l3 => k_is); (case c3 => k_is); (case k3 => k_is); (case a4 => k_is); (case l4 => k_is); (case c4 => k_is); (case k4 => k_is)
    (case a5 => k_is); (case l5 => k_is); (case c5 => k_is); (case k5 => k_is); (case a6 => k_is); (case l6 => k_is); (case c6 => k_is); (case k6 => k_is)
    (case a7 => k_is); (case l7 => k_is); (case c7 => k_is); (case k7 => k_is); (case a8 => k_is); (case l8 => k_is); (case c8 => k_is); (case k8 => k_is)
    (case a9 => k_is); (case l9 => k_is); (case c9 => k_is); (case k9 => k_is); (case a10 => k_is); (case l10 => k_is); (case c10 => k_is); (case k10 => k_is)
    (case a11 => k_is); (case l11 => k_is); (case c11 => k_is); (case k11 => k_is); (case a12 => k_is); (case l12 => k_is); (case c12 => k_is); (case k12 => k_is)
    (case a13 => k_is); (case l13 => k_is); (case c13 => k_is); (case k13 => k_is); (case a14 => k_is); (case l14 => k_is); (case c14 => k_is); (case k14 => k_is)
    (case a15 => k_is); (case l15 => k_is); (case c15 => k_is); (case k15 => k_is); (case a16 => k_is); (case l16 => k_is); (case c16 => k_is); (case k16 => k_is)
    (case a17 => k_is); (case l17 => k_is); (case c17 => k_is); (case k17 => k_is); (case a18 => k_is); (case l18 => k_is); (case c18 => k_is); (case k18 => k_is)
    (case a19 => k_is); (case l19 => k_is); (case c19 => k_is); (case k19 => k_is); (case a20 => k_is); (case l20 => k_is); (case c20 => k_is); (case k20 => k_is)
    (case a21 => k_is); (case l21 => k_is); (case c21 => k_is); (case k21 => k_is); (case z_MOST_COUNTED => k_is); (case z_MOST_THINGS => k_is); (case z_ValueError => k_is); (case z_bool => k_is)
    (case xa_NoKind => k_is); (case xq_NoKind => k_exc); (case xk_NoKind => k_is); (case xb_NoKind => k_is); (case xt_NoKind => k_is); (case xa_NoNumber => k_is); (case xq_NoNumber => k_exc); (case xk_NoNumber => k_is)
    (case xb_NoNumber => k_is); (case xt_NoNumber => k_is); (case xa_TooMany => k_is); (case xq_TooMany => k_exc); (case xk_TooMany => k_is); (case xb_TooMany => k_is); (case xt_TooMany => k_is); (case ga_NoFit => k_is)
    (case ga_NoKind => k_is); (case ga_NoName => k_is); (case ga_NoNumber => k_is); (case ga_NoRoot => k_is); (case ga_NoRounds => k_is); (case ga_NoRow => k_is); (case ga_NoText => k_is); (case ga_NoTurn => k_is)
    (case ga_TooMany => k_is); (case ga_TurnError => k_is); (case z_int => k_is); (case z_isinstance => k_is); (case z_len => k_is); (case z_list => k_is); (case z_max => k_is); (case z_min => k_is)
    (case z_range => k_is); (case z_set => k_is); (case z_sorted => k_is); (case z_str => k_is); (case zs_NoKind => k_is); (case zs_NoNumber => k_is); (case zs_TooMany => k_is); (case z_sum => k_is)
    (case hE0_NoKind => k_is); (case hE1_NoKind => k_is); (case hE2_NoKind => k_is); (case hE3_NoKind => k_is); (case hE4_NoKind => k_is); (case hE5_NoKind => k_is); (case hE6_NoKind => k_is); (case hE7_NoKind => k_is)
    (case hE0_NoNumber => k_is); (case hE1_NoNumber => k_is); (case hE2_NoNumber => k_is); (case hE3_NoNumber => k_is); (case hE4_NoNumber => k_is); (case hE5_NoNumber => k_is); (case hE6_NoNumber => k_is); (case hE7_NoNumber => k_is)
    (case hE0_TooMany => k_is); (case hE1_TooMany => k_is); (case hE2_TooMany => k_is); (case hE3_TooMany => k_is); (case hE4_TooMany => k_is); (case hE5_TooMany => k_is); (case hE6_TooMany => k_is); (case hE7_TooMany => k_is)
    (case hb_TurnError => k_is); (case hd_NoFit => k_is); (case hd_NoKind => k_is); (case hd_NoName => k_is); (case hd_NoNumber => k_is); (case hd_NoRoot => k_is); (case hd_NoRounds => k_is); (case hd_NoRow => k_is)
    (case hd_NoText => k_is); (case hd_NoTurn => k_is); (case hd_TooMany => k_is); (case hd_TurnError => k_is); (case ht_NoFit => k_is); (case ht_NoKind => k_is); (case ht_NoName => k_is); (case ht_NoNumber => k_is)
    (case ht_NoRoot => k_is); (case ht_NoRounds => k_is); (case ht_NoRow => k_is); (case ht_NoText => k_is); (case ht_NoTurn => k_is); (case ht_TooMany => k_is); (case ht_TurnError => k_is); (case hs_NoKind_NoFit => k_is)
    (case hs_NoKind_NoName => k_is); (case hs_NoKind_NoNumber => k_is); (case hs_NoKind_NoRoot => k_is); (case hs_NoKind_NoRounds => k_is); (case hs_NoKind_NoRow => k_is); (case hs_NoKind_NoText => k_is); (case hs_NoKind_NoTurn => k_is); (case hs_NoKind_TooMany => k_is)
    (case hs_NoKind_TurnError => k_is); (case hs_NoNumber_NoFit => k_is); (case hs_NoNumber_NoKind => k_is); (case hs_NoNumber_NoName => k_is); (case hs_NoNumber_NoRoot => k_is); (case hs_NoNumber_NoRounds => k_is); (case hs_NoNumber_NoRow => k_is); (case hs_NoNumber_NoText => k_is)
    (case hs_NoNumber_NoTurn => k_is); (case hs_NoNumber_TooMany => k_is); (case hs_NoNumber_TurnError => k_is); (case hs_TooMany_NoFit => k_is); (case hs_TooMany_NoKind => k_is); (case hs_TooMany_NoName => k_is); (case hs_TooMany_NoNumber => k_is); (case hs_TooMany_NoRoot => k_is)
    (case hs_TooMany_NoRounds => k_is); (case hs_TooMany_NoRow => k_is); (case hs_TooMany_NoText => k_is); (case hs_TooMany_NoTurn => k_is); (case hs_TooMany_TurnError => k_is); (case hv_NoKind => k_is); (case hv_NoNumber => k_is); (case hv_TooMany => k_is)
    (case hn_NoKind_NoFit => rfl); (case hn_NoKind_NoName => rfl); (case hn_NoKind_NoNumber => rfl); (case hn_NoKind_NoRoot => rfl); (case hn_NoKind_NoRounds => rfl); (case hn_NoKind_NoRow => rfl); (case hn_NoKind_NoText => rfl); (case hn_NoKind_NoTurn => rfl)
    (case hn_NoKind_TooMany => rfl); (case hn_NoNumber_NoFit => rfl); (case hn_NoNumber_NoKind => rfl); (case hn_NoNumber_NoName => rfl); (case hn_NoNumber_NoRoot => rfl); (case hn_NoNumber_NoRounds => rfl); (case hn_NoNumber_NoRow => rfl); (case hn_NoNumber_NoText => rfl)
    (case hn_NoNumber_NoTurn => rfl); (case hn_NoNumber_TooMany => rfl); (case hn_TooMany_NoFit => rfl); (case hn_TooMany_NoKind => rfl); (case hn_TooMany_NoName => rfl); (case hn_TooMany_NoNumber => rfl); (case hn_TooMany_NoRoot => rfl); (case hn_TooMany_NoRounds => rfl)
    (case hn_TooMany_NoRow => rfl); (case hn_TooMany_NoText => rfl); (case hn_TooMany_NoTurn => rfl)