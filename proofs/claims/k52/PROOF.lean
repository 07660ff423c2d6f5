import PyProof.Rows.All
import Wide.All
import OpenK.AllK
import Wide.FinOn
import HandS.ForMost
import HandS.ForExc
import HandS.TupAny
import HandS.Wide
import HandS.Deep
import HandS.CallSlots
import HandS.Property
import HandS.NoneIn
import HandS.Comp
import HandS.TupLen
import HandS.IsInst
import HandS.Steps
import HandS.TryMany
import HandS.ExcInit
import HandS.ExcField
import HandS.More
import HandS.Text
import KE.KIsAll
import HandS.SlotsOwn
import PyProof.InstNe
import HandS.DictComp
import HandS.SortOrd
import HandS.Conv
import KE.KDictSum
import KE.KStateDown
import HandS.Head0
import HandS.Head1
import HandS.Head2
import HandS.HeadEnd
import HandS.HeadHook1
import HandS.HeadHook2
import PyProof.Rows.NestShow
import HandS.HotCalls
import HandS.TupMul
import PyProof.P3In
import HandS.Style
import PySem.Challenge.RW_runledger_k52_what_is_a_program
set_option Elab.async false
set_option linter.all false
set_option maxRecDepth 100000
namespace VM
open PySem L2

inductive D where
  | non | bl (b : Bool) | int (i : Int) | str (s : Str)
  | lst (xs : List D) | tup (xs : List D) | dK (es : List (Key × D)) | dT (es : List (List Key × D)) | ins (x : Str) (gs : List (Str × D)) | scr (ns : List Int) | ktup (xs : List D)

def kD : Key → D
  | .inl i => .int i
  | .inr s => .str s

mutual
inductive DD (K : PySem.W.Frag) (mg : Str → Option Value) (F : Hp) : D → V → Prop
  | non : DD K mg F .non .non
  | bl (b : Bool) : DD K mg F (.bl b) (.bl b)
  | int (i : Int) : DD K mg F (.int i) (.int i)
  | str (s : Str) : DD K mg F (.str s) (.str s)
  | scr {a : Addr} {ns : List Int} : SqL K F a (ns.map V.int) → DD K mg F (.scr ns) (.ref a)
  | lst {a : Addr} {ds : List D} {xs : List V} : F a = some (.lst xs) → DDs K mg F ds xs → DD K mg F (.lst ds) (.ref a)
  | tup {a : Addr} {ds : List D} {xs : List V} : F a = some (.tup xs) → DDs K mg F ds xs → DD K mg F (.tup ds) (.ref a)
  | ktup {a : Addr} {ds : List D} {xs : List V} : SqT K F a xs → DDs K mg F ds xs → DD K mg F (.ktup ds) (.ref a)
  | dk {a : Addr} {es : List (Key × D)} {kvs : List (Key × V)} : F a = some (.dK kvs) → DDk K mg F es kvs → DD K mg F (.dK es) (.ref a)
  | dt {a : Addr} {es : List (List Key × D)} {kvs : List (List Key × V)} : F a = some (.dT kvs) → DDt K mg F es kvs → DD K mg F (.dT es) (.ref a)
  | ins {a C dx : Addr} {x : Str} {gs : List (Str × D)} {fs : List (Str × V)} : mg x = some (.ref C) → F a = some (.ins C dx fs) → DDf K mg F gs fs → DD K mg F (.ins x gs) (.ref a)
inductive DDs (K : PySem.W.Frag) (mg : Str → Option Value) (F : Hp) : List D → List V → Prop
  | nil : DDs K mg F [] []
  | cons {d : D} {v : V} {ds : List D} {vs : List V} : DD K mg F d v → DDs K mg F ds vs → DDs K mg F (d :: ds) (v :: vs)
inductive DDk (K : PySem.W.Frag) (mg : Str → Option Value) (F : Hp) : List (Key × D) → List (Key × V) → Prop
  | nil : DDk K mg F [] []
  | cons {k : Key} {d : D} {v : V} {ds : List (Key × D)} {vs : List (Key × V)} : DD K mg F d v → DDk K mg F ds vs → DDk K mg F ((k, d) :: ds) ((k, v) :: vs)
inductive DDt (K : PySem.W.Frag) (mg : Str → Option Value) (F : Hp) : List (List Key × D) → List (List Key × V) → Prop
  | nil : DDt K mg F [] []
  | cons {k : List Key} {d : D} {v : V} {ds : List (List Key × D)} {vs : List (List Key × V)} : DD K mg F d v → DDt K mg F ds vs → DDt K mg F ((k, d) :: ds) ((k, v) :: vs)
inductive DDf (K : PySem.W.Frag) (mg : Str → Option Value) (F : Hp) : List (Str × D) → List (Str × V) → Prop
  | nil : DDf K mg F [] []
  | cons {f : Str} {d : D} {v : V} {ds : List (Str × D)} {vs : List (Str × V)} : DD K mg F d v → DDf K mg F ds vs → DDf K mg F ((f, d) :: ds) ((f, v) :: vs)
end

section
variable {K : PySem.W.Frag} {mg : Str → Option Value} {F F' : Hp}
def Ex (H H' : Hp) : Prop := ∀ a o, H a = some o → H' a = some o
theorem ex_t (e : Ex F F') {a : Addr} {xs : List V} (h : SqT K F a xs) : SqT K F' a xs := by
  rcases h with (h | ⟨o, h⟩) | h
  · exact .inl (.inl (e _ _ h))
  · exact .inl (.inr ⟨o, e _ _ h⟩)
  · exact .inr h
theorem ex_l (e : Ex F F') {a : Addr} {xs : List V} (h : SqL K F a xs) : SqL K F' a xs := by
  rcases h with (h | ⟨o, h⟩) | h
  · exact .inl (.inl (e _ _ h))
  · exact .inl (.inr ⟨o, e _ _ h⟩)
  · exact .inr h
mutual
theorem DD.mono (e : Ex F F') : ∀ {d : D} {v : V}, DD K mg F d v → DD K mg F' d v
  | _, _, .non => .non
  | _, _, .bl b => .bl b
  | _, _, .int b => .int b
  | _, _, .str b => .str b
  | _, _, .scr h => .scr (ex_l e h)
  | _, _, .lst h r => .lst (e _ _ h) (DDs.mono e r)
  | _, _, .tup h r => .tup (e _ _ h) (DDs.mono e r)
  | _, _, .ktup h r => .ktup (ex_t e h) (DDs.mono e r)
  | _, _, .dk h r => .dk (e _ _ h) (DDk.mono e r)
  | _, _, .dt h r => .dt (e _ _ h) (DDt.mono e r)
  | _, _, .ins m h r => .ins m (e _ _ h) (DDf.mono e r)
theorem DDs.mono (e : Ex F F') : ∀ {d : List D} {v : List V}, DDs K mg F d v → DDs K mg F' d v
  | _, _, .nil => .nil
  | _, _, .cons h r => .cons (DD.mono e h) (DDs.mono e r)
theorem DDk.mono (e : Ex F F') : ∀ {d : List (Key × D)} {v : List (Key × V)}, DDk K mg F d v → DDk K mg F' d v
  | _, _, .nil => .nil
  | _, _, .cons h r => .cons (DD.mono e h) (DDk.mono e r)
theorem DDt.mono (e : Ex F F') : ∀ {d : List (List Key × D)} {v : List (List Key × V)}, DDt K mg F d v → DDt K mg F' d v
  | _, _, .nil => .nil
  | _, _, .cons h r => .cons (DD.mono e h) (DDt.mono e r)
theorem DDf.mono (e : Ex F F') : ∀ {d : List (Str × D)} {v : List (Str × V)}, DDf K mg F d v → DDf K mg F' d v
  | _, _, .nil => .nil
  | _, _, .cons h r => .cons (DD.mono e h) (DDf.mono e r)
end
end
/-! ### slots, the state -/
/-- a tree of owned objects: fz frozen data, fl one owned object with frozen data in it -/
inductive T where
  | fz (d : D) | fl (d : D) | lst (ts : List T) | dk (es : List (Key × T)) | dt (es : List (List Key × T)) | ins (x : Str) (gs : List (Str × T))
mutual
def T.er : T → D
  | .fz d => d
  | .fl d => d
  | .lst ts => .lst (T.ers ts)
  | .dk ts => .dK (T.erk ts)
  | .dt ts => .dT (T.ert ts)
  | .ins x ts => .ins x (T.erf ts)
def T.ers : List T → List D
  | [] => []
  | t :: ts => t.er :: T.ers ts
def T.erk : List (Key × T) → List (Key × D)
  | [] => []
  | (k, t) :: ts => (k, t.er) :: T.erk ts
def T.ert : List (List Key × T) → List (List Key × D)
  | [] => []
  | (k, t) :: ts => (k, t.er) :: T.ert ts
def T.erf : List (Str × T) → List (Str × D)
  | [] => []
  | (k, t) :: ts => (k, t.er) :: T.erf ts
end
inductive Slot where
  | emp | dat (d : D) | pdt (d : D) | own (d : D) | par (d : D) | ali (i : Nat) | tre (t : T) | ptr (t : T)
abbrev LS := List Slot
abbrev Ent := Option V × Slot

/-- what a def knows of its own entry: what was frozen, the heap, which handed objects it may change -/
structure Base where
  F : Hp
  H : Hp
  W : Addr → Prop
  P : Nat → Option (Option V)

def noP : Nat → Option (Option V) := fun _ => none

structure Cfg where
  K : PySem.W.Frag
  mg : Str → Option Value
  B : Base

section
variable (G : Cfg) (F H : Hp)
def ObD (o : HO) (d : D) : Prop := match o, d with
  | .lst xs, .lst ds => DDs G.K G.mg F ds xs
  | .dK kvs, .dK es => DDk G.K G.mg F es kvs
  | .dT kvs, .dT es => DDt G.K G.mg F es kvs
  | .ins C _ fs, .ins x gs => G.mg x = some (.ref C) ∧ DDf G.K G.mg F gs fs
  | _, _ => False
/-- an object of ours, at p, not frozen -/
def OwnAt (p : Addr) (d : D) : Prop := F p = none ∧ (G.B.H p = none ∨ G.B.W p) ∧ ∃ o, H p = some o ∧ ObD G F o d
/-- the node of a tree at p -/
def Node (p : Addr) (o : HO) : Prop := F p = none ∧ (G.B.H p = none ∨ G.B.W p) ∧ H p = some o
mutual
inductive TOk : T → V → Prop
  | fz {d : D} {v : V} : DD G.K G.mg F d v → TOk (.fz d) v
  | fl {d : D} {p : Addr} : OwnAt G F H p d → TOk (.fl d) (.ref p)
  | lst {p : Addr} {ts : List T} {xs : List V} : Node G F H p (.lst xs) → TOks ts xs → TOk (.lst ts) (.ref p)
  | dk {p : Addr} {ts : List (Key × T)} {xs : List (Key × V)} : Node G F H p (.dK xs) → TOkk ts xs → TOk (.dk ts) (.ref p)
  | dt {p : Addr} {ts : List (List Key × T)} {xs : List (List Key × V)} : Node G F H p (.dT xs) → TOkt ts xs → TOk (.dt ts) (.ref p)
  | ins {p C dx : Addr} {x : Str} {ts : List (Str × T)} {xs : List (Str × V)} : G.mg x = some (.ref C) → Node G F H p (.ins C dx xs) → TOkf ts xs → TOk (.ins x ts) (.ref p)
inductive TOks : List T → List V → Prop
  | nil : TOks [] []
  | cons {t : T} {v : V} {ts : List T} {vs : List V} : TOk t v → TOks ts vs → TOks (t :: ts) (v :: vs)
inductive TOkk : List (Key × T) → List (Key × V) → Prop
  | nil : TOkk [] []
  | cons {k : Key} {t : T} {v : V} {ts : List (Key × T)} {vs : List (Key × V)} : TOk t v → TOkk ts vs → TOkk ((k, t) :: ts) ((k, v) :: vs)
inductive TOkt : List (List Key × T) → List (List Key × V) → Prop
  | nil : TOkt [] []
  | cons {k : List Key} {t : T} {v : V} {ts : List (List Key × T)} {vs : List (List Key × V)} : TOk t v → TOkt ts vs → TOkt ((k, t) :: ts) ((k, v) :: vs)
inductive TOkf : List (Str × T) → List (Str × V) → Prop
  | nil : TOkf [] []
  | cons {k : Str} {t : T} {v : V} {ts : List (Str × T)} {vs : List (Str × V)} : TOk t v → TOkf ts vs → TOkf ((k, t) :: ts) ((k, v) :: vs)
end
end
section
variable (H : Hp)
mutual
def ads : T → V → List Addr
  | .fz _, _ => []
  | .fl _, v => (match v with | .ref p => [p] | _ => [])
  | .lst ts, v => (match v with | .ref p => p :: (match H p with | some (.lst xs) => adsL ts xs | _ => []) | _ => [])
  | .dk ts, v => (match v with | .ref p => p :: (match H p with | some (.dK xs) => adsK ts xs | _ => []) | _ => [])
  | .dt ts, v => (match v with | .ref p => p :: (match H p with | some (.dT xs) => adsT ts xs | _ => []) | _ => [])
  | .ins _ ts, v => (match v with | .ref p => p :: (match H p with | some (.ins _ _ xs) => adsF ts xs | _ => []) | _ => [])
def adsL : List T → List V → List Addr
  | [], _ => []
  | t :: ts, vs => (match vs with | v :: vs => ads t v ++ adsL ts vs | [] => [])
def adsK : List (Key × T) → List (Key × V) → List Addr
  | [], _ => []
  | (_, t) :: ts, vs => (match vs with | (_, v) :: vs => ads t v ++ adsK ts vs | [] => [])
def adsT : List (List Key × T) → List (List Key × V) → List Addr
  | [], _ => []
  | (_, t) :: ts, vs => (match vs with | (_, v) :: vs => ads t v ++ adsT ts vs | [] => [])
def adsF : List (Str × T) → List (Str × V) → List Addr
  | [], _ => []
  | (_, t) :: ts, vs => (match vs with | (_, v) :: vs => ads t v ++ adsF ts vs | [] => [])
end
end
section
variable (G : Cfg) (F H : Hp)
def EnOk : Ent → Prop
  | (_, .emp) => True
  | (v, .dat d) => ∃ x, v = some x ∧ DD G.K G.mg F d x
  | (v, .pdt d) => ∃ x, v = some x ∧ DD G.K G.mg F d x
  | (v, .own d) => ∃ p, v = some (.ref p) ∧ OwnAt G F H p d
  | (v, .par d) => ∃ p, v = some (.ref p) ∧ OwnAt G F H p d
  | (_, .ali _) => True
  | (v, .tre t) => ∃ x, v = some x ∧ TOk G F H t x ∧ (ads H t x).Nodup
  | (v, .ptr t) => ∃ x, v = some x ∧ TOk G F H t x ∧ (ads H t x).Nodup
end
def refA : Option V → List Addr
  | some (.ref p) => [p]
  | _ => []
/-- what an entry owns -/
def adE (H : Hp) (e : Ent) : List Addr := match e.2 with
  | .own _ => refA e.1
  | .par _ => refA e.1
  | .tre t => (match e.1 with | some v => ads H t v | none => [])
  | .ptr t => (match e.1 with | some v => ads H t v | none => [])
  | _ => []
def ent (vs : List V) (ks : List Slot) (σ : St) (ls : LS) : List Ent := (vs.map some).zip ks ++ σ.zip ls
def Slot.live : Slot → Bool
  | .dat _ => true
  | .pdt _ => true
  | .own _ => true
  | .par _ => true
  | .tre _ => true
  | .ptr _ => true
  | _ => false

structure Good (G : Cfg) (F H : Hp) (E : List Ent) : Prop where
  all : ∀ (n : Nat) (e : Ent), E[n]? = some e → EnOk G F H e
  nd : ∀ (m n : Nat) (e e' : Ent) (p : Addr), E[m]? = some e → E[n]? = some e' → p ∈ adE H e → p ∈ adE H e' → m = n

structure Rp (G : Cfg) (F H : Hp) (σ : St) (ls : LS) (vs : List V) (ks : List Slot) : Prop where
  ex : Ex F H
  ex0 : Ex G.B.F F
  len : σ.length = ls.length
  klen : vs.length = ks.length
  good : Good G F H (ent vs ks σ ls)
  al : ∀ (v : V) (i : Nat), (v, Slot.ali i) ∈ vs.zip ks → ∃ s, σ[i]? = some (some v) ∧ ls[i]? = some s ∧ s.live = true
  pin : ∀ (i : Nat) (d : D), (ls[i]? = some (.par d) ∨ ls[i]? = some (.pdt d) ∨ ls[i]? = some (.ali 0) ∨ ∃ t, ls[i]? = some (.ptr t)) → ∃ v, G.B.P i = some v ∧ σ[i]? = some v
  b1 : ∀ b o, G.B.H b = some o → G.B.W b ∨ H b = some o
  b2 : ∀ b, G.B.H b ≠ none → H b ≠ none
  b3 : ∀ b, F b ≠ none → (∃ xs, F b = some (.tup xs)) ∨ G.B.F b ≠ none ∨ G.B.H b = none ∨ G.B.W b

section
variable {G : Cfg} {F F' H H' : Hp} {σ : St} {ls : LS} {vs : List V} {ks : List Slot} {v : V} {k : Slot} {d d' : D} {p : Addr} {o o' : HO} {i : Nat} {E : List Ent} {e e' : Ent}

theorem ObD.mono (x : Ex F F') (h : ObD G F o d) : ObD G F' o d := by
  cases o <;> cases d <;> first | exact h.elim | exact DDs.mono x h | exact DDk.mono x h | exact DDt.mono x h | exact ⟨h.1, DDf.mono x h.2⟩
theorem ObD.mut (h : ObD G F o d) : Mut (some o) := by
  cases o <;> first | trivial | (cases d <;> exact h.elim)
theorem ObD.dd (h : ObD G F o d) (hp : F p = some o) : DD G.K G.mg F d (.ref p) := by
  cases o <;> cases d <;> first | exact h.elim | exact .lst hp h | exact .dk hp h | exact .dt hp h | exact .ins h.1 hp h.2
theorem Ex.upd (h : F p = none) : Ex F (upd F p o) := fun a u e => by
  rw [upd_ne (ne_of_none e h)]; exact e
theorem Ex.rfl : Ex F F := fun _ _ h => h
theorem Ex.trans {F1 F2 F3 : Hp} (a : Ex F1 F2) (b : Ex F2 F3) : Ex F1 F3 := fun x o h => b x o (a x o h)

/-- what is told of an owned address -/
def Own1 (G : Cfg) (F H : Hp) (p : Addr) : Prop := F p = none ∧ (G.B.H p = none ∨ G.B.W p) ∧ ∃ o, H p = some o ∧ Mut (some o)
theorem OwnAt.one (h : OwnAt G F H p d) : Own1 G F H p := ⟨h.1, h.2.1, by obtain ⟨o, a, b⟩ := h.2.2; exact ⟨o, a, b.mut⟩⟩
section
variable {t : T} {ts : List T}
theorem ads_fl (p : Addr) : ads H (.fl d) (.ref p) = [p] := by rw [ads]
theorem ads_fz : ads H (.fz d) v = [] := by rw [ads]
theorem ads_lst {xs : List V} (h : H p = some (.lst xs)) : ads H (.lst ts) (.ref p) = p :: adsL H ts xs := by rw [ads]; simp only [h]
theorem ads_dk {ts : List (Key × T)} {xs : List (Key × V)} (h : H p = some (.dK xs)) : ads H (.dk ts) (.ref p) = p :: adsK H ts xs := by rw [ads]; simp only [h]
theorem ads_dt {ts : List (List Key × T)} {xs : List (List Key × V)} (h : H p = some (.dT xs)) : ads H (.dt ts) (.ref p) = p :: adsT H ts xs := by rw [ads]; simp only [h]
theorem ads_ins {x : Str} {C dx : Addr} {ts : List (Str × T)} {xs : List (Str × V)} (h : H p = some (.ins C dx xs)) : ads H (.ins x ts) (.ref p) = p :: adsF H ts xs := by rw [ads]; simp only [h]
theorem adsL_cons {xs : List V} : adsL H (t :: ts) (v :: xs) = ads H t v ++ adsL H ts xs := by rw [adsL]
theorem adsK_cons {k : Key} {k' : Key} {ts : List (Key × T)} {xs : List (Key × V)} : adsK H ((k, t) :: ts) ((k', v) :: xs) = ads H t v ++ adsK H ts xs := by rw [adsK]
theorem adsT_cons {k : List Key} {k' : List Key} {ts : List (List Key × T)} {xs : List (List Key × V)} : adsT H ((k, t) :: ts) ((k', v) :: xs) = ads H t v ++ adsT H ts xs := by rw [adsT]
theorem adsF_cons {k : Str} {k' : Str} {ts : List (Str × T)} {xs : List (Str × V)} : adsF H ((k, t) :: ts) ((k', v) :: xs) = ads H t v ++ adsF H ts xs := by rw [adsF]
theorem adsL_nil {xs : List V} : adsL H [] xs = [] := by rw [adsL]
theorem adsK_nil {xs : List (Key × V)} : adsK H [] xs = [] := by rw [adsK]
theorem adsT_nil {xs : List (List Key × V)} : adsT H [] xs = [] := by rw [adsT]
theorem adsF_nil {xs : List (Str × V)} : adsF H [] xs = [] := by rw [adsF]
end
theorem Node.one (h : Node G F H p o) (m : Mut (some o)) : Own1 G F H p := ⟨h.1, h.2.1, o, h.2.2, m⟩
mutual
theorem TOk.one : ∀ {t : T} {v : V}, TOk G F H t v → p ∈ ads H t v → Own1 G F H p
  | _, _, .fz _, h => by rw [ads_fz] at h; cases h
  | _, _, .fl o, h => by rw [ads_fl] at h; cases List.mem_singleton.mp h; exact o.one
  | _, _, .lst n q, h => by
    rw [ads_lst n.2.2] at h
    rcases List.mem_cons.mp h with z | z
    · subst z; exact n.one trivial
    · exact TOks.one q z
  | _, _, .dk n q, h => by
    rw [ads_dk n.2.2] at h
    rcases List.mem_cons.mp h with z | z
    · subst z; exact n.one trivial
    · exact TOkk.one q z
  | _, _, .dt n q, h => by
    rw [ads_dt n.2.2] at h
    rcases List.mem_cons.mp h with z | z
    · subst z; exact n.one trivial
    · exact TOkt.one q z
  | _, _, .ins _ n q, h => by
    rw [ads_ins n.2.2] at h
    rcases List.mem_cons.mp h with z | z
    · subst z; exact n.one trivial
    · exact TOkf.one q z
theorem TOks.one : ∀ {t : List T} {v : List V}, TOks G F H t v → p ∈ adsL H t v → Own1 G F H p
  | _, _, .nil, h => by rw [adsL_nil] at h; cases h
  | _, _, .cons a b, h => by
    rw [adsL_cons] at h
    rcases List.mem_append.mp h with z | z
    · exact TOk.one a z
    · exact TOks.one b z
theorem TOkk.one : ∀ {t : List (Key × T)} {v : List (Key × V)}, TOkk G F H t v → p ∈ adsK H t v → Own1 G F H p
  | _, _, .nil, h => by rw [adsK_nil] at h; cases h
  | _, _, .cons a b, h => by
    rw [adsK_cons] at h
    rcases List.mem_append.mp h with z | z
    · exact TOk.one a z
    · exact TOkk.one b z
theorem TOkt.one : ∀ {t : List (List Key × T)} {v : List (List Key × V)}, TOkt G F H t v → p ∈ adsT H t v → Own1 G F H p
  | _, _, .nil, h => by rw [adsT_nil] at h; cases h
  | _, _, .cons a b, h => by
    rw [adsT_cons] at h
    rcases List.mem_append.mp h with z | z
    · exact TOk.one a z
    · exact TOkt.one b z
theorem TOkf.one : ∀ {t : List (Str × T)} {v : List (Str × V)}, TOkf G F H t v → p ∈ adsF H t v → Own1 G F H p
  | _, _, .nil, h => by rw [adsF_nil] at h; cases h
  | _, _, .cons a b, h => by
    rw [adsF_cons] at h
    rcases List.mem_append.mp h with z | z
    · exact TOk.one a z
    · exact TOkf.one b z
end
/-- the owned addresses stand as they stood -/
def Stay (B' : Base) (H F' H' : Hp) (S : List Addr) : Prop := ∀ q, q ∈ S → F' q = none ∧ H' q = H q ∧ (B'.H q = none ∨ B'.W q)
theorem Stay.left {B' : Base} {S S' : List Addr} (h : Stay B' H F' H' (S ++ S')) : Stay B' H F' H' S := fun q z => h q (List.mem_append_left _ z)
theorem Stay.right {B' : Base} {S S' : List Addr} (h : Stay B' H F' H' (S ++ S')) : Stay B' H F' H' S' := fun q z => h q (List.mem_append_right _ z)
theorem Stay.tail {B' : Base} {S : List Addr} (h : Stay B' H F' H' (p :: S)) : Stay B' H F' H' S := fun q z => h q (List.mem_cons_of_mem _ z)
theorem Node.move {B' : Base} {S : List Addr} (n : Node G F H p o) (h : Stay B' H F' H' (p :: S)) : Node ⟨G.K, G.mg, B'⟩ F' H' p o :=
  ⟨(h p (List.mem_cons_self ..)).1, (h p (List.mem_cons_self ..)).2.2, by rw [(h p (List.mem_cons_self ..)).2.1]; exact n.2.2⟩
theorem ObD.grow {B' : Base} (x : Ex F F') (h : ObD G F o d) : ObD ⟨G.K, G.mg, B'⟩ F' o d := by
  cases o <;> cases d <;> first | exact h.elim | exact DDs.mono x h | exact DDk.mono x h | exact DDt.mono x h | exact ⟨h.1, DDf.mono x h.2⟩
section
variable {B' : Base} (x : Ex F F')
include x
mutual
theorem TOk.move : ∀ {t : T} {v : V}, TOk G F H t v → Stay B' H F' H' (ads H t v) → TOk ⟨G.K, G.mg, B'⟩ F' H' t v ∧ ads H' t v = ads H t v
  | _, _, .fz d, h => ⟨.fz (d.mono x), by rw [ads_fz, ads_fz]⟩
  | _, _, .fl o, h => by
    rw [ads_fl] at h
    obtain ⟨a, b, c⟩ := h _ (List.mem_singleton.mpr rfl)
    obtain ⟨_, _, u, e, g⟩ := o
    exact ⟨.fl ⟨a, c, u, by rw [b]; exact e, g.grow x⟩, by rw [ads_fl, ads_fl]⟩
  | _, _, .lst n q, h => by
    rw [ads_lst n.2.2] at h ⊢
    have n' := n.move h
    obtain ⟨a, b⟩ := TOks.move q h.tail
    exact ⟨.lst n' a, by rw [ads_lst n'.2.2, b]⟩
  | _, _, .dk n q, h => by
    rw [ads_dk n.2.2] at h ⊢
    have n' := n.move h
    obtain ⟨a, b⟩ := TOkk.move q h.tail
    exact ⟨.dk n' a, by rw [ads_dk n'.2.2, b]⟩
  | _, _, .dt n q, h => by
    rw [ads_dt n.2.2] at h ⊢
    have n' := n.move h
    obtain ⟨a, b⟩ := TOkt.move q h.tail
    exact ⟨.dt n' a, by rw [ads_dt n'.2.2, b]⟩
  | _, _, .ins m n q, h => by
    rw [ads_ins n.2.2] at h ⊢
    have n' := n.move h
    obtain ⟨a, b⟩ := TOkf.move q h.tail
    exact ⟨.ins m n' a, by rw [ads_ins n'.2.2, b]⟩
theorem TOks.move : ∀ {t : List T} {v : List V}, TOks G F H t v → Stay B' H F' H' (adsL H t v) → TOks ⟨G.K, G.mg, B'⟩ F' H' t v ∧ adsL H' t v = adsL H t v
  | _, _, .nil, h => ⟨.nil, by rw [adsL_nil, adsL_nil]⟩
  | _, _, .cons a b, h => by
    rw [adsL_cons] at h
    obtain ⟨a1, a2⟩ := TOk.move a h.left
    obtain ⟨b1, b2⟩ := TOks.move b h.right
    exact ⟨.cons a1 b1, by rw [adsL_cons, adsL_cons, a2, b2]⟩
theorem TOkk.move : ∀ {t : List (Key × T)} {v : List (Key × V)}, TOkk G F H t v → Stay B' H F' H' (adsK H t v) → TOkk ⟨G.K, G.mg, B'⟩ F' H' t v ∧ adsK H' t v = adsK H t v
  | _, _, .nil, h => ⟨.nil, by rw [adsK_nil, adsK_nil]⟩
  | _, _, .cons a b, h => by
    rw [adsK_cons] at h
    obtain ⟨a1, a2⟩ := TOk.move a h.left
    obtain ⟨b1, b2⟩ := TOkk.move b h.right
    exact ⟨.cons a1 b1, by rw [adsK_cons, adsK_cons, a2, b2]⟩
theorem TOkt.move : ∀ {t : List (List Key × T)} {v : List (List Key × V)}, TOkt G F H t v → Stay B' H F' H' (adsT H t v) → TOkt ⟨G.K, G.mg, B'⟩ F' H' t v ∧ adsT H' t v = adsT H t v
  | _, _, .nil, h => ⟨.nil, by rw [adsT_nil, adsT_nil]⟩
  | _, _, .cons a b, h => by
    rw [adsT_cons] at h
    obtain ⟨a1, a2⟩ := TOk.move a h.left
    obtain ⟨b1, b2⟩ := TOkt.move b h.right
    exact ⟨.cons a1 b1, by rw [adsT_cons, adsT_cons, a2, b2]⟩
theorem TOkf.move : ∀ {t : List (Str × T)} {v : List (Str × V)}, TOkf G F H t v → Stay B' H F' H' (adsF H t v) → TOkf ⟨G.K, G.mg, B'⟩ F' H' t v ∧ adsF H' t v = adsF H t v
  | _, _, .nil, h => ⟨.nil, by rw [adsF_nil, adsF_nil]⟩
  | _, _, .cons a b, h => by
    rw [adsF_cons] at h
    obtain ⟨a1, a2⟩ := TOk.move a h.left
    obtain ⟨b1, b2⟩ := TOkf.move b h.right
    exact ⟨.cons a1 b1, by rw [adsF_cons, adsF_cons, a2, b2]⟩
end
end
theorem EnOk.own_at {v : Option V} (h : EnOk G F H (v, k)) (ho : p ∈ adE H (v, k)) : Own1 G F H p := by
  cases k with
  | emp => cases ho
  | ali i => cases ho
  | dat d => cases ho
  | pdt d => cases ho
  | own d =>
    obtain ⟨q, rfl, o⟩ := h
    cases List.mem_singleton.mp ho
    exact o.one
  | par d =>
    obtain ⟨q, rfl, o⟩ := h
    cases List.mem_singleton.mp ho
    exact o.one
  | tre t =>
    obtain ⟨q, rfl, o, _⟩ := h
    exact o.one ho
  | ptr t =>
    obtain ⟨q, rfl, o, _⟩ := h
    exact o.one ho
/-- all moves: the base, the frozen part, the heap -/
theorem EnOk.move {B' : Base} (h : EnOk G F H e) (x : Ex F F') (hF : Stay B' H F' H' (adE H e)) : EnOk ⟨G.K, G.mg, B'⟩ F' H' e ∧ adE H' e = adE H e := by
  obtain ⟨v, k⟩ := e
  cases k with
  | emp => exact ⟨trivial, rfl⟩
  | ali i => exact ⟨trivial, rfl⟩
  | dat d => obtain ⟨y, e, q⟩ := h; exact ⟨⟨y, e, q.mono x⟩, rfl⟩
  | pdt d => obtain ⟨y, e, q⟩ := h; exact ⟨⟨y, e, q.mono x⟩, rfl⟩
  | own d =>
    obtain ⟨p, rfl, h1, h2, o, h3, h4⟩ := h
    obtain ⟨f1, f2, f3⟩ := hF p (List.mem_singleton.mpr rfl)
    exact ⟨⟨p, rfl, f1, f3, o, by rw [f2]; exact h3, h4.grow x⟩, rfl⟩
  | par d =>
    obtain ⟨p, rfl, h1, h2, o, h3, h4⟩ := h
    obtain ⟨f1, f2, f3⟩ := hF p (List.mem_singleton.mpr rfl)
    exact ⟨⟨p, rfl, f1, f3, o, by rw [f2]; exact h3, h4.grow x⟩, rfl⟩
  | tre t =>
    obtain ⟨y, rfl, h1, h2⟩ := h
    obtain ⟨a, b⟩ := h1.move x hF
    exact ⟨⟨y, rfl, a, by rw [b]; exact h2⟩, b⟩
  | ptr t =>
    obtain ⟨y, rfl, h1, h2⟩ := h
    obtain ⟨a, b⟩ := h1.move x hF
    exact ⟨⟨y, rfl, a, by rw [b]; exact h2⟩, b⟩
/-- the heap and the frozen part grow, the owned objects stay -/
theorem EnOk.grow (h : EnOk G F H e) (x : Ex F F') (hF : ∀ q, q ∈ adE H e → F' q = none ∧ H' q = H q) : EnOk G F' H' e ∧ adE H' e = adE H e :=
  h.move (B' := G.B) x fun q hq => ⟨(hF q hq).1, (hF q hq).2, by obtain ⟨v, k⟩ := e; exact (h.own_at hq).2.1⟩
theorem Good.grow (g : Good G F H E) (x : Ex F F') (hF : ∀ (n : Nat) (e : Ent) q, E[n]? = some e → q ∈ adE H e → F' q = none ∧ H' q = H q) : Good G F' H' E :=
  ⟨fun n e he => ((g.all n e he).grow x fun q hq => hF n e q he hq).1, fun m n e e' p h1 h2 o1 o2 => by
    rw [((g.all m e h1).grow x fun q hq => hF m e q h1 hq).2] at o1
    rw [((g.all n e' h2).grow x fun q hq => hF n e' q h2 hq).2] at o2
    exact g.nd m n e e' p h1 h2 o1 o2⟩
theorem Good.one (g : Good G F H E) {n : Nat} (he : E[n]? = some e) (ho : p ∈ adE H e) : Own1 G F H p := by
  obtain ⟨v, k⟩ := e
  exact (g.all n _ he).own_at ho
theorem Good.owned (g : Good G F H E) {n : Nat} (he : E[n]? = some e) (ho : p ∈ adE H e) : F p = none ∧ ∃ o, H p = some o := by
  obtain ⟨h1, _, o, h3, _⟩ := g.one he ho
  exact ⟨h1, o, h3⟩
/-- a new object: nothing owned stands there -/
theorem Good.new (g : Good G F H E) (hp : H p = none) : ∀ (n : Nat) (e : Ent) q, E[n]? = some e → q ∈ adE H e → q ≠ p := fun n e q he hq z => by
  obtain ⟨_, o, h⟩ := g.owned he hq
  rw [z, hp] at h; cases h
theorem Good.cons (g : Good G F H E) (h : EnOk G F H e) (hd : ∀ p, p ∈ adE H e → ∀ (n : Nat) (e' : Ent), E[n]? = some e' → p ∉ adE H e') : Good G F H (e :: E) := by
  refine ⟨fun n e' he => ?_, fun m n e1 e2 p h1 h2 o1 o2 => ?_⟩
  · cases n with
    | zero => rw [List.getElem?_cons_zero] at he; cases he; exact h
    | succ n => rw [List.getElem?_cons_succ] at he; exact g.all n e' he
  · cases m with
    | zero =>
      rw [List.getElem?_cons_zero] at h1; cases h1
      cases n with
      | zero => rfl
      | succ n => rw [List.getElem?_cons_succ] at h2; exact absurd o2 (hd p o1 n e2 h2)
    | succ m =>
      rw [List.getElem?_cons_succ] at h1
      cases n with
      | zero => rw [List.getElem?_cons_zero] at h2; cases h2; exact absurd o1 (hd p o2 m e1 h1)
      | succ n => rw [List.getElem?_cons_succ] at h2; rw [g.nd m n e1 e2 p h1 h2 o1 o2]
theorem Good.tail (g : Good G F H (e :: E)) : Good G F H E :=
  ⟨fun n e' he => g.all (n + 1) e' (by rw [List.getElem?_cons_succ]; exact he), fun m n e1 e2 p h1 h2 o1 o2 => by
    have := g.nd (m + 1) (n + 1) e1 e2 p (by rw [List.getElem?_cons_succ]; exact h1) (by rw [List.getElem?_cons_succ]; exact h2) o1 o2
    omega⟩
theorem Good.head (g : Good G F H (e :: E)) : EnOk G F H e := g.all 0 e rfl
theorem Good.head_ne (g : Good G F H (e :: E)) (ho : p ∈ adE H e) : ∀ (n : Nat) (e' : Ent), E[n]? = some e' → p ∉ adE H e' := fun n e' he z => by
  have := g.nd 0 (n + 1) e e' p rfl (by rw [List.getElem?_cons_succ]; exact he) ho z
  omega
/-- an entry is replaced -/
theorem Good.set (g : Good G F H E) {n : Nat} (h : EnOk G F H e) (hd : ∀ p, p ∈ adE H e → ∀ (m : Nat) (e' : Ent), m ≠ n → E[m]? = some e' → p ∉ adE H e') : Good G F H (E.set n e) := by
  have look : ∀ (m : Nat) (e' : Ent), (E.set n e)[m]? = some e' → (m = n ∧ e' = e) ∨ (m ≠ n ∧ E[m]? = some e') := fun m e' he => by
    by_cases hm : m = n
    · subst hm
      rw [List.getElem?_set] at he
      simp only [if_true] at he
      split at he
      · cases he; exact .inl ⟨rfl, rfl⟩
      · cases he
    · rw [List.getElem?_set_ne (Ne.symm hm)] at he
      exact .inr ⟨hm, he⟩
  refine ⟨fun m e' he => ?_, fun m m' e1 e2 p h1 h2 o1 o2 => ?_⟩
  · rcases look m e' he with ⟨_, rfl⟩ | ⟨_, q⟩
    · exact h
    · exact g.all m e' q
  · rcases look m e1 h1 with ⟨a1, b1⟩ | ⟨a1, b1⟩ <;> rcases look m' e2 h2 with ⟨a2, b2⟩ | ⟨a2, b2⟩
    · rw [a1, a2]
    · rw [b1] at o1; exact absurd o2 (hd p o1 m' e2 a2 b2)
    · rw [b2] at o2; exact absurd o1 (hd p o2 m e1 a1 b1)
    · exact g.nd m m' e1 e2 p b1 b2 o1 o2
/-- entry n takes over: what it owned may have changed, all else stays -/
theorem Good.take (g : Good G F H E) {n : Nat} {e0 : Ent} (he : E[n]? = some e0) (x : Ex F F') (hS : ∀ q, q ∉ adE H e0 → (F' q = F q ∨ H q = none) ∧ (H' q = H q ∨ H q = none))
    (h : EnOk G F' H' e) (hs : ∀ q, q ∈ adE H' e → q ∈ adE H e0 ∨ H q = none) : Good G F' H' (E.set n e) := by
  have other : ∀ {m : Nat} {e' : Ent} {q : Addr}, m ≠ n → E[m]? = some e' → q ∈ adE H e' → q ∉ adE H e0 ∧ F q = none ∧ ∃ o, H q = some o := fun {m e' q} hmn hm hq =>
    ⟨fun z => hmn (g.nd m n e' e0 q hm he hq z), g.owned hm hq⟩
  have st : ∀ {q : Addr} {o : HO}, H q = some o → F q = none → (F' q = F q ∨ H q = none) ∧ (H' q = H q ∨ H q = none) → F' q = none ∧ H' q = H q := fun c b s =>
    ⟨s.1.elim (fun z => z.trans b) (fun z => by rw [c] at z; cases z), s.2.elim id (fun z => by rw [c] at z; cases z)⟩
  have gr : Good G F' H' (E.set n (e0.1, .emp)) := by
    refine Good.grow (H := H) (F := F) (g.set (e := (e0.1, Slot.emp)) trivial fun q hq => by cases hq) x fun m e' q hm hq => ?_
    by_cases hmn : m = n
    · subst hmn
      rw [List.getElem?_set] at hm
      simp only [if_true] at hm
      split at hm
      · cases hm; cases hq
      · cases hm
    · rw [List.getElem?_set_ne (Ne.symm hmn)] at hm
      obtain ⟨a, b, o, c⟩ := other hmn hm hq
      exact st c b (hS q a)
  have := gr.set (n := n) (e := e) h (fun q hq m e' hmn hm z => by
    rw [List.getElem?_set_ne (Ne.symm hmn)] at hm
    have ad : adE H' e' = adE H e' := ((g.all m e' hm).grow (F' := F') (H' := H') x fun q' hq' => by
      obtain ⟨a, b, o, c⟩ := other hmn hm hq'
      exact st c b (hS q' a)).2
    rw [ad] at z
    obtain ⟨a, _, o, c⟩ := other hmn hm z
    rcases hs q hq with y | y
    · exact a y
    · rw [c] at y; cases y)
  rw [List.set_set] at this
  exact this
/-- the object of entry n is changed: H' -/
theorem Good.mut (g : Good G F H E) {n : Nat} {v : Option V} {c : D → Slot} (hc : c = Slot.own ∨ c = Slot.par) (he : E[n]? = some (v, c d)) (ho : v = some (.ref p)) (hb : ObD G F o' d') :
    Good G F (L2.upd H p o') (E.set n (v, c d')) := by
  subst ho
  have own : ∀ {H : Hp} {d : D}, adE H (some (.ref p), c d) = [p] := fun {H d} => by rcases hc with rfl | rfl <;> rfl
  have o1 := g.one he (p := p) (by rw [own]; exact List.mem_singleton.mpr rfl)
  refine g.take he Ex.rfl (fun q hq => ⟨.inl rfl, .inl (upd_ne fun z => hq (by rw [own, z]; exact List.mem_singleton.mpr rfl))⟩) ?_ fun q hq => .inl (by rw [own] at hq ⊢; exact hq)
  have w : OwnAt G F (L2.upd H p o') p d' := ⟨o1.1, o1.2.1, o', upd_same, hb⟩
  rcases hc with rfl | rfl <;> exact ⟨p, rfl, w⟩
/-- the object of entry n is frozen -/
theorem Good.freeze (g : Good G F H E) {n : Nat} {v : Option V} {c c' : D → Slot} (hc : c = Slot.own ∨ c = Slot.par) (hc' : c' = Slot.dat ∨ c' = Slot.pdt) (he : E[n]? = some (v, c d)) :
    ∃ p o, v = some (.ref p) ∧ F p = none ∧ H p = some o ∧ (G.B.H p = none ∨ G.B.W p) ∧ DD G.K G.mg (L2.upd F p o) d (.ref p) ∧ Good G (L2.upd F p o) H (E.set n (v, c' d)) := by
  have hk : ∃ p, v = some (.ref p) ∧ OwnAt G F H p d := by
    have := g.all n _ he
    rcases hc with rfl | rfl <;> exact this
  obtain ⟨p, rfl, h1, h2, o, h3, h4⟩ := hk
  have own : adE H (some (.ref p), c d) = [p] := by rcases hc with rfl | rfl <;> rfl
  have x : Ex F (L2.upd F p o) := Ex.upd h1
  have dd : DD G.K G.mg (L2.upd F p o) d (.ref p) := (h4.mono x).dd upd_same
  refine ⟨p, o, rfl, h1, h3, h2, dd, ?_⟩
  refine g.take he x (fun q hq => ⟨.inl (upd_ne fun z => hq (by rw [own, z]; exact List.mem_singleton.mpr rfl)), .inl rfl⟩) (by rcases hc' with rfl | rfl <;> exact ⟨_, rfl, dd⟩) fun q hq => by rcases hc' with rfl | rfl <;> cases hq
/-- the order does not matter -/
theorem Good.perm {E' : List Ent} (g : Good G F H E) (h : E.Perm E') : Good G F H E' := by
  have pw : E.Pairwise fun a b => ∀ p, p ∈ adE H a → p ∉ adE H b := by
    rw [List.pairwise_iff_getElem]
    intro i j hi hj hij p h1 h2
    have := g.nd i j _ _ p (List.getElem?_eq_getElem hi) (List.getElem?_eq_getElem hj) h1 h2
    omega
  have pw' : E'.Pairwise fun a b => ∀ p, p ∈ adE H a → p ∉ adE H b := (h.pairwise_iff (fun {a b} q p h1 h2 => q p h2 h1)).mp pw
  rw [List.pairwise_iff_getElem] at pw'
  refine ⟨fun n e he => ?_, fun m n e e' p h1 h2 o1 o2 => ?_⟩
  · obtain ⟨k, hk⟩ := List.getElem?_of_mem (h.mem_iff.mpr (List.mem_of_getElem? he))
    exact g.all k e hk
  · obtain ⟨a1, b1⟩ := List.getElem?_eq_some_iff.mp h1
    obtain ⟨a2, b2⟩ := List.getElem?_eq_some_iff.mp h2
    rcases Nat.lt_trichotomy m n with z | z | z
    · exact absurd (by rw [b2]; exact o2) (pw' m n a1 a2 z p (by rw [b1]; exact o1))
    · exact z
    · exact absurd (by rw [b1]; exact o1) (pw' n m a2 a1 z p (by rw [b2]; exact o2))
/-! ### a whole tree is frozen -/
section
variable (x : Ex F F')
include x
mutual
theorem TOk.dd : ∀ {t : T} {v : V}, TOk G F H t v → (∀ q, q ∈ ads H t v → F' q = H q) → DD G.K G.mg F' t.er v
  | _, _, .fz d, _ => by rw [T.er]; exact d.mono x
  | _, _, .fl (p := p) o, h => by
    rw [ads_fl] at h
    obtain ⟨_, _, u, e, g⟩ := o
    rw [T.er]
    exact (g.mono x).dd (by rw [h p (List.mem_singleton.mpr rfl)]; exact e)
  | _, _, .lst n q, h => by
    rw [ads_lst n.2.2] at h
    rw [T.er]
    exact .lst (by rw [h _ (List.mem_cons_self ..)]; exact n.2.2) (TOks.dd q fun a z => h a (List.mem_cons_of_mem _ z))
  | _, _, .dk n q, h => by
    rw [ads_dk n.2.2] at h
    rw [T.er]
    exact .dk (by rw [h _ (List.mem_cons_self ..)]; exact n.2.2) (TOkk.dd q fun a z => h a (List.mem_cons_of_mem _ z))
  | _, _, .dt n q, h => by
    rw [ads_dt n.2.2] at h
    rw [T.er]
    exact .dt (by rw [h _ (List.mem_cons_self ..)]; exact n.2.2) (TOkt.dd q fun a z => h a (List.mem_cons_of_mem _ z))
  | _, _, .ins m n q, h => by
    rw [ads_ins n.2.2] at h
    rw [T.er]
    exact .ins m (by rw [h _ (List.mem_cons_self ..)]; exact n.2.2) (TOkf.dd q fun a z => h a (List.mem_cons_of_mem _ z))
theorem TOks.dd : ∀ {t : List T} {v : List V}, TOks G F H t v → (∀ q, q ∈ adsL H t v → F' q = H q) → DDs G.K G.mg F' (T.ers t) v
  | _, _, .nil, _ => by rw [T.ers]; exact .nil
  | _, _, .cons a b, h => by
    rw [adsL_cons] at h
    rw [T.ers]
    exact .cons (TOk.dd a fun q z => h q (List.mem_append_left _ z)) (TOks.dd b fun q z => h q (List.mem_append_right _ z))
theorem TOkk.dd : ∀ {t : List (Key × T)} {v : List (Key × V)}, TOkk G F H t v → (∀ q, q ∈ adsK H t v → F' q = H q) → DDk G.K G.mg F' (T.erk t) v
  | _, _, .nil, _ => by rw [T.erk]; exact .nil
  | _, _, .cons a b, h => by
    rw [adsK_cons] at h
    rw [T.erk]
    exact .cons (TOk.dd a fun q z => h q (List.mem_append_left _ z)) (TOkk.dd b fun q z => h q (List.mem_append_right _ z))
theorem TOkt.dd : ∀ {t : List (List Key × T)} {v : List (List Key × V)}, TOkt G F H t v → (∀ q, q ∈ adsT H t v → F' q = H q) → DDt G.K G.mg F' (T.ert t) v
  | _, _, .nil, _ => by rw [T.ert]; exact .nil
  | _, _, .cons a b, h => by
    rw [adsT_cons] at h
    rw [T.ert]
    exact .cons (TOk.dd a fun q z => h q (List.mem_append_left _ z)) (TOkt.dd b fun q z => h q (List.mem_append_right _ z))
theorem TOkf.dd : ∀ {t : List (Str × T)} {v : List (Str × V)}, TOkf G F H t v → (∀ q, q ∈ adsF H t v → F' q = H q) → DDf G.K G.mg F' (T.erf t) v
  | _, _, .nil, _ => by rw [T.erf]; exact .nil
  | _, _, .cons a b, h => by
    rw [adsF_cons] at h
    rw [T.erf]
    exact .cons (TOk.dd a fun q z => h q (List.mem_append_left _ z)) (TOkf.dd b fun q z => h q (List.mem_append_right _ z))
end
end
/-- what is frozen, with the places of S -/
def frzS (F H : Hp) (S : List Addr) : Hp := fun q => if q ∈ S then H q else F q
theorem frzS_in {S : List Addr} {q : Addr} (h : q ∈ S) : frzS F H S q = H q := if_pos h
theorem frzS_out {S : List Addr} {q : Addr} (h : q ∉ S) : frzS F H S q = F q := if_neg h
theorem TOk.ex {t : T} (h : TOk G F H t v) : Ex F (frzS F H (ads H t v)) := fun a o e => by
  by_cases ha : a ∈ ads H t v
  · rw [(h.one ha).1] at e; cases e
  · rw [frzS_out ha]; exact e
theorem frzS_ex {S : List Addr} (x : Ex F H) : Ex (frzS F H S) H := fun a o e => by
  by_cases ha : a ∈ S
  · rw [frzS_in ha] at e; exact e
  · rw [frzS_out ha] at e; exact x a o e
/-- the tree of entry n is frozen -/
theorem Good.freezeT (g : Good G F H E) {n : Nat} {v : Option V} {t : T} {c : T → Slot} {c' : D → Slot} (hc : c = Slot.tre ∨ c = Slot.ptr) (hc' : c' = Slot.dat ∨ c' = Slot.pdt) (he : E[n]? = some (v, c t)) :
    ∃ y, v = some y ∧ TOk G F H t y ∧ DD G.K G.mg (frzS F H (ads H t y)) t.er y ∧ Good G (frzS F H (ads H t y)) H (E.set n (v, c' t.er)) := by
  have hk : ∃ y, v = some y ∧ TOk G F H t y ∧ (ads H t y).Nodup := by
    have := g.all n _ he
    rcases hc with rfl | rfl <;> exact this
  obtain ⟨y, rfl, h1, h2⟩ := hk
  have own : adE H (some y, c t) = ads H t y := by rcases hc with rfl | rfl <;> rfl
  have x := h1.ex
  have dd := h1.dd x fun q hq => frzS_in hq
  refine ⟨y, rfl, h1, dd, ?_⟩
  refine g.take he x (fun q hq => ⟨.inl (frzS_out (by rw [own] at hq; exact hq)), .inl rfl⟩) (by rcases hc' with rfl | rfl <;> exact ⟨_, rfl, dd⟩) fun q hq => by rcases hc' with rfl | rfl <;> cases hq
end
end VM

set_option Elab.async false
set_option linter.all false
set_option maxRecDepth 100000
namespace VM
open PySem L2
section
variable {G : Cfg} {F F' H H' : Hp} {σ : St} {ls : LS} {vs : List V} {ks : List Slot} {v : V} {k : Slot} {d d' : D} {p : Addr} {o o' : HO} {i : Nat} {E : List Ent} {e e' : Ent}

theorem ent_loc (hk : vs.length = ks.length) : (ent vs ks σ ls)[vs.length + i]? = (σ.zip ls)[i]? := by
  unfold ent
  rw [List.getElem?_append_right (by simp [hk])]
  congr 1
  simp [hk]
theorem zip_at {v : Option V} (h1 : σ[i]? = some v) (h2 : ls[i]? = some k) : (σ.zip ls)[i]? = some (v, k) := by
  rw [List.getElem?_zip_eq_some]; exact ⟨h1, h2⟩
theorem zip_set {α β : Type} (a : α) (b : β) : ∀ (l : List α) (r : List β) (i : Nat), (l.set i a).zip (r.set i b) = (l.zip r).set i (a, b)
  | [], _, _ => by simp
  | _ :: _, [], _ => by simp
  | x :: l, y :: r, 0 => rfl
  | x :: l, y :: r, i + 1 => by
    show (x, y) :: (l.set i a).zip (r.set i b) = (x, y) :: (l.zip r).set i (a, b)
    rw [zip_set a b l r i]
theorem ent_set {v : Option V} (hk : vs.length = ks.length) : ent vs ks (σ.set i v) (ls.set i k) = (ent vs ks σ ls).set (vs.length + i) (v, k) := by
  unfold ent
  rw [zip_set, List.set_append]
  have h : ((vs.map some).zip ks).length = vs.length := by simp [hk]
  rw [h, if_neg (by omega)]
  congr 2
  omega
theorem ent_setl {v : Option V} (hk : vs.length = ks.length) (h1 : σ[i]? = some v) : ent vs ks σ (ls.set i k) = (ent vs ks σ ls).set (vs.length + i) (v, k) := by
  have : σ.set i v = σ := by
    obtain ⟨hl, he⟩ := List.getElem?_eq_some_iff.mp h1
    rw [← he]
    exact List.set_getElem_self hl
  rw [← ent_set hk, this]

/-- what a local's slot holds -/
theorem Rp.loc (R : Rp G F H σ ls vs ks) (h : ls[i]? = some k) : ∃ v, σ[i]? = some v ∧ EnOk G F H (v, k) := by
  have hl := (List.getElem?_eq_some_iff.mp h).1
  have hs : i < σ.length := by rw [R.len]; exact hl
  refine ⟨σ[i], List.getElem?_eq_getElem hs, R.good.all (vs.length + i) _ ?_⟩
  rw [ent_loc R.klen]
  exact zip_at (List.getElem?_eq_getElem hs) h

/-! ### pushes -/
theorem Rp.pushDat (R : Rp G F H σ ls vs ks) (h : DD G.K G.mg F d v) : Rp G F H σ ls (v :: vs) (.dat d :: ks) :=
  ⟨R.ex, R.ex0, R.len, by simp [R.klen], R.good.cons (e := (some v, .dat d)) ⟨v, rfl, h⟩ (fun q hq => by cases hq), fun w i' hj => by
    rcases List.mem_cons.mp hj with z | z
    · cases z
    · exact R.al w i' z, R.pin, R.b1, R.b2, R.b3⟩
theorem Rp.pushAli (R : Rp G F H σ ls vs ks) (h1 : σ[i]? = some (some v)) (h2 : ls[i]? = some k) (hl : k.live = true) : Rp G F H σ ls (v :: vs) (.ali i :: ks) :=
  ⟨R.ex, R.ex0, R.len, by simp [R.klen], R.good.cons (e := (some v, .ali i)) trivial (fun q hq => by cases hq), fun w i' hj => by
    rcases List.mem_cons.mp hj with z | z
    · cases z; exact ⟨k, h1, h2, hl⟩
    · exact R.al w i' z, R.pin, R.b1, R.b2, R.b3⟩
theorem Rp.pop (R : Rp G F H σ ls (v :: vs) (k :: ks)) : Rp G F H σ ls vs ks :=
  ⟨R.ex, R.ex0, R.len, by have := R.klen; simpa using this, R.good.tail, fun w i' hj => R.al w i' (List.mem_cons_of_mem _ hj), R.pin, R.b1, R.b2, R.b3⟩
theorem Rp.popN : ∀ (as : List Slot) (ws : List V), ws.length = as.length → Rp G F H σ ls (ws ++ vs) (as ++ ks) → Rp G F H σ ls vs ks
  | [], [], _, R => R
  | _ :: as, _ :: ws, h, R => Rp.popN as ws (by simpa using h) R.pop
  | [], _ :: _, h, _ => by simp at h
  | _ :: _, [], h, _ => by simp at h
/-- an entry amid the stack comes on top -/
theorem Rp.rot {ws : List V} {as : List Slot} (hl : ws.length = as.length) (R : Rp G F H σ ls (ws ++ v :: vs) (as ++ k :: ks)) : Rp G F H σ ls (v :: (ws ++ vs)) (k :: (as ++ ks)) := by
  have z : ∀ {α : Type} (f : V → α), ((ws ++ v :: vs).map f).zip (as ++ k :: ks) = (ws.map f).zip as ++ (f v, k) :: (vs.map f).zip ks := fun f => by
    rw [List.map_append, List.zip_append (by simp [hl])]; rfl
  have z' : ∀ {α : Type} (f : V → α), ((v :: (ws ++ vs)).map f).zip (k :: (as ++ ks)) = (f v, k) :: ((ws.map f).zip as ++ (vs.map f).zip ks) := fun f => by
    rw [List.map_cons, List.zip_cons_cons, List.map_append, List.zip_append (by simp [hl])]
  have kl := R.klen
  refine ⟨R.ex, R.ex0, R.len, by simp at kl ⊢; omega, ?_, fun w i' hj => ?_, R.pin, R.b1, R.b2, R.b3⟩
  · refine R.good.perm ?_
    unfold ent
    rw [z some, z' some, List.append_assoc]
    rw [List.cons_append, List.cons_append, List.append_assoc]
    exact List.perm_middle
  · refine R.al w i' ?_
    have h1 := z id
    have h2 := z' id
    simp only [List.map_id] at h1 h2
    rw [h2] at hj
    rw [h1]
    simp only [List.mem_cons, List.mem_append] at hj ⊢
    rcases hj with q | q | q
    · exact .inr (.inl q)
    · exact .inl q
    · exact .inr (.inr q)
/-- a fresh place was fresh at the entry -/
theorem Rp.fresh (R : Rp G F H σ ls vs ks) (hp : H p = none) : G.B.H p = none ∧ F p = none := by
  refine ⟨?_, ?_⟩
  · cases e : G.B.H p with
    | none => rfl
    | some o => exact absurd hp (R.b2 p (by rw [e]; exact Option.some_ne_none o))
  · cases e : F p with
    | none => rfl
    | some o => rw [R.ex p o e] at hp; cases hp
theorem Good.adNew (g : Good G F H E) (hp : H p = none) {n : Nat} (he : E[n]? = some e) : adE (L2.upd H p o) e = adE H e :=
  ((g.all n e he).grow (F' := F) (H' := L2.upd H p o) Ex.rfl fun q hq => ⟨(g.owned he hq).1, upd_ne (g.new hp n e q he hq)⟩).2
/-- a new object that is tracked, no entry -/
theorem Rp.heapNew (R : Rp G F H σ ls vs ks) (hp : H p = none) : Rp G F (L2.upd H p o) σ ls vs ks :=
  ⟨R.ex.trans (Ex.upd hp), R.ex0, R.len, R.klen, R.good.grow Ex.rfl fun n e q he hq => ⟨(R.good.owned he hq).1, upd_ne (R.good.new hp n e q he hq)⟩, R.al, R.pin,
    fun b u e => (R.b1 b u e).imp id fun z => (Ex.upd hp) b u z, fun b z => by
      by_cases hb : b = p
      · subst hb; rw [upd_same]; exact Option.some_ne_none _
      · rw [upd_ne hb]; exact R.b2 b z, R.b3⟩
/-- what is new may be frozen -/
theorem Rp.frzNew (R : Rp G F H σ ls vs ks) (hp : H p = none) : Rp G (L2.upd F p o) (L2.upd H p o) σ ls vs ks := by
  have R1 := R.heapNew (o := o) hp
  obtain ⟨hb, hf⟩ := R.fresh hp
  refine ⟨fun a u e => ?_, R.ex0.trans (Ex.upd hf), R.len, R.klen, R1.good.grow (Ex.upd hf) fun n e q he hq => ⟨?_, rfl⟩, R.al, R.pin, R1.b1, R1.b2, fun b z => ?_⟩
  · by_cases ha : a = p
    · subst ha; rw [upd_same] at e ⊢; exact e
    · rw [upd_ne ha] at e ⊢; exact R.ex a u e
  · rw [R.good.adNew hp he] at hq
    rw [upd_ne (R.good.new hp n e q he hq)]; exact (R.good.owned he hq).1
  · by_cases hbp : b = p
    · subst hbp; exact .inr (.inr (.inl hb))
    · rw [upd_ne hbp] at z ⊢; exact R.b3 b z
theorem Rp.pushOwn (R : Rp G F H σ ls vs ks) (hp : H p = none) (h : ObD G F o d) : Rp G F (L2.upd H p o) σ ls (.ref p :: vs) (.own d :: ks) := by
  have R1 := R.heapNew (o := o) hp
  obtain ⟨hb, hf⟩ := R.fresh hp
  refine ⟨R1.ex, R1.ex0, R1.len, by simp [R.klen], R1.good.cons (e := (some (.ref p), .own d)) ⟨p, rfl, hf, .inl hb, o, upd_same, h⟩ (fun q hq n e' he z => ?_), fun w i' hj => by
    rcases List.mem_cons.mp hj with z | z
    · cases z
    · exact R.al w i' z, R.pin, R1.b1, R1.b2, R1.b3⟩
  cases List.mem_singleton.mp hq
  have zz := z
  rw [R.good.adNew hp he] at zz
  exact R.good.new hp n e' p he zz rfl
theorem Rp.pushTup {ds : List D} {xs : List V} (R : Rp G F H σ ls vs ks) (hp : H p = none) (h : DDs G.K G.mg F ds xs) : Rp G (L2.upd F p (.tup xs)) (L2.upd H p (.tup xs)) σ ls (.ref p :: vs) (.dat (.tup ds) :: ks) :=
  (R.frzNew hp).pushDat (.tup upd_same (h.mono (Ex.upd (R.fresh hp).2)))

/-! ### changes -/
/-- the object at p, ours, is changed -/
theorem Rp.base (R : Rp G F H σ ls vs ks) {n : Nat} {e : Ent} (he : (ent vs ks σ ls)[n]? = some e) (ho : p ∈ adE H e) : F p = none ∧ (G.B.H p = none ∨ G.B.W p) ∧ (∃ o, H p = some o) := by
  obtain ⟨v, k⟩ := e
  obtain ⟨h1, h2, o, h3, _⟩ := (R.good.all n _ he).own_at ho
  exact ⟨h1, h2, o, h3⟩
theorem Rp.mutB (R : Rp G F H σ ls vs ks) (h1 : F p = none) (h2 : G.B.H p = none ∨ G.B.W p) :
    (∀ b u, G.B.H b = some u → G.B.W b ∨ (L2.upd H p o') b = some u) ∧ (∀ b, G.B.H b ≠ none → (L2.upd H p o') b ≠ none) ∧ Ex F (L2.upd H p o') := by
  refine ⟨fun b u e => ?_, fun b z => ?_, fun a u e => ?_⟩
  · by_cases hb : b = p
    · subst hb
      rcases h2 with h2 | h2
      · rw [h2] at e; cases e
      · exact .inl h2
    · rw [upd_ne hb]; exact R.b1 b u e
  · by_cases hb : b = p
    · subst hb; rw [upd_same]; exact Option.some_ne_none _
    · rw [upd_ne hb]; exact R.b2 b z
  · have : a ≠ p := fun z => by rw [z, h1] at e; cases e
    rw [upd_ne this]; exact R.ex a u e
theorem Slot.own_or {c : D → Slot} (hc : c = Slot.own ∨ c = Slot.par) (d : D) : (c d).live = true := by rcases hc with rfl | rfl <;> rfl
/-- the local i's object -/
theorem Rp.mutLoc {c : D → Slot} (R : Rp G F H σ ls vs ks) (hc : c = Slot.own ∨ c = Slot.par) (h1 : ls[i]? = some (c d)) (h2 : σ[i]? = some (some (.ref p))) (hb : ObD G F o' d') : Rp G F (L2.upd H p o') σ (ls.set i (c d')) vs ks := by
  have he : (ent vs ks σ ls)[vs.length + i]? = some (some (.ref p), c d) := by rw [ent_loc R.klen]; exact zip_at h2 h1
  have ho : p ∈ adE H (some (.ref p), c d) := by rcases hc with rfl | rfl <;> exact List.mem_singleton.mpr rfl
  obtain ⟨f1, f2, _⟩ := R.base he ho
  obtain ⟨m1, m2, m3⟩ := R.mutB (o' := o') f1 f2
  have hl := (List.getElem?_eq_some_iff.mp h1).1
  refine ⟨m3, R.ex0, by rw [List.length_set]; exact R.len, R.klen, ?_, fun w i' hj => ?_, fun i' d2 hd => ?_, m1, m2, R.b3⟩
  · rw [ent_setl R.klen h2]; exact R.good.mut hc he rfl hb
  · obtain ⟨s, a2, a3, a4⟩ := R.al w i' hj
    by_cases hi : i' = i
    · subst hi
      exact ⟨c d', a2, by rw [List.getElem?_set_self hl], Slot.own_or hc _⟩
    · exact ⟨s, a2, by rw [List.getElem?_set_ne (Ne.symm hi)]; exact a3, a4⟩
  · by_cases hi : i' = i
    · subst hi
      rw [List.getElem?_set_self hl] at hd
      rcases hc with rfl | rfl
      · rcases hd with z | z | z | ⟨_, z⟩ <;> cases z
      · exact R.pin i' d (.inl h1)
    · rw [List.getElem?_set_ne (Ne.symm hi)] at hd
      exact R.pin i' d2 hd
/-- the top's object -/
theorem Rp.mutTop (R : Rp G F H σ ls (.ref p :: vs) (.own d :: ks)) (hb : ObD G F o' d') : Rp G F (L2.upd H p o') σ ls (.ref p :: vs) (.own d' :: ks) := by
  have he : (ent (.ref p :: vs) (.own d :: ks) σ ls)[0]? = some (some (.ref p), .own d) := rfl
  obtain ⟨f1, f2, _⟩ := R.base he (List.mem_singleton.mpr rfl)
  obtain ⟨m1, m2, m3⟩ := R.mutB (o' := o') f1 f2
  refine ⟨m3, R.ex0, R.len, R.klen, ?_, fun w i' hj => ?_, R.pin, m1, m2, R.b3⟩
  · exact R.good.mut (c := .own) (.inl rfl) he rfl hb
  · rcases List.mem_cons.mp hj with z | z
    · cases z
    · exact R.al w i' (List.mem_cons_of_mem _ z)
theorem Rp.frzB (R : Rp G F H σ ls vs ks) (h1 : F p = none) (h2 : G.B.H p = none ∨ G.B.W p) (h3 : H p = some o) : Ex (L2.upd F p o) H ∧ Ex G.B.F (L2.upd F p o) ∧ (∀ b, (L2.upd F p o) b ≠ none → (∃ xs, (L2.upd F p o) b = some (.tup xs)) ∨ G.B.F b ≠ none ∨ G.B.H b = none ∨ G.B.W b) := by
  refine ⟨fun a u e => ?_, R.ex0.trans (Ex.upd h1), fun b z => ?_⟩
  · by_cases ha : a = p
    · subst ha; rw [upd_same] at e; cases e; exact h3
    · rw [upd_ne ha] at e; exact R.ex a u e
  · by_cases hb : b = p
    · subst hb; exact .inr (.inr h2)
    · rw [upd_ne hb] at z ⊢; exact R.b3 b z
/-- what a slot becomes when it is frozen -/
def Slot.frz : Slot → Slot
  | .own d => .dat d
  | .par d => .pdt d
  | s => s
theorem Rp.frzLoc {c : D → Slot} (R : Rp G F H σ ls vs ks) (hc : c = Slot.own ∨ c = Slot.par) (h1 : ls[i]? = some (c d)) :
    ∃ p F', σ[i]? = some (some (.ref p)) ∧ Ex F F' ∧ DD G.K G.mg F' d (.ref p) ∧ Rp G F' H σ (ls.set i (c d).frz) vs ks := by
  obtain ⟨v, h2, _⟩ := R.loc h1
  have he : (ent vs ks σ ls)[vs.length + i]? = some (v, c d) := by rw [ent_loc R.klen]; exact zip_at h2 h1
  obtain ⟨c', hc', ec⟩ : ∃ c' : D → Slot, (c' = Slot.dat ∨ c' = Slot.pdt) ∧ (c d).frz = c' d := by
    rcases hc with rfl | rfl
    · exact ⟨_, .inl rfl, rfl⟩
    · exact ⟨_, .inr rfl, rfl⟩
  obtain ⟨p, o, rfl, f1, f3, f2, dd, g⟩ := R.good.freeze hc hc' he
  obtain ⟨m1, m2, m3⟩ := R.frzB f1 f2 f3
  have hl := (List.getElem?_eq_some_iff.mp h1).1
  refine ⟨p, _, h2, Ex.upd f1, dd, m1, m2, by rw [List.length_set]; exact R.len, R.klen, ?_, fun w i' hj => ?_, fun i' d2 hd => ?_, R.b1, R.b2, m3⟩
  · rw [ec, ent_setl R.klen h2]; exact g
  · obtain ⟨s, a2, a3, a4⟩ := R.al w i' hj
    by_cases hi : i' = i
    · subst hi
      exact ⟨_, a2, by rw [List.getElem?_set_self hl], by rw [ec]; rcases hc' with rfl | rfl <;> rfl⟩
    · exact ⟨s, a2, by rw [List.getElem?_set_ne (Ne.symm hi)]; exact a3, a4⟩
  · by_cases hi : i' = i
    · subst hi
      rw [List.getElem?_set_self hl] at hd
      rcases hc with rfl | rfl
      · rcases hd with z | z | z | ⟨_, z⟩ <;> cases z
      · exact R.pin i' d (.inl h1)
    · rw [List.getElem?_set_ne (Ne.symm hi)] at hd
      exact R.pin i' d2 hd
theorem Rp.frzTop (R : Rp G F H σ ls (v :: vs) (.own d :: ks)) : ∃ F', Ex F F' ∧ DD G.K G.mg F' d v ∧ Rp G F' H σ ls (v :: vs) (.dat d :: ks) := by
  have he : (ent (v :: vs) (.own d :: ks) σ ls)[0]? = some (some v, .own d) := rfl
  obtain ⟨p, o, e, f1, f3, f2, dd, g⟩ := R.good.freeze (.inl rfl) (c' := .dat) (.inl rfl) he
  cases e
  obtain ⟨m1, m2, m3⟩ := R.frzB f1 f2 f3
  refine ⟨_, Ex.upd f1, dd, m1, m2, R.len, R.klen, g, fun w i' hj => ?_, R.pin, R.b1, R.b2, m3⟩
  rcases List.mem_cons.mp hj with z | z
  · cases z
  · exact R.al w i' (List.mem_cons_of_mem _ z)

theorem Rp.frzBS (R : Rp G F H σ ls vs ks) {S : List Addr} (hS : ∀ q, q ∈ S → G.B.H q = none ∨ G.B.W q) (x : Ex F (frzS F H S)) : Ex (frzS F H S) H ∧ Ex G.B.F (frzS F H S) ∧ (∀ b, (frzS F H S) b ≠ none → (∃ xs, (frzS F H S) b = some (.tup xs)) ∨ G.B.F b ≠ none ∨ G.B.H b = none ∨ G.B.W b) := by
  refine ⟨frzS_ex R.ex, R.ex0.trans x, fun b z => ?_⟩
  by_cases hb : b ∈ S
  · exact .inr (.inr (hS b hb))
  · rw [frzS_out hb] at z ⊢; exact R.b3 b z
/-- a local's tree is frozen -/
theorem Rp.frzLocT {t : T} {c : T → Slot} {c' : D → Slot} (R : Rp G F H σ ls vs ks) (hc : (c = Slot.tre ∧ c' = Slot.dat) ∨ (c = Slot.ptr ∧ c' = Slot.pdt)) (h1 : ls[i]? = some (c t)) :
    ∃ v F', σ[i]? = some (some v) ∧ Ex F F' ∧ DD G.K G.mg F' t.er v ∧ Rp G F' H σ (ls.set i (c' t.er)) vs ks := by
  obtain ⟨v, h2, _⟩ := R.loc h1
  have he : (ent vs ks σ ls)[vs.length + i]? = some (v, c t) := by rw [ent_loc R.klen]; exact zip_at h2 h1
  have hc1 : c = Slot.tre ∨ c = Slot.ptr := hc.imp And.left And.left
  have hc2 : c' = Slot.dat ∨ c' = Slot.pdt := hc.imp And.right And.right
  obtain ⟨y, rfl, f1, dd, g⟩ := R.good.freezeT hc1 hc2 he
  obtain ⟨m1, m2, m3⟩ := R.frzBS (fun q hq => (f1.one hq).2.1) f1.ex
  have hl := (List.getElem?_eq_some_iff.mp h1).1
  refine ⟨y, _, h2, f1.ex, dd, m1, m2, by rw [List.length_set]; exact R.len, R.klen, ?_, fun w i' hj => ?_, fun i' d2 hd => ?_, R.b1, R.b2, m3⟩
  · rw [ent_setl R.klen h2]; exact g
  · obtain ⟨s, a2, a3, a4⟩ := R.al w i' hj
    by_cases hi : i' = i
    · subst hi
      exact ⟨_, a2, by rw [List.getElem?_set_self hl], by rcases hc2 with rfl | rfl <;> rfl⟩
    · exact ⟨s, a2, by rw [List.getElem?_set_ne (Ne.symm hi)]; exact a3, a4⟩
  · by_cases hi : i' = i
    · subst hi
      rw [List.getElem?_set_self hl] at hd
      rcases hc with ⟨rfl, rfl⟩ | ⟨rfl, rfl⟩
      · rcases hd with z | z | z | ⟨_, z⟩ <;> cases z
      · exact R.pin i' (.non) (.inr (.inr (.inr ⟨t, h1⟩)))
    · rw [List.getElem?_set_ne (Ne.symm hi)] at hd
      exact R.pin i' d2 hd
theorem Rp.frzTopT {t : T} (R : Rp G F H σ ls (v :: vs) (.tre t :: ks)) : ∃ F', Ex F F' ∧ DD G.K G.mg F' t.er v ∧ Rp G F' H σ ls (v :: vs) (.dat t.er :: ks) := by
  have he : (ent (v :: vs) (.tre t :: ks) σ ls)[0]? = some (some v, .tre t) := rfl
  obtain ⟨y, e, f1, dd, g⟩ := R.good.freezeT (.inl rfl) (c' := .dat) (.inl rfl) he
  cases e
  obtain ⟨m1, m2, m3⟩ := R.frzBS (fun q hq => (f1.one hq).2.1) f1.ex
  refine ⟨_, f1.ex, dd, m1, m2, R.len, R.klen, g, fun w i' hj => ?_, R.pin, R.b1, R.b2, m3⟩
  rcases List.mem_cons.mp hj with z | z
  · cases z
  · exact R.al w i' (List.mem_cons_of_mem _ z)

/-! ### locals are set -/
def noAli (ks : List Slot) : Prop := ∀ i, Slot.ali i ∉ ks
theorem noAli.zip {vs : List V} (h : noAli ks) {w : V} : (w, Slot.ali i) ∉ vs.zip ks := fun z => h i (List.of_mem_zip z).2
def Slot.fit : Slot → Bool
  | .dat _ => true
  | .own _ => true
  | .emp => true
  | .tre _ => true
  | _ => false
theorem Rp.pinSet (R : Rp G F H σ ls vs ks) (hk : k.fit = true) {u : Option V} : ∀ (i' : Nat) (d : D), ((ls.set i k)[i']? = some (.par d) ∨ (ls.set i k)[i']? = some (.pdt d) ∨ (ls.set i k)[i']? = some (.ali 0) ∨ ∃ t, (ls.set i k)[i']? = some (.ptr t)) → ∃ v, G.B.P i' = some v ∧ (σ.set i u)[i']? = some v := fun i' d hd => by
  by_cases hi : i' = i
  · subst hi
    rw [List.getElem?_set] at hd
    simp only [if_true] at hd
    split at hd
    · rcases hd with z | z | z | ⟨_, z⟩ <;> (cases z; cases hk)
    · rcases hd with z | z | z | ⟨_, z⟩ <;> cases z
  · rw [List.getElem?_set_ne (Ne.symm hi)] at hd
    rw [List.getElem?_set_ne (Ne.symm hi)]
    exact R.pin i' d hd
theorem Rp.setTop (R : Rp G F H σ ls (v :: vs) (k :: ks)) (hn : noAli ks) (hk : k.fit = true) : Rp G F H (σ.set i (some v)) (ls.set i k) vs ks := by
  have R' := R.pop
  refine ⟨R.ex, R.ex0, by simp [R.len], R'.klen, ?_, fun w i' hj => absurd hj hn.zip, R.pinSet hk, R.b1, R.b2, R.b3⟩
  rw [ent_set R'.klen]
  refine R'.good.set R.good.head fun q hq m e' _ he => R.good.head_ne hq m e' he
theorem Rp.setNone (R : Rp G F H σ ls vs ks) (hn : Slot.ali i ∉ ks) : Rp G F H (σ.set i none) (ls.set i .emp) vs ks := by
  refine ⟨R.ex, R.ex0, by simp [R.len], R.klen, ?_, fun w i' hj => ?_, R.pinSet rfl, R.b1, R.b2, R.b3⟩
  · rw [ent_set R.klen]
    exact R.good.set trivial fun q hq => by cases hq
  · obtain ⟨s, a2, a3, a4⟩ := R.al w i' hj
    have : i' ≠ i := fun z => hn (by rw [← z]; exact (List.of_mem_zip hj).2)
    exact ⟨s, by rw [List.getElem?_set_ne (Ne.symm this)]; exact a2, by rw [List.getElem?_set_ne (Ne.symm this)]; exact a3, a4⟩

/-! ### what an operand is -/
def look (ls : LS) : Slot → Option D
  | .dat d => some d
  | .pdt d => some d
  | .own d => some d
  | .par d => some d
  | .ali i => match ls[i]? with
    | some (.dat d) => some d
    | some (.pdt d) => some d
    | some (.own d) => some d
    | some (.par d) => some d
    | _ => none
  | _ => none
def Vw (G : Cfg) (F H : Hp) (v : V) (d : D) : Prop := DD G.K G.mg F d v ∨ ∃ p o, v = .ref p ∧ H p = some o ∧ ObD G F o d
theorem vw_en {v : V} (h : EnOk G F H (some v, k)) (hk : k = .dat d ∨ k = .pdt d ∨ k = .own d ∨ k = .par d) : Vw G F H v d := by
  rcases hk with rfl | rfl | rfl | rfl
  · obtain ⟨x, e, q⟩ := h; cases e; exact .inl q
  · obtain ⟨x, e, q⟩ := h; cases e; exact .inl q
  · obtain ⟨p, e, _, _, o, h3, h4⟩ := h; cases e; exact .inr ⟨p, o, rfl, h3, h4⟩
  · obtain ⟨p, e, _, _, o, h3, h4⟩ := h; cases e; exact .inr ⟨p, o, rfl, h3, h4⟩
theorem Rp.view (R : Rp G F H σ ls vs ks) {j : Nat} (h1 : vs[j]? = some v) (h2 : ks[j]? = some k) (hl : look ls k = some d) : Vw G F H v d := by
  have he : (ent vs ks σ ls)[j]? = some (some v, k) := by
    unfold ent
    rw [List.getElem?_append_left (by simp [R.klen]; exact (List.getElem?_eq_some_iff.mp h2).1), List.getElem?_zip_eq_some]
    exact ⟨by rw [List.getElem?_map, h1]; rfl, h2⟩
  have ok := R.good.all j _ he
  cases k with
  | emp => cases hl
  | dat _ => cases hl; exact vw_en ok (.inl rfl)
  | pdt _ => cases hl; exact vw_en ok (.inr (.inl rfl))
  | own _ => cases hl; exact vw_en ok (.inr (.inr (.inl rfl)))
  | par _ => cases hl; exact vw_en ok (.inr (.inr (.inr rfl)))
  | tre _ => cases hl
  | ptr _ => cases hl
  | ali i =>
    obtain ⟨s, a2, a3, a4⟩ := R.al v i (List.mem_of_getElem? (i := j) (by rw [List.getElem?_zip_eq_some]; exact ⟨h1, h2⟩))
    obtain ⟨w', b1, b2⟩ := R.loc a3
    rw [a2] at b1; cases b1
    simp only [look, a3] at hl
    cases s with
    | dat _ => cases hl; exact vw_en b2 (.inl rfl)
    | pdt _ => cases hl; exact vw_en b2 (.inr (.inl rfl))
    | own _ => cases hl; exact vw_en b2 (.inr (.inr (.inl rfl)))
    | par _ => cases hl; exact vw_en b2 (.inr (.inr (.inr rfl)))
    | _ => cases hl
theorem Rp.view0 (R : Rp G F H σ ls (v :: vs) (k :: ks)) (hl : look ls k = some d) : Vw G F H v d := R.view (j := 0) rfl rfl hl

section
variable (x : Ex F H)
include x
theorem Vw.non (h : Vw G F H v .non) : v = .non := by
  rcases h with h | ⟨p, o, _, _, h⟩
  · cases h; rfl
  · cases o <;> exact h.elim
theorem Vw.bl {b : Bool} (h : Vw G F H v (.bl b)) : v = .bl b := by
  rcases h with h | ⟨p, o, _, _, h⟩
  · cases h; rfl
  · cases o <;> exact h.elim
theorem Vw.int {b : Int} (h : Vw G F H v (.int b)) : v = .int b := by
  rcases h with h | ⟨p, o, _, _, h⟩
  · cases h; rfl
  · cases o <;> exact h.elim
theorem Vw.str {b : Str} (h : Vw G F H v (.str b)) : v = .str b := by
  rcases h with h | ⟨p, o, _, _, h⟩
  · cases h; rfl
  · cases o <;> exact h.elim
theorem Vw.lst {ds : List D} (h : Vw G F H v (.lst ds)) : ∃ a xs, v = .ref a ∧ H a = some (.lst xs) ∧ DDs G.K G.mg F ds xs := by
  rcases h with h | ⟨p, o, rfl, h, q⟩
  · cases h with | lst h q => exact ⟨_, _, rfl, x _ _ h, q⟩
  · cases o <;> first | exact q.elim | exact ⟨p, _, rfl, h, q⟩
theorem Vw.tup {ds : List D} (h : Vw G F H v (.tup ds)) : ∃ a xs, v = .ref a ∧ H a = some (.tup xs) ∧ DDs G.K G.mg F ds xs := by
  rcases h with h | ⟨p, o, rfl, h, q⟩
  · cases h with | tup h q => exact ⟨_, _, rfl, x _ _ h, q⟩
  · cases o <;> exact q.elim
theorem Vw.ktup {ds : List D} (h : Vw G F H v (.ktup ds)) : ∃ a xs, v = .ref a ∧ SqT G.K H a xs ∧ DDs G.K G.mg F ds xs := by
  rcases h with h | ⟨p, o, rfl, h, q⟩
  · cases h with | ktup h q => exact ⟨_, _, rfl, ex_t x h, q⟩
  · cases o <;> exact q.elim
theorem Vw.scr {ns : List Int} (h : Vw G F H v (.scr ns)) : ∃ a, v = .ref a ∧ SqL G.K H a (ns.map V.int) := by
  rcases h with h | ⟨p, o, rfl, h, q⟩
  · cases h with | scr h => exact ⟨_, rfl, ex_l x h⟩
  · cases o <;> exact q.elim
theorem Vw.dK {es : List (Key × D)} (h : Vw G F H v (.dK es)) : ∃ a kvs, v = .ref a ∧ H a = some (.dK kvs) ∧ DDk G.K G.mg F es kvs := by
  rcases h with h | ⟨p, o, rfl, h, q⟩
  · cases h with | dk h q => exact ⟨_, _, rfl, x _ _ h, q⟩
  · cases o <;> first | exact q.elim | exact ⟨p, _, rfl, h, q⟩
theorem Vw.dT {es : List (List Key × D)} (h : Vw G F H v (.dT es)) : ∃ a kvs, v = .ref a ∧ H a = some (.dT kvs) ∧ DDt G.K G.mg F es kvs := by
  rcases h with h | ⟨p, o, rfl, h, q⟩
  · cases h with | dt h q => exact ⟨_, _, rfl, x _ _ h, q⟩
  · cases o <;> first | exact q.elim | exact ⟨p, _, rfl, h, q⟩
theorem Vw.ins {y : Str} {gs : List (Str × D)} (h : Vw G F H v (.ins y gs)) : ∃ a C dx fs, v = .ref a ∧ G.mg y = some (.ref C) ∧ H a = some (.ins C dx fs) ∧ DDf G.K G.mg F gs fs := by
  rcases h with h | ⟨p, o, rfl, h, q⟩
  · cases h with | ins m h q => exact ⟨_, _, _, _, rfl, m, x _ _ h, q⟩
  · cases o <;> first | exact q.elim | exact ⟨p, _, _, _, rfl, q.1, h, q.2⟩
end
end
end VM

set_option Elab.async false
set_option linter.all false
set_option maxRecDepth 100000
namespace VM
open PySem L2

/-! ### what an expression, an argument list, a test, a statement gives -/
structure Exn where
  name : Str
  fs : List (Str × D)
inductive R where
  | ok (k : Slot) (ls : LS) | err (x : Exn) (ls : LS) | stk
inductive RA where
  | ok (as : List Slot) (ls : LS) | err (x : Exn) (ls : LS) | stk
inductive S where
  | nx (ls : LS) | ret (k : Slot) (ls : LS) | brk (ls : LS) | cnt (ls : LS) | err (x : Exn) (ls : LS) | stk
abbrev M := LS → R
abbrev AM := LS → RA
abbrev SM := LS → S
def R.bind (r : R) (f : Slot → LS → R) : R := match r with
  | .ok k ls => f k ls
  | .err x ls => .err x ls
  | .stk => .stk
def R.bindA (r : R) (f : Slot → LS → RA) : RA := match r with
  | .ok k ls => f k ls
  | .err x ls => .err x ls
  | .stk => .stk
def R.bindS (r : R) (f : Slot → LS → S) : S := match r with
  | .ok k ls => f k ls
  | .err x ls => .err x ls
  | .stk => .stk
def RA.bind (r : RA) (f : List Slot → LS → R) : R := match r with
  | .ok k ls => f k ls
  | .err x ls => .err x ls
  | .stk => .stk
def S.bind (r : S) (f : LS → S) : S := match r with
  | .nx ls => f ls
  | r => r

def ErrRel (G : Cfg) (F : Hp) (cls : Value) (d : Option Addr) (x : Exn) : Prop :=
  G.mg x.name = some cls ∧ ((d = none ∧ x.fs = []) ∨ ∃ dd fs, d = some dd ∧ F dd = some (.xd fs) ∧ DDf G.K G.mg F x.fs fs)

section
variable (G : Cfg) (W : WX)
def PostM (σ : L2.St) (vs : List V) (ks : List Slot) (r : R) (Q : VK) : Prop := match r with
  | .ok k ls' => ∀ v F' H', Rp G F' H' σ ls' (v :: vs) (k :: ks) → Q v H'
  | .err x ls' => ∀ cls d F' H', Rp G F' H' σ ls' vs ks → ErrRel G F' cls d x → W cls d σ H'
  | .stk => False
def PostA (σ : L2.St) (vs : List V) (ks : List Slot) (r : RA) (Q : List V → Hp → Prop) : Prop := match r with
  | .ok as ls' => ∀ ws F' H', ws.length = as.length → Rp G F' H' σ ls' (ws ++ vs) (as ++ ks) → Q ws H'
  | .err x ls' => ∀ cls d F' H', Rp G F' H' σ ls' vs ks → ErrRel G F' cls d x → W cls d σ H'
  | .stk => False
def PostT (σ : L2.St) (vs : List V) (ks : List Slot) (r : R) (Q : Bool → Hp → Prop) : Prop := match r with
  | .ok (.dat (.bl b)) ls' => ∀ F' H', Rp G F' H' σ ls' vs ks → Q b H'
  | .ok _ _ => False
  | .err x ls' => ∀ cls d F' H', Rp G F' H' σ ls' vs ks → ErrRel G F' cls d x → W cls d σ H'
  | .stk => False
def PostS (vs : List V) (ks : List Slot) (r : S) (D : Ends) : Prop := match r with
  | .nx ls' => ∀ σ' F' H', Rp G F' H' σ' ls' vs ks → D.nx σ' H'
  | .brk ls' => ∀ σ' F' H', Rp G F' H' σ' ls' vs ks → D.bk σ' H'
  | .cnt ls' => ∀ σ' F' H', Rp G F' H' σ' ls' vs ks → D.ct σ' H'
  | .ret k ls' => ∀ v σ' F' H', Rp G F' H' σ' ls' (v :: vs) (k :: ks) → D.rt v H'
  | .err x ls' => ∀ cls d σ' F' H', Rp G F' H' σ' ls' vs ks → ErrRel G F' cls d x → W cls d σ' H'
  | .stk => False
def tM (m : M) : TE := fun σ H Q => ∃ F ls vs ks, Rp G F H σ ls vs ks ∧ PostM G W σ vs ks (m ls) Q
def tA (m : AM) : TA := fun σ H Q => ∃ F ls vs ks, Rp G F H σ ls vs ks ∧ PostA G W σ vs ks (m ls) Q
def tT (m : M) : TT := fun σ H Q => ∃ F ls vs ks, Rp G F H σ ls vs ks ∧ PostT G W σ vs ks (m ls) Q
def tS (m : SM) : TS := fun D σ H => ∃ F ls vs ks, noAli ks ∧ Rp G F H σ ls vs ks ∧ PostS G W vs ks (m ls) D
end

theorem PE.imp {X : Cx} {e : Expr} {t t' : TE} (h : L2.PE X e t) (hi : ∀ σ H Q, t' σ H Q → t σ H Q) : L2.PE X e t' := ⟨fun pins s σ H Q I q => h.run pins s σ H Q I (hi σ H Q q)⟩
theorem PT.imp {X : Cx} {e : Expr} {t t' : TT} (h : L2.PT X e t) (hi : ∀ σ H Q, t' σ H Q → t σ H Q) : L2.PT X e t' := ⟨fun pins s σ H Q I q => h.run pins s σ H Q I (hi σ H Q q)⟩
theorem PW.imp {X : Cx} {e : Expr} {t t' : TT} (h : L2.PW X e t) (hi : ∀ σ H Q, t' σ H Q → t σ H Q) : L2.PW X e t' := ⟨fun wh pins s σ H Q I q => h.run wh pins s σ H Q I (hi σ H Q q)⟩
theorem PA.imp {X : Cx} {es : List Expr} {t t' : TA} (h : L2.PA X es t) (hi : ∀ σ H Q, t' σ H Q → t σ H Q) : L2.PA X es t' := ⟨fun pos pins s σ H Q I q => h.run pos pins s σ H Q I (hi σ H Q q)⟩
theorem PS.imp {X : Cx} {st : Stmt} {t t' : TS} (h : L2.PS X st t) (hi : ∀ D σ H, t' D σ H → t D σ H) : L2.PS X st t' := ⟨fun pins s σ H D I q => h.run pins s σ H D I (hi D σ H q)⟩
theorem PSs.imp {X : Cx} {st : List Stmt} {t t' : TS} (h : L2.PSs X st t) (hi : ∀ D σ H, t' D σ H → t D σ H) : L2.PSs X st t' := ⟨fun pins s σ H D I q => h.run pins s σ H D I (hi D σ H q)⟩

section
variable {G : Cfg} {W : WX} {F F' H H' : Hp} {σ : L2.St} {ls : LS} {vs : List V} {ks : List Slot} {v : V} {k : Slot} {d d' : D} {p : Addr} {o o' : HO} {i : Nat} {Q : VK}
/-- the first of two -/
theorem tM_bind {ma : M} {f : Slot → LS → R} (h : tM G W (fun ls => (ma ls).bind f) σ H Q) {C : VK}
    (hk : ∀ F ls vs ks v H' k, Rp G F H' σ ls (v :: vs) (k :: ks) → PostM G W σ vs ks (f k ls) Q → C v H') : tM G W ma σ H C := by
  obtain ⟨F, ls, vs, ks, r, po⟩ := h
  refine ⟨F, ls, vs, ks, r, ?_⟩
  cases e : ma ls with
  | ok k ls1 =>
    simp only [e, R.bind] at po
    exact fun v F' H' r' => hk F' ls1 vs ks v H' k r' po
  | err x ls1 => simp only [e, R.bind] at po; exact po
  | stk => simp only [e, R.bind, PostM] at po
theorem PostM.err_pop {x : Exn} {r : R} {k0 : Slot} {v0 : V} {ls1 : LS} (po : PostM G W σ vs ks (.err x ls1) Q) : ∀ {Q' : VK}, PostM G W σ (v0 :: vs) (k0 :: ks) (.err x ls1) Q' := fun {Q'} cls d F' H' r e => po cls d F' H' r.pop e
end

/-! ### names and constants -/
def varM (i : Nat) : M := fun ls => match ls[i]? with
  | some (.dat d) => .ok (.dat d) ls
  | some (.pdt d) => .ok (.dat d) ls
  | some (.own _) => .ok (.ali i) ls
  | some (.par _) => .ok (.ali i) ls
  | some (.tre _) => .ok (.ali i) ls
  | some (.ptr _) => .ok (.ali i) ls
  | _ => .stk
def conM (d : D) : M := fun ls => .ok (.dat d) ls

abbrev cfg (X : Cx) (B : Base) : Cfg := ⟨X.K, X.mg, B⟩
section
variable {X : Cx} {B : Base} {W : WX} {e a b : Expr} {es : List Expr} {m ma mb : M} {am : AM} {i : Nat} {pos : Pos}
theorem imp_var {G : Cfg} {σ : L2.St} {H : Hp} {Q : VK} (h : tM G W (varM i) σ H Q) : tVar i σ H Q := by
  obtain ⟨F, ls, vs, ks, r, po⟩ := h
  cases e : ls[i]? with
  | none => simp only [varM, e, PostM] at po
  | some k =>
    obtain ⟨v, h1, h2⟩ := r.loc e
    cases k with
    | dat d =>
      simp only [varM, e] at po
      obtain ⟨x, rfl, q⟩ := h2
      exact ⟨x, h1, po x F H (r.pushDat q)⟩
    | pdt d =>
      simp only [varM, e] at po
      obtain ⟨x, rfl, q⟩ := h2
      exact ⟨x, h1, po x F H (r.pushDat q)⟩
    | own d =>
      simp only [varM, e] at po
      obtain ⟨q, rfl, _⟩ := h2
      exact ⟨_, h1, po _ F H (r.pushAli h1 e rfl)⟩
    | par d =>
      simp only [varM, e] at po
      obtain ⟨q, rfl, _⟩ := h2
      exact ⟨_, h1, po _ F H (r.pushAli h1 e rfl)⟩
    | tre t =>
      simp only [varM, e] at po
      obtain ⟨q, rfl, _⟩ := h2
      exact ⟨_, h1, po _ F H (r.pushAli h1 e rfl)⟩
    | ptr t =>
      simp only [varM, e] at po
      obtain ⟨q, rfl, _⟩ := h2
      exact ⟨_, h1, po _ F H (r.pushAli h1 e rfl)⟩
    | emp => simp only [varM, e, PostM] at po
    | ali _ => simp only [varM, e, PostM] at po
theorem e_var {x : Str} (i : Nat) (hN : X.N[i]? = some x := by rfl) (hv : Vis X.env.scope x := by first | exact Or.inl rfl | exact Or.inr (Or.inl rfl) | exact Or.inr (Or.inr rfl)) (hd : (x == ("__debug__" : Str)) = false := by decide)
    (hcd : (x == ("__classdict__" : Str)) = false := by decide) : L2.PE X (.Name x pos) (tM (cfg X B) W (varM i)) := PE.imp (pe_var hN hv hd hcd) fun _ _ _ h => imp_var h
theorem imp_con {G : Cfg} {σ : L2.St} {H : Hp} {Q : VK} {d : D} {v : V} (hd : ∀ F, DD G.K G.mg F d v) (h : tM G W (conM d) σ H Q) : Q v H := by
  obtain ⟨F, ls, vs, ks, r, po⟩ := h
  exact po v F H (r.pushDat (hd F))
theorem e_int {i : Int} {j : Nat} : L2.PE X (.Constant (.int i) j pos) (tM (cfg X B) W (conM (.int i))) := PE.imp pe_int fun _ _ _ h => imp_con (fun F => .int i) h
theorem e_bl {b : Bool} {j : Nat} : L2.PE X (.Constant (.bool b) j pos) (tM (cfg X B) W (conM (.bl b))) := PE.imp pe_bl fun _ _ _ h => imp_con (fun F => .bl b) h
theorem e_non {j : Nat} : L2.PE X (.Constant .none j pos) (tM (cfg X B) W (conM .non)) := PE.imp pe_non fun _ _ _ h => imp_con (fun F => .non) h
theorem e_str {x : Str} {j : Nat} : L2.PE X (.Constant (.str x) j pos) (tM (cfg X B) W (conM (.str x))) := PE.imp pe_str fun _ _ _ h => imp_con (fun F => .str x) h
/-- a module's constant -/
theorem e_glob {x : Str} {d : D} {v : V} {u : Value} (hg : Gl X x) (hm : X.mg x = some u) (r : RelV v u) (hd : ∀ F, DD X.K X.mg F d v) (hdb : (x == ("__debug__" : Str)) = false := by decide) : L2.PE X (.Name x pos) (tM (cfg X B) W (conM d)) :=
  PE.imp (pe_glob hg hm r hdb) fun _ _ _ h => imp_con hd h
end

/-! ### one operand, two operands -/
def lift1 (g : D → Option Slot) (k : Slot) (ls : LS) : R := match look ls k with
  | some x => (match g x with
    | some k => .ok k ls
    | none => .stk)
  | none => .stk
def lift2 (g : D → D → Option Slot) (k1 k2 : Slot) (ls : LS) : R := match look ls k1, look ls k2 with
  | some x, some y => (match g x y with
    | some k => .ok k ls
    | none => .stk)
  | _, _ => .stk
def unM (g : D → Option Slot) (a : M) : M := fun ls => (a ls).bind fun k ls => lift1 g k ls
def binM (g : D → D → Option Slot) (a b : M) : M := fun ls => (a ls).bind fun k1 ls => (b ls).bind fun k2 ls => lift2 g k1 k2 ls
/-- an operation on values does what g says -/
def OpM2 (G : Cfg) (r : R2) (g : D → D → Option Slot) : Prop := ∀ F H σ ls vs ks v w x y k Q, Rp G F H σ ls vs ks → Vw G F H v x → Vw G F H w y → g x y = some k →
  (∀ u F' H', Rp G F' H' σ ls (u :: vs) (k :: ks) → Q u H') → r v w H Q
def OpM1 (G : Cfg) (r : V → Hp → VK → Prop) (g : D → Option Slot) : Prop := ∀ F H σ ls vs ks v x k Q, Rp G F H σ ls vs ks → Vw G F H v x → g x = some k →
  (∀ u F' H', Rp G F' H' σ ls (u :: vs) (k :: ks) → Q u H') → r v H Q
theorem lift1_ok {G : Cfg} {W : WX} {r : V → Hp → VK → Prop} {g : D → Option Slot} (hr : OpM1 G r g) {F H σ ls vs ks v k Q} (R : Rp G F H σ ls (v :: vs) (k :: ks)) (po : PostM G W σ vs ks (lift1 g k ls) Q) : r v H Q := by
  cases e : look ls k with
  | none => simp only [lift1, e, PostM] at po
  | some x =>
    cases e2 : g x with
    | none => simp only [lift1, e, e2, PostM] at po
    | some k' =>
      simp only [lift1, e, e2] at po
      exact hr F H σ ls vs ks v x k' Q R.pop (R.view0 e) e2 po
theorem lift2_ok {G : Cfg} {W : WX} {r : R2} {g : D → D → Option Slot} (hr : OpM2 G r g) {F H σ ls vs ks v w k1 k2 Q} (R : Rp G F H σ ls (w :: v :: vs) (k2 :: k1 :: ks)) (po : PostM G W σ vs ks (lift2 g k1 k2 ls) Q) : r v w H Q := by
  cases e : look ls k1 with
  | none => simp only [lift2, e, PostM] at po
  | some x =>
    cases e1 : look ls k2 with
    | none => simp only [lift2, e, e1, PostM] at po
    | some y =>
      cases e2 : g x y with
      | none => simp only [lift2, e, e1, e2, PostM] at po
      | some k' =>
        simp only [lift2, e, e1, e2] at po
        exact hr F H σ ls vs ks v w x y k' Q R.pop.pop (R.pop.view0 e) (R.view0 e1) e2 po
theorem tM_two {G : Cfg} {W : WX} {ma mb : M} {f : Slot → Slot → LS → R} {σ : L2.St} {H : Hp} {Q : VK} {r : R2} (h : tM G W (fun ls => (ma ls).bind fun k1 ls => (mb ls).bind fun k2 ls => f k1 k2 ls) σ H Q)
    (hr : ∀ F ls vs ks v w k1 k2 H', Rp G F H' σ ls (w :: v :: vs) (k2 :: k1 :: ks) → PostM G W σ vs ks (f k1 k2 ls) Q → r v w H' Q) : tM G W ma σ H fun x H1 => tM G W mb σ H1 fun y H2 => r x y H2 Q := by
  refine tM_bind h fun F ls vs ks v H1 k R1 po => ?_
  refine ⟨F, ls, v :: vs, k :: ks, R1, ?_⟩
  cases e : mb ls with
  | ok k2 ls2 =>
    simp only [e, R.bind] at po
    exact fun w F2 H2 R2 => hr F2 ls2 vs ks v w k k2 H2 R2 po
  | err x ls2 =>
    simp only [e, R.bind] at po
    exact fun cls d F' H' r' e' => po cls d F' H' r'.pop e'
  | stk => simp only [e, R.bind, PostM] at po
section
variable {X : Cx} {B : Base} {W : WX} {e a b : Expr} {es : List Expr} {m ma mb : M} {am : AM} {i : Nat} {pos : Pos} {g : D → D → Option Slot} {g1 : D → Option Slot}
theorem imp_bin {G : Cfg} {r : R2} (hr : OpM2 G r g) {σ : L2.St} {H : Hp} {Q : VK} (h : tM G W (binM g ma mb) σ H Q) : tOp r (tM G W ma) (tM G W mb) σ H Q :=
  tM_two h fun F ls vs ks v w k1 k2 H' R po => lift2_ok hr R po
theorem e_bin {op : Operator} {r : R2} (ho : OpR X (binaryOp op) r) (hr : OpM2 (cfg X B) r g) (ha : L2.PE X a (tM (cfg X B) W ma)) (hb : L2.PE X b (tM (cfg X B) W mb)) : L2.PE X (.BinOp a op b pos) (tM (cfg X B) W (binM g ma mb)) :=
  PE.imp (pe_op ho ha hb) fun _ _ _ h => imp_bin hr h
theorem e_cmp {op : CmpOp} {r : R2} (ho : OpR X (compareOp op) r) (hr : OpM2 (cfg X B) r g) (ha : L2.PE X a (tM (cfg X B) W ma)) (hb : L2.PE X b (tM (cfg X B) W mb)) (hm : behindInMarks op b = false := by first | exact nomark _ | rfl) : L2.PE X (.Compare a [op] [b] pos) (tM (cfg X B) W (binM g ma mb)) :=
  PE.imp (pe_cmpR ho ha hb hm) fun _ _ _ h => imp_bin hr h
theorem e_un {op : UnaryOp} {r : V → Hp → VK → Prop} (ho : UnR X (unaryOp op) r) (hr : OpM1 (cfg X B) r g1) (ha : L2.PE X a (tM (cfg X B) W ma)) : L2.PE X (.UnaryOp op a pos) (tM (cfg X B) W (unM g1 ma)) :=
  PE.imp (pe_un ho ha) fun σ H Q h => tM_bind h fun F ls vs ks v H' k R po => lift1_ok hr R po
theorem e_ix {r : R2} (ho : IxR X r) (hr : OpM2 (cfg X B) r g) (ha : L2.PE X a (tM (cfg X B) W ma)) (hb : L2.PE X b (tM (cfg X B) W mb)) (hs : PlainIx b := by intro _ _; rfl) : L2.PE X (.Subscript a b pos) (tM (cfg X B) W (binM g ma mb)) :=
  PE.imp (pe_ix ho ha hb hs) fun _ _ _ h => imp_bin hr h

/-! ### tests -/
/-- any expression that gives a bool -/
theorem tT_of {G : Cfg} {σ : L2.St} {H : Hp} {Q : Bool → Hp → Prop} (h : tT G W m σ H Q) : tM G W m σ H fun x H1 => ∃ c, x = .bl c ∧ Q c H1 := by
  obtain ⟨F, ls, vs, ks, r, po⟩ := h
  refine ⟨F, ls, vs, ks, r, ?_⟩
  cases e : m ls with
  | ok k ls1 =>
    rw [e] at po
    cases k with
    | dat d =>
      cases d with
      | bl b =>
        intro v F' H' R'
        have := R'.view0 (d := .bl b) rfl
        exact ⟨b, Vw.bl R'.ex this, po F' H' R'.pop⟩
      | _ => exact False.elim po
    | _ => exact False.elim po
  | err x ls1 => rw [e] at po; exact po
  | stk => rw [e] at po; exact False.elim po
theorem t_val (h : L2.PE X e (tM (cfg X B) W m)) (he : ∀ whole, isTrue e X.env whole = (do let v ← whole; standAt e.pos; holding [v] (truthy v)) := by intro _; rfl) : L2.PT X e (tT (cfg X B) W m) :=
  PT.imp (pt_val h he) fun _ _ _ h => tT_of h
theorem t_cmp {op : CmpOp} {r : R2} (ho : OpR X (compareOp op) r) (hr : OpM2 (cfg X B) r g) (ha : L2.PE X a (tM (cfg X B) W ma)) (hb : L2.PE X b (tM (cfg X B) W mb)) (hm : behindInMarks op b = false := by first | exact nomark _ | rfl) : L2.PT X (.Compare a [op] [b] pos) (tT (cfg X B) W (binM g ma mb)) :=
  PT.imp (pt_cmpR ho ha hb hm) fun σ H Q h => imp_bin hr (tT_of h)
def notM (a : M) : M := fun ls => (a ls).bind fun k ls => match k with
  | .dat (.bl b) => .ok (.dat (.bl (!b))) ls
  | _ => .stk
def andM (a b : M) : M := fun ls => (a ls).bind fun k ls => match k with
  | .dat (.bl true) => b ls
  | .dat (.bl false) => .ok (.dat (.bl false)) ls
  | _ => .stk
def orM (a b : M) : M := fun ls => (a ls).bind fun k ls => match k with
  | .dat (.bl true) => .ok (.dat (.bl true)) ls
  | .dat (.bl false) => b ls
  | _ => .stk
def iteM (c a b : M) : M := fun ls => (c ls).bind fun k ls => match k with
  | .dat (.bl true) => a ls
  | .dat (.bl false) => b ls
  | _ => .stk
theorem t_not (h : L2.PT X a (tT (cfg X B) W ma)) : L2.PT X (.UnaryOp .Not a pos) (tT (cfg X B) W (notM ma)) := PT.imp (pt_not h) fun σ H Q hq => by
  obtain ⟨F, ls, vs, ks, r, po⟩ := hq
  refine ⟨F, ls, vs, ks, r, ?_⟩
  cases e : ma ls with
  | ok k ls1 =>
    simp only [notM, e, R.bind] at po
    cases k with
    | dat d => cases d <;> first | exact po | exact False.elim po
    | _ => exact False.elim po
  | err x ls1 => simp only [notM, e, R.bind] at po; exact po
  | stk => simp only [notM, e, R.bind, PostT] at po
theorem w_and1 (h : L2.PT X a (tT (cfg X B) W ma)) : L2.PW X (.BoolOp .And [a] pos) (tT (cfg X B) W ma) := pw_and1 h
theorem w_or1 (h : L2.PT X a (tT (cfg X B) W ma)) : L2.PW X (.BoolOp .Or [a] pos) (tT (cfg X B) W ma) := pw_or1 h
theorem w_and (ha : L2.PT X a (tT (cfg X B) W ma)) (hb : L2.PW X (.BoolOp .And (b :: es) pos) (tT (cfg X B) W mb)) : L2.PW X (.BoolOp .And (a :: b :: es) pos) (tT (cfg X B) W (andM ma mb)) := PW.imp (pw_and ha hb) fun σ H Q hq => by
  obtain ⟨F, ls, vs, ks, r, po⟩ := hq
  refine ⟨F, ls, vs, ks, r, ?_⟩
  cases e : ma ls with
  | ok k ls1 =>
    simp only [andM, e, R.bind] at po
    cases k with
    | dat d =>
      cases d with
      | bl b =>
        cases b with
        | true =>
          intro F' H' R'
          rw [if_pos rfl]
          exact ⟨F', ls1, vs, ks, R', po⟩
        | false =>
          intro F' H' R'
          rw [if_neg (by decide)]
          exact po F' H' R'
      | _ => exact False.elim po
    | _ => exact False.elim po
  | err x ls1 => simp only [andM, e, R.bind] at po; exact po
  | stk => simp only [andM, e, R.bind, PostT] at po
theorem w_or (ha : L2.PT X a (tT (cfg X B) W ma)) (hb : L2.PW X (.BoolOp .Or (b :: es) pos) (tT (cfg X B) W mb)) : L2.PW X (.BoolOp .Or (a :: b :: es) pos) (tT (cfg X B) W (orM ma mb)) := PW.imp (pw_or ha hb) fun σ H Q hq => by
  obtain ⟨F, ls, vs, ks, r, po⟩ := hq
  refine ⟨F, ls, vs, ks, r, ?_⟩
  cases e : ma ls with
  | ok k ls1 =>
    simp only [orM, e, R.bind] at po
    cases k with
    | dat d =>
      cases d with
      | bl b =>
        cases b with
        | true =>
          intro F' H' R'
          rw [if_pos rfl]
          exact po F' H' R'
        | false =>
          intro F' H' R'
          rw [if_neg (by decide)]
          exact ⟨F', ls1, vs, ks, R', po⟩
      | _ => exact False.elim po
    | _ => exact False.elim po
  | err x ls1 => simp only [orM, e, R.bind] at po; exact po
  | stk => simp only [orM, e, R.bind, PostT] at po
/-- .. as values -/
theorem tM_bool {G : Cfg} {σ : L2.St} {H : Hp} {Q : VK} {f : Bool → LS → R} (h : tM G W (fun ls => (ma ls).bind fun k ls => match k with | .dat (.bl b) => f b ls | _ => .stk) σ H Q) {C : VK}
    (hk : ∀ F ls vs ks b H', Rp G F H' σ ls vs ks → PostM G W σ vs ks (f b ls) Q → C (.bl b) H') : tM G W ma σ H C := by
  refine tM_bind h fun F ls vs ks v H' k R' po => ?_
  cases k with
  | dat d =>
    cases d with
    | bl b =>
      have := Vw.bl R'.ex (R'.view0 (d := .bl b) rfl)
      subst this
      exact hk F ls vs ks b H' R'.pop po
    | _ => exact False.elim po
  | _ => exact False.elim po
theorem andM_eq (a b : M) : andM a b = fun ls => (a ls).bind fun k ls => match k with | .dat (.bl c) => (if c = true then b ls else .ok (.dat (.bl false)) ls) | _ => .stk := by
  funext ls
  unfold andM
  congr 1
  funext k ls
  cases k with
  | dat d =>
    cases d with
    | bl c => cases c <;> rfl
    | _ => rfl
  | _ => rfl
theorem orM_eq (a b : M) : orM a b = fun ls => (a ls).bind fun k ls => match k with | .dat (.bl c) => (if c = true then .ok (.dat (.bl true)) ls else b ls) | _ => .stk := by
  funext ls
  unfold orM
  congr 1
  funext k ls
  cases k with
  | dat d =>
    cases d with
    | bl c => cases c <;> rfl
    | _ => rfl
  | _ => rfl
theorem iteM_eq (c a b : M) : iteM c a b = fun ls => (c ls).bind fun k ls => match k with | .dat (.bl c) => (if c = true then a ls else b ls) | _ => .stk := by
  funext ls
  unfold iteM
  congr 1
  funext k ls
  cases k with
  | dat d =>
    cases d with
    | bl c => cases c <;> rfl
    | _ => rfl
  | _ => rfl
theorem e_one {op : BoolOp} (h : L2.PE X a (tM (cfg X B) W ma)) : L2.PE X (.BoolOp op [a] pos) (tM (cfg X B) W ma) := pe_one h
theorem e_and (ha : L2.PE X a (tM (cfg X B) W ma)) (hb : L2.PE X (.BoolOp .And (b :: es) pos) (tM (cfg X B) W mb)) : L2.PE X (.BoolOp .And (a :: b :: es) pos) (tM (cfg X B) W (andM ma mb)) := PE.imp (pe_and ha hb) fun σ H Q hq => by
  rw [andM_eq] at hq
  refine tM_bool (f := fun c ls => if c = true then mb ls else .ok (.dat (.bl false)) ls) hq fun F ls vs ks c H' R' po => ⟨c, rfl, ?_⟩
  cases c with
  | true => rw [if_pos rfl] at po ⊢; exact ⟨F, ls, vs, ks, R', po⟩
  | false => rw [if_neg (by decide)] at po ⊢; exact po _ _ _ (R'.pushDat (.bl false))
theorem e_or (ha : L2.PE X a (tM (cfg X B) W ma)) (hb : L2.PE X (.BoolOp .Or (b :: es) pos) (tM (cfg X B) W mb)) : L2.PE X (.BoolOp .Or (a :: b :: es) pos) (tM (cfg X B) W (orM ma mb)) := PE.imp (pe_or ha hb) fun σ H Q hq => by
  rw [orM_eq] at hq
  refine tM_bool (f := fun c ls => if c = true then .ok (.dat (.bl true)) ls else mb ls) hq fun F ls vs ks c H' R' po => ⟨c, rfl, ?_⟩
  cases c with
  | true => rw [if_pos rfl] at po ⊢; exact po _ _ _ (R'.pushDat (.bl true))
  | false => rw [if_neg (by decide)] at po ⊢; exact ⟨F, ls, vs, ks, R', po⟩
theorem e_not (ha : L2.PE X a (tM (cfg X B) W ma)) : L2.PE X (.UnaryOp .Not a pos) (tM (cfg X B) W (notM ma)) := PE.imp (pe_not ha) fun σ H Q hq => by
  have : notM ma = fun ls => (ma ls).bind fun k ls => match k with | .dat (.bl c) => .ok (.dat (.bl (!c))) ls | _ => .stk := rfl
  rw [this] at hq
  exact tM_bool (f := fun c ls => .ok (.dat (.bl (!c))) ls) hq fun F ls vs ks c H' R' po => ⟨c, rfl, po _ _ _ (R'.pushDat (.bl (!c)))⟩
theorem e_ite {c : Expr} {mc : M} (hc : L2.PT X c (tT (cfg X B) W mc)) (ha : L2.PE X a (tM (cfg X B) W ma)) (hb : L2.PE X b (tM (cfg X B) W mb)) : L2.PE X (.IfExp c a b pos) (tM (cfg X B) W (iteM mc ma mb)) := PE.imp (pe_ifExp hc ha hb) fun σ H Q hq => by
  obtain ⟨F, ls, vs, ks, r, po⟩ := hq
  refine ⟨F, ls, vs, ks, r, ?_⟩
  cases e : mc ls with
  | ok k ls1 =>
    simp only [iteM, e, R.bind] at po
    cases k with
    | dat d =>
      cases d with
      | bl b =>
        cases b with
        | true =>
          intro F' H' R'
          rw [if_pos rfl]
          exact ⟨F', ls1, vs, ks, R', po⟩
        | false =>
          intro F' H' R'
          rw [if_neg (by decide)]
          exact ⟨F', ls1, vs, ks, R', po⟩
      | _ => exact False.elim po
    | _ => exact False.elim po
  | err x ls1 => simp only [iteM, e, R.bind] at po; exact po
  | stk => simp only [iteM, e, R.bind, PostM] at po

/-! ### arguments, displays -/
def nilA : AM := fun ls => .ok [] ls
def consA (m : M) (r : AM) : AM := fun ls => (m ls).bindA fun k ls => match r ls with
  | .ok as ls => .ok (k :: as) ls
  | .err x ls => .err x ls
  | .stk => .stk
theorem a_nil : L2.PA X [] (tA (cfg X B) W nilA) := PA.imp pa_nil fun σ H Q h => by
  obtain ⟨F, ls, vs, ks, r, po⟩ := h
  exact po [] F H rfl r
theorem a_cons (ha : L2.PE X e (tM (cfg X B) W m)) (hr : L2.PA X es (tA (cfg X B) W am)) (hs : starEach (e :: es) X.env = (false, eval e X.env) :: starEach es X.env := by rfl) : L2.PA X (e :: es) (tA (cfg X B) W (consA m am)) := PA.imp (pa_cons ha hr hs) fun σ H Q h => by
  obtain ⟨F, ls, vs, ks, r, po⟩ := h
  refine ⟨F, ls, vs, ks, r, ?_⟩
  cases e1 : m ls with
  | ok k ls1 =>
    simp only [consA, e1, R.bindA] at po
    intro v F1 H1 R1
    refine ⟨F1, ls1, v :: vs, k :: ks, R1, ?_⟩
    cases e2 : am ls1 with
    | ok as ls2 =>
      simp only [e2] at po
      intro ws F2 H2 hl R2
      exact po (v :: ws) F2 H2 (by simp [hl]) (R2.rot hl)
    | err x ls2 =>
      simp only [e2] at po
      exact fun cls d F' H' r' e' => po cls d F' H' r'.pop e'
    | stk => simp only [e2, PostA] at po
  | err x ls1 => simp only [consA, e1, R.bindA] at po; exact po
  | stk => simp only [consA, e1, R.bindA, PostA] at po
/-- frozen where it stands -/
def freezeK (k : Slot) (ls : LS) : Option (D × LS) := match k with
  | .dat d => some (d, ls)
  | .own d => some (d, ls)
  | .tre t => some (t.er, ls)
  | .ali j => (match ls[j]? with
    | some (.own d) => some (d, ls.set j (.dat d))
    | some (.par d) => some (d, ls.set j (.pdt d))
    | some (.dat d) => some (d, ls)
    | some (.pdt d) => some (d, ls)
    | some (.tre t) => some (t.er, ls.set j (.dat t.er))
    | some (.ptr t) => some (t.er, ls.set j (.pdt t.er))
    | _ => none)
  | _ => none
theorem Rp.freezeK {G : Cfg} {F H : Hp} {σ : L2.St} {ls ls' : LS} {vs : List V} {ks : List Slot} {v : V} {k : Slot} {d : D} (R : Rp G F H σ ls (v :: vs) (k :: ks)) (h : VM.freezeK k ls = some (d, ls')) :
    ∃ F', Ex F F' ∧ Rp G F' H σ ls' (v :: vs) (.dat d :: ks) := by
  cases k with
  | dat d1 => cases h; exact ⟨F, Ex.rfl, R⟩
  | own d1 => cases h; obtain ⟨F', x, _, R'⟩ := R.frzTop; exact ⟨F', x, R'⟩
  | ali j =>
    obtain ⟨s, a1, a2, a3⟩ := R.al v j List.mem_cons_self
    simp only [VM.freezeK, a2] at h
    have R1 := R.pop
    cases s with
    | own d1 =>
      cases h
      obtain ⟨p, F', b1, x, dd, R2⟩ := R1.frzLoc (.inl rfl) a2
      rw [a1] at b1; cases b1
      exact ⟨F', x, R2.pushDat dd⟩
    | par d1 =>
      cases h
      obtain ⟨p, F', b1, x, dd, R2⟩ := R1.frzLoc (.inr rfl) a2
      rw [a1] at b1; cases b1
      exact ⟨F', x, R2.pushDat dd⟩
    | dat d1 =>
      cases h
      obtain ⟨w, b1, b2⟩ := R1.loc a2
      rw [a1] at b1; cases b1
      obtain ⟨y, b3, b4⟩ := b2
      cases b3
      exact ⟨F, Ex.rfl, R1.pushDat b4⟩
    | pdt d1 =>
      cases h
      obtain ⟨w, b1, b2⟩ := R1.loc a2
      rw [a1] at b1; cases b1
      obtain ⟨y, b3, b4⟩ := b2
      cases b3
      exact ⟨F, Ex.rfl, R1.pushDat b4⟩
    | tre t =>
      cases h
      obtain ⟨p, F', b1, x, dd, R2⟩ := R1.frzLocT (.inl ⟨rfl, rfl⟩) a2
      rw [a1] at b1; cases b1
      exact ⟨F', x, R2.pushDat dd⟩
    | ptr t =>
      cases h
      obtain ⟨p, F', b1, x, dd, R2⟩ := R1.frzLocT (.inr ⟨rfl, rfl⟩) a2
      rw [a1] at b1; cases b1
      exact ⟨F', x, R2.pushDat dd⟩
    | emp => cases h
    | ali _ => cases h
  | tre t => cases h; obtain ⟨F', x, _, R'⟩ := R.frzTopT; exact ⟨F', x, R'⟩
  | ptr t => cases h
  | pdt d1 => cases h
  | par d1 => cases h
  | emp => cases h
def frzM (m : M) : M := fun ls => (m ls).bind fun k ls => match freezeK k ls with
  | some (d, ls) => .ok (.dat d) ls
  | none => .stk
theorem e_frz (ha : L2.PE X e (tM (cfg X B) W m)) : L2.PE X e (tM (cfg X B) W (frzM m)) := PE.imp ha fun σ H Q h => by
  refine tM_bind h fun F ls vs ks v H' k R po => ?_
  cases e : VM.freezeK k ls with
  | none => simp only [e, PostM] at po
  | some q =>
    obtain ⟨d, ls'⟩ := q
    simp only [e] at po
    obtain ⟨F', _, R'⟩ := R.freezeK e
    exact po v F' H' R'
/-- all of them data -/
def dats : List Slot → Option (List D)
  | [] => some []
  | .dat d :: r => (dats r).map (d :: ·)
  | _ :: _ => none
theorem Rp.dats {G : Cfg} {F H : Hp} {σ : L2.St} {ls : LS} {vs : List V} {ks : List Slot} : ∀ {as : List Slot} {ws : List V} {ds : List D}, ws.length = as.length → VM.dats as = some ds → Rp G F H σ ls (ws ++ vs) (as ++ ks) → DDs G.K G.mg F ds ws
  | [], [], _, _, h, _ => by cases h; exact .nil
  | [], _ :: _, _, hl, _, _ => by simp at hl
  | _ :: _, [], _, hl, _, _ => by simp at hl
  | k :: as, w :: ws, ds, hl, h, R => by
    cases k with
    | dat d =>
      cases e : VM.dats as with
      | none => simp only [VM.dats, e] at h; cases h
      | some r =>
        simp only [VM.dats, e] at h
        cases h
        have hd : DD G.K G.mg F d w := by
          have := R.good.head
          obtain ⟨x, e1, e2⟩ := this
          cases e1; exact e2
        exact .cons hd (Rp.dats (by simpa using hl) e R.pop)
    | _ => cases h
theorem DDs.length {K : PySem.W.Frag} {mg : Str → Option Value} {F : Hp} : ∀ {ds : List D} {vs : List V}, DDs K mg F ds vs → ds.length = vs.length
  | _, _, .nil => rfl
  | _, _, .cons _ r => by simp [DDs.length r]
theorem line_of {n : Nat} (h : n ≤ 1000000) : n ≤ sizeLine := Nat.le_trans h (by decide)
theorem line_lt {n : Nat} (h : n < 1000000) : n < sizeLine := Nat.lt_of_lt_of_le h (by decide)
def tupM (am : AM) : M := fun ls => (am ls).bind fun as ls => match dats as with
  | some ds => if ds.length ≤ 1000 then .ok (.dat (.tup ds)) ls else .stk
  | none => .stk
def lstM (am : AM) : M := fun ls => (am ls).bind fun as ls => match dats as with
  | some ds => if ds.length ≤ 1000 then .ok (.own (.lst ds)) ls else .stk
  | none => .stk
theorem tA_bind {G : Cfg} {σ : L2.St} {H : Hp} {Q : VK} {f : List Slot → LS → R} (h : tM G W (fun ls => (am ls).bind f) σ H Q) {C : List V → Hp → Prop}
    (hk : ∀ F ls vs ks ws H' as, ws.length = as.length → Rp G F H' σ ls (ws ++ vs) (as ++ ks) → PostM G W σ vs ks (f as ls) Q → C ws H') : tA G W am σ H C := by
  obtain ⟨F, ls, vs, ks, r, po⟩ := h
  refine ⟨F, ls, vs, ks, r, ?_⟩
  cases e : am ls with
  | ok k ls1 =>
    simp only [e, RA.bind] at po
    exact fun v F' H' hl r' => hk F' ls1 vs ks v H' k hl r' po
  | err x ls1 => simp only [e, RA.bind] at po; exact po
  | stk => simp only [e, RA.bind, PostM] at po
theorem e_tup {x1 : Nat} (h : L2.PA X es (tA (cfg X B) W am)) : L2.PE X (.Tuple es x1 pos) (tM (cfg X B) W (tupM am)) := PE.imp (pe_tup h) fun σ H Q h => by
  refine tA_bind h fun F ls vs ks ws H' as hl R po => ?_
  cases e : VM.dats as with
  | none => simp only [e, PostM] at po
  | some ds =>
    simp only [e] at po
    have dd := R.dats hl e
    split at po
    · rename_i hz
      refine ⟨line_of (by rw [← dd.length]; omega), fun p hp => ?_⟩
      exact po _ _ _ ((Rp.popN as ws hl R).pushTup hp dd)
    · exact False.elim po
theorem e_lst (h : L2.PA X es (tA (cfg X B) W am)) : L2.PE X (.List es pos) (tM (cfg X B) W (lstM am)) := PE.imp (pe_lst h) fun σ H Q h => by
  refine tA_bind h fun F ls vs ks ws H' as hl R po => ?_
  cases e : VM.dats as with
  | none => simp only [e, PostM] at po
  | some ds =>
    simp only [e] at po
    have dd := R.dats hl e
    split at po
    · rename_i hz
      refine ⟨line_of (by rw [← dd.length]; omega), fun p hp => ?_⟩
      exact po _ _ _ ((Rp.popN as ws hl R).pushOwn hp (d := .lst ds) dd)
    · exact False.elim po
end
end VM

set_option Elab.async false
set_option linter.all false
set_option maxRecDepth 100000
namespace VM
open PySem L2

/-! ### data as the library's data -/
mutual
def toPy : D → Option PyData
  | .non => some .none
  | .bl b => some (.bool b)
  | .int i => some (.int i)
  | .str s => some (.str s)
  | .lst ds => (toPys ds).map .list
  | .tup ds => (toPys ds).map .tuple
  | .ktup ds => (toPys ds).map .tuple
  | .dK _ => none
  | .dT _ => none
  | .ins _ _ => none
  | .scr _ => none
def toPys : List D → Option (List PyData)
  | [] => some []
  | d :: ds => match toPy d, toPys ds with
    | some p, some ps => some (p :: ps)
    | _, _ => none
end
section
variable {K : PySem.W.Frag} {mg : Str → Option Value} {H : Hp}
mutual
theorem dp_of : ∀ {d : D} {v : V} {p : PyData}, DD K mg H d v → toPy d = some p → Dp K H v p
  | _, _, _, .non, h => by cases h; exact .non
  | _, _, _, .bl b, h => by cases h; exact .bl b
  | _, _, _, .int b, h => by cases h; exact .int b
  | _, _, _, .str b, h => by cases h; exact .str b
  | .lst ds, _, _, .lst a r, h => by
    cases e : toPys ds with
    | none => simp only [toPy, e, Option.map_none] at h; cases h
    | some ps =>
      simp only [toPy, e, Option.map_some] at h
      cases h
      exact .lst (SqL.of a) (dps_of r e)
  | .tup ds, _, _, .tup a r, h => by
    cases e : toPys ds with
    | none => simp only [toPy, e, Option.map_none] at h; cases h
    | some ps =>
      simp only [toPy, e, Option.map_some] at h
      cases h
      exact .tup (SqT.of a) (dps_of r e)
  | .ktup ds, _, _, .ktup a r, h => by
    cases e : toPys ds with
    | none => simp only [toPy, e, Option.map_none] at h; cases h
    | some ps =>
      simp only [toPy, e, Option.map_some] at h
      cases h
      exact .tup a (dps_of r e)
  | _, _, _, .dk _ _, h => by cases h
  | _, _, _, .dt _ _, h => by cases h
  | _, _, _, .ins _ _ _, h => by cases h
  | _, _, _, .scr _, h => by cases h
theorem dps_of : ∀ {d : List D} {v : List V} {p : List PyData}, DDs K mg H d v → toPys d = some p → DpAll K H v p
  | _, _, _, .nil, h => by cases h; exact .nil
  | d :: ds, _, _, .cons a r, h => by
    cases e : toPy d with
    | none => simp only [toPys, e] at h; cases h
    | some q =>
      cases e2 : toPys ds with
      | none => simp only [toPys, e, e2] at h; cases h
      | some qs =>
        simp only [toPys, e, e2] at h
        cases h
        exact .cons (dp_of a e) (dps_of r e2)
end
end
section
variable {G : Cfg} {F H : Hp} {v w : V} {d d' : D}
theorem vw_dp {p : PyData} (x : Ex F H) (h : Vw G F H v d) (e : toPy d = some p) : Dp G.K H v p := by
  rcases h with h | ⟨q, o, rfl, h1, h2⟩
  · exact dp_of (h.mono x) e
  · have h2' : ObD G H o d := h2.mono x
    exact dp_of (h2'.dd h1) e
theorem Vw.dd_tup {ds : List D} (h : Vw G F H v (.tup ds)) : DD G.K G.mg F (.tup ds) v := by
  rcases h with h | ⟨p, o, rfl, h, q⟩
  · exact h
  · cases o <;> exact q.elim
end

/-! ### arithmetic -/
abbrev lim : Nat := 1000000
def addD : D → D → Option Slot
  | .int i, .int j => some (.dat (.int (i + j)))
  | .str a, .str b => if a.length + b.length ≤ lim then some (.dat (.str (a ++ b))) else none
  | .lst a, .lst b => if a.length + b.length ≤ lim then some (.own (.lst (a ++ b))) else none
  | .tup a, .tup b => if a.length + b.length ≤ lim then some (.dat (.tup (a ++ b))) else none
  | _, _ => none
def subD : D → D → Option Slot
  | .int i, .int j => some (.dat (.int (i - j)))
  | _, _ => none
def mulD : D → D → Option Slot
  | .int i, .int j => if ((-(2 ^ 64) < i ∧ i < 2 ^ 64) ∨ (-(2 ^ 64) < j ∧ j < 2 ^ 64)) ∨ i.natAbs.log2 + j.natAbs.log2 < 1000000 then some (.dat (.int (i * j))) else none
  | .lst a, .int k => if 0 ≤ k ∧ k < 100000 ∧ a.length * k.toNat ≤ lim then some (.own (.lst (List.replicate k.toNat a).flatten)) else none
  | _, _ => none
def fdivD : D → D → Option Slot
  | .int i, .int j => if 0 < j ∧ j.natAbs.log2 < 9000 then some (.dat (.int (i / j))) else none
  | _, _ => none
def modD : D → D → Option Slot
  | .int i, .int j => if 0 < j then some (.dat (.int (i % j))) else none
  | _, _ => none
def powD : D → D → Option Slot
  | .int i, .int j => if 0 ≤ j ∧ j ≤ 1000 ∧ i.natAbs < 1000 then some (.dat (.int (i ^ j.toNat))) else none
  | _, _ => none
def negD : D → Option Slot
  | .int i => some (.dat (.int (-i)))
  | _ => none
def ltD : D → D → Option Slot
  | .int i, .int j => some (.dat (.bl (decide (i < j))))
  | _, _ => none
def leD : D → D → Option Slot
  | .int i, .int j => some (.dat (.bl (decide (i ≤ j))))
  | _, _ => none
def gtD : D → D → Option Slot
  | .int i, .int j => some (.dat (.bl (decide (j < i))))
  | _, _ => none
def geD : D → D → Option Slot
  | .int i, .int j => some (.dat (.bl (decide (j ≤ i))))
  | _, _ => none
def eqP (x y : D) : Option Bool := match toPy x, toPy y with
  | some a, some b => if SeqAt.shaped a = true ∧ SeqAt.shaped b = true then some (PyData.eqv a b) else none
  | _, _ => none
def eqD (x y : D) : Option Slot := (eqP x y).map fun b => .dat (.bl b)
def neD (x y : D) : Option Slot := (eqP x y).map fun b => .dat (.bl (!b))

theorem DDs.append {K : PySem.W.Frag} {mg : Str → Option Value} {F : Hp} : ∀ {a b : List D} {xs ys : List V}, DDs K mg F a xs → DDs K mg F b ys → DDs K mg F (a ++ b) (xs ++ ys)
  | _, _, _, _, .nil, h => h
  | _, _, _, _, .cons h r, q => .cons h (DDs.append r q)
theorem DDs.rep {K : PySem.W.Frag} {mg : Str → Option Value} {F : Hp} {a : List D} {xs : List V} (h : DDs K mg F a xs) : ∀ n : Nat, DDs K mg F (List.replicate n a).flatten (List.replicate n xs).flatten
  | 0 => .nil
  | n + 1 => by
    rw [List.replicate_succ, List.replicate_succ, List.flatten_cons, List.flatten_cons]
    exact h.append (DDs.rep h n)
theorem DDs.get {K : PySem.W.Frag} {mg : Str → Option Value} {F : Hp} : ∀ {a : List D} {xs : List V} {i : Nat} {d : D}, DDs K mg F a xs → a[i]? = some d → ∃ v, xs[i]? = some v ∧ DD K mg F d v
  | _, _, _, _, .nil, h => by simp at h
  | _, _, 0, _, .cons h r, q => by simp at q; subst q; exact ⟨_, rfl, h⟩
  | _, _, i + 1, _, .cons h r, q => by
    obtain ⟨v, h1, h2⟩ := DDs.get (i := i) r (by simpa using q)
    exact ⟨v, by simpa using h1, h2⟩
theorem DDs.nil_iff {K : PySem.W.Frag} {mg : Str → Option Value} {F : Hp} {a : List D} {xs : List V} (h : DDs K mg F a xs) : xs = [] ↔ a = [] := by
  cases h <;> simp

theorem ite_some {c : Prop} [Decidable c] {α : Type} {a k : α} (h : (if c then some a else none) = some k) : c ∧ k = a := by
  split at h
  · rename_i hc
    cases h
    exact ⟨hc, rfl⟩
  · cases h
section
variable {G : Cfg}
/-- what is said of a pair of ints -/
theorem op2_int {g : D → D → Option Slot} {C : Int → Int → Prop} {f : Int → Int → D} {fv : Int → Int → V} (hf : ∀ i j F, DD G.K G.mg F (f i j) (fv i j))
    (hg : ∀ x y k, g x y = some k → ∃ i j, x = .int i ∧ y = .int j ∧ C i j ∧ k = .dat (f i j)) : OpM2 G (rI C fv) g := by
  intro F H σ ls vs ks v w x y k Q R h1 h2 e q
  obtain ⟨i, j, rfl, rfl, c, rfl⟩ := hg x y k e
  exact ⟨i, j, Vw.int R.ex h1, Vw.int R.ex h2, c, q _ _ _ (R.pushDat (hf i j F))⟩
theorem op2_int0 {g : D → D → Option Slot} {f : Int → Int → D} {fv : Int → Int → V} (hf : ∀ i j F, DD G.K G.mg F (f i j) (fv i j))
    (hg : ∀ x y k, g x y = some k → ∃ i j, x = .int i ∧ y = .int j ∧ k = .dat (f i j)) : OpM2 G (rI0 fv) g := by
  intro F H σ ls vs ks v w x y k Q R h1 h2 e q
  obtain ⟨i, j, rfl, rfl, rfl⟩ := hg x y k e
  exact ⟨i, j, Vw.int R.ex h1, Vw.int R.ex h2, q _ _ _ (R.pushDat (hf i j F))⟩
theorem m_sub : OpM2 G (rI0 fun i j => .int (i - j)) subD := op2_int0 (f := fun i j => .int (i - j)) (fun _ _ _ => .int _) fun x y k e => by
  cases x <;> cases y <;> first | (cases e; exact ⟨_, _, rfl, rfl, rfl⟩) | cases e
theorem m_fdiv : OpM2 G (rI CDivW fun i j => .int (i / j)) fdivD := op2_int (f := fun i j => .int (i / j)) (fun _ _ _ => .int _) fun x y k e => by
  cases x <;> cases y <;> first | (obtain ⟨c, rfl⟩ := ite_some e; exact ⟨_, _, rfl, rfl, c, rfl⟩) | cases e
theorem m_mod : OpM2 G (rI (fun _ j => 0 < j) fun i j => .int (i % j)) modD := op2_int (f := fun i j => .int (i % j)) (fun _ _ _ => .int _) fun x y k e => by
  cases x <;> cases y <;> first | (obtain ⟨c, rfl⟩ := ite_some e; exact ⟨_, _, rfl, rfl, c, rfl⟩) | cases e
theorem m_pow : OpM2 G (rI CPow fun i j => .int (i ^ j.toNat)) powD := op2_int (f := fun i j => .int (i ^ j.toNat)) (fun _ _ _ => .int _) fun x y k e => by
  cases x <;> cases y <;> first
    | (obtain ⟨c, rfl⟩ := ite_some e; exact ⟨_, _, rfl, rfl, ⟨c.1, by omega, Nat.lt_of_lt_of_le c.2.2 (by decide)⟩, rfl⟩)
    | cases e
theorem m_lt : OpM2 G (rI0 fun i j => .bl (decide (i < j))) ltD := op2_int0 (f := fun i j => .bl (decide (i < j))) (fun _ _ _ => .bl _) fun x y k e => by
  cases x <;> cases y <;> first | (cases e; exact ⟨_, _, rfl, rfl, rfl⟩) | cases e
theorem m_le : OpM2 G (rI0 fun i j => .bl (decide (i ≤ j))) leD := op2_int0 (f := fun i j => .bl (decide (i ≤ j))) (fun _ _ _ => .bl _) fun x y k e => by
  cases x <;> cases y <;> first | (cases e; exact ⟨_, _, rfl, rfl, rfl⟩) | cases e
theorem m_gt : OpM2 G (rI0 fun i j => .bl (decide (j < i))) gtD := op2_int0 (f := fun i j => .bl (decide (j < i))) (fun _ _ _ => .bl _) fun x y k e => by
  cases x <;> cases y <;> first | (cases e; exact ⟨_, _, rfl, rfl, rfl⟩) | cases e
theorem m_ge : OpM2 G (rI0 fun i j => .bl (decide (j ≤ i))) geD := op2_int0 (f := fun i j => .bl (decide (j ≤ i))) (fun _ _ _ => .bl _) fun x y k e => by
  cases x <;> cases y <;> first | (cases e; exact ⟨_, _, rfl, rfl, rfl⟩) | cases e
theorem m_neg : OpM1 G (rU fun i => .int (-i)) negD := by
  intro F H σ ls vs ks v x k Q R h e q
  cases x <;> first | (cases e; exact ⟨_, Vw.int R.ex h, q _ _ _ (R.pushDat (.int _))⟩) | cases e
def rAddU (K : PySem.W.Frag) : R2 := fun x y H Q => (∃ i j, x = .int i ∧ y = .int j ∧ Q (.int (i + j)) H) ∨ (∃ i j, x = .str i ∧ y = .str j ∧ i.length + j.length ≤ sizeLine ∧ Q (.str (i ++ j)) H) ∨ rCat x y H Q ∨ rCatA K x y H Q
theorem o_add {X : Cx} : OpR X (binaryOp .Add) (rAddU X.K) := op_add.or (op_add_str.or (op_cat.or op_catA))
theorem m_add : OpM2 G (rAddU G.K) addD := by
  intro F H σ ls vs ks v w x y k Q R h1 h2 e q
  cases x <;> cases y <;> first
    | (cases e; exact .inl ⟨_, _, Vw.int R.ex h1, Vw.int R.ex h2, q _ _ _ (R.pushDat (.int _))⟩)
    | (simp only [addD] at e
       split at e
       · rename_i c
         cases e
         first
           | exact .inr (.inl ⟨_, _, Vw.str R.ex h1, Vw.str R.ex h2, line_of c, q _ _ _ (R.pushDat (.str _))⟩)
           | (obtain ⟨a, xs, rfl, e1, d1⟩ := Vw.lst R.ex h1
              obtain ⟨b, ys, rfl, e2, d2⟩ := Vw.lst R.ex h2
              exact .inr (.inr (.inl ⟨a, b, xs, ys, rfl, rfl, e1, e2, line_of (by rw [← d1.length, ← d2.length]; exact c), fun p hp => q _ _ _ (R.pushOwn hp (o := .lst (xs ++ ys)) (d1.append d2))⟩)))
           | (have f1 := h1.dd_tup
              have f2 := h2.dd_tup
              obtain ⟨a, xs, rfl, e1, d1⟩ := Vw.tup R.ex h1
              obtain ⟨b, ys, rfl, e2, d2⟩ := Vw.tup R.ex h2
              refine .inr (.inr (.inr ⟨a, b, xs, ys, rfl, rfl, SqT.of e1, SqT.of e2, line_of (by rw [← d1.length, ← d2.length]; exact c), fun z => ?_, fun _ z => ?_, fun _ _ p hp => ?_⟩))
              · rw [(d1.nil_iff).mp z] at q
                exact q _ _ _ (R.pushDat f2)
              · rw [(d2.nil_iff).mp z, List.append_nil] at q
                exact q _ _ _ (R.pushDat f1)
              · exact q _ _ _ (R.pushTup hp (d1.append d2)))
       · cases e)
    | cases e
def rMulU : R2 := fun x y H Q => (rI CMul (fun i j => .int (i * j)) x y H Q ∨ rI CMulW (fun i j => .int (i * j)) x y H Q) ∨ rRep x y H Q
theorem o_mul {X : Cx} : OpR X (binaryOp .Mult) rMulU := (op_mul.or op_mulW).or op_rep
theorem m_mul : OpM2 G rMulU mulD := by
  intro F H σ ls vs ks v w x y k Q R h1 h2 e q
  cases x <;> cases y <;> first
    | (simp only [mulD] at e
       split at e
       · rename_i c
         cases e
         first
           | exact .inl (c.elim (fun c => .inl ⟨_, _, Vw.int R.ex h1, Vw.int R.ex h2, c, q _ _ _ (R.pushDat (.int _))⟩) fun c => .inr ⟨_, _, Vw.int R.ex h1, Vw.int R.ex h2, c, q _ _ _ (R.pushDat (.int _))⟩)
           | (obtain ⟨a, xs, rfl, e1, d1⟩ := Vw.lst R.ex h1
              have e2 := Vw.int R.ex h2
              obtain ⟨c1, c2, c3⟩ := c
              exact .inr ⟨a, _, xs, rfl, e2, e1, by omega, by omega, line_of (by rw [← d1.length]; exact c3), fun p hp => q _ _ _ (R.pushOwn hp (o := .lst _) (d1.rep _))⟩)
       · cases e)
    | cases e
theorem m_eq : OpM2 G (rEqD G.K) eqD := by
  intro F H σ ls vs ks v w x y k Q R h1 h2 e q
  cases e1 : toPy x with
  | none => simp only [eqD, eqP, e1, Option.map_none] at e; cases e
  | some a =>
    cases e2 : toPy y with
    | none => simp only [eqD, eqP, e1, e2, Option.map_none] at e; cases e
    | some b =>
      simp only [eqD, eqP, e1, e2] at e
      split at e
      · rename_i c
        cases e
        exact ⟨a, b, vw_dp R.ex h1 e1, vw_dp R.ex h2 e2, c.1, c.2, q _ _ _ (R.pushDat (.bl _))⟩
      · cases e
theorem m_ne : OpM2 G (rNeD G.K) neD := by
  intro F H σ ls vs ks v w x y k Q R h1 h2 e q
  cases e1 : toPy x with
  | none => simp only [neD, eqP, e1, Option.map_none] at e; cases e
  | some a =>
    cases e2 : toPy y with
    | none => simp only [neD, eqP, e1, e2, Option.map_none] at e; cases e
    | some b =>
      simp only [neD, eqP, e1, e2] at e
      split at e
      · rename_i c
        cases e
        exact ⟨a, b, vw_dp R.ex h1 e1, vw_dp R.ex h2 e2, c.1, c.2, q _ _ _ (R.pushDat (.bl _))⟩
      · cases e
end

/-! ### dicts -/
/-- what a key is -/
def keyK : D → Option Key
  | .int i => some (.inl i)
  | .str s => some (.inr s)
  | _ => none
def keysK : List D → Option (List Key)
  | [] => some []
  | d :: ds => match keyK d, keysK ds with
    | some k, some r => some (k :: r)
    | _, _ => none
def keyT : D → Option (List Key)
  | .tup ds => keysK ds
  | _ => none
section
variable {κ : Type} [DecidableEq κ] {α : Type}
def getG (es : List (κ × α)) (k : κ) : Option α := (es.find? fun e => decide (e.1 = k)).map (·.2)
def putG (es : List (κ × α)) (k : κ) (v : α) : List (κ × α) := if es.any (fun e => decide (e.1 = k)) then es.map (fun e => if e.1 = k then (e.1, v) else e) else es ++ [(k, v)]
end
theorem keyK_kV {G : Cfg} {F H : Hp} (x : Ex F H) {v : V} {d : D} {k : Key} (h : Vw G F H v d) (e : keyK d = some k) : v = kV k := by
  cases d <;> cases e
  · exact Vw.int x h
  · exact Vw.str x h
theorem keyK_dd {K : PySem.W.Frag} {mg : Str → Option Value} {F : Hp} {v : V} {d : D} {k : Key} (h : DD K mg F d v) (e : keyK d = some k) : v = kV k := by
  cases h <;> cases e <;> rfl
theorem keysK_dd {K : PySem.W.Frag} {mg : Str → Option Value} {F : Hp} : ∀ {ds : List D} {xs : List V} {k : List Key}, DDs K mg F ds xs → keysK ds = some k → xs = k.map kV
  | _, _, _, .nil, h => by cases h; rfl
  | d :: ds, _, _, .cons a r, h => by
    cases e : keyK d with
    | none => simp only [keysK, e] at h; cases h
    | some q =>
      cases e2 : keysK ds with
      | none => simp only [keysK, e, e2] at h; cases h
      | some qs =>
        simp only [keysK, e, e2] at h
        cases h
        rw [keyK_dd a e, keysK_dd r e2]
        rfl
theorem keyT_vw {G : Cfg} {F H : Hp} (x : Ex F H) {v : V} {d : D} {k : List Key} (h : Vw G F H v d) (e : keyT d = some k) : ∃ b, v = .ref b ∧ H b = some (.tup (k.map kV)) := by
  cases d <;> first | cases e | skip
  rename_i ds
  obtain ⟨b, xs, rfl, h1, h2⟩ := Vw.tup x h
  exact ⟨b, rfl, by rw [h1, keysK_dd h2 e]⟩
theorem ddk_get {K : PySem.W.Frag} {mg : Str → Option Value} {F : Hp} {k : Key} : ∀ {es : List (Key × D)} {kvs : List (Key × V)}, DDk K mg F es kvs →
    (getG es k = none ∧ valV kvs k = none) ∨ ∃ d v, getG es k = some d ∧ valV kvs k = some v ∧ DD K mg F d v
  | _, _, .nil => .inl ⟨rfl, rfl⟩
  | _, _, .cons (k := k') (d := d) (v := v) a r => by
    by_cases h : k' = k
    · refine .inr ⟨d, v, ?_, valV_pos h, a⟩
      simp [getG, h]
    · rcases ddk_get (k := k) r with ⟨h1, h2⟩ | ⟨d', v', h1, h2, h3⟩
      · refine .inl ⟨?_, by rw [valV_neg h]; exact h2⟩
        simpa [getG, h] using h1
      · refine .inr ⟨d', v', ?_, by rw [valV_neg h]; exact h2, h3⟩
        simpa [getG, h] using h1
theorem ddt_get {K : PySem.W.Frag} {mg : Str → Option Value} {F : Hp} {k : List Key} : ∀ {es : List (List Key × D)} {kvs : List (List Key × V)}, DDt K mg F es kvs →
    (getG es k = none ∧ valV kvs k = none) ∨ ∃ d v, getG es k = some d ∧ valV kvs k = some v ∧ DD K mg F d v
  | _, _, .nil => .inl ⟨rfl, rfl⟩
  | _, _, .cons (k := k') (d := d) (v := v) a r => by
    by_cases h : k' = k
    · refine .inr ⟨d, v, ?_, valV_pos h, a⟩
      simp [getG, h]
    · rcases ddt_get (k := k) r with ⟨h1, h2⟩ | ⟨d', v', h1, h2, h3⟩
      · refine .inl ⟨?_, by rw [valV_neg h]; exact h2⟩
        simpa [getG, h] using h1
      · refine .inr ⟨d', v', ?_, by rw [valV_neg h]; exact h2, h3⟩
        simpa [getG, h] using h1
theorem ddk_any {K : PySem.W.Frag} {mg : Str → Option Value} {F : Hp} {k : Key} : ∀ {es : List (Key × D)} {kvs : List (Key × V)}, DDk K mg F es kvs → (es.any fun e => decide (e.1 = k)) = kvs.any fun e => decide (e.1 = k)
  | _, _, .nil => rfl
  | _, _, .cons a r => by rw [List.any_cons, List.any_cons, ddk_any r]
theorem ddt_any {K : PySem.W.Frag} {mg : Str → Option Value} {F : Hp} {k : List Key} : ∀ {es : List (List Key × D)} {kvs : List (List Key × V)}, DDt K mg F es kvs → (es.any fun e => decide (e.1 = k)) = kvs.any fun e => decide (e.1 = k)
  | _, _, .nil => rfl
  | _, _, .cons a r => by rw [List.any_cons, List.any_cons, ddt_any r]
theorem DDk.append {K : PySem.W.Frag} {mg : Str → Option Value} {F : Hp} : ∀ {a b : List (Key × D)} {xs ys : List (Key × V)}, DDk K mg F a xs → DDk K mg F b ys → DDk K mg F (a ++ b) (xs ++ ys)
  | _, _, _, _, .nil, h => h
  | _, _, _, _, .cons h r, q => .cons h (DDk.append r q)
theorem DDt.append {K : PySem.W.Frag} {mg : Str → Option Value} {F : Hp} : ∀ {a b : List (List Key × D)} {xs ys : List (List Key × V)}, DDt K mg F a xs → DDt K mg F b ys → DDt K mg F (a ++ b) (xs ++ ys)
  | _, _, _, _, .nil, h => h
  | _, _, _, _, .cons h r, q => .cons h (DDt.append r q)
theorem ddk_map {K : PySem.W.Frag} {mg : Str → Option Value} {F : Hp} {k : Key} {d : D} {v : V} (h : DD K mg F d v) : ∀ {es : List (Key × D)} {kvs : List (Key × V)}, DDk K mg F es kvs →
    DDk K mg F (es.map fun e => if e.1 = k then (e.1, d) else e) (kvs.map fun e => if e.1 = k then (e.1, v) else e)
  | _, _, .nil => .nil
  | _, _, .cons (k := k') a r => by
    rw [List.map_cons, List.map_cons]
    by_cases hk : k' = k
    · rw [if_pos hk, if_pos hk]; exact .cons h (ddk_map h r)
    · rw [if_neg hk, if_neg hk]; exact .cons a (ddk_map h r)
theorem ddt_map {K : PySem.W.Frag} {mg : Str → Option Value} {F : Hp} {k : List Key} {d : D} {v : V} (h : DD K mg F d v) : ∀ {es : List (List Key × D)} {kvs : List (List Key × V)}, DDt K mg F es kvs →
    DDt K mg F (es.map fun e => if e.1 = k then (e.1, d) else e) (kvs.map fun e => if e.1 = k then (e.1, v) else e)
  | _, _, .nil => .nil
  | _, _, .cons (k := k') a r => by
    rw [List.map_cons, List.map_cons]
    by_cases hk : k' = k
    · rw [if_pos hk, if_pos hk]; exact .cons h (ddt_map h r)
    · rw [if_neg hk, if_neg hk]; exact .cons a (ddt_map h r)
theorem ddk_put {K : PySem.W.Frag} {mg : Str → Option Value} {F : Hp} {k : Key} {d : D} {v : V} (h : DD K mg F d v) {es : List (Key × D)} {kvs : List (Key × V)} (r : DDk K mg F es kvs) : DDk K mg F (putG es k d) (putK kvs k v) := by
  unfold putG putK
  rw [ddk_any r]
  split
  · exact ddk_map h r
  · exact r.append (.cons h .nil)
theorem ddt_put {K : PySem.W.Frag} {mg : Str → Option Value} {F : Hp} {k : List Key} {d : D} {v : V} (h : DD K mg F d v) {es : List (List Key × D)} {kvs : List (List Key × V)} (r : DDt K mg F es kvs) : DDt K mg F (putG es k d) (putK kvs k v) := by
  unfold putG putK
  rw [ddt_any r]
  split
  · exact ddt_map h r
  · exact r.append (.cons h .nil)
theorem DDk.length {K : PySem.W.Frag} {mg : Str → Option Value} {F : Hp} : ∀ {es : List (Key × D)} {kvs : List (Key × V)}, DDk K mg F es kvs → es.length = kvs.length
  | _, _, .nil => rfl
  | _, _, .cons _ r => by simp [DDk.length r]
theorem DDt.length {K : PySem.W.Frag} {mg : Str → Option Value} {F : Hp} : ∀ {es : List (List Key × D)} {kvs : List (List Key × V)}, DDt K mg F es kvs → es.length = kvs.length
  | _, _, .nil => rfl
  | _, _, .cons _ r => by simp [DDt.length r]

/-! ### in, not in -/
def flatD : D → Bool
  | .non => true
  | .bl _ => true
  | .int _ => true
  | .str _ => true
  | _ => false
def eqF : D → D → Bool
  | .non, .non => true
  | .bl a, .bl b => a == b
  | .bl a, .int b => (if a then 1 else 0) == b
  | .int a, .bl b => a == (if b then 1 else 0)
  | .int a, .int b => a == b
  | .str a, .str b => a == b
  | _, _ => false
def inP (x y : D) : Option Bool := match y with
  | .lst ds => (match toPy x, toPys ds with
    | some a, some bs => if SeqAt.shaped a = true ∧ SeqAt.shaped (.list bs) = true then some (bs.any fun z => PyData.eqv z a) else none
    | _, _ => none)
  | .tup ds => if flatD x = true ∧ ds.all flatD = true then some (ds.any fun y => eqF y x) else none
  | .ktup ds => if flatD x = true ∧ ds.all flatD = true then some (ds.any fun y => eqF y x) else none
  | .str b => (match x with
    | .str a => some (!(Builtin.Str.occurrences b a 0 b.length 1).isEmpty)
    | _ => none)
  | .dK es => (match keyK x with
    | some k => some (getG es k).isSome
    | none => none)
  | .dT es => (match keyT x with
    | some k => some (getG es k).isSome
    | none => none)
  | _ => none
def inD (x y : D) : Option Slot := (inP x y).map fun b => .dat (.bl b)
def ninD (x y : D) : Option Slot := (inP x y).map fun b => .dat (.bl (!b))
theorem flat_vw {G : Cfg} {F H : Hp} (x : Ex F H) {v : V} {d : D} (h : Vw G F H v d) (e : flatD d = true) : flatV v = true := by
  cases d <;> first | cases e | skip
  · rw [Vw.non x h]; rfl
  · rw [Vw.bl x h]; rfl
  · rw [Vw.int x h]; rfl
  · rw [Vw.str x h]; rfl
theorem flat_dd {K : PySem.W.Frag} {mg : Str → Option Value} {F : Hp} {v : V} {d : D} (h : DD K mg F d v) (e : flatD d = true) : flatV v = true := by
  cases h <;> first | rfl | cases e
theorem flat_dds {K : PySem.W.Frag} {mg : Str → Option Value} {F : Hp} : ∀ {ds : List D} {xs : List V}, DDs K mg F ds xs → ds.all flatD = true → xs.all flatV = true
  | _, _, .nil, _ => rfl
  | _, _, .cons h r, e => by
    rw [List.all_cons, Bool.and_eq_true] at e
    rw [List.all_cons, flat_dd h e.1, flat_dds r e.2]
    rfl
theorem eqF_dd {G : Cfg} {F H : Hp} (x : Ex F H) {v w : V} {d e : D} (h : DD G.K G.mg F d v) (h2 : Vw G F H w e) (f1 : flatD d = true) (f2 : flatD e = true) : eqV v w = eqF d e := by
  cases e <;> first | cases f2 | skip
  · rw [Vw.non x h2]; cases h <;> first | rfl | cases f1
  · rw [Vw.bl x h2]; cases h <;> first | rfl | cases f1
  · rw [Vw.int x h2]; cases h <;> first | rfl | cases f1
  · rw [Vw.str x h2]; cases h <;> first | rfl | cases f1
theorem any_dds {G : Cfg} {F H : Hp} (x : Ex F H) {w : V} {e : D} (h2 : Vw G F H w e) (f2 : flatD e = true) : ∀ {ds : List D} {xs : List V}, DDs G.K G.mg F ds xs → ds.all flatD = true → inV w xs = ds.any fun y => eqF y e
  | _, _, .nil, _ => rfl
  | _, _, .cons h r, f => by
    rw [List.all_cons, Bool.and_eq_true] at f
    have := any_dds x h2 f2 r f.2
    unfold inV at this ⊢
    rw [List.any_cons, List.any_cons, this, eqF_dd x h h2 f.1 f2]
def rInDic : R2 := fun x y H Q => ∃ a o, y = .ref a ∧ DGet H a x o ∧ Q (.bl o.isSome) H
def rNinDic : R2 := fun x y H Q => ∃ a o, y = .ref a ∧ DGet H a x o ∧ Q (.bl (!o.isSome)) H
theorem op_in_dic {X : Cx} (hu : X.A.units + 1 < cLine) : OpR X (compareOp .In) rInDic := by
  rintro pins s σ H x y v u Q I rx ry ⟨a, o, rfl, g, q⟩
  cases ry
  exact d_in hu I g rx fun s3 I3 => ⟨.bl o.isSome, H, I3, rfl, q⟩
theorem op_nin_dic {X : Cx} (hu : X.A.units + 1 < cLine) : OpR X (compareOp .NotIn) rNinDic := by
  rintro pins s σ H x y v u Q I rx ry ⟨a, o, rfl, g, q⟩
  cases ry
  exact d_notIn hu I g rx fun s3 I3 => ⟨.bl (!o.isSome), H, I3, rfl, q⟩
def rInU (K : PySem.W.Frag) : R2 := fun x y H Q => rInD K x y H Q ∨ rIn K false x y H Q ∨ (∃ i j, x = .str i ∧ y = .str j ∧ Q (.bl (!(Builtin.Str.occurrences j i 0 j.length 1).isEmpty)) H) ∨ rInDic x y H Q
def rNinU (K : PySem.W.Frag) : R2 := fun x y H Q => rNotInD K x y H Q ∨ rIn K true x y H Q ∨ (∃ i j, x = .str i ∧ y = .str j ∧ Q (.bl (!(!(Builtin.Str.occurrences j i 0 j.length 1).isEmpty))) H) ∨ rNinDic x y H Q
theorem o_in {X : Cx} {k : Nat} (hr : Room k X.A) (hu : X.A.units + 65 < cLine) : OpR X (compareOp .In) (rInU X.K) := (op_inD hu).or (op_in_seq.or (op_in_str.or (op_in_dic (by omega))))
theorem o_nin {X : Cx} {k : Nat} (hr : Room k X.A) (hu : X.A.units + 65 < cLine) : OpR X (compareOp .NotIn) (rNinU X.K) := (op_notInD hu).or (op_notIn_seq.or (op_notin_str.or (op_nin_dic (by omega))))
section
variable {G : Cfg}
theorem dget_k {F H : Hp} (x : Ex F H) {v w : V} {d : D} {k : Key} {es : List (Key × D)} (h : Vw G F H v d) (e : keyK d = some k) (h2 : Vw G F H w (.dK es)) :
    ∃ a o, w = .ref a ∧ DGet H a v o ∧ o.isSome = (getG es k).isSome ∧ ∀ r, getG es k = some r → ∃ z, o = some z ∧ DD G.K G.mg F r z := by
  obtain ⟨a, kvs, rfl, h3, h4⟩ := Vw.dK x h2
  have ev := keyK_kV x h e
  subst ev
  refine ⟨a, valV kvs k, rfl, DGet.k h3, ?_, fun r hr => ?_⟩
  · rcases ddk_get (k := k) h4 with ⟨q1, q2⟩ | ⟨_, _, q1, q2, _⟩ <;> rw [q1, q2] <;> rfl
  · rcases ddk_get (k := k) h4 with ⟨q1, q2⟩ | ⟨d', v', q1, q2, q3⟩
    · rw [q1] at hr; cases hr
    · rw [q1] at hr; cases hr; exact ⟨v', q2, q3⟩
theorem dget_t {F H : Hp} (x : Ex F H) {v w : V} {d : D} {k : List Key} {es : List (List Key × D)} (h : Vw G F H v d) (e : keyT d = some k) (h2 : Vw G F H w (.dT es)) :
    ∃ a o, w = .ref a ∧ DGet H a v o ∧ o.isSome = (getG es k).isSome ∧ ∀ r, getG es k = some r → ∃ z, o = some z ∧ DD G.K G.mg F r z := by
  obtain ⟨a, kvs, rfl, h3, h4⟩ := Vw.dT x h2
  obtain ⟨b, rfl, hb⟩ := keyT_vw x h e
  refine ⟨a, valV kvs k, rfl, DGet.t h3 hb, ?_, fun r hr => ?_⟩
  · rcases ddt_get (k := k) h4 with ⟨q1, q2⟩ | ⟨_, _, q1, q2, _⟩ <;> rw [q1, q2] <;> rfl
  · rcases ddt_get (k := k) h4 with ⟨q1, q2⟩ | ⟨d', v', q1, q2, q3⟩
    · rw [q1] at hr; cases hr
    · rw [q1] at hr; cases hr; exact ⟨v', q2, q3⟩
/-- both readings at once -/
theorem in_cases {F H : Hp} {σ : L2.St} {ls vs ks} (R : Rp G F H σ ls vs ks) {v w : V} {x y : D} {b : Bool} (h1 : Vw G F H v x) (h2 : Vw G F H w y) (e : inP x y = some b) :
    (∃ d ds, Dp G.K H v d ∧ Dp G.K H w (.list ds) ∧ SeqAt.shaped d = true ∧ SeqAt.shaped (.list ds) = true ∧ b = ds.any fun z => PyData.eqv z d) ∨
    (∃ p xs, w = .ref p ∧ (SqL G.K H p xs ∨ SqT G.K H p xs) ∧ flatV v = true ∧ xs.all flatV = true ∧ b = inV v xs) ∨
    (∃ i j, v = .str i ∧ w = .str j ∧ b = !(Builtin.Str.occurrences j i 0 j.length 1).isEmpty) ∨
    (∃ a o, w = .ref a ∧ DGet H a v o ∧ b = o.isSome) := by
  cases y with
  | lst ds =>
    cases e1 : toPy x with
    | none => simp only [inP, e1] at e; cases e
    | some a =>
      cases e2 : toPys ds with
      | none => simp only [inP, e1, e2] at e; cases e
      | some bs =>
        simp only [inP, e1, e2] at e
        split at e
        · rename_i c
          cases e
          exact .inl ⟨a, bs, vw_dp R.ex h1 e1, vw_dp R.ex h2 (by simp only [toPy, e2, Option.map_some]), c.1, c.2, rfl⟩
        · cases e
  | tup ds =>
    simp only [inP] at e
    split at e
    · rename_i c
      cases e
      obtain ⟨a, xs, rfl, e1, d1⟩ := Vw.tup R.ex h2
      exact .inr (.inl ⟨a, xs, rfl, .inr (SqT.of e1), flat_vw R.ex h1 c.1, flat_dds d1 c.2, (any_dds R.ex h1 c.1 d1 c.2).symm⟩)
    · cases e
  | ktup ds =>
    simp only [inP] at e
    split at e
    · rename_i c
      cases e
      obtain ⟨a, xs, rfl, e1, d1⟩ := Vw.ktup R.ex h2
      exact .inr (.inl ⟨a, xs, rfl, .inr e1, flat_vw R.ex h1 c.1, flat_dds d1 c.2, (any_dds R.ex h1 c.1 d1 c.2).symm⟩)
    · cases e
  | str z =>
    cases x <;> first | (simp only [inP] at e; cases e; done) | skip
    simp only [inP] at e
    cases e
    exact .inr (.inr (.inl ⟨_, _, Vw.str R.ex h1, Vw.str R.ex h2, rfl⟩))
  | dK es =>
    cases e1 : keyK x with
    | none => simp only [inP, e1] at e; cases e
    | some k =>
      simp only [inP, e1] at e
      cases e
      obtain ⟨a, o, rfl, g, q, _⟩ := dget_k R.ex h1 e1 h2
      exact .inr (.inr (.inr ⟨a, o, rfl, g, q.symm⟩))
  | dT es =>
    cases e1 : keyT x with
    | none => simp only [inP, e1] at e; cases e
    | some k =>
      simp only [inP, e1] at e
      cases e
      obtain ⟨a, o, rfl, g, q, _⟩ := dget_t R.ex h1 e1 h2
      exact .inr (.inr (.inr ⟨a, o, rfl, g, q.symm⟩))
  | non => cases e
  | bl _ => cases e
  | int _ => cases e
  | ins _ _ => cases e
  | scr _ => cases e
theorem m_in : OpM2 G (rInU G.K) inD := by
  intro F H σ ls vs ks v w x y k Q R h1 h2 e q
  cases e1 : inP x y with
  | none => simp only [inD, e1, Option.map_none] at e; cases e
  | some b =>
    simp only [inD, e1, Option.map_some] at e
    cases e
    have qq := q (.bl b) F H (R.pushDat (.bl b))
    rcases in_cases R h1 h2 e1 with ⟨d, ds, a1, a2, a3, a4, rfl⟩ | ⟨p, xs, a1, a2, a3, a4, rfl⟩ | ⟨i, j, a1, a2, rfl⟩ | ⟨a, o, a1, a2, rfl⟩
    · exact .inl ⟨d, ds, a1, a2, a3, a4, qq⟩
    · exact .inr (.inl ⟨p, xs, a1, a2, a3, a4, qq⟩)
    · exact .inr (.inr (.inl ⟨i, j, a1, a2, qq⟩))
    · exact .inr (.inr (.inr ⟨a, o, a1, a2, qq⟩))
theorem m_nin : OpM2 G (rNinU G.K) ninD := by
  intro F H σ ls vs ks v w x y k Q R h1 h2 e q
  cases e1 : inP x y with
  | none => simp only [ninD, e1, Option.map_none] at e; cases e
  | some b =>
    simp only [ninD, e1, Option.map_some] at e
    cases e
    have qq := q (.bl (!b)) F H (R.pushDat (.bl (!b)))
    rcases in_cases R h1 h2 e1 with ⟨d, ds, a1, a2, a3, a4, rfl⟩ | ⟨p, xs, a1, a2, a3, a4, rfl⟩ | ⟨i, j, a1, a2, rfl⟩ | ⟨a, o, a1, a2, rfl⟩
    · exact .inl ⟨d, ds, a1, a2, a3, a4, qq⟩
    · exact .inr (.inl ⟨p, xs, a1, a2, a3, a4, qq⟩)
    · exact .inr (.inr (.inl ⟨i, j, a1, a2, qq⟩))
    · exact .inr (.inr (.inr ⟨a, o, a1, a2, qq⟩))
end

/-! ### subscripts -/
def ixD : D → D → Option Slot
  | .lst ds, .int i => (atI ds i).map .dat
  | .tup ds, .int i => (atI ds i).map .dat
  | .scr ns, .int i => (atI ns i).map fun n => .dat (.int n)
  | .str s, .int i => if s.length ≤ lim then (atI s.cps.toList i).map fun c => .dat (.str ⟨#[c]⟩) else none
  | .dK es, x => (match keyK x with
    | some k => (getG es k).map .dat
    | none => none)
  | .dT es, x => (match keyT x with
    | some k => (getG es k).map .dat
    | none => none)
  | _, _ => none
theorem atI_dds {K : PySem.W.Frag} {mg : Str → Option Value} {F : Hp} {ds : List D} {xs : List V} {i : Int} {d : D} (h : DDs K mg F ds xs) (e : atI ds i = some d) : ∃ v, atI xs i = some v ∧ DD K mg F d v := by
  unfold atI at e ⊢
  rw [← h.length]
  cases q : ixN ds.length i with
  | none => rw [q] at e; cases e
  | some j =>
    rw [q] at e
    exact h.get e
def rIxDic : R2 := fun x y H Q => ∃ a v, x = .ref a ∧ DGet H a y (some v) ∧ Q v H
theorem ix_dic {X : Cx} (hu : X.A.units + 1 < cLine) : IxR X rIxDic := by
  rintro value slice pins s σ H x y v u Q I rx ry ⟨a, z, rfl, g, q⟩ hs
  cases rx
  exact PyProof.Rows.tail_any (dict_typeIs I g) PySem.F.slot_dict_getitem.lookup (d_getItem hu I g ry fun w' s3 I3 rw' => ⟨z, H, I3, rw', q⟩) hs
def rIxU (K : PySem.W.Frag) : R2 := fun x y H Q => rIxL K x y H Q ∨ rIxT K x y H Q ∨ rIxS x y H Q ∨ rIxDic x y H Q
theorem o_ix {X : Cx} (hu : X.A.units + 1 < cLine) : IxR X (rIxU X.K) := ix_list.or (ix_tup.or (ix_str.or (ix_dic hu)))
theorem m_ix {G : Cfg} : OpM2 G (rIxU G.K) ixD := by
  intro F H σ ls vs ks v w x y k Q R h1 h2 e q
  cases x with
  | lst ds =>
    cases y <;> first | (simp only [ixD] at e; cases e; done) | skip
    simp only [ixD] at e
    cases e1 : atI ds _ with
    | none => rw [e1] at e; cases e
    | some d =>
      rw [e1] at e; cases e
      obtain ⟨a, xs, rfl, e2, d1⟩ := Vw.lst R.ex h1
      obtain ⟨z, e3, d2⟩ := atI_dds d1 e1
      exact .inl ⟨a, xs, _, z, rfl, Vw.int R.ex h2, SqL.of e2, e3, q _ _ _ (R.pushDat d2)⟩
  | tup ds =>
    cases y <;> first | (simp only [ixD] at e; cases e; done) | skip
    simp only [ixD] at e
    cases e1 : atI ds _ with
    | none => rw [e1] at e; cases e
    | some d =>
      rw [e1] at e; cases e
      obtain ⟨a, xs, rfl, e2, d1⟩ := Vw.tup R.ex h1
      obtain ⟨z, e3, d2⟩ := atI_dds d1 e1
      exact .inr (.inl ⟨a, xs, _, z, rfl, Vw.int R.ex h2, SqT.of e2, e3, q _ _ _ (R.pushDat d2)⟩)
  | scr ns =>
    cases y <;> first | (simp only [ixD] at e; cases e; done) | skip
    simp only [ixD] at e
    cases e1 : atI ns _ with
    | none => rw [e1] at e; cases e
    | some d =>
      rw [e1] at e; cases e
      obtain ⟨a, rfl, e2⟩ := Vw.scr R.ex h1
      refine .inl ⟨a, _, _, .int d, rfl, Vw.int R.ex h2, e2, ?_, q _ _ _ (R.pushDat (.int d))⟩
      unfold atI at e1 ⊢
      rw [List.length_map]
      cases q : ixN ns.length _ with
      | none => rw [q] at e1; cases e1
      | some j =>
        rw [q] at e1
        show (ns.map V.int)[j]? = _
        rw [List.getElem?_map, show ns[j]? = some d from e1]
        rfl
  | str s =>
    cases y <;> first | (simp only [ixD] at e; cases e; done) | skip
    simp only [ixD] at e
    split at e
    · rename_i c
      cases e1 : atI s.cps.toList _ with
      | none => rw [e1] at e; cases e
      | some d =>
        rw [e1] at e; cases e
        exact .inr (.inr (.inl ⟨s, _, d, Vw.str R.ex h1, Vw.int R.ex h2, line_of c, e1, q _ _ _ (R.pushDat (.str _))⟩))
    · cases e
  | dK es =>
    cases e1 : keyK y with
    | none => simp only [ixD, e1] at e; cases e
    | some k =>
      simp only [ixD, e1] at e
      cases e2 : getG es k with
      | none => rw [e2] at e; cases e
      | some r =>
        rw [e2] at e; cases e
        obtain ⟨a, o, rfl, g, _, q2⟩ := dget_k R.ex h2 e1 h1
        obtain ⟨z, rfl, d1⟩ := q2 r e2
        exact .inr (.inr (.inr ⟨a, z, rfl, g, q _ _ _ (R.pushDat d1)⟩))
  | dT es =>
    cases e1 : keyT y with
    | none => simp only [ixD, e1] at e; cases e
    | some k =>
      simp only [ixD, e1] at e
      cases e2 : getG es k with
      | none => rw [e2] at e; cases e
      | some r =>
        rw [e2] at e; cases e
        obtain ⟨a, o, rfl, g, _, q2⟩ := dget_t R.ex h2 e1 h1
        obtain ⟨z, rfl, d1⟩ := q2 r e2
        exact .inr (.inr (.inr ⟨a, z, rfl, g, q _ _ _ (R.pushDat d1)⟩))
  | non => cases e
  | bl _ => cases e
  | int _ => cases e
  | ins _ _ => cases e
  | ktup _ => cases e
end VM

set_option Elab.async false
set_option linter.all false
set_option maxRecDepth 100000
namespace VM
open PySem L2

/-! ### what a def gives, from what is handed in -/
inductive RF where
  | ok (k : Slot) (ps : List Slot) | err (x : Exn) (ps : List Slot) | stk
def PostF (G : Cfg) (vs : List V) (r : RF) (Q : VK) (E : XK) : Prop := match r with
  | .ok k ps' => ∀ v F' H', Rp G F' H' [] [] (v :: vs) (k :: ps') → Q v H'
  | .err x ps' => ∀ cls d F' H', Rp G F' H' [] [] vs ps' → ErrRel G F' cls d x → E cls d H'
  | .stk => False
def spM (K : PySem.W.Frag) (mg : Str → Option Value) (n : Nat) (f : List Slot → RF) : Sp := fun vs H Q E => vs.length = n ∧ ∃ F W ps, noAli ps ∧ Rp ⟨K, mg, ⟨F, H, W, noP⟩⟩ F H [] [] vs ps ∧ PostF ⟨K, mg, ⟨F, H, W, noP⟩⟩ vs (f ps) Q E

/-! ### the caller's side -/
inductive HandRel (ls : LS) : Slot → Slot → Prop
  | dat (d : D) : HandRel ls (.dat d) (.dat d)
  | own (d : D) : HandRel ls (.own d) (.par d)
  | aown {i : Nat} {d : D} : ls[i]? = some (.own d) → HandRel ls (.ali i) (.par d)
  | apar {i : Nat} {d : D} : ls[i]? = some (.par d) → HandRel ls (.ali i) (.par d)
  | adat {i : Nat} {d : D} : ls[i]? = some (.dat d) → HandRel ls (.ali i) (.dat d)
  | apdt {i : Nat} {d : D} : ls[i]? = some (.pdt d) → HandRel ls (.ali i) (.dat d)
def hand1 (ls : LS) : Slot → Option Slot
  | .dat d => some (.dat d)
  | .own d => some (.par d)
  | .ali i => (match ls[i]? with
    | some (.own d) => some (.par d)
    | some (.par d) => some (.par d)
    | some (.dat d) => some (.dat d)
    | some (.pdt d) => some (.dat d)
    | _ => none)
  | _ => none
theorem hand1_rel {ls : LS} {k p : Slot} (h : hand1 ls k = some p) : HandRel ls k p := by
  cases k with
  | dat d => cases h; exact .dat d
  | own d => cases h; exact .own d
  | ali i =>
    cases e : ls[i]? with
    | none => simp only [hand1, e] at h; cases h
    | some s => cases s <;> (simp only [hand1, e] at h; first | (cases h; done) | (cases h; first | exact .aown e | exact .apar e | exact .adat e | exact .apdt e))
  | emp => cases h
  | pdt _ => cases h
  | par _ => cases h
  | tre _ => cases h
  | ptr _ => cases h
def hands (ls : LS) : List Slot → Option (List Slot)
  | [] => some []
  | k :: as => match hand1 ls k, hands ls as with
    | some p, some ps => some (p :: ps)
    | _, _ => none
theorem hands_get {ls : LS} : ∀ {as ps : List Slot}, hands ls as = some ps → as.length = ps.length ∧ ∀ (j : Nat) p, ps[j]? = some p → ∃ k, as[j]? = some k ∧ HandRel ls k p
  | [], ps, h => by cases h; exact ⟨rfl, fun j p e => by simp at e⟩
  | k :: as, ps, h => by
    cases e : hand1 ls k with
    | none => simp only [hands, e] at h; cases h
    | some p0 =>
      cases e2 : hands ls as with
      | none => simp only [hands, e, e2] at h; cases h
      | some ps0 =>
        simp only [hands, e, e2] at h
        cases h
        obtain ⟨h1, h2⟩ := hands_get e2
        refine ⟨by simp [h1], fun j p ej => ?_⟩
        cases j with
        | zero => rw [List.getElem?_cons_zero] at ej; cases ej; exact ⟨k, rfl, hand1_rel e⟩
        | succ j =>
          rw [List.getElem?_cons_succ] at ej
          obtain ⟨k', a, b⟩ := h2 j p ej
          exact ⟨k', by rw [List.getElem?_cons_succ]; exact a, b⟩
def alis : List Slot → List Nat
  | [] => []
  | .ali i :: r => i :: alis r
  | _ :: r => alis r
theorem mem_alis {i : Nat} {as : List Slot} : Slot.ali i ∈ as ↔ i ∈ alis as := by
  induction as with
  | nil => simp [alis]
  | cons k as ih => cases k <;> simp [alis, ih]
theorem alis_inj : ∀ {as : List Slot}, (alis as).Nodup → ∀ {j j' i : Nat}, as[j]? = some (.ali i) → as[j']? = some (.ali i) → j = j'
  | [], _, j, _, _, h, _ => by simp at h
  | k :: as, hn, j, j', i, h, h' => by
    have key : ∀ {m : Nat}, as[m]? = some (.ali i) → i ∈ alis as := fun e => mem_alis.mp (List.mem_of_getElem? e)
    cases j with
    | zero =>
      rw [List.getElem?_cons_zero] at h; cases h
      cases j' with
      | zero => rfl
      | succ m =>
        rw [List.getElem?_cons_succ] at h'
        exact absurd (key h') (List.nodup_cons.mp hn).1
    | succ m =>
      rw [List.getElem?_cons_succ] at h
      cases j' with
      | zero =>
        rw [List.getElem?_cons_zero] at h'; cases h'
        exact absurd (key h) (List.nodup_cons.mp hn).1
      | succ m' =>
        rw [List.getElem?_cons_succ] at h'
        have hn' : (alis as).Nodup := by
          cases k with
          | ali _ => exact (List.nodup_cons.mp hn).2
          | _ => exact hn
        rw [alis_inj hn' h h']

/-- how a local's slot comes back -/
inductive BackRel : Slot → Slot → Slot → Prop
  | oo (d0 d : D) : BackRel (.own d0) (.par d) (.own d)
  | od (d0 d : D) : BackRel (.own d0) (.dat d) (.dat d)
  | pp (d0 d : D) : BackRel (.par d0) (.par d) (.par d)
  | pd (d0 d : D) : BackRel (.par d0) (.dat d) (.pdt d)
def back1 (s p : Slot) : Option (Option Slot) := match s, p with
  | .own _, .par d => some (some (.own d))
  | .own _, .dat d => some (some (.dat d))
  | .par _, .par d => some (some (.par d))
  | .par _, .dat d => some (some (.pdt d))
  | .dat _, .dat _ => some none
  | .pdt _, .dat _ => some none
  | _, _ => none
def backs : List Slot → List Slot → LS → Option LS
  | [], [], ls => some ls
  | .ali i :: as, p :: ps, ls => (match ls[i]? with
    | some s => (match back1 s p with
      | some (some s') => backs as ps (ls.set i s')
      | some none => backs as ps ls
      | none => none)
    | none => none)
  | .dat _ :: as, .dat _ :: ps, ls => backs as ps ls
  | .own _ :: as, .dat _ :: ps, ls => backs as ps ls
  | .own _ :: as, .par _ :: ps, ls => backs as ps ls
  | _, _, _ => none
theorem backs_get : ∀ {as ps : List Slot} {ls ls' : LS}, (alis as).Nodup → backs as ps ls = some ls' → ls'.length = ls.length ∧ ∀ i : Nat,
    (ls'[i]? = ls[i]? ∧ (Slot.ali i ∈ as → ∃ d, ls[i]? = some (.dat d) ∨ ls[i]? = some (.pdt d))) ∨
    ∃ (j : Nat) (p s s' : Slot), as[j]? = some (.ali i) ∧ ps[j]? = some p ∧ ls[i]? = some s ∧ ls'[i]? = some s' ∧ BackRel s p s'
  | [], [], ls, ls', _, h => by cases h; exact ⟨rfl, fun i => .inl ⟨rfl, fun z => by simp at z⟩⟩
  | [], _ :: _, _, _, _, h => by cases h
  | k :: as, [], _, _, _, h => by cases k <;> cases h
  | k :: as, p :: ps, ls, ls', hn, h => by
    have lift : ∀ {ls1 : LS}, (alis as).Nodup → backs as ps ls1 = some ls' → (∀ i, k ≠ .ali i) → ls1 = ls → ls'.length = ls.length ∧ ∀ i : Nat,
        (ls'[i]? = ls[i]? ∧ (Slot.ali i ∈ k :: as → ∃ d, ls[i]? = some (.dat d) ∨ ls[i]? = some (.pdt d))) ∨
        ∃ (j : Nat) (p' s s' : Slot), (k :: as)[j]? = some (.ali i) ∧ (p :: ps)[j]? = some p' ∧ ls[i]? = some s ∧ ls'[i]? = some s' ∧ BackRel s p' s' := fun {ls1} hn' h' hk e => by
      subst e
      obtain ⟨a, b⟩ := backs_get hn' h'
      refine ⟨a, fun i => ?_⟩
      rcases b i with ⟨b1, b2⟩ | ⟨j, p', s, s', c1, c2, c3, c4, c5⟩
      · refine .inl ⟨b1, fun z => ?_⟩
        rcases List.mem_cons.mp z with z | z
        · exact absurd z.symm (hk i)
        · exact b2 z
      · exact .inr ⟨j + 1, p', s, s', by rw [List.getElem?_cons_succ]; exact c1, by rw [List.getElem?_cons_succ]; exact c2, c3, c4, c5⟩
    cases k with
    | ali i0 =>
      have hn1 := List.nodup_cons.mp hn
      cases e : ls[i0]? with
      | none => simp only [backs, e] at h; cases h
      | some s0 =>
        cases e1 : back1 s0 p with
        | none => simp only [backs, e, e1] at h; cases h
        | some q =>
          cases q with
          | none =>
            simp only [backs, e, e1] at h
            obtain ⟨a, b⟩ := backs_get hn1.2 h
            have hs : ∃ d, ls[i0]? = some (.dat d) ∨ ls[i0]? = some (.pdt d) := by
              cases s0 <;> cases p <;> first | (cases e1; done) | exact ⟨_, .inl e⟩ | exact ⟨_, .inr e⟩
            refine ⟨a, fun i => ?_⟩
            rcases b i with ⟨b1, b2⟩ | ⟨j, p', s, s', c1, c2, c3, c4, c5⟩
            · refine .inl ⟨b1, fun z => ?_⟩
              rcases List.mem_cons.mp z with z | z
              · cases z; exact hs
              · exact b2 z
            · exact .inr ⟨j + 1, p', s, s', by rw [List.getElem?_cons_succ]; exact c1, by rw [List.getElem?_cons_succ]; exact c2, c3, c4, c5⟩
          | some s1 =>
            simp only [backs, e, e1] at h
            obtain ⟨a, b⟩ := backs_get hn1.2 h
            have hl := (List.getElem?_eq_some_iff.mp e).1
            have br : BackRel s0 p s1 := by
              cases s0 <;> cases p <;> first | (cases e1; done) | (cases e1; first | exact .oo _ _ | exact .od _ _ | exact .pp _ _ | exact .pd _ _)
            refine ⟨by rw [a, List.length_set], fun i => ?_⟩
            by_cases hi : i = i0
            · subst hi
              rcases b i with ⟨b1, _⟩ | ⟨j, p', s, s', c1, _⟩
              · rw [List.getElem?_set_self hl] at b1
                exact .inr ⟨0, p, s0, s1, rfl, rfl, e, b1, br⟩
              · exact absurd (mem_alis.mp (List.mem_of_getElem? c1)) hn1.1
            · have hne : (ls.set i0 s1)[i]? = ls[i]? := List.getElem?_set_ne (Ne.symm hi)
              rcases b i with ⟨b1, b2⟩ | ⟨j, p', s, s', c1, c2, c3, c4, c5⟩
              · refine .inl ⟨by rw [b1, hne], fun z => ?_⟩
                rcases List.mem_cons.mp z with z | z
                · cases z; exact absurd rfl hi
                · rw [hne] at b2; exact b2 z
              · exact .inr ⟨j + 1, p', s, s', by rw [List.getElem?_cons_succ]; exact c1, by rw [List.getElem?_cons_succ]; exact c2, by rw [hne] at c3; exact c3, c4, c5⟩
    | dat d => cases p <;> first | (cases h; done) | exact lift hn h (fun i z => by cases z) rfl
    | own d => cases p <;> first | (cases h; done) | exact lift hn h (fun i z => by cases z) rfl
    | tre _ => cases h
    | ptr _ => cases h
    | emp => cases h
    | pdt _ => cases h
    | par _ => cases h

section
variable {G : Cfg} {F F' H H' : Hp} {σ : L2.St} {ls ls' : LS} {vs ws : List V} {ks as ps ps' : List Slot} {v : V} {k : Slot} {d : D} {p : Addr}
/-- what the handed objects are -/
def argW (H : Hp) (ws : List V) (ps : List Slot) : Addr → Prop := fun b => ∃ (j : Nat) (e : Ent), (ent ws ps [] [])[j]? = some e ∧ b ∈ adE H e
theorem EnOk.reC {K : PySem.W.Frag} {mg : Str → Option Value} {F H F0 F1 H0 : Hp} {Wp : Addr → Prop} {P P' : Nat → Option (Option V)} {e : Ent} (h : EnOk ⟨K, mg, ⟨F0, H0, Wp, P⟩⟩ F H e) : EnOk ⟨K, mg, ⟨F1, H0, Wp, P'⟩⟩ F H e :=
  (h.move (B' := ⟨F1, H0, Wp, P'⟩) Ex.rfl fun q hq => by obtain ⟨v, k⟩ := e; exact ⟨(h.own_at hq).1, rfl, (h.own_at hq).2.1⟩).1
theorem EnOk.reP {K : PySem.W.Frag} {mg : Str → Option Value} {F H F0 H0 : Hp} {Wp : Addr → Prop} {P P' : Nat → Option (Option V)} {e : Ent} (h : EnOk ⟨K, mg, ⟨F0, H0, Wp, P⟩⟩ F H e) : EnOk ⟨K, mg, ⟨F0, H0, Wp, P'⟩⟩ F H e :=
  (h.move (B' := ⟨F0, H0, Wp, P'⟩) Ex.rfl fun q hq => by obtain ⟨v, k⟩ := e; exact ⟨(h.own_at hq).1, rfl, (h.own_at hq).2.1⟩).1
theorem ad_one {v : Option V} {c : D → Slot} {d : D} {p : Addr} {H : Hp} (hc : c = Slot.own ∨ c = Slot.par) (h : v = some (.ref p)) : p ∈ adE H (v, c d) := by
  subst h; rcases hc with rfl | rfl <;> exact List.mem_singleton.mpr rfl
theorem one_ad {v : V} {c : D → Slot} {d : D} {p : Addr} {H : Hp} (hc : c = Slot.own ∨ c = Slot.par) (h : p ∈ adE H (some v, c d)) : v = .ref p := by
  have h : p ∈ refA (some v) := by rcases hc with rfl | rfl <;> exact h
  cases v <;> first | (cases List.mem_singleton.mp h; rfl) | cases h
theorem ent_stk {j : Nat} {w : V} {q : Slot} (h1 : ws[j]? = some w) (h2 : ps[j]? = some q) (σ : L2.St) (ls : LS) (h : ws.length = ps.length) : (ent ws ps σ ls)[j]? = some (some w, q) := by
  unfold ent
  rw [List.getElem?_append_left (by simp [h]; exact (List.getElem?_eq_some_iff.mp h2).1), List.getElem?_zip_eq_some]
  exact ⟨by rw [List.getElem?_map, h1]; rfl, h2⟩
theorem ent_nil {j : Nat} {e : Ent} (h : (ent ws ps [] [])[j]? = some e) : ∃ w q, ws[j]? = some w ∧ ps[j]? = some q ∧ e = (some w, q) := by
  unfold ent at h
  rw [List.zip_nil_left, List.append_nil] at h
  obtain ⟨v, q⟩ := e
  rw [List.getElem?_zip_eq_some] at h
  obtain ⟨h1, h2⟩ := h
  rw [List.getElem?_map] at h1
  cases e : ws[j]? with
  | none => rw [e] at h1; cases h1
  | some w => rw [e] at h1; cases h1; exact ⟨w, q, rfl, h2, rfl⟩
/-- the entry of the caller's that an argument stands for -/
theorem arg_src (R : Rp G F H σ ls (ws ++ vs) (as ++ ks)) (hl : ws.length = as.length) {j : Nat} {w : V} {a q : Slot} (h1 : ws[j]? = some w) (h2 : as[j]? = some a) (hr : HandRel ls a q) :
    (∃ d, q = .dat d ∧ DD G.K G.mg F d w) ∨ ∃ (d : D) (p : Addr) (n : Nat) (e : Ent), q = .par d ∧ w = .ref p ∧ OwnAt G F H p d ∧ (ent (ws ++ vs) (as ++ ks) σ ls)[n]? = some e ∧ p ∈ adE H e ∧ ((n = j ∧ ∃ d, a = .own d) ∨ ∃ i, a = .ali i ∧ n = (ws ++ vs).length + i) := by
  have kl := R.klen
  have e0 : (ent (ws ++ vs) (as ++ ks) σ ls)[j]? = some (some w, a) := by
    refine ent_stk ?_ ?_ σ ls kl
    · rw [List.getElem?_append_left (List.getElem?_eq_some_iff.mp h1).1]; exact h1
    · rw [List.getElem?_append_left (List.getElem?_eq_some_iff.mp h2).1]; exact h2
  have ok := R.good.all j _ e0
  have hz : (w, a) ∈ (ws ++ vs).zip (as ++ ks) := by
    refine List.mem_of_getElem? (i := j) ?_
    rw [List.getElem?_zip_eq_some]
    exact ⟨by rw [List.getElem?_append_left (List.getElem?_eq_some_iff.mp h1).1]; exact h1, by rw [List.getElem?_append_left (List.getElem?_eq_some_iff.mp h2).1]; exact h2⟩
  have locE : ∀ {i : Nat} {s : Slot} {u : Option V}, σ[i]? = some u → ls[i]? = some s → (ent (ws ++ vs) (as ++ ks) σ ls)[(ws ++ vs).length + i]? = some (u, s) := fun h h' => by rw [ent_loc kl]; exact zip_at h h'
  cases hr with
  | dat d => obtain ⟨x, e, q⟩ := ok; cases e; exact .inl ⟨d, rfl, q⟩
  | own d =>
    obtain ⟨p, e, o⟩ := ok
    cases e
    exact .inr ⟨d, p, j, _, rfl, rfl, o, e0, ad_one (.inl rfl) rfl, .inl ⟨rfl, d, rfl⟩⟩
  | aown h =>
    rename_i i d
    obtain ⟨s, b1, b2, b3⟩ := R.al w i hz
    rw [h] at b2; cases b2
    have e1 := locE b1 h
    obtain ⟨p, e, o⟩ := R.good.all _ _ e1
    cases e
    exact .inr ⟨d, p, _, _, rfl, rfl, o, e1, ad_one (.inl rfl) rfl, .inr ⟨i, rfl, rfl⟩⟩
  | apar h =>
    rename_i i d
    obtain ⟨s, b1, b2, b3⟩ := R.al w i hz
    rw [h] at b2; cases b2
    have e1 := locE b1 h
    obtain ⟨p, e, o⟩ := R.good.all _ _ e1
    cases e
    exact .inr ⟨d, p, _, _, rfl, rfl, o, e1, ad_one (.inr rfl) rfl, .inr ⟨i, rfl, rfl⟩⟩
  | adat h =>
    rename_i i d
    obtain ⟨s, b1, b2, b3⟩ := R.al w i hz
    obtain ⟨x, e, q⟩ := R.good.all _ _ (locE b1 h)
    cases e
    exact .inl ⟨d, rfl, q⟩
  | apdt h =>
    rename_i i d
    obtain ⟨s, b1, b2, b3⟩ := R.al w i hz
    obtain ⟨x, e, q⟩ := R.good.all _ _ (locE b1 h)
    cases e
    exact .inl ⟨d, rfl, q⟩
theorem HandRel.kind {a q : Slot} (h : HandRel ls a q) : (∃ d, q = .dat d) ∨ ∃ d, q = .par d := by
  cases h <;> first | exact .inl ⟨_, rfl⟩ | exact .inr ⟨_, rfl⟩
/-- each handed object, told by the caller -/
theorem argW_src (R : Rp G F H σ ls (ws ++ vs) (as ++ ks)) (hl : ws.length = as.length) (hh : hands ls as = some ps) {b : Addr} {j : Nat} {e : Ent} (he : (ent ws ps [] [])[j]? = some e) (ho : b ∈ adE H e) :
    ∃ (d : D) (w : V) (a : Slot) (n : Nat) (e' : Ent), ws[j]? = some w ∧ as[j]? = some a ∧ ps[j]? = some (.par d) ∧ w = .ref b ∧ OwnAt G F H b d ∧ (ent (ws ++ vs) (as ++ ks) σ ls)[n]? = some e' ∧ b ∈ adE H e' ∧ ((n = j ∧ ∃ d, a = .own d) ∨ ∃ i, a = .ali i ∧ n = (ws ++ vs).length + i) := by
  obtain ⟨w, q, h1, h2, rfl⟩ := ent_nil he
  obtain ⟨a, h3, h4⟩ := (hands_get hh).2 j q h2
  rcases arg_src R hl h1 h3 h4 with ⟨d, rfl, _⟩ | ⟨d, p, n, e', rfl, rfl, o, e1, e2, e3⟩
  · cases ho
  · have z := one_ad (.inr rfl) ho
    cases z
    exact ⟨d, _, a, n, e', h1, h3, h2, rfl, o, e1, e2, e3⟩
theorem call_pre (R : Rp G F H σ ls (ws ++ vs) (as ++ ks)) (hl : ws.length = as.length) (hn : (alis as).Nodup) (hh : hands ls as = some ps) :
    noAli ps ∧ Rp ⟨G.K, G.mg, ⟨F, H, argW H ws ps, noP⟩⟩ F H [] [] ws ps := by
  obtain ⟨hl2, hget⟩ := hands_get hh
  have na : noAli ps := fun i hm => by
    obtain ⟨j, hj⟩ := List.getElem?_of_mem hm
    obtain ⟨a, _, hr⟩ := hget j _ hj
    rcases hr.kind with ⟨d, z⟩ | ⟨d, z⟩ <;> cases z
  refine ⟨na, R.ex, Ex.rfl, rfl, by rw [hl, hl2], ⟨fun j e he => ?_, fun m n e e' p h1 h2 o1 o2 => ?_⟩, fun w i hm => absurd hm na.zip, fun i d hd => by rcases hd with z | z | z | ⟨t, z⟩ <;> simp at z, fun b o e => .inr e, fun b z => z, fun b z => .inr (.inl z)⟩
  · obtain ⟨w, q, h1, h2, rfl⟩ := ent_nil he
    obtain ⟨a, h3, h4⟩ := hget j q h2
    rcases arg_src R hl h1 h3 h4 with ⟨d, rfl, dd⟩ | ⟨d, p, n, e', rfl, rfl, o, e1, e2, e3⟩
    · exact ⟨w, rfl, dd⟩
    · exact ⟨p, rfl, o.1, .inr ⟨j, _, he, ad_one (.inr rfl) rfl⟩, o.2.2⟩
  · obtain ⟨d1, w1, a1, n1, c1, x1, y1, _, z1, _, u1, t1, s1⟩ := argW_src R hl hh h1 o1
    obtain ⟨d2, w2, a2, n2, c2, x2, y2, _, z2, _, u2, t2, s2⟩ := argW_src R hl hh h2 o2
    have en := R.good.nd n1 n2 c1 c2 p u1 u2 t1 t2
    have b1 := (List.getElem?_eq_some_iff.mp x1).1
    have b2 := (List.getElem?_eq_some_iff.mp x2).1
    rcases s1 with ⟨r1, _⟩ | ⟨i1, r1, r1'⟩ <;> rcases s2 with ⟨r2, _⟩ | ⟨i2, r2, r2'⟩
    · omega
    · simp at r2'; omega
    · simp at r1'; omega
    · have : i1 = i2 := by omega
      subst this
      subst r1 r2
      exact alis_inj hn y1 y2
/-- ours at p, where nothing else owns it -/
theorem Rp.pushOwnAt (R : Rp G F H σ ls vs ks) (ho : OwnAt G F H p d) (hd : ∀ (n : Nat) (e : Ent), (ent vs ks σ ls)[n]? = some e → p ∉ adE H e) : Rp G F H σ ls (.ref p :: vs) (.own d :: ks) :=
  ⟨R.ex, R.ex0, R.len, by simp [R.klen], R.good.cons (e := (some (.ref p), .own d)) ⟨p, rfl, ho⟩ (fun q hq n e' he z => hd n e' he (by cases one_ad (.inl rfl) hq; exact z)), fun w i' hj => by
    rcases List.mem_cons.mp hj with z | z
    · cases z
    · exact R.al w i' z, R.pin, R.b1, R.b2, R.b3⟩
theorem call_post (R : Rp G F H σ ls (ws ++ vs) (as ++ ks)) (hl : ws.length = as.length) (hn : (alis as).Nodup) (hh : hands ls as = some ps) (hb : backs as ps' ls = some ls')
    (C : Rp ⟨G.K, G.mg, ⟨F, H, argW H ws ps, noP⟩⟩ F' H' [] [] ws ps') : Rp G F' H' σ ls' vs ks ∧ ∀ (n : Nat) (e : Ent) (q : Addr), (ent vs ks σ ls')[n]? = some e → q ∈ adE H' e →
      (¬ argW H ws ps q ∧ H q ≠ none) ∨ ∃ (m i : Nat) (e' : Ent), as[m]? = some (.ali i) ∧ (ent ws ps' [] [])[m]? = some e' ∧ q ∈ adE H' e' := by
  obtain ⟨hlen, hback⟩ := backs_get hn hb
  obtain ⟨hl2, hget⟩ := hands_get hh
  have kl := R.klen
  have kl2 : vs.length = ks.length := by simp at kl; omega
  have R0 : Rp G F H σ ls vs ks := Rp.popN as ws hl R
  -- where the caller's entries stand in the whole
  have up : ∀ (n : Nat) (e : Ent), (ent vs ks σ ls)[n]? = some e → (ent (ws ++ vs) (as ++ ks) σ ls)[ws.length + n]? = some e := fun n e he => by
    have : ent (ws ++ vs) (as ++ ks) σ ls = (ws.map some).zip as ++ ent vs ks σ ls := by
      unfold ent
      rw [List.map_append, List.zip_append (by simp [hl]), List.append_assoc]
    rw [this, List.getElem?_append_right (by simp [hl])]
    simpa [hl] using he
  -- an argument's object is ours
  have wOwn : ∀ b, argW H ws ps b → (G.B.H b = none ∨ G.B.W b) := fun b ⟨j, e, he, ho⟩ => by
    obtain ⟨d, w, a, n, e', _, _, _, _, o, _⟩ := argW_src R hl hh he ho
    exact o.2.1
  -- an entry that was no argument: its object stands as it stood
  have stay : ∀ (n : Nat) (e : Ent) (q : Addr), (ent vs ks σ ls)[n]? = some e → q ∈ adE H e → (∀ i, n = vs.length + i → Slot.ali i ∉ as) → ¬ argW H ws ps q ∧ F' q = none ∧ H' q = H q ∧ H q ≠ none := fun n e q he ho hna => by
    have nw : ¬ argW H ws ps q := fun ⟨j, e1, h1, h2⟩ => by
      obtain ⟨d, w, a, m, e', x1, x2, _, _, _, u1, u2, s1⟩ := argW_src R hl hh h1 h2
      have en := R.good.nd m (ws.length + n) e' e q u1 (up n e he) u2 ho
      have bj := (List.getElem?_eq_some_iff.mp x1).1
      rcases s1 with ⟨r1, _⟩ | ⟨i, r1, r2⟩
      · omega
      · subst r1
        exact hna i (by simp at r2; omega) (List.mem_of_getElem? x2)
    obtain ⟨f1, o, f2⟩ := R0.good.owned he ho
    refine ⟨nw, ?_, ?_, by rw [f2]; exact Option.some_ne_none _⟩
    · cases z : F' q with
      | none => rfl
      | some u =>
        rcases C.b3 q (by rw [z]; exact Option.some_ne_none _) with ⟨xs, z1⟩ | z1 | z1 | z1
        · rcases C.b1 q o f2 with y | y
          · exact absurd y nw
          · have y2 := C.ex _ _ z1
            rw [y] at y2
            cases y2
            obtain ⟨_, _, o', g1, g2⟩ := R0.good.one he ho
            rw [f2] at g1; cases g1
            exact g2.elim
        · exact absurd f1 z1
        · rw [show H q = none from z1] at f2; cases f2
        · exact absurd z1 nw
    · rcases C.b1 q o f2 with z | z
      · exact absurd z nw
      · rw [z, f2]
  -- each entry now: as it was, or an argument's
  have now : ∀ (n : Nat) (e : Ent), (ent vs ks σ ls')[n]? = some e →
      ((ent vs ks σ ls)[n]? = some e ∧ (∀ q, q ∈ adE H e → ∀ i, n = vs.length + i → Slot.ali i ∉ as)) ∨
      ∃ (i j : Nat) (w : V) (p' s s' : Slot), n = vs.length + i ∧ as[j]? = some (.ali i) ∧ ws[j]? = some w ∧ ps'[j]? = some p' ∧ ls[i]? = some s ∧ BackRel s p' s' ∧ σ[i]? = some (some w) ∧ e = (some w, s') := fun n e he => by
    by_cases hnv : n < vs.length
    · have e1 : (ent vs ks σ ls)[n]? = some e := by
        unfold ent at he ⊢
        rw [List.getElem?_append_left (by simp [kl2]; omega)] at he ⊢
        exact he
      exact .inl ⟨e1, fun _ _ i hi => by omega⟩
    · obtain ⟨i, rfl⟩ : ∃ i, n = vs.length + i := ⟨n - vs.length, by omega⟩
      rw [ent_loc kl2] at he
      obtain ⟨u, s'⟩ := e
      rw [List.getElem?_zip_eq_some] at he
      obtain ⟨h1, h2⟩ := he
      rcases hback i with ⟨b1, b2⟩ | ⟨j, p', s, s1, c1, c2, c3, c4, c5⟩
      · refine .inl ⟨by rw [ent_loc kl2]; exact zip_at h1 (by rw [← b1]; exact h2), fun q hq i' hi' hm => ?_⟩
        have : i' = i := by omega
        subst this
        obtain ⟨d, z | z⟩ := b2 hm
        · rw [b1, z] at h2; cases h2; cases hq
        · rw [b1, z] at h2; cases h2; cases hq
      · rw [c4] at h2; cases h2
        have bj := (List.getElem?_eq_some_iff.mp c1).1
        have hw : ws[j]? = some (ws[j]'(by omega)) := List.getElem?_eq_getElem _
        obtain ⟨s2, a1, a2, a3⟩ := R.al (ws[j]'(by omega)) i (List.mem_of_getElem? (i := j) (by
          rw [List.getElem?_zip_eq_some, List.getElem?_append_left (by omega), List.getElem?_append_left (by omega)]
          exact ⟨hw, c1⟩))
        rw [h1] at a1
        cases a1
        exact .inr ⟨i, j, _, p', s, s', rfl, c1, hw, c2, c3, c5, h1, rfl⟩
  have backOwn : ∀ {s p' s' : Slot} {w : V} {q : Addr}, BackRel s p' s' → q ∈ adE H' (some w, s') → q ∈ adE H' (some w, p') := fun {s p' s' w q} b h => by
    cases b with
    | oo => exact h
    | od => cases h
    | pp => exact h
    | pd => cases h
  have adSame : ∀ (n : Nat) (e : Ent), (ent vs ks σ ls)[n]? = some e → (∀ q, q ∈ adE H e → ∀ i, n = vs.length + i → Slot.ali i ∉ as) → EnOk G F' H' e ∧ adE H' e = adE H e := fun n e h1 h2 =>
    (R0.good.all n e h1).grow C.ex0 fun q hq => by
        obtain ⟨_, b, c, _⟩ := stay n e q h1 hq (h2 q hq)
        exact ⟨b, c⟩
  have kinds : ∀ (n : Nat) (e : Ent) (q : Addr), (ent vs ks σ ls')[n]? = some e → q ∈ adE H' e →
      (¬ argW H ws ps q ∧ H q ≠ none ∧ (ent vs ks σ ls)[n]? = some e ∧ q ∈ adE H e) ∨ ∃ (i j : Nat), n = vs.length + i ∧ as[j]? = some (.ali i) ∧ ∃ e', (ent ws ps' [] [])[j]? = some e' ∧ q ∈ adE H' e' := fun n e q he ho => by
    rcases now n e he with ⟨h1, h2⟩ | ⟨i, j, w, p', s, s', rfl, c1, c2, c3, c4, c5, c6, rfl⟩
    · rw [(adSame n e h1 h2).2] at ho
      obtain ⟨a, b, c, d⟩ := stay n e q h1 ho (h2 q ho)
      exact .inl ⟨a, d, h1, ho⟩
    · exact .inr ⟨i, j, rfl, c1, _, ent_stk c2 c3 [] [] C.klen, backOwn c5 ho⟩
  refine ⟨⟨C.ex, R.ex0.trans C.ex0, by rw [R.len, hlen], kl2, ⟨fun n e he => ?_, fun m n e e' q h1 h2 o1 o2 => ?_⟩, fun w i hm => ?_, fun i d hd => ?_, fun b o e => ?_, fun b z => C.b2 b (R.b2 b z), fun b z => ?_⟩, fun n e q he ho => ?_⟩
  · rcases now n e he with ⟨h1, h2⟩ | ⟨i, j, w, p', s, s', rfl, c1, c2, c3, c4, c5, c6, rfl⟩
    · exact (adSame n e h1 h2).1
    · have ok := C.good.all j _ (ent_stk c2 c3 [] [] C.klen)
      have own : ∀ {d0 d1 : D} {p : Addr}, (s = .own d0 ∨ s = .par d0) → w = .ref p → OwnAt ⟨G.K, G.mg, ⟨F, H, argW H ws ps, noP⟩⟩ F' H' p d1 → OwnAt G F' H' p d1 := fun {d0 d1 p} hs hw o => by
        have e0 : (ent vs ks σ ls)[vs.length + i]? = some (some w, s) := by rw [ent_loc kl2]; exact zip_at c6 c4
        have o0 : p ∈ adE H (some w, s) := by subst hw; rcases hs with rfl | rfl <;> exact List.mem_singleton.mpr rfl
        obtain ⟨_, c, _⟩ := R0.base e0 o0
        exact ⟨o.1, c, o.2.2⟩
      cases c5 with
      | oo d0 d1 => obtain ⟨p, e, o⟩ := ok; cases e; exact ⟨p, rfl, own (.inl rfl) rfl o⟩
      | od d0 d1 => obtain ⟨x, e, o⟩ := ok; cases e; exact ⟨_, rfl, o⟩
      | pp d0 d1 => obtain ⟨p, e, o⟩ := ok; cases e; exact ⟨p, rfl, own (.inr rfl) rfl o⟩
      | pd d0 d1 => obtain ⟨x, e, o⟩ := ok; cases e; exact ⟨_, rfl, o⟩
  · have argIn : ∀ {j : Nat} {e1 : Ent}, (ent ws ps' [] [])[j]? = some e1 → q ∈ adE H' e1 → (argW H ws ps q ∨ H q = none) := fun {j e1} g1 g2 => by
      obtain ⟨_, z, _⟩ := C.base g1 g2
      rcases z with z | z
      · exact .inr z
      · exact .inl z
    rcases kinds m e q h1 o1 with ⟨a1, a2, a3, a5⟩ | ⟨i1, j1, r1, a2, e1, a3, a4⟩ <;> rcases kinds n e' q h2 o2 with ⟨b1, b2, b3, b5⟩ | ⟨i2, j2, r2, b2, e2, b3, b4⟩
    · exact R0.good.nd m n e e' q a3 b3 a5 b5
    · rcases argIn b3 b4 with z | z
      · exact absurd z a1
      · exact absurd z a2
    · rcases argIn a3 a4 with z | z
      · exact absurd z b1
      · exact absurd z b2
    · have ej := C.good.nd j1 j2 e1 e2 q a3 b3 a4 b4
      subst ej
      rw [a2] at b2
      cases b2
      rw [r1, r2]
  · obtain ⟨s, a1, a2, a3⟩ := R0.al w i hm
    rcases hback i with ⟨b1, _⟩ | ⟨j, p', s1, s', c1, c2, c3, c4, c5⟩
    · exact ⟨s, a1, by rw [b1]; exact a2, a3⟩
    · exact ⟨s', a1, c4, by cases c5 <;> rfl⟩
  · rcases hback i with ⟨b1, _⟩ | ⟨j, p', s1, s', c1, c2, c3, c4, c5⟩
    · rw [b1] at hd; exact R0.pin i d hd
    · rw [c4] at hd
      cases c5 <;> first
        | (rcases hd with z | z | z | ⟨t, z⟩ <;> cases z; done)
        | exact R0.pin i _ (.inl c3)
  · rcases R.b1 b o e with z | z
    · exact .inl z
    · rcases C.b1 b o z with y | y
      · rcases wOwn b y with x | x
        · rw [x] at e; cases e
        · exact .inl x
      · exact .inr y
  · rcases C.b3 b z with y | y | y | y
    · exact .inl y
    · exact (R.b3 b y).imp (fun ⟨xs, q⟩ => ⟨xs, C.ex0 _ _ q⟩) id
    · refine .inr (.inr (.inl ?_))
      cases q : G.B.H b with
      | none => rfl
      | some o => exact absurd y (R.b2 b (by rw [q]; exact Option.some_ne_none _))
    · exact .inr (.inr (wOwn b y))
  · rcases kinds n e q he ho with ⟨a1, a2, _⟩ | ⟨i, j, _, a2, e', a3, a4⟩
    · exact .inl ⟨a1, a2⟩
    · exact .inr ⟨j, i, e', a2, a3, a4⟩
end

/-! ### a call -/
def Slot.res : Slot → Bool
  | .dat _ => true
  | .own _ => true
  | _ => false
def callK (f : List Slot → RF) (as : List Slot) (ls : LS) : R := if (alis as).Nodup then (match hands ls as with
  | some ps => (match f ps with
    | .ok k ps' => (match backs as ps' ls with
      | some ls' => if k.res = true then .ok k ls' else .stk
      | none => .stk)
    | .err x ps' => (match backs as ps' ls with
      | some ls' => .err x ls'
      | none => .stk)
    | .stk => .stk)
  | none => .stk) else .stk
def callM (f : List Slot → RF) (am : AM) : M := fun ls => (am ls).bind (callK f)
theorem callK_ok {G : Cfg} {W : WX} {f : List Slot → RF} {F H : Hp} {σ : L2.St} {ls : LS} {vs ws : List V} {ks as : List Slot} {Q : VK} (hl : ws.length = as.length) (R : Rp G F H σ ls (ws ++ vs) (as ++ ks)) (po : PostM G W σ vs ks (callK f as ls) Q) :
    ∃ F0 W0 ps, noAli ps ∧ Rp ⟨G.K, G.mg, ⟨F0, H, W0, noP⟩⟩ F0 H [] [] ws ps ∧ PostF ⟨G.K, G.mg, ⟨F0, H, W0, noP⟩⟩ ws (f ps) Q (fun cls d H' => W cls d σ H') := by
  unfold callK at po
  split at po
  · rename_i hn
    cases e : hands ls as with
    | none => simp only [e, PostM] at po
    | some ps =>
      simp only [e] at po
      obtain ⟨na, R1⟩ := call_pre R hl hn e
      refine ⟨F, _, ps, na, R1, ?_⟩
      cases e1 : f ps with
      | stk => simp only [e1, PostM] at po
      | err x ps' =>
        simp only [e1] at po
        cases e2 : backs as ps' ls with
        | none => simp only [e2, PostM] at po
        | some ls' =>
          simp only [e2] at po
          intro cls d F' H' C er
          obtain ⟨R2, _⟩ := call_post R hl hn e e2 C
          exact po cls d F' H' R2 er
      | ok k ps' =>
        simp only [e1] at po
        cases e2 : backs as ps' ls with
        | none => simp only [e2, PostM] at po
        | some ls' =>
          simp only [e2] at po
          split at po
          · rename_i hk
            intro v F' H' C
            obtain ⟨R2, hq⟩ := call_post R hl hn e e2 C.pop
            refine po v F' H' ?_
            have hd := C.good.head
            cases k with
            | dat d => obtain ⟨x, ex, dd⟩ := hd; cases ex; exact R2.pushDat dd
            | own d =>
              obtain ⟨p, ex, o⟩ := hd
              cases ex
              have ho : G.B.H p = none ∨ G.B.W p := by
                rcases o.2.1 with z | ⟨j, e', z1, z2⟩
                · refine .inl ?_
                  cases q : G.B.H p with
                  | none => rfl
                  | some u => exact absurd z (R.b2 p (by rw [q]; exact Option.some_ne_none _))
                · obtain ⟨_, _, _, _, _, _, _, _, _, o', _⟩ := argW_src R hl e z1 z2
                  exact o'.2.1
              refine R2.pushOwnAt ⟨o.1, ho, o.2.2⟩ fun n e' he z => ?_
              rcases hq n e' p he z with ⟨z1, z2⟩ | ⟨m, _, e'', _, z1, z2⟩
              · rcases o.2.1 with y | y
                · exact z2 y
                · exact z1 y
              · exact C.good.head_ne (p := p) (ad_one (.inl rfl) rfl) m e'' z1 z2
            | _ => cases hk
          · exact False.elim po
  · exact False.elim po

/-! ### the def's side -/
def startLS (n : Nat) (ps : List Slot) : LS := ps ++ List.replicate (n - ps.length) .emp
/-- what is handed back, moved out of its local -/
def settle (k : Slot) (ls : LS) : Option (Slot × LS) := match k with
  | .dat d => some (.dat d, ls)
  | .own d => some (.own d, ls)
  | .tre t => some (.dat t.er, ls)
  | .ali j => (match ls[j]? with
    | some (.own d) => some (.own d, ls.set j .emp)
    | some (.par d) => some (.dat d, ls.set j (.pdt d))
    | some (.dat d) => some (.dat d, ls)
    | some (.pdt d) => some (.dat d, ls)
    | some (.tre t) => some (.dat t.er, ls.set j (.dat t.er))
    | _ => none)
  | _ => none
def outs : List Slot → LS → Option (List Slot)
  | [], _ => some []
  | .dat d :: ps, _ :: ls => (outs ps ls).map (.dat d :: ·)
  | .par _ :: ps, .par d :: ls => (outs ps ls).map (.par d :: ·)
  | .par _ :: ps, .pdt d :: ls => (outs ps ls).map (.dat d :: ·)
  | _, _ => none
def finF (ps : List Slot) (r : S) : RF := match r with
  | .ret k ls => (match settle k ls with
    | some (k', ls') => (match outs ps ls' with
      | some ps' => .ok k' ps'
      | none => .stk)
    | none => .stk)
  | .nx ls => (match outs ps ls with
    | some ps' => .ok (.dat .non) ps'
    | none => .stk)
  | .err x ls => (match outs ps ls with
    | some ps' => .err x ps'
    | none => .stk)
  | _ => .stk
def funM (n : Nat) (b : SM) : List Slot → RF := fun ps => finF ps (b (startLS n ps))
inductive OutRel : Slot → Slot → Slot → Prop
  | dat (d : D) (s : Slot) : OutRel (.dat d) s (.dat d)
  | pp (d0 d : D) : OutRel (.par d0) (.par d) (.par d)
  | pd (d0 d : D) : OutRel (.par d0) (.pdt d) (.dat d)
theorem outs_get : ∀ {ps ps' : List Slot} {ls : LS}, outs ps ls = some ps' → ps'.length = ps.length ∧ ∀ (j : Nat) p', ps'[j]? = some p' → ∃ p s, ps[j]? = some p ∧ ls[j]? = some s ∧ OutRel p s p'
  | [], ps', ls, h => by cases h; exact ⟨rfl, fun j p e => by simp at e⟩
  | p :: ps, ps', [], h => by cases p <;> cases h
  | p :: ps, ps', s :: ls, h => by
    have key : ∀ {q : Slot}, OutRel p s q → (outs ps ls).map (q :: ·) = some ps' → ps'.length = (p :: ps).length ∧ ∀ (j : Nat) p', ps'[j]? = some p' → ∃ p1 s1, (p :: ps)[j]? = some p1 ∧ (s :: ls)[j]? = some s1 ∧ OutRel p1 s1 p' := fun {q} hr h => by
      cases e : outs ps ls with
      | none => rw [e] at h; cases h
      | some r =>
        rw [e] at h; cases h
        obtain ⟨a, b⟩ := outs_get e
        refine ⟨by simp [a], fun j p' hj => ?_⟩
        cases j with
        | zero => rw [List.getElem?_cons_zero] at hj; cases hj; exact ⟨p, s, rfl, rfl, hr⟩
        | succ j =>
          rw [List.getElem?_cons_succ] at hj
          obtain ⟨p1, s1, c1, c2, c3⟩ := b j p' hj
          exact ⟨p1, s1, by rw [List.getElem?_cons_succ]; exact c1, by rw [List.getElem?_cons_succ]; exact c2, c3⟩
    cases p with
    | dat d => exact key (.dat d s) h
    | par d =>
      cases s with
      | par d' => exact key (.pp d d') h
      | pdt d' => exact key (.pd d d') h
      | _ => cases h
    | _ => cases h
section
variable {K : PySem.W.Frag} {mg : Str → Option Value} {F F' H H' : Hp} {Wp : Addr → Prop} {σ : L2.St} {ls ls' : LS} {vs : List V} {ps ps' : List Slot} {v : V} {k k' : Slot} {N : List Str}
theorem start_get {i : Nat} (hi : i < vs.length) : (L2.start N vs)[i]? = some (some (vs[i]'hi)) := by
  unfold L2.start
  rw [List.getElem?_append_left (by simpa using hi), List.getElem?_map, List.getElem?_eq_getElem hi]
  rfl
theorem fn_start (hn : vs.length ≤ N.length) (na : noAli ps) (R : Rp ⟨K, mg, ⟨F, H, Wp, noP⟩⟩ F H [] [] vs ps) : Rp ⟨K, mg, ⟨F, H, Wp, fun i => (L2.start N vs)[i]?⟩⟩ F H (L2.start N vs) (startLS N.length ps) [] [] := by
  have kl := R.klen
  have look : ∀ (n : Nat) (e : Ent), ((L2.start N vs).zip (startLS N.length ps))[n]? = some e → (ent vs ps [] [])[n]? = some e ∨ e.2 = .emp := fun n e he => by
    obtain ⟨u, s⟩ := e
    rw [List.getElem?_zip_eq_some] at he
    obtain ⟨h1, h2⟩ := he
    by_cases hv : n < vs.length
    · rw [start_get hv] at h1
      cases h1
      unfold startLS at h2
      rw [List.getElem?_append_left (by omega)] at h2
      exact .inl (ent_stk (List.getElem?_eq_getElem hv) h2 [] [] kl)
    · refine .inr ?_
      unfold startLS at h2
      rw [List.getElem?_append_right (by omega), List.getElem?_replicate] at h2
      split at h2
      · cases h2; rfl
      · cases h2
  have ge : ent ([] : List V) ([] : List Slot) (L2.start N vs) (startLS N.length ps) = (L2.start N vs).zip (startLS N.length ps) := rfl
  refine ⟨R.ex, R.ex0, ?_, rfl, ?_, fun w i hm => by simp at hm, fun i d hd => ?_, R.b1, R.b2, R.b3⟩
  · unfold L2.start startLS
    simp
    omega
  · rw [ge]
    refine ⟨fun n e he => ?_, fun m n e e' p h1 h2 o1 o2 => ?_⟩
    · rcases look n e he with z | z
      · exact (R.good.all n e z).reP
      · obtain ⟨u, s⟩ := e
        have z : s = .emp := z
        subst z
        trivial
    · rcases look m e h1 with z | z
      · rcases look n e' h2 with y | y
        · exact R.good.nd m n e e' p z y o1 o2
        · obtain ⟨u, s⟩ := e'
          have y : s = .emp := y
          subst y
          cases o2
      · obtain ⟨u, s⟩ := e
        have z : s = .emp := z
        subst z
        cases o1
  · have hi : i < vs.length := by
      refine Nat.lt_of_not_le fun hc => ?_
      unfold startLS at hd
      rw [List.getElem?_append_right (by omega), List.getElem?_replicate] at hd
      split at hd <;> rcases hd with z | z | z | ⟨t, z⟩ <;> cases z
    exact ⟨_, start_get hi, start_get hi⟩
/-- what leaves the def -/
theorem fn_outs {us : List V} {kk : List Slot} (hn : vs.length ≤ N.length) (R0 : Rp ⟨K, mg, ⟨F, H, Wp, noP⟩⟩ F H [] [] vs ps) (R : Rp ⟨K, mg, ⟨F, H, Wp, fun i => (L2.start N vs)[i]?⟩⟩ F' H' σ ls us kk) (hk : ∀ s ∈ kk, Slot.res s = true) (ho : outs ps ls = some ps') :
    Rp ⟨K, mg, ⟨F, H, Wp, noP⟩⟩ F' H' [] [] (us ++ vs) (kk ++ ps') := by
  obtain ⟨hl, hg⟩ := outs_get ho
  have kl0 := R0.klen
  have kl := R.klen
  -- each new entry is one of the frame's, or data of the start
  have look : ∀ (n : Nat) (e : Ent), (ent (us ++ vs) (kk ++ ps') [] [])[n]? = some e → (EnOk ⟨K, mg, ⟨F, H, Wp, noP⟩⟩ F' H' e) ∧ ∀ q, q ∈ adE H' e → ∃ e', (ent us kk σ ls)[n]? = some e' ∧ q ∈ adE H' e' := fun n e he => by
    obtain ⟨w, q, h1, h2, rfl⟩ := ent_nil he
    by_cases hu : n < us.length
    · rw [List.getElem?_append_left hu] at h1
      rw [List.getElem?_append_left (by omega)] at h2
      have e1 := ent_stk h1 h2 σ ls kl
      refine ⟨?_, fun q' hq => ⟨_, e1, hq⟩⟩
      exact (R.good.all n _ e1).reP
    · obtain ⟨j, rfl⟩ : ∃ j, n = us.length + j := ⟨n - us.length, by omega⟩
      rw [List.getElem?_append_right (by omega)] at h1
      rw [List.getElem?_append_right (by omega)] at h2
      have a1 : us.length + j - us.length = j := by omega
      have a2 : us.length + j - kk.length = j := by omega
      rw [a1] at h1
      rw [a2] at h2
      obtain ⟨p, s, c1, c2, c3⟩ := hg j q h2
      have bj := (List.getElem?_eq_some_iff.mp h1).1
      have pinned : ∀ {d : D}, (s = .par d ∨ s = .pdt d) → (ent us kk σ ls)[us.length + j]? = some (some w, s) := fun {d} hs => by
        obtain ⟨u, p1, p2⟩ := R.pin j d (by rcases hs with rfl | rfl; exact .inl c2; exact .inr (.inl c2))
        have e1 : (L2.start N vs)[j]? = some u := p1
        rw [start_get bj] at e1
        cases e1
        obtain ⟨_, hw⟩ := List.getElem?_eq_some_iff.mp h1
        rw [hw] at p2
        rw [ent_loc kl]
        exact zip_at p2 c2
      cases c3 with
      | dat d s =>
        have := R0.good.all j _ (ent_stk h1 c1 [] [] kl0)
        obtain ⟨x, ex, dd⟩ := this
        cases ex
        exact ⟨⟨_, rfl, dd.mono R.ex0⟩, fun q' hq => by cases hq⟩
      | pp d0 d =>
        have e1 := pinned (d := d) (.inl rfl)
        have := R.good.all _ _ e1
        exact ⟨this, fun q' hq => ⟨_, e1, hq⟩⟩
      | pd d0 d =>
        have e1 := pinned (d := d) (.inr rfl)
        have := R.good.all _ _ e1
        exact ⟨this, fun q' hq => by cases hq⟩
  refine ⟨R.ex, R.ex0, rfl, by simp; omega, ⟨fun n e he => (look n e he).1, fun m n e e' p h1 h2 o1 o2 => ?_⟩, fun w i hm => ?_, fun i d hd => by rcases hd with z | z | z | ⟨t, z⟩ <;> simp at z, R.b1, R.b2, R.b3⟩
  · obtain ⟨e1, a1, a2⟩ := (look m e h1).2 p o1
    obtain ⟨e2, b1, b2⟩ := (look n e' h2).2 p o2
    exact R.good.nd m n e1 e2 p a1 b1 a2 b2
  · have := (List.of_mem_zip hm).2
    rcases List.mem_append.mp this with z | z
    · exact absurd (hk _ z) (fun q => Bool.noConfusion q)
    · obtain ⟨j, hj⟩ := List.getElem?_of_mem z
      obtain ⟨p, s, _, _, c3⟩ := hg j _ hj
      cases c3
theorem settle_ok {G : Cfg} (R : Rp G F H σ ls [v] [k]) (h : settle k ls = some (k', ls')) : ∃ F' σ', Rp G F' H σ' ls' [v] [k'] ∧ k'.res = true := by
  cases k with
  | dat d => cases h; exact ⟨F, σ, R, rfl⟩
  | own d => cases h; exact ⟨F, σ, R, rfl⟩
  | ali j =>
    obtain ⟨s, a1, a2, a3⟩ := R.al v j List.mem_cons_self
    simp only [settle, a2] at h
    have R1 := R.pop
    have e1 : (ent [] [] σ ls)[([] : List V).length + j]? = some (some v, s) := by rw [ent_loc rfl]; exact zip_at a1 a2
    cases s with
    | own d1 =>
      cases h
      obtain ⟨p, e, o⟩ := R1.good.all _ _ e1
      cases e
      refine ⟨F, _, (R1.setNone (i := j) (by simp)).pushOwnAt o fun n e' he z => ?_, rfl⟩
      rw [ent_set rfl] at he
      by_cases hn : n = ([] : List V).length + j
      · rw [hn, List.getElem?_set] at he
        simp only [if_true] at he
        split at he
        · cases he; cases z
        · cases he
      · rw [List.getElem?_set_ne (Ne.symm hn)] at he
        exact hn (R1.good.nd n _ _ _ p he e1 z (ad_one (.inl rfl) rfl))
    | par d1 =>
      cases h
      obtain ⟨p, F', b1, x, dd, R2⟩ := R1.frzLoc (.inr rfl) a2
      rw [a1] at b1; cases b1
      exact ⟨F', σ, R2.pushDat dd, rfl⟩
    | dat d1 =>
      cases h
      obtain ⟨y, b3, b4⟩ := R1.good.all _ _ e1
      cases b3
      exact ⟨F, σ, R1.pushDat b4, rfl⟩
    | pdt d1 =>
      cases h
      obtain ⟨y, b3, b4⟩ := R1.good.all _ _ e1
      cases b3
      exact ⟨F, σ, R1.pushDat b4, rfl⟩
    | tre t =>
      cases h
      obtain ⟨p, F', b1, x, dd, R2⟩ := R1.frzLocT (.inl ⟨rfl, rfl⟩) a2
      rw [a1] at b1; cases b1
      exact ⟨F', σ, R2.pushDat dd, rfl⟩
    | ptr t => cases h
    | emp => cases h
    | ali _ => cases h
  | tre t => cases h; obtain ⟨F', x, _, R'⟩ := R.frzTopT; exact ⟨F', σ, R', rfl⟩
  | _ => cases h
end
/-! ### defs, where no repr is under way -/
structure RoomG (k : Nat) (A : Around) : Prop where
  r : Room k A
  g : A.guards = some []
theorem RoomG.mono {j k : Nat} {A : Around} (r : RoomG k A) (h : j ≤ k) : RoomG j A := ⟨r.r.mono h, r.g⟩
theorem RoomG.in1 {k : Nat} {A : Around} (r : RoomG (k + 1) A) : RoomG k A.in1 := ⟨r.r.in1, r.g⟩
theorem RoomG.deeper {k : Nat} {A : Around} (r : RoomG (k + 1) A) (env : Env) : RoomG k (A.deeper env) := ⟨r.r.deeper env, r.g⟩
theorem RoomG.make {k : Nat} {A : Around} (r : RoomG (k + 1) A) (C : Addr) (us : List Value) (kw : List (Str × Value)) : RoomG k (A.under (.builtin "type.__call__" ⟨.ref C :: us, kw⟩)) := ⟨r.r.make C us kw, by
  have h : (Code.builtin "type.__call__" ⟨.ref C :: us, kw⟩).isGuard = false := by first | rfl | simp [Code.isGuard, guardIds]
  simp only [Around.under, Code.guards, h]
  exact r.g⟩
structure FnG (P : Program) (w : World) (K : PySem.W.Frag) (mg : Str → Option Value) (base : Heap) (CX : CXT) (k : Nat) (f : Addr) (fd : FuncData) (pn : List Str) (sp : Sp) : Prop where
  len : ∀ vs H Q E, sp vs H Q E → vs.length = pn.length
  run : ∀ (A : Around) (outer : List Env) (s : Shared) (H : Hp) (args : Args) (us : List Value) (vs : List V) (Q : VK) (E : XK), RoomG k A → Env0 P w K mg base A outer s H → BindsTo s fd args (pn.zip us) → Vals vs us → sp vs H Q E →
    codeAny (model P w) A (.call (.ref f) args) (CR CX outer P w H s Q E) s
theorem FnG.mono {P : Program} {w : World} {K : PySem.W.Frag} {mg : Str → Option Value} {base : Heap} {CX : CXT} {j k : Nat} {f : Addr} {fd : FuncData} {pn : List Str} {sp : Sp} (F : FnG P w K mg base CX j f fd pn sp) (h : j ≤ k) : FnG P w K mg base CX k f fd pn sp :=
  ⟨F.len, fun A outer s H args us vs Q E hr => F.run A outer s H args us vs Q E (hr.mono h)⟩
section
open PySem.Spec PyProof.Rows
theorem fn_ofG {CX : CXT} {P : Program} {w : World} {K : PySem.W.Frag} {mg : Str → Option Value} {base : Heap} {k : Nat} {f : Addr} {x qual : Str} {st : Stmt} {fd : FuncData} {N pn : List Str} {sp : Sp} (F : L2.Fun K x qual st f fd) (S : FnScope N pn (defScope st))
    (len : ∀ vs H Q E, sp vs H Q E → vs.length = pn.length)
    (hbody : ∀ (cdv : Value) (A : Around) (outer : List Env) (s : Shared) (H : Hp) (vs : List V) (Q : VK) (E : XK), RoomG k (A.deeper (PyProof.Rows.envOfC qual (defScope st) s.heap.objs.size f cdv)) → sp vs H Q E →
      ∃ t, L2.PSs (cxOf CX P w K mg base N qual (defScope st) f cdv A outer s H E) (defBody st) t ∧ t { nx := fun _ H' => Q .non H', rt := Q } (L2.start N vs) H) : FnG P w K mg base CX (k + 1) f fd pn sp := by
  obtain ⟨oc, od, kV, doc, pm, an, cdv, ct, osl, rfl, lk, hcd⟩ := F.ex
  refine ⟨len, fun A outer s H args us vs Q E hr e0 hb rv hsp => ?_⟩
  have hl := len _ _ _ _ hsp
  have KX : K.In s.heap := e0.mod.kin.keeps (fun b o e => (e0.bs b o e).1)
  have lm : s.heap.NoLimit := e0.mod.nolimit.keeps (fun b o e => (e0.bs b o e).1)
  have kinds : ∀ y ∈ pn.zip us, (defScope st).names.lookup y.1 = some .local ∨ ((defScope st).names.lookup y.1 = some .cell ∧ ((cellsFrom (s.heap.objs.size + 1) (defScope st).names []).lookup y.1).isSome = true) := by
    intro y hy
    exact (S.par y.1 (List.of_mem_zip hy).1).imp id fun q => ⟨q, PySem.W.cellsFrom_some _ _ _ (.inl q)⟩
  refine codeAny_call_function hr.r.depth (KX _ _ lk) rfl S.co S.gen rfl (PySem.W.codeRec_of KX hcd) (hb _ _ _ _ (wpAny_newFunctionEnv_cells S.kind kinds fun env he s1 x => ?_))
  subst he
  refine ⟨lm.keeps x.toInCall.keep, codeAny_func ?_⟩
  obtain ⟨t, ht, hq⟩ := hbody cdv A outer s H vs Q E (hr.deeper _) hsp
  have I : Inv (cxOf CX P w K mg base N qual (defScope st) f cdv A outer s H E) [] (L2.start N vs) H s1 := inv_start S hr.r.hd e0 hl rv x
  refine wpAny_mono (ht.run [] s1 (L2.start N vs) H _ I hq) (fun fl s' hs => ?_) (fun e s' hs => hs)
  have fin : ∀ {σ' : L2.St} {H' : Hp} {v : V} {u : Value}, Inv (cxOf CX P w K mg base N qual (defScope st) f cdv A outer s H E) [] σ' H' s' → RelV v u → Q v H' → CE outer P w H s Q u s' := fun {σ' H' v u} J r q => ⟨v, H', J.os, J.bare, J.base, J.hok, r, q⟩
  cases fl with
  | ret u => exact let ⟨v, σ', H', J, r, q⟩ := hs; fin J r q
  | next => exact let ⟨σ', H', J, q⟩ := hs; fin (v := V.non) (u := Value.none) J rfl q
  | brk => exact let ⟨_, _, _, q⟩ := hs; q.elim
  | cont => exact let ⟨_, _, _, q⟩ := hs; q.elim
end
section
open PySem.Spec PyProof.Rows
variable {X : Cx} {CX : CXT} {k : Nat} {f C : Addr} {fd : FuncData} {pn : List Str} {sp : Sp} {pins : List (Addr × Obj)} {σ : L2.St} {H : Hp} {s : Shared} {Q : VK} {us : List Value} {vs : List V} {E : XK}
theorem run_fnG (F : FnG X.prog X.w X.K X.mg X.base CX k f fd pn sp) (hr : RoomG k X.A) (hb : Binds X.K fd pn []) (hx : PassesAt CX X σ E) (I : Inv X pins σ H s) (r : Vals vs us) (h : sp vs H Q E) : wpAny (model X.prog X.w) X.A (call (.ref f) us) (EP X pins σ Q) X.xe s := by
  have hl : us.length = pn.length := r.length.symm.trans (F.len _ _ _ _ h)
  have b := hb s us I.kIn (by simpa using hl)
  rw [List.append_nil] at b
  refine wpAny_call (codeAny_mono (F.run X.A X.stack s H ⟨us, []⟩ us vs Q E hr I.env0 b r h) fun r2 s' hq => ?_)
  cases r2 with
  | error e => exact hx pins H s e s' I hq
  | ok fl => cases fl <;> first | exact I.after hq | exact False.elim hq
theorem run_in1 (F : FnG X.prog X.w X.K X.mg X.base (L2.CX X.prog X.w) k f fd pn sp) (hr : RoomG (k + 1) X.A) (hb : Binds X.K fd pn []) (I : Inv X pins σ H s) (r : Vals vs us) (h : sp vs H Q E0) {E' : Value → Shared → Prop} : wpAny (model X.prog X.w) X.A.in1 (call (.ref f) us) (EP X pins σ Q) E' s := by
  have hl : us.length = pn.length := r.length.symm.trans (F.len _ _ _ _ h)
  have b := hb s us I.kIn (by simpa using hl)
  rw [List.append_nil] at b
  refine wpAny_call (codeAny_mono (F.run X.A.in1 X.stack s H ⟨us, []⟩ us vs Q E0 hr.in1 I.env0.in1 b r h) fun r2 s' hq => ?_)
  cases r2 with
  | error e => exact False.elim (passL (X := X.nox) pins σ H s e s' (I.wish _) hq)
  | ok fl => cases fl <;> first | exact I.after hq | exact False.elim hq
end
theorem fin_post {K : PySem.W.Frag} {mg : Str → Option Value} {F0 H : Hp} {Wp : Addr → Prop} {N : List Str} {vs : List V} {ps : List Slot} {b : SM} {Q : VK} {E : XK} (hv : vs.length ≤ N.length) (R : Rp ⟨K, mg, ⟨F0, H, Wp, noP⟩⟩ F0 H [] [] vs ps)
    (po : PostF ⟨K, mg, ⟨F0, H, Wp, noP⟩⟩ vs (funM N.length b ps) Q E) : PostS ⟨K, mg, ⟨F0, H, Wp, fun i => (L2.start N vs)[i]?⟩⟩ (fun cls d _ H => E cls d H) [] [] (b (startLS N.length ps)) { nx := fun _ H' => Q .non H', rt := Q } := by
  unfold funM at po
  cases e : b (startLS N.length ps) with
  | nx ls =>
    simp only [e, finF] at po
    cases e1 : outs ps ls with
    | none => simp only [e1, PostF] at po
    | some ps' =>
      simp only [e1] at po
      intro σ' F' H' R'
      exact po .non F' H' ((fn_outs (us := []) (kk := []) hv R R' (by simp) e1).pushDat .non)
  | err ex ls =>
    simp only [e, finF] at po
    cases e1 : outs ps ls with
    | none => simp only [e1, PostF] at po
    | some ps' =>
      simp only [e1] at po
      intro cls d σ' F' H' R' er
      exact po cls d F' H' (fn_outs (us := []) (kk := []) hv R R' (by simp) e1) er
  | ret kk ls =>
    simp only [e, finF] at po
    cases e1 : settle kk ls with
    | none => simp only [e1, PostF] at po
    | some q =>
      obtain ⟨k', ls'⟩ := q
      simp only [e1] at po
      cases e2 : outs ps ls' with
      | none => simp only [e2, PostF] at po
      | some ps' =>
        simp only [e2] at po
        intro v σ' F' H' R'
        obtain ⟨F2, σ2, R2, hr2⟩ := settle_ok R' e1
        exact po v F2 H' (fn_outs (us := [v]) (kk := [k']) hv R R2 (by simp [hr2]) e2)
  | brk ls => simp only [e, finF, PostF] at po
  | cnt ls => simp only [e, finF, PostF] at po
  | stk => simp only [e, finF, PostF] at po
/-- a def's rule: its body, for any base and any wish -/
theorem fun_ok {P : Program} {w : World} {K : PySem.W.Frag} {mg : Str → Option Value} {base : Heap} {x qual : Str} {st : Stmt} {f : Addr} {fd : FuncData} {N pn : List Str} {k n m : Nat} {b : SM} (F : L2.Fun K x qual st f fd) (S : FnScope N pn (defScope st))
    (hn : n = pn.length) (hm : m = N.length)
    (hbody : ∀ (cdv : Value) (A : Around) (outer : List Env) (s : Shared) (H : Hp) (E : XK) (B : Base), RoomG k (A.deeper (PyProof.Rows.envOfC qual (defScope st) s.heap.objs.size f cdv)) →
      L2.PSs (cxOf (L2.CX P w) P w K mg base N qual (defScope st) f cdv A outer s H E) (defBody st) (tS ⟨K, mg, B⟩ (fun cls d _ H => E cls d H) b)) :
    FnG P w K mg base (L2.CX P w) (k + 1) f fd pn (spM K mg n (funM m b)) := by
  subst hm
  refine fn_ofG F S (fun vs H Q E h => h.1.trans hn) (fun cdv A outer s H vs Q E hr h => ?_)
  obtain ⟨hlen, F0, Wp, ps, na, R, po⟩ := h
  have hpn : pn.length ≤ N.length := by
    have := congrArg List.length S.pre
    rw [List.length_take] at this
    omega
  have hv : vs.length ≤ N.length := by omega
  refine ⟨_, hbody cdv A outer s H E ⟨F0, H, Wp, fun i => (L2.start N vs)[i]?⟩ hr, ?_⟩
  refine ⟨F0, startLS N.length ps, [], [], fun i => by simp, fn_start hv na R, ?_⟩
  exact fin_post hv R po
end VM

set_option Elab.async false
set_option linter.all false
set_option maxRecDepth 100000
set_option maxHeartbeats 1000000
namespace VM
open PySem L2

/-! ### calls, wishes at the caller's slots -/
section
variable {X : Cx} {CX : CXT} {k : Nat} {f C : Addr} {fd : FuncData} {pn : List Str} {sp : Sp} {E : L2.St → XK} {x m : Str} {p pos apos : Pos} {e o : Expr} {es : List Expr} {ta : TE} {t : TA}
theorem pe_callG (F : FnG X.prog X.w X.K X.mg X.base CX k f fd pn sp) (hr : RoomG k X.A) (hg : Gl X x) (hm : X.mg x = some (.ref f)) (hk : PySem.W.keepIn X.K (.ref f) = true) (hb : Binds X.K fd pn []) (hx : ∀ σ, PassesAt CX X σ (E σ))
    (ha : L2.PA X (e :: es) t) (hdb : (x == ("__debug__" : Str)) = false) (he : starEach (e :: es) X.env = (false, eval e X.env) :: starEach es X.env) (hpl : (backTo pos (starEach es X.env)).any (·.1) = false) :
    L2.PE X (.Call (.Name x p) (e :: es) [] pos) (tCallS sp E t) := by
  refine ⟨fun pins s σ H Q I h => wpAny_Call_Name_kw (ld_glob I hg hm ?_ hdb)⟩
  refine PySem.W.callWith_K (h₀ := X.base) I.ok.mod.kin hk (thn (ha.run pos pins s σ H _ I h) fun us s1 ⟨vs, H1, I1, r, q⟩ => ⟨I1.kIn, run_fnG F hr hb (hx σ) I1 r q⟩) he hpl
theorem pe_call0S (F : FnG X.prog X.w X.K X.mg X.base CX k f fd pn sp) (hr : RoomG k X.A) (hg : Gl X x) (hm : X.mg x = some (.ref f)) (hk : PySem.W.keepIn X.K (.ref f) = true) (hb : Binds X.K fd pn []) (hx : ∀ σ, PassesAt CX X σ (E σ))
    (hdb : (x == ("__debug__" : Str)) = false := by decide) : L2.PE X (.Call (.Name x p) [] [] pos) (tCallS sp E tNil) := by
  refine ⟨fun pins s σ H Q I h => wpAny_Call_Name_kw (ld_glob I hg hm ?_ hdb)⟩
  exact PySem.W.callWith_K0 I.kIn hk (run_fnG (us := []) F hr hb (hx σ) I .nil h)
def tMethD (C : Addr) (m : Str) (sp : Sp) (E : L2.St → XK) (ta : TE) (t : TA) : TE := fun σ H Q => ta σ H fun x H1 => ∃ a dx fs, x = .ref a ∧ H1 a = some (.ins C dx fs) ∧ fs.lookup m = none ∧
  t σ H1 fun vs H2 => sp (x :: vs) H2 Q (E σ)
theorem pe_methD {pl : Sem Bool} (he : L2.PE X o ta) (c : Cls X.K C) (hm : Meth X.K C m f) (F : FnG X.prog X.w X.K X.mg X.base CX k f fd pn sp) (hr : RoomG k X.A) (hb : Binds X.K fd pn []) (hx : ∀ σ, PassesAt CX X σ (E σ)) (ha : L2.PA X (e :: es) t)
    (hst : starEach (e :: es) X.env = (false, eval e X.env) :: starEach es X.env := by rfl) (hpl : (backTo pos (starEach es X.env)).any (·.1) = false := by rfl)
    (ht : eval (.Call (.Attribute o m apos) (e :: es) [] pos) X.env = (do
      let ov ← eval o X.env
      standAt apos.atName
      let (f, first) ← holding [ov] (getMethod ov m pl)
      callWith pos f first (backTo pos (starEach (e :: es) X.env)) (backToKw pos (keywordEach [] X.env))) := by rfl) :
    L2.PE X (.Call (.Attribute o m apos) (e :: es) [] pos) (tMethD C m sp E ta t) := by
  refine ⟨fun pins s σ H Q I h => PySem.W.methodCall_KW (pl := pl) (thn (he.run pins s σ H _ I h) fun u s1 ⟨x, H1, I1, rx, a, dx, fs, ex, ea, l, q⟩ => ?_) ht⟩
  subst ex
  obtain rfl : u = Value.ref a := rx
  refine getmeth_ok I1 ea c hm l (PySem.W.callWith_K (first := [.ref a]) (h₀ := X.base) I.ok.mod.kin hm.kp (thn (ha.run pos pins s1 σ H1 _ I1 q) fun us s2 ⟨vs, H2, I2, r, q2⟩ => ⟨I2.kIn, ?_⟩) hst hpl)
  exact run_fnG (us := .ref a :: us) (vs := .ref a :: vs) F hr hb (hx σ) I2 (.cons rfl r) q2
theorem pe_meth0D {pl : Sem Bool} (he : L2.PE X o ta) (c : Cls X.K C) (hm : Meth X.K C m f) (F : FnG X.prog X.w X.K X.mg X.base CX k f fd pn sp) (hr : RoomG k X.A) (hb : Binds X.K fd pn []) (hx : ∀ σ, PassesAt CX X σ (E σ))
    (ht : eval (.Call (.Attribute o m apos) [] [] pos) X.env = (do
      let ov ← eval o X.env
      standAt apos.atName
      let (f, first) ← holding [ov] (getMethod ov m pl)
      callWith pos f first (backTo pos (starEach [] X.env)) (backToKw pos (keywordEach [] X.env))) := by rfl) :
    L2.PE X (.Call (.Attribute o m apos) [] [] pos) (tMethD C m sp E ta tNil) := by
  refine ⟨fun pins s σ H Q I h => PySem.W.methodCall_KW (pl := pl) (thn (he.run pins s σ H _ I h) fun u s1 ⟨x, H1, I1, rx, a, dx, fs, ex, ea, l, q⟩ => ?_) ht⟩
  subst ex
  obtain rfl : u = Value.ref a := rx
  refine getmeth_ok I1 ea c hm l ?_
  exact PySem.W.callWith_K0 (first := [.ref a]) I1.kIn hm.kp (run_fnG (us := [.ref a]) (vs := [.ref a]) F hr hb (hx σ) I1 (.cons rfl .nil) q)
theorem run_makeD {pins : List (Addr × Obj)} {σ : L2.St} {H : Hp} {s : Shared} {Q : VK} {us : List Value} {vs : List V} (M : Mk X.K C f) (F : FnG X.prog X.w X.K X.mg X.base CX k f fd pn sp) (hr : RoomG (k + 1) X.A) (hb : Binds X.K fd pn [])
    (hx : PassesAt CX X σ (E σ)) (I : Inv X pins σ H s) (r : Vals vs us)
    (h : ∀ x dx, H x = none → H dx = none → dx ≠ x → sp (.ref x :: vs) (upd (upd H dx (.own x)) x (.ins C dx [])) (fun v H2 => v = .non ∧ Q (.ref x) H2) (E σ)) :
    wpAny (model X.prog X.w) X.A (call (.ref C) us) (EP X pins σ Q) X.xe s := by
  have hq := h (s.heap.objs.size + 1) s.heap.objs.size (I.hok.fresh (Nat.le_succ _)) (I.hok.fresh (Nat.le_refl _)) (Nat.ne_of_lt (Nat.lt_succ_self _))
  have I2 := Inv.made (C := C) I
  have r2 : Vals (V.ref (s.heap.objs.size + 1) :: vs) (Value.ref (s.heap.objs.size + 1) :: us) := .cons rfl r
  have hl : (Value.ref (s.heap.objs.size + 1) :: us).length = pn.length := r2.length.symm.trans (F.len _ _ _ _ hq)
  have b := hb _ (Value.ref (s.heap.objs.size + 1) :: us) I2.kIn (by simpa using hl)
  rw [List.append_nil] at b
  refine wpAny_call (make_map (f := f) I.kIn M.makes M.init (beq_iff_eq.mp M.fn) (codeAny_mono (F.run _ X.stack _ _ ⟨Value.ref (s.heap.objs.size + 1) :: us, []⟩ (Value.ref (s.heap.objs.size + 1) :: us) _ _ (E σ) (hr.make C us [])
    (I2.env0.make C us []) b r2 hq) fun r s' hq' => ?_))
  cases r with
  | error e => exact hx pins _ _ e s' I2 hq'
  | ok fl =>
    cases fl with
    | ret u =>
      obtain ⟨v, H', I3, rv, ev, q3⟩ := I2.after hq'
      subst ev
      exact ⟨rv, ⟨V.ref (s.heap.objs.size + 1), H', I3, rfl, q3⟩⟩
    | next => exact False.elim hq'
    | brk => exact False.elim hq'
    | cont => exact False.elim hq'
def tMakeD (C : Addr) (sp : Sp) (E : L2.St → XK) (t : TA) : TE := fun σ H Q => t σ H fun vs H1 => ∀ x dx, H1 x = none → H1 dx = none → dx ≠ x →
  sp (.ref x :: vs) (upd (upd H1 dx (.own x)) x (.ins C dx [])) (fun v H2 => v = .non ∧ Q (.ref x) H2) (E σ)
theorem pe_makeD (M : Mk X.K C f) (F : FnG X.prog X.w X.K X.mg X.base CX k f fd pn sp) (hr : RoomG (k + 1) X.A) (hg : Gl X x) (hm : X.mg x = some (.ref C)) (hb : Binds X.K fd pn []) (hx : ∀ σ, PassesAt CX X σ (E σ))
    (ha : L2.PA X (e :: es) t) (hdb : (x == ("__debug__" : Str)) = false := by decide) (he : starEach (e :: es) X.env = (false, eval e X.env) :: starEach es X.env := by rfl) (hpl : (backTo pos (starEach es X.env)).any (·.1) = false := by rfl) :
    L2.PE X (.Call (.Name x p) (e :: es) [] pos) (tMakeD C sp E t) := by
  refine ⟨fun pins s σ H Q I h => wpAny_Call_Name_kw (ld_glob I hg hm ?_ hdb)⟩
  exact PySem.W.callWith_K (h₀ := X.base) I.ok.mod.kin M.kp (thn (ha.run pos pins s σ H _ I h) fun us s1 ⟨vs, H1, I1, r, q⟩ => ⟨I1.kIn, run_makeD M F hr hb (hx σ) I1 r q⟩) he hpl
def tPropG (C : Addr) (sp : Sp) (ta : TE) : TE := fun σ H Q => ta σ H fun x H1 => ∃ a dx fs, x = .ref a ∧ H1 a = some (.ins C dx fs) ∧ sp [.ref a] H1 Q E0
theorem pe_propG {ff : Str} {pr : Addr} (he : L2.PE X e ta) (c : Cls X.K C) (hp : PropOf X.K C ff pr f) (F : FnG X.prog X.w X.K X.mg X.base (L2.CX X.prog X.w) k f fd pn sp) (hr : RoomG (k + 1) X.A) (hb : Binds X.K fd pn [])
    (hab : attributeBase e ff X.env (eval e X.env) = eval e X.env) : L2.PE X (.Attribute e ff pos) (tPropG C sp ta) := by
  refine ⟨fun pins s σ H Q I h => attr_of hab (thn (he.run pins s σ H _ I h) fun u s1 ⟨x, H1, I1, rx, a, dx, fs, ex, ea, q⟩ => ?_)⟩
  subst ex
  obtain rfl : u = Value.ref a := rx
  obtain ⟨mA, O, _, _, _, _⟩ := ins_get I1.hok ea
  obtain ⟨od, J, _⟩ := O.look
  obtain ⟨rest, hrec⟩ := hp.rec_
  have hc : (PySem.W.clsIn X.K C).isSome = true := by
    obtain ⟨cd, hc, _⟩ := PySem.W.any_some c.hd
    rw [hc]; rfl
  refine PySem.W.get_bind I1.kIn J (PySem.W.plainGet_of (c.get ff)).1 (PySem.W.findObj_data hc hp.at_ hp.get hp.tak) (PySem.W.plainGet_of (c.get ff)).2 (wpAny_call (PySem.W.prop_get (s := { s1 with toks := s1.toks + 1 }) I1.kIn hrec ?_))
  have I2 := I1.tok (s1.toks + 1)
  have hl : ([Value.ref a] : List Value).length = pn.length := F.len _ _ _ _ q
  have b := hb { s1 with toks := s1.toks + 1 } [.ref a] I2.kIn (by simpa using hl)
  rw [List.append_nil] at b
  refine codeAny_mono (F.run X.A.in1 X.stack { s1 with toks := s1.toks + 1 } H1 ⟨[.ref a], []⟩ [.ref a] [.ref a] Q E0 hr.in1 I2.env0.in1 b (.cons rfl .nil) q) fun r s' hq => ?_
  cases r with
  | error er => exact False.elim (passL (X := X.nox) pins σ H1 { s1 with toks := s1.toks + 1 } er s' (I2.wish _) hq)
  | ok fl =>
    cases fl with
    | ret u =>
      obtain ⟨v, H', I3, rv, q3⟩ := I2.after hq
      show wpAny _ _ (handedOut u) _ _ _
      rw [PySem.W.handedOut_of (handed_of rv)]
      exact wpAny_pure ⟨v, H', I3, rv, q3⟩
    | next => exact False.elim hq
    | brk => exact False.elim hq
    | cont => exact False.elim hq
end

/-! ### mirrors of calls -/
def callN (n : Nat) (f : List Slot → RF) (am : AM) : M := fun ls => (am ls).bind fun as ls => if as.length = n then callK f as ls else .stk
/-- o.m(..): the object first -/
def methN (x : List Str) (n : Nat) (f : List Slot → RF) (o : M) (am : AM) : M := fun ls => (o ls).bind fun k ls => match look ls k with
  | some (.ins y _) => if y ∈ x then (am ls).bind fun as ls => (if as.length = n then callK f (k :: as) ls else .stk) else .stk
  | _ => .stk
/-- C(..) -/
def makeK (c : Str) (f : List Slot → RF) (as : List Slot) (ls : LS) : R := if (alis as).Nodup then (match hands ls as with
  | some ps => (match f (.par (.ins c []) :: ps) with
    | .ok (.dat .non) (.par d :: ps') => (match backs as ps' ls with
      | some ls' => .ok (.own d) ls'
      | none => .stk)
    | .ok (.dat .non) (.dat d :: ps') => (match backs as ps' ls with
      | some ls' => .ok (.dat d) ls'
      | none => .stk)
    | .err x (.par _ :: ps') => (match backs as ps' ls with
      | some ls' => .err x ls'
      | none => .stk)
    | .err x (.dat _ :: ps') => (match backs as ps' ls with
      | some ls' => .err x ls'
      | none => .stk)
    | _ => .stk)
  | none => .stk) else .stk
def makeN (c : Str) (n : Nat) (f : List Slot → RF) (am : AM) : M := fun ls => (am ls).bind fun as ls => if as.length = n then makeK c f as ls else .stk
section
variable {X : Cx} {B : Base} {W : WX} {k n : Nat} {f C : Addr} {fd : FuncData} {pn : List Str} {x m : Str} {p pos apos : Pos} {e o : Expr} {es : List Expr} {am : AM} {om : M} {g : List Slot → RF} {xs : List Str}
theorem e_call (F : FnG X.prog X.w X.K X.mg X.base (L2.CX X.prog X.w) k f fd pn (spM X.K X.mg n g)) (hr : RoomG k X.A) (hm : X.mg x = some (.ref f)) (hk : PySem.W.keepIn X.K (.ref f) = true) (hb : Binds X.K fd pn []) (tk : Takes X W) (ha : L2.PA X (e :: es) (tA (cfg X B) W am))
    (hg : Gl X x := by rfl) (hdb : (x == ("__debug__" : Str)) = false := by decide) (he : starEach (e :: es) X.env = (false, eval e X.env) :: starEach es X.env := by rfl) (hpl : (backTo pos (starEach es X.env)).any (·.1) = false := by rfl) :
    L2.PE X (.Call (.Name x p) (e :: es) [] pos) (tM (cfg X B) W (callN n g am)) := PE.imp (pe_callG F hr hg hm hk hb (fun σ => passAt tk σ) ha hdb he hpl) fun σ H Q h => by
  refine tA_bind h fun F ls vs ks ws H' as hl R po => ?_
  split at po
  · rename_i hn
    obtain ⟨F0, W0, ps, na, R1, po1⟩ := callK_ok hl R po
    exact ⟨by omega, F0, W0, ps, na, R1, po1⟩
  · exact False.elim po
theorem e_call0 (F : FnG X.prog X.w X.K X.mg X.base (L2.CX X.prog X.w) k f fd pn (spM X.K X.mg 0 g)) (hr : RoomG k X.A) (hm : X.mg x = some (.ref f)) (hk : PySem.W.keepIn X.K (.ref f) = true) (hb : Binds X.K fd pn []) (tk : Takes X W)
    (hg : Gl X x := by rfl) (hdb : (x == ("__debug__" : Str)) = false := by decide) :
    L2.PE X (.Call (.Name x p) [] [] pos) (tM (cfg X B) W (callN 0 g nilA)) := PE.imp (pe_call0S F hr hg hm hk hb (fun σ => passAt tk σ) hdb) fun σ H Q h => by
  obtain ⟨F, ls, vs, ks, r, po⟩ := h
  obtain ⟨F0, W0, ps, na, R1, po1⟩ := callK_ok (ws := []) (as := []) (vs := vs) (ks := ks) rfl r po
  exact ⟨rfl, F0, W0, ps, na, R1, po1⟩
theorem ins_of {G : Cfg} {F H : Hp} {σ : L2.St} {ls : LS} {vs ks} {v : V} {kk : Slot} {y : Str} {gs : List (Str × D)} (R : Rp G F H σ ls (v :: vs) (kk :: ks)) (e : look ls kk = some (.ins y gs)) :
    ∃ a C dx fs, v = .ref a ∧ G.mg y = some (.ref C) ∧ H a = some (.ins C dx fs) ∧ DDf G.K G.mg F gs fs := Vw.ins R.ex (R.view0 e)
theorem ddf_lookup {K : PySem.W.Frag} {mg : Str → Option Value} {F : Hp} {y : Str} : ∀ {gs : List (Str × D)} {fs : List (Str × V)}, DDf K mg F gs fs → (gs.lookup y = none ∧ fs.lookup y = none) ∨ ∃ d v, gs.lookup y = some d ∧ fs.lookup y = some v ∧ DD K mg F d v
  | _, _, .nil => .inl ⟨rfl, rfl⟩
  | _, _, .cons (f := f) h r => by
    by_cases hf : y = f
    · subst hf
      exact .inr ⟨_, _, by simp [List.lookup], by simp [List.lookup], h⟩
    · have hf' : (y == f) = false := by simpa using hf
      simp only [List.lookup, hf']
      exact ddf_lookup r
/-- methN: no attribute of the object has the method's name: it is looked at, too -/
def methL (m : Str) (x : List Str) (n : Nat) (f : List Slot → RF) (o : M) (am : AM) : M := fun ls => (o ls).bind fun k ls => match look ls k with
  | some (.ins y gs) => if y ∈ x ∧ gs.lookup m = none then (am ls).bind fun as ls => (if as.length = n then callK f (k :: as) ls else .stk) else .stk
  | _ => .stk
theorem e_meth {pl : Sem Bool} (ho : L2.PE X o (tM (cfg X B) W om)) (c : Cls X.K C) (hM : Meth X.K C m f) (hC : ∀ y ∈ xs, X.mg y = some (.ref C)) (F : FnG X.prog X.w X.K X.mg X.base (L2.CX X.prog X.w) k f fd pn (spM X.K X.mg (n + 1) g)) (hr : RoomG k X.A) (hb : Binds X.K fd pn []) (tk : Takes X W)
    (ha : L2.PA X (e :: es) (tA (cfg X B) W am))
    (hst : starEach (e :: es) X.env = (false, eval e X.env) :: starEach es X.env := by rfl) (hpl : (backTo pos (starEach es X.env)).any (·.1) = false := by rfl)
    (ht : eval (.Call (.Attribute o m apos) (e :: es) [] pos) X.env = (do
      let ov ← eval o X.env
      standAt apos.atName
      let (f, first) ← holding [ov] (getMethod ov m pl)
      callWith pos f first (backTo pos (starEach (e :: es) X.env)) (backToKw pos (keywordEach [] X.env))) := by rfl) :
    L2.PE X (.Call (.Attribute o m apos) (e :: es) [] pos) (tM (cfg X B) W (methL m xs n g om am)) := PE.imp (pe_methD (pl := pl) ho c hM F hr hb (fun σ => passAt tk σ) ha hst hpl ht) fun σ H Q h => by
  refine tM_bind h fun F ls vs ks v H' kk R po => ?_
  cases e1 : look ls kk with
  | none => simp only [e1, PostM] at po
  | some d =>
    cases d with
    | ins y gs =>
      simp only [e1] at po
      split at po
      · rename_i hy
        obtain ⟨a, C', dx, fs, rfl, hmy, ha', hfs⟩ := ins_of R e1
        have : C' = C := by
          have z := (hC y hy.1).symm.trans hmy
          cases z; rfl
        subst this
        have hl : fs.lookup m = none := by
          rcases ddf_lookup (y := m) hfs with ⟨_, z⟩ | ⟨_, _, z, _⟩
          · exact z
          · rw [hy.2] at z; cases z
        refine ⟨a, dx, fs, rfl, ha', hl, ?_⟩
        refine ⟨F, ls, .ref a :: vs, kk :: ks, R, ?_⟩
        cases e2 : am ls with
        | ok as ls2 =>
          simp only [e2, RA.bind] at po
          intro ws F2 H2 hl2 R2
          split at po
          · rename_i hn
            obtain ⟨F0, W0, ps, na, R1, po1⟩ := callK_ok (ws := .ref a :: ws) (as := kk :: as) (by simp [hl2]) (R2.rot hl2) po
            exact ⟨by simp; omega, F0, W0, ps, na, R1, po1⟩
          · exact False.elim po
        | err x ls2 =>
          simp only [e2, RA.bind] at po
          exact fun cls d F' H' r' e' => po cls d F' H' r'.pop e'
        | stk => simp only [e2, RA.bind, PostM] at po
      · exact False.elim po
    | _ => simp only [e1, PostM] at po
theorem e_meth0 {pl : Sem Bool} (ho : L2.PE X o (tM (cfg X B) W om)) (c : Cls X.K C) (hM : Meth X.K C m f) (hC : ∀ y ∈ xs, X.mg y = some (.ref C)) (F : FnG X.prog X.w X.K X.mg X.base (L2.CX X.prog X.w) k f fd pn (spM X.K X.mg 1 g)) (hr : RoomG k X.A) (hb : Binds X.K fd pn []) (tk : Takes X W)
    (ht : eval (.Call (.Attribute o m apos) [] [] pos) X.env = (do
      let ov ← eval o X.env
      standAt apos.atName
      let (f, first) ← holding [ov] (getMethod ov m pl)
      callWith pos f first (backTo pos (starEach [] X.env)) (backToKw pos (keywordEach [] X.env))) := by rfl) :
    L2.PE X (.Call (.Attribute o m apos) [] [] pos) (tM (cfg X B) W (methL m xs 0 g om nilA)) := PE.imp (pe_meth0D (pl := pl) ho c hM F hr hb (fun σ => passAt tk σ) ht) fun σ H Q h => by
  refine tM_bind h fun F ls vs ks v H' kk R po => ?_
  cases e1 : look ls kk with
  | none => simp only [e1, PostM] at po
  | some d =>
    cases d with
    | ins y gs =>
      simp only [e1] at po
      split at po
      · rename_i hy
        obtain ⟨a, C', dx, fs, rfl, hmy, ha', hfs⟩ := ins_of R e1
        have : C' = C := by
          have z := (hC y hy.1).symm.trans hmy
          cases z; rfl
        subst this
        have hl : fs.lookup m = none := by
          rcases ddf_lookup (y := m) hfs with ⟨_, z⟩ | ⟨_, _, z, _⟩
          · exact z
          · rw [hy.2] at z; cases z
        refine ⟨a, dx, fs, rfl, ha', hl, ?_⟩
        have po' : PostM (cfg X B) W σ vs ks (callK g [kk] ls) Q := po
        obtain ⟨F0, W0, ps, na, R1, po1⟩ := callK_ok (ws := [.ref a]) (as := [kk]) (vs := vs) (ks := ks) rfl R po'
        exact ⟨rfl, F0, W0, ps, na, R1, po1⟩
      · exact False.elim po
    | _ => simp only [e1, PostM] at po
/-- a property: its getter is the def g, it raises nothing -/
def propL (x : List Str) (f : List Slot → RF) (o : M) : M := fun ls => (o ls).bind fun k ls => match look ls k with
  | some (.ins y _) => if y ∈ x then (match callK f [k] ls with
    | .ok k ls => .ok k ls
    | _ => .stk) else .stk
  | _ => .stk
theorem e_prop {ff : Str} {pr : Addr} (ho : L2.PE X e (tM (cfg X B) W om)) (c : Cls X.K C) (hP : PropOf X.K C ff pr f) (hC : ∀ y ∈ xs, X.mg y = some (.ref C)) (F : FnG X.prog X.w X.K X.mg X.base (L2.CX X.prog X.w) k f fd pn (spM X.K X.mg 1 g)) (hr : RoomG (k + 1) X.A) (hb : Binds X.K fd pn [])
    (hab : attributeBase e ff X.env (eval e X.env) = eval e X.env := by rfl) : L2.PE X (.Attribute e ff pos) (tM (cfg X B) W (propL xs g om)) :=
  PE.imp (pe_propG ho c hP F hr hb hab) fun σ H Q h => by
  refine tM_bind h fun F ls vs ks v H' kk R po => ?_
  cases e1 : look ls kk with
  | none => simp only [e1, PostM] at po
  | some d =>
    cases d with
    | ins y gs =>
      simp only [e1] at po
      split at po
      · rename_i hy
        obtain ⟨a, C', dx, fs, rfl, hmy, ha', hfs⟩ := ins_of R e1
        have : C' = C := by
          have z := (hC y hy).symm.trans hmy
          cases z; rfl
        subst this
        refine ⟨a, dx, fs, rfl, ha', ?_⟩
        have po' : PostM (cfg X B) (fun _ _ _ _ => False) σ vs ks (callK g [kk] ls) Q := by
          cases e2 : callK g [kk] ls with
          | ok k2 ls2 => rw [e2] at po; exact po
          | err x2 ls2 => rw [e2] at po; exact False.elim po
          | stk => rw [e2] at po; exact False.elim po
        obtain ⟨F0, W0, ps, na, R1, po1⟩ := callK_ok (ws := [.ref a]) (as := [kk]) (vs := vs) (ks := ks) rfl R po'
        exact ⟨rfl, F0, W0, ps, na, R1, po1⟩
      · exact False.elim po
    | _ => simp only [e1, PostM] at po
theorem makeK_ok {G : Cfg} {W : WX} {f : List Slot → RF} {F H : Hp} {σ : L2.St} {ls : LS} {vs ws : List V} {ks as : List Slot} {Q : VK} {c : Str} {C : Addr} (hc : G.mg c = some (.ref C)) (hl : ws.length = as.length) (R : Rp G F H σ ls (ws ++ vs) (as ++ ks)) (po : PostM G W σ vs ks (makeK c f as ls) Q)
    {x dx : Addr} (hx : H x = none) (hdx : H dx = none) (hne : dx ≠ x) :
    ∃ F0 W0 ps, noAli ps ∧ Rp ⟨G.K, G.mg, ⟨F0, upd (upd H dx (.own x)) x (.ins C dx []), W0, noP⟩⟩ F0 (upd (upd H dx (.own x)) x (.ins C dx [])) [] [] (.ref x :: ws) ps ∧
      PostF ⟨G.K, G.mg, ⟨F0, upd (upd H dx (.own x)) x (.ins C dx []), W0, noP⟩⟩ (.ref x :: ws) (f ps) (fun v H2 => v = .non ∧ Q (.ref x) H2) (fun cls d H' => W cls d σ H') := by
  have R1 : Rp G F (upd (upd H dx (.own x)) x (.ins C dx [])) σ ls (.ref x :: (ws ++ vs)) (.own (.ins c []) :: (as ++ ks)) := by
    refine (R.heapNew (o := .own x) hdx).pushOwn (by rw [upd_ne (Ne.symm hne)]; exact hx) ?_
    exact ⟨hc, .nil⟩
  unfold makeK at po
  split at po
  · rename_i hn
    cases e : hands ls as with
    | none => simp only [e, PostM] at po
    | some ps =>
      simp only [e] at po
      have hh : hands ls (.own (.ins c []) :: as) = some (.par (.ins c []) :: ps) := by simp only [hands, hand1, e]
      have hn' : (alis (.own (.ins c []) :: as)).Nodup := hn
      have hl' : (V.ref x :: ws).length = (Slot.own (.ins c []) :: as).length := by simp [hl]
      obtain ⟨na, R2⟩ := call_pre (ws := .ref x :: ws) (as := .own (.ins c []) :: as) (vs := vs) (ks := ks) R1 hl' hn' hh
      refine ⟨F, _, _, na, R2, ?_⟩
      -- what the new object is behind the call
      have new : ∀ {ps' : List Slot} {ls' : LS} {F' H' : Hp} {d : D}, backs as ps' ls = some ls' → Rp ⟨G.K, G.mg, ⟨F, upd (upd H dx (.own x)) x (.ins C dx []), argW (upd (upd H dx (.own x)) x (.ins C dx [])) (.ref x :: ws) (.par (.ins c []) :: ps), noP⟩⟩ F' H' [] [] (.ref x :: ws) (.par d :: ps') →
          Rp G F' H' σ ls' (.ref x :: vs) (.own d :: ks) := fun {ps' ls' F' H' d} hb C2 => by
        obtain ⟨R3, hq⟩ := call_post (ws := .ref x :: ws) (as := .own (.ins c []) :: as) (vs := vs) (ks := ks) (ps' := .par d :: ps') R1 hl' hn' hh (by simp only [backs]; exact hb) C2
        obtain ⟨q, eq, o⟩ := C2.good.head
        cases eq
        refine R3.pushOwnAt ⟨o.1, .inl (R.fresh hx).1, o.2.2⟩ fun n e' he z => ?_
        rcases hq n e' x he z with ⟨z1, _⟩ | ⟨m, i, e'', z0, z1, z2⟩
        · exact z1 ⟨0, _, rfl, ad_one (.inr rfl) rfl⟩
        · cases m with
          | zero => cases z0
          | succ m =>
            have := C2.good.nd 0 (m + 1) _ e'' x rfl z1 (ad_one (.inr rfl) rfl) z2
            omega
      have newD : ∀ {ps' : List Slot} {ls' : LS} {F' H' : Hp} {d : D}, backs as ps' ls = some ls' → Rp ⟨G.K, G.mg, ⟨F, upd (upd H dx (.own x)) x (.ins C dx []), argW (upd (upd H dx (.own x)) x (.ins C dx [])) (.ref x :: ws) (.par (.ins c []) :: ps), noP⟩⟩ F' H' [] [] (.ref x :: ws) (.dat d :: ps') →
          Rp G F' H' σ ls' (.ref x :: vs) (.dat d :: ks) := fun {ps' ls' F' H' d} hb C2 => by
        obtain ⟨R3, hq⟩ := call_post (ws := .ref x :: ws) (as := .own (.ins c []) :: as) (vs := vs) (ks := ks) (ps' := .dat d :: ps') R1 hl' hn' hh (by simp only [backs]; exact hb) C2
        obtain ⟨q, eq, o⟩ := C2.good.head
        cases eq
        exact R3.pushDat o
      cases e1 : f (.par (.ins c []) :: ps) with
      | stk => simp only [e1, PostM] at po
      | err ex ps' =>
        cases ps' with
        | nil => simp only [e1, PostM] at po
        | cons p0 ps' =>
          cases p0 with
          | par d0 =>
            simp only [e1] at po
            cases e2 : backs as ps' ls with
            | none => simp only [e2, PostM] at po
            | some ls' =>
              simp only [e2] at po
              exact fun cls d F' H' C2 er => po cls d F' H' (new e2 C2).pop er
          | dat d0 =>
            simp only [e1] at po
            cases e2 : backs as ps' ls with
            | none => simp only [e2, PostM] at po
            | some ls' =>
              simp only [e2] at po
              exact fun cls d F' H' C2 er => po cls d F' H' (newD e2 C2).pop er
          | _ => simp only [e1, PostM] at po
      | ok kk ps' =>
        cases kk with
        | dat dk =>
          cases dk with
          | non =>
            cases ps' with
            | nil => simp only [e1, PostM] at po
            | cons p0 ps' =>
              cases p0 with
              | par d0 =>
                simp only [e1] at po
                cases e2 : backs as ps' ls with
                | none => simp only [e2, PostM] at po
                | some ls' =>
                  simp only [e2] at po
                  intro v F' H' C2
                  obtain ⟨y, ey, dy⟩ := C2.good.head
                  cases ey
                  cases dy
                  exact ⟨rfl, po _ _ _ (new e2 C2.pop)⟩
              | dat d0 =>
                simp only [e1] at po
                cases e2 : backs as ps' ls with
                | none => simp only [e2, PostM] at po
                | some ls' =>
                  simp only [e2] at po
                  intro v F' H' C2
                  obtain ⟨y, ey, dy⟩ := C2.good.head
                  cases ey
                  cases dy
                  exact ⟨rfl, po _ _ _ (newD e2 C2.pop)⟩
              | _ => simp only [e1, PostM] at po
          | _ => simp only [e1, PostM] at po
        | _ => simp only [e1, PostM] at po
  · exact False.elim po
theorem e_make {c : Str} (M : Mk X.K C f) (F : FnG X.prog X.w X.K X.mg X.base (L2.CX X.prog X.w) k f fd pn (spM X.K X.mg (n + 1) g)) (hr : RoomG (k + 1) X.A) (hm : X.mg c = some (.ref C)) (hb : Binds X.K fd pn []) (tk : Takes X W) (ha : L2.PA X (e :: es) (tA (cfg X B) W am))
    (hg : Gl X c := by rfl) (hdb : (c == ("__debug__" : Str)) = false := by decide) (he : starEach (e :: es) X.env = (false, eval e X.env) :: starEach es X.env := by rfl) (hpl : (backTo pos (starEach es X.env)).any (·.1) = false := by rfl) :
    L2.PE X (.Call (.Name c p) (e :: es) [] pos) (tM (cfg X B) W (makeN c n g am)) := PE.imp (pe_makeD M F hr hg hm hb (fun σ => passAt tk σ) ha hdb he hpl) fun σ H Q h => by
  refine tA_bind h fun F ls vs ks ws H' as hl R po x dx hx hdx hne => ?_
  split at po
  · rename_i hn
    obtain ⟨F0, W0, ps, na, R1, po1⟩ := makeK_ok (C := C) hm hl R po hx hdx hne
    exact ⟨by simp; omega, F0, W0, ps, na, R1, po1⟩
  · exact False.elim po
end
end VM

set_option Elab.async false
set_option linter.all false
set_option maxRecDepth 100000
set_option maxHeartbeats 1000000
namespace VM
open PySem L2

/-! ### targets -/
abbrev TgM := D → LS → Option LS
def tgN (i : Nat) : TgM := fun d ls => some (ls.set i (.dat d))
def tgs : List TgM → List D → LS → Option LS
  | [], [], ls => some ls
  | t :: ts, d :: ds, ls => match t d ls with
    | some ls' => tgs ts ds ls'
    | none => none
  | _, _, _ => none
def tgT (ts : List TgM) : TgM := fun d ls => match d with
  | .tup ds => if ds.length = ts.length then tgs ts ds ls else none
  | _ => none
def tgL (ts : List TgM) : TgM := fun d ls => match d with
  | .lst ds => if ds.length = ts.length then tgs ts ds ls else none
  | _ => none
/-- the same but at the slots is -/
def Agree (is : List Nat) (σ' σ : L2.St) : Prop := σ'.length = σ.length ∧ ∀ i, i ∉ is → σ'[i]? = σ[i]?
theorem Agree.refl {is : List Nat} {σ : L2.St} : Agree is σ σ := ⟨rfl, fun _ _ => rfl⟩
theorem Agree.trans {is js : List Nat} {σ σ1 σ2 : L2.St} (a : Agree is σ2 σ1) (b : Agree js σ1 σ) : Agree (is ++ js) σ2 σ :=
  ⟨a.1.trans b.1, fun i hi => by
    rw [List.mem_append, not_or] at hi
    exact (a.2 i hi.1).trans (b.2 i hi.2)⟩
section
variable (G : Cfg)
def tG (t : TgM) (is : List Nat) : TG := fun x σ H C => ∃ F ls vs ks d, (∀ i ∈ is, Slot.ali i ∉ ks) ∧ Rp G F H σ ls (x :: vs) (.dat d :: ks) ∧ match t d ls with
  | some ls' => ∀ σ' F' H', Rp G F' H' σ' ls' vs ks → Agree is σ' σ → C σ' H'
  | none => False
def tGs (ts : List TgM) (is : List Nat) : TGs := fun xs σ H C => ∃ F ls vs ks ds, (∀ i ∈ is, Slot.ali i ∉ ks) ∧ xs.length = ds.length ∧ Rp G F H σ ls (xs ++ vs) (ds.map Slot.dat ++ ks) ∧ match tgs ts ds ls with
  | some ls' => ∀ σ' F' H', Rp G F' H' σ' ls' vs ks → Agree is σ' σ → C σ' H'
  | none => False
end
section
variable {X : Cx} {B : Base} {W : WX} {e a b c : Expr} {es : List Expr} {m ma mb : M} {am : AM} {i n : Nat} {pos : Pos} {t : TgM} {ts : List TgM} {is js : List Nat} {tgt : Expr} {tgts : List Expr}
theorem PG.imp {X : Cx} {e : Expr} {t t' : TG} (h : L2.PG X e t) (hi : ∀ v σ H Q, t' v σ H Q → t v σ H Q) : L2.PG X e t' := ⟨fun pins s σ H v u Q I r q => h.run pins s σ H v u Q I r (hi v σ H Q q)⟩
theorem PGs.imp {X : Cx} {e : List Expr} {t t' : TGs} (h : L2.PGs X e t) (hi : ∀ v σ H Q, t' v σ H Q → t v σ H Q) : L2.PGs X e t' := ⟨fun pins s σ H v u Q I r q => h.run pins s σ H v u Q I r (hi v σ H Q q)⟩
theorem ali_dats {ds : List D} {ks : List Slot} {i : Nat} (h : Slot.ali i ∉ ks) : Slot.ali i ∉ (ds.map Slot.dat ++ ks) := fun hm => by
  rcases List.mem_append.mp hm with z | z
  · obtain ⟨d, _, hd⟩ := List.mem_map.mp z
    cases hd
  · exact h z
theorem Rp.setTopA {G : Cfg} {F H : Hp} {σ : L2.St} {ls : LS} {vs : List V} {ks : List Slot} {v : V} {k : Slot} {i : Nat} (R : Rp G F H σ ls (v :: vs) (k :: ks)) (hn : Slot.ali i ∉ ks) (hk : k.fit = true) : Rp G F H (σ.set i (some v)) (ls.set i k) vs ks := by
  have R' := R.pop
  refine ⟨R.ex, R.ex0, by simp [R.len], R'.klen, ?_, fun w i' hj => ?_, R.pinSet hk, R.b1, R.b2, R.b3⟩
  · rw [ent_set R'.klen]
    refine R'.good.set R.good.head fun q hq m e' _ he => R.good.head_ne hq m e' he
  · obtain ⟨s, a1, a2, a3⟩ := R'.al w i' hj
    have hne : i ≠ i' := fun z => hn (by rw [z]; exact (List.of_mem_zip hj).2)
    exact ⟨s, by rw [List.getElem?_set_ne hne]; exact a1, by rw [List.getElem?_set_ne hne]; exact a2, a3⟩
theorem g_name {x : Str} (i : Nat) (hN : X.N.Nodup) (hi : X.N[i]? = some x := by rfl) (hx : Loc X.env.scope x := by first | exact Or.inl rfl | exact Or.inr rfl) (hf : X.fn x = true ∨ X.env.scope.names.lookup x = some .local := by first | exact .inl rfl | exact .inr rfl | assumption) :
    L2.PG X (.Name x pos) (tG (cfg X B) (tgN i) [i]) := PG.imp (pg_name hN hi hx hf) fun v σ H Q h => by
  obtain ⟨F, ls, vs, ks, d, na, R, h⟩ := h
  exact h _ F H (R.setTopA (na i (by simp)) rfl) ⟨by simp, fun j hj => by
    rw [List.mem_singleton] at hj
    exact List.getElem?_set_ne (Ne.symm hj)⟩
theorem gs_nil : L2.PGs X [] (tGs (cfg X B) [] []) := PGs.imp pgs_nil fun v σ H Q h => by
  obtain ⟨F, ls, vs, ks, ds, na, hl, R, h⟩ := h
  cases ds with
  | nil =>
    cases v with
    | nil => exact ⟨rfl, h σ F H R Agree.refl⟩
    | cons _ _ => simp at hl
  | cons d ds => exact h.elim
theorem gs_cons (h1 : L2.PG X tgt (tG (cfg X B) t is)) (h2 : L2.PGs X tgts (tGs (cfg X B) ts js)) (hs : (assignEach (tgt :: tgts) X.env).map (·.2) = assign tgt X.env :: (assignEach tgts X.env).map (·.2) := by rfl) :
    L2.PGs X (tgt :: tgts) (tGs (cfg X B) (t :: ts) (js ++ is)) := PGs.imp (pgs_cons h1 h2 hs) fun v σ H Q h => by
  obtain ⟨F, ls, vs, ks, ds, na, hl, R, h⟩ := h
  cases ds with
  | nil => exact h.elim
  | cons d ds =>
    cases v with
    | nil => simp at hl
    | cons x xs =>
      refine ⟨x, xs, rfl, F, ls, xs ++ vs, ds.map Slot.dat ++ ks, d, fun i hi => ali_dats (na i (List.mem_append_right _ hi)), R, ?_⟩
      cases e : t d ls with
      | none => simp only [tgs, e] at h
      | some ls1 =>
        simp only [tgs, e] at h
        intro σ1 F1 H1 R1 ag
        refine ⟨F1, ls1, vs, ks, ds, fun i hi => na i (List.mem_append_left _ hi), by simpa using hl, R1, ?_⟩
        cases e2 : tgs ts ds ls1 with
        | none => simp only [e2] at h
        | some ls2 =>
          simp only [e2] at h
          exact fun σ2 F2 H2 R2 ag2 => h σ2 F2 H2 R2 (ag2.trans ag)
theorem Rp.pushDats {G : Cfg} {F H : Hp} {σ : L2.St} {ls : LS} {vs : List V} {ks : List Slot} (R : Rp G F H σ ls vs ks) : ∀ {ds : List D} {xs : List V}, DDs G.K G.mg F ds xs → Rp G F H σ ls (xs ++ vs) (ds.map Slot.dat ++ ks)
  | _, _, .nil => R
  | _, _, .cons h r => (Rp.pushDats R r).pushDat h
theorem g_tup {k : Nat} (hc : X.calm = true) (h : L2.PGs X es (tGs (cfg X B) ts is)) (hn : (assignEach es X.env).length = n := by rfl) (hst : (assignEach es X.env).findIdx? (·.1) = none := by rfl) (hl : ts.length = n := by rfl) :
    L2.PG X (.Tuple es k pos) (tG (cfg X B) (tgT ts) is) := PG.imp (pg_tup hc h hn hst) fun v σ H Q h => by
  obtain ⟨F, ls, vs, ks, d, na, R, h⟩ := h
  cases d with
  | tup ds =>
    simp only [tgT] at h
    by_cases hz : ds.length = ts.length
    · rw [if_pos hz] at h
      have hd := R.good.head
      obtain ⟨x, ex, dd⟩ := hd
      cases ex
      cases dd with
      | tup f q => exact ⟨_, _, rfl, SqT.of (R.ex _ _ f), by rw [← q.length, hz, hl], F, ls, vs, ks, ds, na, q.length.symm, R.pop.pushDats q, h⟩
    · rw [if_neg hz] at h; exact h.elim
  | _ => exact h.elim
/-- (a, b, ..) = a list -/
theorem g_unl {k : Nat} (hc : X.calm = true) (h : L2.PGs X es (tGs (cfg X B) ts is)) (hn : (assignEach es X.env).length = n := by rfl) (hst : (assignEach es X.env).findIdx? (·.1) = none := by rfl) (hl : ts.length = n := by rfl) :
    L2.PG X (.Tuple es k pos) (tG (cfg X B) (tgL ts) is) := PG.imp (pg_unl hc h hn hst) fun v σ H Q h => by
  obtain ⟨F, ls, vs, ks, d, na, R, h⟩ := h
  cases d with
  | lst ds =>
    simp only [tgL] at h
    by_cases hz : ds.length = ts.length
    · rw [if_pos hz] at h
      have hd := R.good.head
      obtain ⟨x, ex, dd⟩ := hd
      cases ex
      cases dd with
      | lst f q => exact ⟨_, _, rfl, SqL.of (R.ex _ _ f), by rw [← q.length, hz, hl], F, ls, vs, ks, ds, na, q.length.symm, R.pop.pushDats q, h⟩
    · rw [if_neg hz] at h; exact h.elim
  | _ => exact h.elim

/-! ### statements -/
variable {st : Stmt} {sts : List Stmt} {sa sb : SM}
def nxM : SM := fun ls => .nx ls
def seqM (a b : SM) : SM := fun ls => (a ls).bind b
theorem ss_nil : L2.PSs X [] (tS (cfg X B) W nxM) := PSs.imp pss_nil fun D σ H h => by
  obtain ⟨F, ls, vs, ks, na, R, po⟩ := h
  exact po σ F H R
theorem ss_one (h : L2.PS X st (tS (cfg X B) W sa)) : L2.PSs X [st] (tS (cfg X B) W sa) := pss_one h
theorem ss_cons (h1 : L2.PS X st (tS (cfg X B) W sa)) (h2 : L2.PSs X sts (tS (cfg X B) W sb)) : L2.PSs X (st :: sts) (tS (cfg X B) W (seqM sa sb)) := PSs.imp (pss_cons h1 h2) fun D σ H h => by
  obtain ⟨F, ls, vs, ks, na, R, po⟩ := h
  refine ⟨F, ls, vs, ks, na, R, ?_⟩
  cases e : sa ls with
  | nx ls1 =>
    simp only [seqM, e, S.bind] at po
    exact fun σ' F' H' R' => ⟨F', ls1, vs, ks, na, R', po⟩
  | ret k ls1 => simp only [seqM, e, S.bind] at po; exact po
  | brk ls1 => simp only [seqM, e, S.bind] at po; exact po
  | cnt ls1 => simp only [seqM, e, S.bind] at po; exact po
  | err x ls1 => simp only [seqM, e, S.bind] at po; exact po
  | stk => simp only [seqM, e, S.bind, PostS] at po
theorem s_pass : L2.PS X (.Pass pos) (tS (cfg X B) W nxM) := PS.imp ps_pass fun D σ H h => by
  obtain ⟨F, ls, vs, ks, na, R, po⟩ := h
  exact po σ F H R
def brkM : SM := fun ls => .brk ls
def cntM : SM := fun ls => .cnt ls
theorem s_break : L2.PS X (.Break pos) (tS (cfg X B) W brkM) := PS.imp ps_break fun D σ H h => by
  obtain ⟨F, ls, vs, ks, na, R, po⟩ := h
  exact po σ F H R
theorem s_continue : L2.PS X (.Continue pos) (tS (cfg X B) W cntM) := PS.imp ps_continue fun D σ H h => by
  obtain ⟨F, ls, vs, ks, na, R, po⟩ := h
  exact po σ F H R
/-- from an expression -/
theorem tS_bind {G : Cfg} {D : Ends} {σ : L2.St} {H : Hp} {f : Slot → LS → S} (h : tS G W (fun ls => (m ls).bindS f) D σ H) {C : VK}
    (hk : ∀ F ls vs ks v H' k, noAli ks → Rp G F H' σ ls (v :: vs) (k :: ks) → PostS G W vs ks (f k ls) D → C v H') : tM G W m σ H C := by
  obtain ⟨F, ls, vs, ks, na, r, po⟩ := h
  refine ⟨F, ls, vs, ks, r, ?_⟩
  cases e : m ls with
  | ok k ls1 =>
    simp only [e, R.bindS] at po
    exact fun v F' H' r' => hk F' ls1 vs ks v H' k na r' po
  | err x ls1 =>
    simp only [e, R.bindS] at po
    exact fun cls d F' H' r' er => po cls d σ F' H' r' er
  | stk => simp only [e, R.bindS, PostS] at po
def dropM (m : M) : SM := fun ls => (m ls).bindS fun _ ls => .nx ls
def retM (m : M) : SM := fun ls => (m ls).bindS fun k ls => .ret k ls
theorem s_expr (h : L2.PE X e (tM (cfg X B) W m)) (hs : swapsWith e none pos.line X.env = pure false := by rfl) : L2.PS X (.Expr e pos) (tS (cfg X B) W (dropM m)) := PS.imp (ps_expr h hs) fun D σ H h =>
  tS_bind h fun F ls vs ks v H' k na R po => po σ F H' R.pop
theorem s_ret (h : L2.PE X e (tM (cfg X B) W m)) : L2.PS X (.Return (some e) pos) (tS (cfg X B) W (retM m)) := PS.imp (ps_ret h) fun D σ H h =>
  tS_bind h fun F ls vs ks v H' k na R po => po v σ F H' R
def ifS (c : M) (a b : SM) : SM := fun ls => (c ls).bindS fun k ls => match k with
  | .dat (.bl true) => a ls
  | .dat (.bl false) => b ls
  | _ => .stk
theorem s_if (hc : L2.PT X c (tT (cfg X B) W m)) (ha : L2.PSs X sts (tS (cfg X B) W sa)) {sts2 : List Stmt} (hb : L2.PSs X sts2 (tS (cfg X B) W sb)) : L2.PS X (.If c sts sts2 pos) (tS (cfg X B) W (ifS m sa sb)) := PS.imp (ps_if hc ha hb) fun D σ H h => by
  obtain ⟨F, ls, vs, ks, na, r, po⟩ := h
  refine ⟨F, ls, vs, ks, r, ?_⟩
  cases e : m ls with
  | ok k ls1 =>
    simp only [ifS, e, R.bindS] at po
    cases k with
    | dat d =>
      cases d with
      | bl b =>
        cases b with
        | true =>
          intro F' H' R'
          rw [if_pos rfl]
          exact ⟨F', ls1, vs, ks, na, R', po⟩
        | false =>
          intro F' H' R'
          rw [if_neg (by decide)]
          exact ⟨F', ls1, vs, ks, na, R', po⟩
      | _ => exact po.elim
    | _ => exact po.elim
  | err x ls1 =>
    simp only [ifS, e, R.bindS] at po
    exact fun cls d F' H' r' er => po cls d σ F' H' r' er
  | stk => simp only [ifS, e, R.bindS, PostS] at po
/-- what a name is given -/
def asgK (i : Nat) (k : Slot) (ls : LS) : S := match k with
  | .dat d => .nx (ls.set i (.dat d))
  | .own d => .nx (ls.set i (.own d))
  | .tre t => .nx (ls.set i (.tre t))
  | .ali j => (match freezeK (.ali j) ls with
    | some (d, ls) => .nx (ls.set i (.dat d))
    | none => .stk)
  | _ => .stk
def asgM (i : Nat) (m : M) : SM := fun ls => (m ls).bindS fun k ls => asgK i k ls
theorem asgK_ok {G : Cfg} {F H : Hp} {σ : L2.St} {ls : LS} {vs ks} {v : V} {k : Slot} {D : Ends} (na : noAli ks) (R : Rp G F H σ ls (v :: vs) (k :: ks)) (po : PostS G W vs ks (asgK i k ls) D) : D.nx (σ.set i (some v)) H := by
  cases k with
  | dat d => exact po _ F H (R.setTop na rfl)
  | own d => exact po _ F H (R.setTop na rfl)
  | tre d => exact po _ F H (R.setTop na rfl)
  | ali j =>
    cases e : VM.freezeK (.ali j) ls with
    | none => simp only [asgK, e, PostS] at po
    | some q =>
      obtain ⟨d, ls'⟩ := q
      simp only [asgK, e] at po
      obtain ⟨F', _, R'⟩ := R.freezeK e
      exact po _ F' H (R'.setTop na rfl)
  | _ => exact po.elim
theorem s_set {x : Str} {pos' : Pos} (i : Nat) (hN : X.N.Nodup) (he : L2.PE X e (tM (cfg X B) W m)) (hi : X.N[i]? = some x := by rfl) (hx : Loc X.env.scope x := by first | exact Or.inl rfl | exact Or.inr rfl) (hs : swapsWith e (some (.Name x pos')) pos.line X.env = pure false := by rfl)
    (hf : X.fn x = true ∨ X.env.scope.names.lookup x = some .local := by first | exact .inl rfl | exact .inr rfl | assumption) : L2.PS X (.Assign [.Name x pos'] e pos) (tS (cfg X B) W (asgM i m)) := PS.imp (ps_set hN hi hx he hs hf) fun D σ H h =>
  tS_bind h fun F ls vs ks v H' k na R po => asgK_ok na R po
/-- names of a tuple, of a list -/
def asgT (t : TgM) (m : M) : SM := fun ls => (m ls).bindS fun k ls => match freezeK k ls with
  | some (d, ls) => (match t d ls with
    | some ls => .nx ls
    | none => .stk)
  | none => .stk
theorem s_asgT (he : L2.PE X e (tM (cfg X B) W m)) (hg : L2.PG X tgt (tG (cfg X B) t is)) (hs : swapsWithSole [tgt] e pos.line X.env = pure false := by rfl) (hw : swappedStores [tgt] e X.env = pure none := by rfl) (h1 : (assignEach [tgt] X.env).map (·.2) = [assign tgt X.env] := by rfl) :
    L2.PS X (.Assign [tgt] e pos) (tS (cfg X B) W (asgT t m)) := PS.imp (ps_asg he hg hs hw h1) fun D σ H h => by
  refine tS_bind h fun F ls vs ks v H' k na R po => ?_
  cases e : VM.freezeK k ls with
  | none => simp only [e, PostS] at po
  | some q =>
    obtain ⟨d, ls'⟩ := q
    simp only [e] at po
    obtain ⟨F', _, R'⟩ := R.freezeK e
    refine ⟨F', ls', vs, ks, d, fun i _ => na i, R', ?_⟩
    cases e2 : t d ls' with
    | none => simp only [e2, PostS] at po
    | some ls2 =>
      simp only [e2] at po
      exact fun σ2 F2 H2 R2 _ => po σ2 F2 H2 R2
/-- a, b = x, y: two plain locals, stored from the right -/
def asg2 (i j : Nat) (am : AM) : SM := fun ls => match am ls with
  | .ok [.dat d, .dat d'] ls => .nx ((ls.set i (.dat d)).set j (.dat d'))
  | .ok [.own d, .dat d'] ls => .nx ((ls.set i (.own d)).set j (.dat d'))
  | .ok [.dat d, .own d'] ls => .nx ((ls.set i (.dat d)).set j (.own d'))
  | .ok [.own d, .own d'] ls => .nx ((ls.set i (.own d)).set j (.own d'))
  | .err x ls => .err x ls
  | _ => .stk
theorem s_asg2 {x y : Str} {px py pt : Pos} {kt k2 : Nat} {pt2 : Pos} (i j : Nat) (hc : X.calm = true) (hN : X.N.Nodup) (ha : L2.PA X [a, b] (tA (cfg X B) W am)) (hi : X.N[i]? = some x := by rfl) (hj : X.N[j]? = some y := by rfl) (hij : i ≠ j := by decide)
    (hx : X.env.scope.names.lookup x = some .local := by rfl) (hy : X.env.scope.names.lookup y = some .local := by rfl)
    (hw : swappedStores [.Tuple [.Name x px, .Name y py] kt pt] (.Tuple [a, b] k2 pt2) X.env = pure (some [x, y]) := by rfl)
    (hs : swapsWithSole [.Tuple [.Name x px, .Name y py] kt pt] (.Tuple [a, b] k2 pt2) pos.line X.env = pure false := by rfl) :
    L2.PS X (.Assign [.Tuple [.Name x px, .Name y py] kt pt] (.Tuple [a, b] k2 pt2) pos) (tS (cfg X B) W (asg2 i j am)) := PS.imp (ps_par hc hN hi hj hij hx hy ha hw hs) fun D σ H h => by
  obtain ⟨F, ls, vs, ks, na, r, po⟩ := h
  refine ⟨F, ls, vs, ks, r, ?_⟩
  have fin : ∀ {ls1 : LS} {k k' : Slot}, k.fit = true → k'.fit = true → (∀ d, k ≠ .ali d) → (∀ d, k' ≠ .ali d) → (∀ σ' F' H', Rp (cfg X B) F' H' σ' ((ls1.set i k).set j k') vs ks → D.nx σ' H') → ∀ ws F' H', ws.length = [k, k'].length → Rp (cfg X B) F' H' σ ls1 (ws ++ vs) ([k, k'] ++ ks) →
      ∃ v w, ws = [v, w] ∧ D.nx ((σ.set i (some v)).set j (some w)) H' := fun {ls1 k k'} f1 f2 n1 n2 q ws F' H' hl R => by
    match ws, hl with
    | [v, w], _ =>
      refine ⟨v, w, rfl, ?_⟩
      have R' : Rp (cfg X B) F' H' σ ls1 (v :: (w :: vs)) (k :: (k' :: ks)) := R
      have na' : noAli (k' :: ks) := fun i' hm => by
        rcases List.mem_cons.mp hm with z | z
        · exact n2 i' z.symm
        · exact na i' z
      have R2 := R'.setTop (i := i) na' f1
      exact q _ _ _ (R2.setTop (i := j) na f2)
  cases e : am ls with
  | ok as ls1 =>
    simp only [asg2, e] at po
    split at po
    · rename_i h'; cases h'; exact fin rfl rfl (fun d z => by cases z) (fun d z => by cases z) po
    · rename_i h'; cases h'; exact fin rfl rfl (fun d z => by cases z) (fun d z => by cases z) po
    · rename_i h'; cases h'; exact fin rfl rfl (fun d z => by cases z) (fun d z => by cases z) po
    · rename_i h'; cases h'; exact fin rfl rfl (fun d z => by cases z) (fun d z => by cases z) po
    · rename_i h'; cases h'
    · exact po.elim
  | err x ls1 =>
    simp only [asg2, e] at po
    exact fun cls d F' H' r' er => po cls d σ F' H' r' er
  | stk => simp only [asg2, e, PostS] at po

/-! ### what a loop walks -/
mutual
def D.beq : D → D → Bool
  | .non, .non => true
  | .bl a, .bl b => a == b
  | .int a, .int b => a == b
  | .str a, .str b => a == b
  | .lst a, .lst b => D.beqs a b
  | .tup a, .tup b => D.beqs a b
  | .ktup a, .ktup b => D.beqs a b
  | .scr a, .scr b => decide (a = b)
  | .dK a, .dK b => D.beqk a b
  | .dT a, .dT b => D.beqt a b
  | .ins x a, .ins y b => decide (x = y) && D.beqf a b
  | _, _ => false
def D.beqs : List D → List D → Bool
  | [], [] => true
  | a :: as, b :: bs => D.beq a b && D.beqs as bs
  | _, _ => false
def D.beqk : List (Key × D) → List (Key × D) → Bool
  | [], [] => true
  | (k, a) :: as, (l, b) :: bs => decide (k = l) && D.beq a b && D.beqk as bs
  | _, _ => false
def D.beqt : List (List Key × D) → List (List Key × D) → Bool
  | [], [] => true
  | (k, a) :: as, (l, b) :: bs => decide (k = l) && D.beq a b && D.beqt as bs
  | _, _ => false
def D.beqf : List (Str × D) → List (Str × D) → Bool
  | [], [] => true
  | (k, a) :: as, (l, b) :: bs => decide (k = l) && D.beq a b && D.beqf as bs
  | _, _ => false
end
mutual
theorem D.beq_eq : ∀ {a b : D}, D.beq a b = true → a = b
  | .non, b, h => by cases b <;> first | rfl | (simp only [D.beq] at h; cases h)
  | .bl a, b, h => by cases b <;> simp only [D.beq] at h <;> first | (rw [eq_of_beq h]; done) | cases h
  | .int a, b, h => by cases b <;> simp only [D.beq] at h <;> first | (rw [eq_of_beq h]; done) | cases h
  | .str a, b, h => by cases b <;> simp only [D.beq] at h <;> first | (rw [eq_of_beq h]; done) | cases h
  | .scr a, b, h => by cases b <;> simp only [D.beq] at h <;> first | (rw [of_decide_eq_true h]; done) | cases h
  | .lst a, b, h => by cases b <;> simp only [D.beq] at h <;> first | (rw [D.beqs_eq h]; done) | cases h
  | .tup a, b, h => by cases b <;> simp only [D.beq] at h <;> first | (rw [D.beqs_eq h]; done) | cases h
  | .ktup a, b, h => by cases b <;> simp only [D.beq] at h <;> first | (rw [D.beqs_eq h]; done) | cases h
  | .dK a, b, h => by cases b <;> simp only [D.beq] at h <;> first | (rw [D.beqk_eq h]; done) | cases h
  | .dT a, b, h => by cases b <;> simp only [D.beq] at h <;> first | (rw [D.beqt_eq h]; done) | cases h
  | .ins x a, b, h => by
    cases b <;> simp only [D.beq] at h <;> first | (rw [Bool.and_eq_true] at h; rw [of_decide_eq_true h.1, D.beqf_eq h.2]; done) | cases h
theorem D.beqs_eq : ∀ {a b : List D}, D.beqs a b = true → a = b
  | [], b, h => by cases b <;> first | rfl | (simp only [D.beqs] at h; cases h)
  | a :: as, b, h => by
    cases b with
    | nil => simp only [D.beqs] at h; cases h
    | cons b bs => simp only [D.beqs] at h; rw [Bool.and_eq_true] at h; rw [D.beq_eq h.1, D.beqs_eq h.2]
theorem D.beqk_eq : ∀ {a b : List (Key × D)}, D.beqk a b = true → a = b
  | [], b, h => by cases b <;> first | rfl | (simp only [D.beqk] at h; cases h)
  | (k, a) :: as, b, h => by
    cases b with
    | nil => simp only [D.beqk] at h; cases h
    | cons b bs => obtain ⟨l, b⟩ := b; simp only [D.beqk] at h; rw [Bool.and_eq_true, Bool.and_eq_true] at h; rw [of_decide_eq_true h.1.1, D.beq_eq h.1.2, D.beqk_eq h.2]
theorem D.beqt_eq : ∀ {a b : List (List Key × D)}, D.beqt a b = true → a = b
  | [], b, h => by cases b <;> first | rfl | (simp only [D.beqt] at h; cases h)
  | (k, a) :: as, b, h => by
    cases b with
    | nil => simp only [D.beqt] at h; cases h
    | cons b bs => obtain ⟨l, b⟩ := b; simp only [D.beqt] at h; rw [Bool.and_eq_true, Bool.and_eq_true] at h; rw [of_decide_eq_true h.1.1, D.beq_eq h.1.2, D.beqt_eq h.2]
theorem D.beqf_eq : ∀ {a b : List (Str × D)}, D.beqf a b = true → a = b
  | [], b, h => by cases b <;> first | rfl | (simp only [D.beqf] at h; cases h)
  | (k, a) :: as, b, h => by
    cases b with
    | nil => simp only [D.beqf] at h; cases h
    | cons b bs => obtain ⟨l, b⟩ := b; simp only [D.beqf] at h; rw [Bool.and_eq_true, Bool.and_eq_true] at h; rw [of_decide_eq_true h.1.1, D.beq_eq h.1.2, D.beqf_eq h.2]
end
mutual
theorem D.beq_refl : ∀ (a : D), D.beq a a = true
  | .non => by simp only [D.beq]
  | .bl a => by simp only [D.beq, beq_self_eq_true]
  | .int a => by simp only [D.beq, beq_self_eq_true]
  | .str a => by simp only [D.beq, beq_self_eq_true]
  | .scr a => by simp only [D.beq, decide_true]
  | .lst a => by simp only [D.beq, D.beqs_refl a]
  | .tup a => by simp only [D.beq, D.beqs_refl a]
  | .ktup a => by simp only [D.beq, D.beqs_refl a]
  | .dK a => by simp only [D.beq, D.beqk_refl a]
  | .dT a => by simp only [D.beq, D.beqt_refl a]
  | .ins x a => by simp only [D.beq, decide_true, D.beqf_refl a, Bool.and_self]
theorem D.beqs_refl : ∀ (a : List D), D.beqs a a = true
  | [] => by simp only [D.beqs]
  | a :: as => by simp only [D.beqs, D.beq_refl a, D.beqs_refl as, Bool.and_self]
theorem D.beqk_refl : ∀ (a : List (Key × D)), D.beqk a a = true
  | [] => by simp only [D.beqk]
  | (k, a) :: as => by simp only [D.beqk, decide_true, D.beq_refl a, D.beqk_refl as, Bool.and_self]
theorem D.beqt_refl : ∀ (a : List (List Key × D)), D.beqt a a = true
  | [] => by simp only [D.beqt]
  | (k, a) :: as => by simp only [D.beqt, decide_true, D.beq_refl a, D.beqt_refl as, Bool.and_self]
theorem D.beqf_refl : ∀ (a : List (Str × D)), D.beqf a a = true
  | [] => by simp only [D.beqf]
  | (k, a) :: as => by simp only [D.beqf, decide_true, D.beq_refl a, D.beqf_refl as, Bool.and_self]
end
/-- a list that is walked while it stays our own: the handed local j holds d at each turn -/
abbrev Gd := Option (Nat × D)
def gOk (g : Gd) (ls : LS) : Bool := match g with
  | none => true
  | some (j, d) => (match ls[j]? with
    | some (.par d') => D.beq d d'
    | _ => false)
theorem gOk_at {j : Nat} {d : D} {ls : LS} (h : gOk (some (j, d)) ls = true) : ls[j]? = some (.par d) := by
  unfold gOk at h
  split at h
  · rename_i e; cases e
  · rename_i j' d1 e
    cases e
    split at h
    · rename_i d' h1
      rw [D.beq_eq h]; exact h1
    · cases h
inductive RI where
  | ok (items : List D) (g : Gd) (ls : LS) | err (x : Exn) (ls : LS) | stk
abbrev IM := LS → RI
def RI.bind (r : RI) (f : List D → Gd → LS → S) : S := match r with
  | .ok items g ls => f items g ls
  | .err x ls => .err x ls
  | .stk => .stk
structure WalkD (G : Cfg) (J : It) (items : List D) (gvs : List V) (gks : List Slot) (gd : Gd) : Prop where
  go : ∀ (i : Nat) (d : D) F H σ ls vs ks, gOk gd ls = true → items[i]? = some d → Rp G F H σ ls (gvs ++ vs) (gks ++ ks) → J.go i H ∧ ∀ x H', J.yld i H x H' → ∃ F', Rp G F' H' σ ls (x :: (gvs ++ vs)) (.dat d :: (gks ++ ks))
  stop : ∀ F H σ ls vs ks, gOk gd ls = true → Rp G F H σ ls (gvs ++ vs) (gks ++ ks) → J.stop items.length H
def PostI (G : Cfg) (W : WX) (σ : L2.St) (vs : List V) (ks : List Slot) (r : RI) (C : It → Hp → Prop) : Prop := match r with
  | .ok items g ls' => ∀ J gvs gks F' H', gvs.length = gks.length → noAli gks → Rp G F' H' σ ls' (gvs ++ vs) (gks ++ ks) → WalkD G J items gvs gks g → C J H'
  | .err x ls' => ∀ cls d F' H', Rp G F' H' σ ls' vs ks → ErrRel G F' cls d x → W cls d σ H'
  | .stk => False
def tI (G : Cfg) (W : WX) (m : IM) : TI := fun σ H C => ∃ F ls vs ks, Rp G F H σ ls vs ks ∧ PostI G W σ vs ks (m ls) C
theorem PI.imp {X : Cx} {tg e : Expr} {t t' : TI} (h : L2.PI X tg e t) (hi : ∀ σ H C, t' σ H C → t σ H C) : L2.PI X tg e t' := ⟨fun pins s σ H R I q => h.run pins s σ H R I (hi σ H R q)⟩
/-- a list, a tuple, by value -/
def iSeq (K : PySem.W.Frag) (tl : TE) : TI := fun σ H R => tl σ H fun x H1 => (∃ a, x = .ref a ∧ (∃ xs, SqL K H1 a xs) ∧ R (Itl K a) H1) ∨ (∃ a, x = .ref a ∧ (∃ xs, SqT K H1 a xs) ∧ R (Itt K a) H1) ∨ ∃ y, x = .str y ∧ R (Its y) H1
theorem pi_seq {tg l : Expr} {tl : TE} (hl : L2.PE X l tl) : L2.PI X tg l (iSeq X.K tl) := by
  refine ⟨fun pins s σ H R I h => ?_⟩
  refine thn (hl.run pins s σ H _ I h) fun v s1 ⟨x, H1, I1, r1, q1⟩ => ?_
  rcases q1 with ⟨a, e, ⟨xs, hq⟩, q⟩ | ⟨a, e, ⟨xs, hq⟩, q⟩ | ⟨y, e, q⟩
  · subst e
    cases r1
    obtain ⟨its, rv, p, hz⟩ := I1.list hq
    refine wpAny_pyIter_list p.isList ?_
    refine ⟨s1.heap.objs.size, [s1.heap.objs.size], _, _, H1, rfl, I1.kept (t' := s1.toks) fun b o e => Heap.get?_push_of_some _ e, turn_list a _, ⟨_, Heap.get?_push_size _ rfl, rfl, rfl⟩, fun b hb => ?_, q⟩
    have e : b = s1.heap.objs.size := by simpa using hb
    subst e
    exact I1.fpOk (Nat.le_refl _) (I1.hok.fresh (Nat.le_refl _))
  · subst e
    cases r1
    obtain ⟨its, rv, p, hz⟩ := I1.tuple hq
    refine wpAny_pyIter_tuple (show s1.heap.IsTuple a its.toArray from p) ?_
    refine ⟨s1.heap.objs.size, [s1.heap.objs.size], _, _, H1, rfl, I1.kept (t' := s1.toks) fun b o e => Heap.get?_push_of_some _ e, turn_tuple a _, ⟨_, Heap.get?_push_size _ rfl, rfl, rfl⟩, fun b hb => ?_, q⟩
    have e : b = s1.heap.objs.size := by simpa using hb
    subst e
    exact I1.fpOk (Nat.le_refl _) (I1.hok.fresh (Nat.le_refl _))
  · subst e
    obtain ⟨t, rfl⟩ := r1
    cases ha : y.cps.all (· < 128)
    · exact wpAny_pyIter_wide ha (pi_one (tk := s1.toks) I1 _ (turn_str _ y t "str_iterator" (.inr rfl)) ⟨_, Heap.get?_push_size _ rfl, rfl, rfl⟩ q)
    · exact wpAny_pyIter_ascii ha (pi_one (tk := s1.toks) I1 _ (turn_str _ y t "str_ascii_iterator" (.inl rfl)) ⟨_, Heap.get?_push_size _ rfl, rfl, rfl⟩ q)
/-- the items of a list, a tuple, a text, frozen -/
def itemsD : D → Option (List D)
  | .lst ds => some ds
  | .tup ds => some ds
  | .ktup ds => some ds
  | .str y => some (y.cps.toList.map fun c => .str ⟨#[c]⟩)
  | _ => none
/-- a handed list that is not frozen yet -/
def live (k : Slot) (ls : LS) : Option (Nat × List D) := match k with
  | .ali j => (match ls[j]? with
    | some (.par (.lst ds)) => some (j, ds)
    | _ => none)
  | _ => none
theorem live_at {k : Slot} {ls : LS} {j : Nat} {ds : List D} (h : live k ls = some (j, ds)) : k = .ali j ∧ ls[j]? = some (.par (.lst ds)) := by
  unfold live at h
  split at h
  · split at h
    · rename_i e; cases h; exact ⟨rfl, e⟩
    · cases h
  · cases h
def seqI (m : M) : IM := fun ls => match m ls with
  | .ok k ls => (match live k ls with
    | some (j, ds) => .ok ds (some (j, .lst ds)) ls
    | none => (match freezeK k ls with
      | some (d, ls) => (match itemsD d with
        | some ds => .ok ds none ls
        | none => .stk)
      | none => .stk))
  | .err x ls => .err x ls
  | .stk => .stk
theorem noAli_one {d : D} : noAli [Slot.dat d] := fun i hm => by
  rw [List.mem_singleton] at hm
  cases hm
theorem walk_lst {G : Cfg} {a : Addr} {ds : List D} : WalkD G (Itl G.K a) ds [.ref a] [.dat (.lst ds)] none := by
  have key : ∀ {F H σ ls vs ks}, Rp G F H σ ls ([V.ref a] ++ vs) ([Slot.dat (.lst ds)] ++ ks) → ∃ xs, F a = some (.lst xs) ∧ DDs G.K G.mg F ds xs := fun R => by
    obtain ⟨x, ex, dd⟩ := R.good.head
    cases ex
    cases dd with | lst f q => exact ⟨_, f, q⟩
  refine ⟨fun i d F H σ ls vs ks _ hi R => ?_, fun F H σ ls vs ks _ R => ?_⟩
  · obtain ⟨xs, f, q⟩ := key R
    obtain ⟨x, hx, dx⟩ := q.get hi
    refine ⟨⟨xs, x, SqL.of (R.ex _ _ f), hx⟩, fun y H' hy => ?_⟩
    obtain ⟨rfl, hy⟩ := hy
    have := hy xs (SqL.of (R.ex _ _ f))
    rw [hx] at this; cases this
    exact ⟨F, R.pushDat dx⟩
  · obtain ⟨xs, f, q⟩ := key R
    exact ⟨xs, SqL.of (R.ex _ _ f), by rw [q.length]; exact Nat.le_refl _⟩
/-- the handed list at a, the local j's, as long as it stays -/
theorem par_at {G : Cfg} {F H : Hp} {σ : L2.St} {ls : LS} {vs : List V} {ks : List Slot} {a : Addr} {ds : List D} {j : Nat} (hP : G.B.P j = some (some (.ref a))) (hg : gOk (some (j, .lst ds)) ls = true) (R : Rp G F H σ ls vs ks) : ∃ xs, H a = some (.lst xs) ∧ DDs G.K G.mg F ds xs := by
  have h1 := gOk_at hg
  obtain ⟨v, p1, p2⟩ := R.pin j _ (.inl h1)
  rw [hP] at p1; cases p1
  obtain ⟨w, h2, q, e, o⟩ := R.loc h1
  rw [p2] at h2; cases h2; cases e
  obtain ⟨_, _, o', h3, h4⟩ := o
  cases o' <;> first | exact h4.elim | exact ⟨_, h3, h4⟩
theorem walk_par {G : Cfg} {a : Addr} {ds : List D} {j : Nat} (hP : G.B.P j = some (some (.ref a))) : WalkD G (Itl G.K a) ds [] [] (some (j, .lst ds)) := by
  refine ⟨fun i d F H σ ls vs ks hg hi R => ?_, fun F H σ ls vs ks hg R => ?_⟩
  · obtain ⟨xs, f, q⟩ := par_at hP hg R
    obtain ⟨x, hx, dx⟩ := q.get hi
    refine ⟨⟨xs, x, SqL.of f, hx⟩, fun y H' hy => ?_⟩
    obtain ⟨rfl, hy⟩ := hy
    have := hy xs (SqL.of f)
    rw [hx] at this; cases this
    exact ⟨F, R.pushDat dx⟩
  · obtain ⟨xs, f, q⟩ := par_at hP hg R
    exact ⟨xs, SqL.of f, by rw [q.length]; exact Nat.le_refl _⟩
/-- the top is the handed list -/
theorem par_top {G : Cfg} {F H : Hp} {σ : L2.St} {ls : LS} {vs : List V} {ks : List Slot} {v : V} {ds : List D} {j : Nat} (R : Rp G F H σ ls (v :: vs) (.ali j :: ks)) (h : ls[j]? = some (.par (.lst ds))) : ∃ a xs, v = .ref a ∧ G.B.P j = some (some (.ref a)) ∧ H a = some (.lst xs) := by
  obtain ⟨s, a1, a2, a3⟩ := R.al v j List.mem_cons_self
  obtain ⟨u, p1, p2⟩ := R.pin j _ (.inl h)
  rw [a1] at p2; cases p2
  obtain ⟨w, h2, q, e, o⟩ := R.loc h
  rw [a1] at h2; cases h2; cases e
  obtain ⟨_, _, o', h3, h4⟩ := o
  cases o' <;> first | exact h4.elim | exact ⟨_, _, rfl, p1, h3⟩
theorem walk_tup {G : Cfg} {a : Addr} {ds : List D} {t : D} (ht : t = .tup ds ∨ t = .ktup ds) : WalkD G (Itt G.K a) ds [.ref a] [.dat t] none := by
  have key : ∀ {F H σ ls vs ks}, Rp G F H σ ls ([V.ref a] ++ vs) ([Slot.dat t] ++ ks) → ∃ xs, SqT G.K H a xs ∧ DDs G.K G.mg F ds xs := fun R => by
    obtain ⟨x, ex, dd⟩ := R.good.head
    cases ex
    rcases ht with rfl | rfl
    · cases dd with | tup f q => exact ⟨_, SqT.of (R.ex _ _ f), q⟩
    · cases dd with | ktup f q => exact ⟨_, ex_t R.ex f, q⟩
  refine ⟨fun i d F H σ ls vs ks _ hi R => ?_, fun F H σ ls vs ks _ R => ?_⟩
  · obtain ⟨xs, f, q⟩ := key R
    obtain ⟨x, hx, dx⟩ := q.get hi
    refine ⟨⟨xs, x, f, hx⟩, fun y H' hy => ?_⟩
    obtain ⟨rfl, hy⟩ := hy
    have := hy xs f
    rw [hx] at this; cases this
    exact ⟨F, R.pushDat dx⟩
  · obtain ⟨xs, f, q⟩ := key R
    exact ⟨xs, f, by rw [q.length]; exact Nat.le_refl _⟩
theorem walk_str {G : Cfg} {y : Str} : WalkD G (Its y) (y.cps.toList.map fun c => D.str ⟨#[c]⟩) [] [] none := by
  refine ⟨fun i d F H σ ls vs ks _ hi R => ?_, fun F H σ ls vs ks _ R => ?_⟩
  · rw [List.getElem?_map] at hi
    cases e : y.cps.toList[i]? with
    | none => rw [e] at hi; cases hi
    | some c =>
      rw [e] at hi
      cases hi
      have hlt := (List.getElem?_eq_some_iff.mp e).1
      refine ⟨show i < y.cps.size by simpa using hlt, fun x H' hy => ?_⟩
      obtain ⟨rfl, c', hc', rfl⟩ := hy
      have : y.cps[i]? = some c := by simpa using e
      rw [this] at hc'; cases hc'
      exact ⟨F, R.pushDat (.str _)⟩
  · show y.cps.size ≤ _
    simp
theorem i_seq (h : L2.PE X e (tM (cfg X B) W m)) : L2.PI X tgt e (tI (cfg X B) W (seqI m)) := PI.imp (pi_seq h) fun σ H C h => by
  obtain ⟨F, ls, vs, ks, R, po⟩ := h
  refine ⟨F, ls, vs, ks, R, ?_⟩
  cases e1 : m ls with
  | ok k ls1 =>
    simp only [seqI, e1] at po
    intro v F1 H1 R1
    cases e0 : live k ls1 with
    | some q =>
      obtain ⟨j, ds⟩ := q
      simp only [e0] at po
      obtain ⟨rfl, hj⟩ := live_at e0
      obtain ⟨a, xs, rfl, hP, ha⟩ := par_top R1 hj
      exact .inl ⟨_, rfl, ⟨_, SqL.of ha⟩, po _ [] [] F1 H1 rfl (fun i hm => by simp at hm) R1.pop (walk_par hP)⟩
    | none =>
    simp only [e0] at po
    cases e2 : VM.freezeK k ls1 with
    | none => simp only [e2, PostI] at po
    | some q =>
      obtain ⟨d, ls2⟩ := q
      simp only [e2] at po
      obtain ⟨F2, _, R2⟩ := R1.freezeK e2
      cases d with
      | lst ds =>
        obtain ⟨x, ex, dd⟩ := R2.good.head
        cases ex
        cases dd with
        | lst f q => exact .inl ⟨_, rfl, ⟨_, SqL.of (R2.ex _ _ f)⟩, po _ [.ref _] [.dat (.lst ds)] F2 H1 rfl noAli_one R2 walk_lst⟩
      | tup ds =>
        obtain ⟨x, ex, dd⟩ := R2.good.head
        cases ex
        cases dd with
        | tup f q => exact .inr (.inl ⟨_, rfl, ⟨_, SqT.of (R2.ex _ _ f)⟩, po _ [.ref _] [.dat (.tup ds)] F2 H1 rfl noAli_one R2 (walk_tup (.inl rfl))⟩)
      | ktup ds =>
        obtain ⟨x, ex, dd⟩ := R2.good.head
        cases ex
        cases dd with
        | ktup f q => exact .inr (.inl ⟨_, rfl, ⟨_, ex_t R2.ex f⟩, po _ [.ref _] [.dat (.ktup ds)] F2 H1 rfl noAli_one R2 (walk_tup (.inr rfl))⟩)
      | str y =>
        obtain ⟨x, ex, dd⟩ := R2.good.head
        cases ex
        cases dd
        exact .inr (.inr ⟨y, rfl, po _ [] [] F2 H1 rfl (fun i hm => by simp at hm) R2.pop walk_str⟩)
      | _ => simp only [itemsD, PostI] at po
  | err x ls1 => simp only [seqI, e1] at po; exact po
  | stk => simp only [seqI, e1, PostI] at po
/-- range -/
def rangeD (lo : Int) (n : Nat) : List D := (List.range n).map fun i => .int (lo + (i : Nat))
theorem walk_range {G : Cfg} {lo : Int} {n : Nat} : WalkD G (Itr lo n) (rangeD lo n) [] [] none := by
  refine ⟨fun i d F H σ ls vs ks _ hi R => ?_, fun F H σ ls vs ks _ R => ?_⟩
  · unfold rangeD at hi
    rw [List.getElem?_map] at hi
    cases e : (List.range n)[i]? with
    | none => rw [e] at hi; cases hi
    | some j =>
      rw [e] at hi
      cases hi
      obtain ⟨h1, h2⟩ := List.getElem?_eq_some_iff.mp e
      rw [List.getElem_range] at h2
      subst h2
      rw [List.length_range] at h1
      refine ⟨h1, fun x H' hy => ?_⟩
      obtain ⟨rfl, hy⟩ := hy
      subst hy
      exact ⟨F, R.pushDat (.int _)⟩
  · show n ≤ _
    simp [rangeD]
def inR (j : Int) : Bool := decide (-(2 ^ 62) ≤ j ∧ j < 2 ^ 62)
def rng1 (am : AM) : IM := fun ls => match am ls with
  | .ok as ls => (match as with
    | [.dat (.int j)] => if inR j then .ok (rangeD 0 j.toNat) none ls else .stk
    | _ => .stk)
  | .err x ls => .err x ls
  | .stk => .stk
def rng2 (am : AM) : IM := fun ls => match am ls with
  | .ok as ls => (match as with
    | [.dat (.int i), .dat (.int j)] => if inR i && inR j then .ok (rangeD i (j - i).toNat) none ls else .stk
    | _ => .stk)
  | .err x ls => .err x ls
  | .stk => .stk
theorem noAli_nil : noAli [] := fun i hm => by simp at hm
theorem i_range1 {p : Pos} (ha : L2.PA X [a] (tA (cfg X B) W am)) (hg : Gl X "range" := by rfl) (hm : X.mg "range" = none := by rfl) (hs : starEach [a] X.env = [(false, eval a X.env)] := by rfl) :
    L2.PI X tgt (.Call (.Name "range" p) [a] [] pos) (tI (cfg X B) W (rng1 am)) := PI.imp (pi_range1 hg hm ha hs) fun σ H C h => by
  obtain ⟨F, ls, vs, ks, R, po⟩ := h
  refine ⟨F, ls, vs, ks, R, ?_⟩
  cases e1 : am ls with
  | ok as ls1 =>
    simp only [rng1, e1] at po
    intro ws F1 H1 hl R1
    split at po
    · rename_i j
      split at po
      · rename_i hj
        have hj := of_decide_eq_true hj
        match ws, hl with
        | [w], _ =>
          have : w = .int j := Vw.int R1.ex (R1.view0 rfl)
          subst this
          exact ⟨j, rfl, hj.1, hj.2, po _ [] [] F1 H1 rfl noAli_nil R1.pop walk_range⟩
      · exact po.elim
    · exact po.elim
  | err x ls1 => simp only [rng1, e1] at po; exact po
  | stk => simp only [rng1, e1, PostI] at po
theorem i_range2 {p : Pos} (ha : L2.PA X [a, b] (tA (cfg X B) W am)) (hg : Gl X "range" := by rfl) (hm : X.mg "range" = none := by rfl) (hs : starEach [a, b] X.env = [(false, eval a X.env), (false, eval b X.env)] := by rfl) (hs2 : starEach [b] X.env = [(false, eval b X.env)] := by rfl) :
    L2.PI X tgt (.Call (.Name "range" p) [a, b] [] pos) (tI (cfg X B) W (rng2 am)) := PI.imp (pi_range2 hg hm ha hs hs2) fun σ H C h => by
  obtain ⟨F, ls, vs, ks, R, po⟩ := h
  refine ⟨F, ls, vs, ks, R, ?_⟩
  cases e1 : am ls with
  | ok as ls1 =>
    simp only [rng2, e1] at po
    intro ws F1 H1 hl R1
    split at po
    · rename_i i j
      split at po
      · rename_i hj
        rw [Bool.and_eq_true] at hj
        have h1 := of_decide_eq_true hj.1
        have h2 := of_decide_eq_true hj.2
        match ws, hl with
        | [w, w'], _ =>
          have : w = .int i := Vw.int R1.ex (R1.view0 rfl)
          subst this
          have : w' = .int j := Vw.int R1.pop.ex (R1.pop.view0 rfl)
          subst this
          exact ⟨i, j, rfl, ⟨h1.1, h1.2, h2.1, h2.2⟩, po _ [] [] F1 H1 rfl noAli_nil R1.pop.pop walk_range⟩
      · exact po.elim
    · exact po.elim
  | err x ls1 => simp only [rng2, e1] at po; exact po
  | stk => simp only [rng2, e1, PostI] at po
/-- enumerate -/
def enumD (ds : List D) : List D := ds.mapIdx fun i d => .tup [.int (i : Nat), d]
theorem walk_enum {G : Cfg} {a : Addr} {ds : List D} : WalkD G (Ite G.K a) (enumD ds) [.ref a] [.dat (.lst ds)] none := by
  have key : ∀ {F H σ ls vs ks}, Rp G F H σ ls ([V.ref a] ++ vs) ([Slot.dat (.lst ds)] ++ ks) → ∃ xs, F a = some (.lst xs) ∧ DDs G.K G.mg F ds xs := fun R => by
    obtain ⟨x, ex, dd⟩ := R.good.head
    cases ex
    cases dd with | lst f q => exact ⟨_, f, q⟩
  refine ⟨fun i d F H σ ls vs ks _ hi R => ?_, fun F H σ ls vs ks _ R => ?_⟩
  · obtain ⟨xs, f, q⟩ := key R
    unfold enumD at hi
    rw [List.getElem?_mapIdx] at hi
    cases e : ds[i]? with
    | none => rw [e] at hi; cases hi
    | some d0 =>
      rw [e] at hi
      cases hi
      obtain ⟨x, hx, dx⟩ := q.get e
      refine ⟨⟨xs, x, SqL.of (R.ex _ _ f), hx⟩, fun y H' hy => ?_⟩
      obtain ⟨T, x', rfl, hT, rfl, hy⟩ := hy
      have := hy xs (SqL.of (R.ex _ _ f))
      rw [hx] at this; cases this
      exact ⟨_, R.pushTup hT (.cons (.int _) (.cons dx .nil))⟩
  · obtain ⟨xs, f, q⟩ := key R
    exact ⟨xs, SqL.of (R.ex _ _ f), by rw [enumD, List.length_mapIdx, q.length]; exact Nat.le_refl _⟩
theorem walk_enumP {G : Cfg} {a : Addr} {ds : List D} {j : Nat} (hP : G.B.P j = some (some (.ref a))) : WalkD G (Ite G.K a) (enumD ds) [] [] (some (j, .lst ds)) := by
  refine ⟨fun i d F H σ ls vs ks hg hi R => ?_, fun F H σ ls vs ks hg R => ?_⟩
  · obtain ⟨xs, f, q⟩ := par_at hP hg R
    unfold enumD at hi
    rw [List.getElem?_mapIdx] at hi
    cases e : ds[i]? with
    | none => rw [e] at hi; cases hi
    | some d0 =>
      rw [e] at hi
      cases hi
      obtain ⟨x, hx, dx⟩ := q.get e
      refine ⟨⟨xs, x, SqL.of f, hx⟩, fun y H' hy => ?_⟩
      obtain ⟨T, x', rfl, hT, rfl, hy⟩ := hy
      have := hy xs (SqL.of f)
      rw [hx] at this; cases this
      exact ⟨_, R.pushTup hT (.cons (.int _) (.cons dx .nil))⟩
  · obtain ⟨xs, f, q⟩ := par_at hP hg R
    exact ⟨xs, SqL.of f, by rw [enumD, List.length_mapIdx, q.length]; exact Nat.le_refl _⟩
def enumM (am : AM) : IM := fun ls => match am ls with
  | .ok as ls => (match as with
    | [k] => (match live k ls with
      | some (j, ds) => .ok (enumD ds) (some (j, .lst ds)) ls
      | none => (match freezeK k ls with
        | some (.lst ds, ls) => .ok (enumD ds) none ls
        | _ => .stk))
    | _ => .stk)
  | .err x ls => .err x ls
  | .stk => .stk
theorem i_enum {p tpos : Pos} {elts : List Expr} {kk : Nat} (ha : L2.PA X [e] (tA (cfg X B) W am)) (hg : Gl X "enumerate" := by rfl) (hm : X.mg "enumerate" = none := by rfl) (hs : starEach [e] X.env = [(false, eval e X.env)] := by rfl) :
    L2.PI X (.Tuple elts kk tpos) (.Call (.Name "enumerate" p) [e] [] pos) (tI (cfg X B) W (enumM am)) := PI.imp (pi_enum hg hm ha hs) fun σ H C h => by
  obtain ⟨F, ls, vs, ks, R, po⟩ := h
  refine ⟨F, ls, vs, ks, R, ?_⟩
  cases e1 : am ls with
  | ok as ls1 =>
    simp only [enumM, e1] at po
    intro ws F1 H1 hl R1
    split at po
    · rename_i k
      split at po
      · rename_i j ds e0
        match ws, hl with
        | [w], _ =>
          obtain ⟨rfl, hj⟩ := live_at e0
          obtain ⟨a, xs, rfl, hP, ha⟩ := par_top (vs := vs) (ks := ks) R1 hj
          exact ⟨_, _, rfl, SqL.of ha, po _ [] [] F1 H1 rfl noAli_nil (Rp.pop (vs := vs) (ks := ks) R1) (walk_enumP hP)⟩
      split at po
      · rename_i ds ls2 hf
        match ws, hl with
        | [w], _ =>
          obtain ⟨F2, _, R2⟩ := Rp.freezeK (vs := vs) (ks := ks) R1 hf
          obtain ⟨x, ex, dd⟩ := R2.good.head
          cases ex
          cases dd with
          | lst f q => exact ⟨_, _, rfl, SqL.of (R2.ex _ _ f), po _ [.ref _] [.dat (.lst ds)] F2 H1 rfl noAli_one R2 walk_enum⟩
      · exact po.elim
    · exact po.elim
  | err x ls1 => simp only [enumM, e1] at po; exact po
  | stk => simp only [enumM, e1, PostI] at po
end
end VM

set_option Elab.async false
set_option linter.all false
set_option maxRecDepth 100000
set_option maxHeartbeats 1000000
namespace VM
open PySem L2

/-! ### for -/
def forL (g : Gd) (tg : TgM) (body : SM) : List D → LS → S
  | [], ls => if gOk g ls = true then .nx ls else .stk
  | d :: ds, ls => if gOk g ls = true then (match tg d ls with
    | some ls1 => (match body ls1 with
      | .nx ls2 => forL g tg body ds ls2
      | .cnt ls2 => forL g tg body ds ls2
      | .brk ls2 => .nx ls2
      | .ret k ls2 => .ret k ls2
      | .err x ls2 => .err x ls2
      | .stk => .stk)
    | none => .stk) else .stk
def forM (src : IM) (tg : TgM) (body : SM) : SM := fun ls => (src ls).bind fun items g ls => forL g tg body items ls
section
variable {G : Cfg} {F F' H H' : Hp} {σ σ' : L2.St} {ls ls' : LS} {vs ws : List V} {ks as : List Slot} {v : V} {k : Slot} {d : D} {W : WX}
theorem Rp.unrot (hl : ws.length = as.length) (R : Rp G F H σ ls (v :: (ws ++ vs)) (k :: (as ++ ks))) : Rp G F H σ ls (ws ++ v :: vs) (as ++ k :: ks) := by
  have z : ∀ {α : Type} (f : V → α), ((ws ++ v :: vs).map f).zip (as ++ k :: ks) = (ws.map f).zip as ++ (f v, k) :: (vs.map f).zip ks := fun f => by
    rw [List.map_append, List.zip_append (by simp [hl])]; rfl
  have z' : ∀ {α : Type} (f : V → α), ((v :: (ws ++ vs)).map f).zip (k :: (as ++ ks)) = (f v, k) :: ((ws.map f).zip as ++ (vs.map f).zip ks) := fun f => by
    rw [List.map_cons, List.zip_cons_cons, List.map_append, List.zip_append (by simp [hl])]
  have kl := R.klen
  refine ⟨R.ex, R.ex0, R.len, by simp at kl ⊢; omega, ?_, fun w i' hj => ?_, R.pin, R.b1, R.b2, R.b3⟩
  · refine R.good.perm ?_
    unfold ent
    rw [z some, z' some, List.append_assoc]
    rw [List.cons_append, List.cons_append, List.append_assoc]
    exact List.perm_middle.symm
  · refine R.al w i' ?_
    have h1 := z id
    have h2 := z' id
    simp only [List.map_id] at h1 h2
    rw [h1] at hj
    rw [h2]
    simp only [List.mem_cons, List.mem_append] at hj ⊢
    rcases hj with q | q | q
    · exact .inr (.inl q)
    · exact .inl q
    · exact .inr (.inr q)
theorem Rp.dropN (hl : ws.length = as.length) (R : Rp G F H σ ls (v :: (ws ++ vs)) (k :: (as ++ ks))) : Rp G F H σ ls (v :: vs) (k :: ks) := Rp.popN as ws hl (R.unrot hl)
theorem noAli_app {a b : List Slot} (h1 : noAli a) (h2 : noAli b) : noAli (a ++ b) := fun i hm => (List.mem_append.mp hm).elim (h1 i) (h2 i)
end
section
variable {X : Cx} {B : Base} {W : WX} {e a b c : Expr} {es : List Expr} {m ma mb : M} {am : AM} {i n : Nat} {pos : Pos} {t : TgM} {is : List Nat} {tgt : Expr} {sts : List Stmt} {sa sb : SM} {im : IM}
theorem s_for (hp : PassesOwn (model X.prog X.w) X.A X.env X.xe) (hc : X.calm = true) (hi : L2.PI X tgt e (tI (cfg X B) W im)) (hg : L2.PG X tgt (tG (cfg X B) t is)) (hb : L2.PSs X sts (tS (cfg X B) W sa))
    (hs : ∀ x, foldedSetIterable e X.env x = pure x := by intro _; rfl) : L2.PS X (.For tgt e sts [] pos) (tS (cfg X B) W (forM im t sa)) := PS.imp (ps_for hp hc hi hg hb hs) fun D σ H h => by
  obtain ⟨F, ls, vs, ks, na, R, po⟩ := h
  refine ⟨F, ls, vs, ks, R, ?_⟩
  cases e1 : im ls with
  | stk => simp only [forM, e1, RI.bind, PostS] at po
  | err x ls1 =>
    simp only [forM, e1, RI.bind] at po
    exact fun cls d F' H' r' er => po cls d σ F' H' r' er
  | ok items gd ls1 =>
    simp only [forM, e1, RI.bind] at po
    intro J gvs gks F1 H1 gl gna R1 wk
    have na' : noAli (gks ++ ks) := noAli_app gna na
    refine ⟨fun i m σ H => m = items.length - i ∧ i ≤ items.length ∧ ∃ F ls, Rp (cfg X B) F H σ ls (gvs ++ vs) (gks ++ ks) ∧ PostS (cfg X B) W vs ks (forL gd t sa (items.drop i) ls) D, ⟨_, rfl, Nat.zero_le _, F1, ls1, R1, po⟩, ?_⟩
    rintro i m σ2 H2 ⟨rfl, hi2, F2, ls2, R2, po2⟩
    by_cases hlt : i < items.length
    · refine .inr ?_
      have hd : items.drop i = items[i] :: items.drop (i + 1) := List.drop_eq_getElem_cons hlt
      rw [hd] at po2
      have hg : gOk gd ls2 = true := by
        cases q : gOk gd ls2 with
        | true => rfl
        | false => simp only [forL, q, PostS] at po2; exact po2.elim
      simp only [forL, hg, if_true] at po2
      obtain ⟨go, step⟩ := wk.go i items[i] F2 H2 σ2 ls2 vs ks hg (List.getElem?_eq_getElem hlt) R2
      refine ⟨go, fun σ' H' => ∃ F ls, Rp (cfg X B) F H' σ' ls (gvs ++ vs) (gks ++ ks) ∧ PostS (cfg X B) W vs ks (forL gd t sa (items.drop (i + 1)) ls) D, fun σ' H' ⟨F', ls', R', p'⟩ => ⟨items.length - (i + 1), by omega, rfl, hlt, F', ls', R', p'⟩, fun x H3 hy => ?_⟩
      obtain ⟨F3, R3⟩ := step x H3 hy
      refine ⟨F3, ls2, gvs ++ vs, gks ++ ks, items[i], fun i _ => na' i, R3, ?_⟩
      cases e2 : t items[i] ls2 with
      | none => simp only [e2, PostS] at po2
      | some ls3 =>
        simp only [e2] at po2
        intro σ4 F4 H4 R4 _
        refine ⟨F4, ls3, gvs ++ vs, gks ++ ks, na', R4, ?_⟩
        cases e3 : sa ls3 with
        | nx ls5 =>
          simp only [e3] at po2
          exact fun σ5 F5 H5 R5 => ⟨F5, ls5, R5, po2⟩
        | cnt ls5 =>
          simp only [e3] at po2
          exact fun σ5 F5 H5 R5 => ⟨F5, ls5, R5, po2⟩
        | brk ls5 =>
          simp only [e3] at po2
          exact fun σ5 F5 H5 R5 => po2 σ5 F5 H5 (Rp.popN gks gvs gl R5)
        | ret kk ls5 =>
          simp only [e3] at po2
          exact fun v σ5 F5 H5 R5 => po2 v σ5 F5 H5 (R5.dropN gl)
        | err x ls5 =>
          simp only [e3] at po2
          exact fun cls d σ5 F5 H5 R5 er => po2 cls d σ5 F5 H5 (Rp.popN gks gvs gl R5) er
        | stk => simp only [e3, PostS] at po2
    · have e0 : i = items.length := by omega
      subst e0
      rw [List.drop_length] at po2
      have hg : gOk gd ls2 = true := by
        cases q : gOk gd ls2 with
        | true => rfl
        | false => simp only [forL, q, PostS] at po2; exact po2.elim
      simp only [forL, hg, if_true] at po2
      exact .inl ⟨wk.stop F2 H2 σ2 ls2 vs ks hg R2, po2 σ2 F2 H2 (Rp.popN gks gvs gl R2)⟩
/-! ### while -/
def whileL (c : M) (b : SM) : Nat → LS → S
  | 0, _ => .stk
  | n + 1, ls => match c ls with
    | .ok (.dat (.bl true)) ls1 => (match b ls1 with
      | .nx ls2 => whileL c b n ls2
      | .cnt ls2 => whileL c b n ls2
      | .brk ls2 => .nx ls2
      | .ret k ls2 => .ret k ls2
      | .err x ls2 => .err x ls2
      | .stk => .stk)
    | .ok (.dat (.bl false)) ls1 => .nx ls1
    | .err x ls1 => .err x ls1
    | _ => .stk
open Classical in
noncomputable def whileM (c : M) (b : SM) : SM := fun ls => if h : ∃ n, whileL c b n ls ≠ .stk then whileL c b (Classical.choose h) ls else .stk
theorem s_whileN (hp : PassesOwn (model X.prog X.w) X.A X.env X.xe) (hcc : L2.PT X c (tT (cfg X B) W m)) (hb : L2.PSs X sts (tS (cfg X B) W sa)) : L2.PS X (.While c sts [] pos) (fun D σ H => ∃ n, tS (cfg X B) W (whileL m sa n) D σ H) := PS.imp (ps_while hp hcc hb) fun D σ H h => by
  obtain ⟨n, F, ls, vs, ks, na, R, po⟩ := h
  refine ⟨fun m' σ H => ∃ F ls, Rp (cfg X B) F H σ ls vs ks ∧ PostS (cfg X B) W vs ks (whileL m sa m' ls) D, ⟨n, F, ls, R, po⟩, ?_⟩
  rintro n σ1 H1 ⟨F1, ls1, R1, po1⟩
  refine ⟨F1, ls1, vs, ks, R1, ?_⟩
  cases n with
  | zero => simp only [whileL, PostS] at po1
  | succ n =>
    cases e : m ls1 with
    | err x ls2 =>
      simp only [whileL, e] at po1
      exact fun cls d F' H' r' er => po1 cls d σ1 F' H' r' er
    | stk => simp only [whileL, e, PostS] at po1
    | ok k ls2 =>
      cases k with
      | dat d =>
        cases d with
        | bl b =>
          cases b with
          | false =>
            simp only [whileL, e] at po1
            intro F2 H2 R2
            rw [if_neg (by decide)]
            exact po1 σ1 F2 H2 R2
          | true =>
            simp only [whileL, e] at po1
            intro F2 H2 R2
            rw [if_pos rfl]
            refine ⟨fun σ' H' => ∃ F ls, Rp (cfg X B) F H' σ' ls vs ks ∧ PostS (cfg X B) W vs ks (whileL m sa n ls) D, fun σ' H' ⟨F', ls', R', p'⟩ => ⟨n, Nat.lt_succ_self n, F', ls', R', p'⟩, F2, ls2, vs, ks, na, R2, ?_⟩
            cases e3 : sa ls2 with
            | nx ls5 => simp only [e3] at po1; exact fun σ5 F5 H5 R5 => ⟨F5, ls5, R5, po1⟩
            | cnt ls5 => simp only [e3] at po1; exact fun σ5 F5 H5 R5 => ⟨F5, ls5, R5, po1⟩
            | brk ls5 => simp only [e3] at po1; exact po1
            | ret kk ls5 => simp only [e3] at po1; exact po1
            | err x ls5 => simp only [e3] at po1; exact po1
            | stk => simp only [e3, PostS] at po1
        | _ => simp only [whileL, e, PostS] at po1
      | _ => simp only [whileL, e, PostS] at po1
theorem s_while (hp : PassesOwn (model X.prog X.w) X.A X.env X.xe) (hcc : L2.PT X c (tT (cfg X B) W m)) (hb : L2.PSs X sts (tS (cfg X B) W sa)) : L2.PS X (.While c sts [] pos) (tS (cfg X B) W (whileM m sa)) := PS.imp (s_whileN hp hcc hb) fun D σ H h => by
  obtain ⟨F, ls, vs, ks, na, R, po⟩ := h
  unfold whileM at po
  split at po
  · exact ⟨_, F, ls, vs, ks, na, R, po⟩
  · exact po.elim
theorem whileL_mono {c : M} {b : SM} : ∀ {n k : Nat} {ls : LS}, whileL c b n ls ≠ .stk → n ≤ k → whileL c b k ls = whileL c b n ls
  | 0, _, _, h, _ => absurd rfl h
  | n + 1, 0, _, _, hk => by omega
  | n + 1, k + 1, ls, h, hk => by
    have hk' : n ≤ k := by omega
    simp only [whileL] at h ⊢
    cases e : c ls with
    | ok s ls1 =>
      simp only [e] at h ⊢
      cases s with
      | dat d =>
        cases d with
        | bl q =>
          cases q with
          | true =>
            simp only at h ⊢
            cases e2 : b ls1 with
            | nx ls2 => simp only [e2] at h ⊢; exact whileL_mono h hk'
            | cnt ls2 => simp only [e2] at h ⊢; exact whileL_mono h hk'
            | _ => simp only [e2]
          | false => rfl
        | _ => rfl
      | _ => rfl
    | _ => rfl
theorem whileM_of {c : M} {b : SM} {n : Nat} {ls : LS} {r : S} (h : whileL c b n ls = r) (hr : r ≠ .stk) : whileM c b ls = r := by
  unfold whileM
  have hx : ∃ n, whileL c b n ls ≠ .stk := ⟨n, by rw [h]; exact hr⟩
  rw [dif_pos hx]
  have h1 := Classical.choose_spec hx
  have h2 : whileL c b n ls ≠ .stk := by rw [h]; exact hr
  rcases Nat.le_total n (Classical.choose hx) with z | z
  · rw [whileL_mono h2 z, h]
  · rw [← whileL_mono h1 z, h]
end

/-! ### list comprehensions -/
def wipeL (ls : LS) : List Nat → LS
  | [] => ls
  | v :: vs => (wipeL ls vs).set v .emp
def empAt (ls : LS) : List Nat → Bool
  | [] => true
  | v :: vs => (match ls[v]? with
    | some .emp => true
    | none => true
    | _ => false) && empAt ls vs
theorem wipeL_len {ls : LS} : ∀ {vs : List Nat}, (wipeL ls vs).length = ls.length
  | [] => rfl
  | v :: vs => by unfold wipeL; rw [List.length_set, wipeL_len]
theorem wipeL_at {ls : LS} {i : Nat} : ∀ {vs : List Nat}, ((wipeL ls vs)[i]? = ls[i]? ∧ i ∉ vs) ∨ (i ∈ vs ∧ ((wipeL ls vs)[i]? = some .emp ∨ (wipeL ls vs)[i]? = none))
  | [] => .inl ⟨rfl, by simp⟩
  | v :: vs => by
    unfold wipeL
    by_cases h : i = v
    · subst h
      refine .inr ⟨List.mem_cons_self, ?_⟩
      rw [List.getElem?_set]
      simp only [if_true]
      split
      · exact .inl rfl
      · exact .inr rfl
    · rw [List.getElem?_set_ne (Ne.symm h)]
      rcases wipeL_at (ls := ls) (i := i) (vs := vs) with ⟨a, b⟩ | ⟨a, b⟩
      · exact .inl ⟨a, by simp [h, b]⟩
      · exact .inr ⟨List.mem_cons_of_mem _ a, b⟩
theorem empAt_at {ls : LS} {i : Nat} : ∀ {vs : List Nat}, empAt ls vs = true → i ∈ vs → ls[i]? = some .emp ∨ ls[i]? = none
  | [], _, hi => by simp at hi
  | v :: vs, h, hi => by
    unfold empAt at h
    rw [Bool.and_eq_true] at h
    rcases List.mem_cons.mp hi with z | z
    · subst z
      have h1 := h.1
      split at h1
      · rename_i h0; exact .inl h0
      · rename_i h0; exact .inr h0
      · cases h1
    · exact empAt_at h.2 z
theorem empAt_wipe {ls : LS} {us : List Nat} : ∀ {vs : List Nat}, (∀ i ∈ vs, i ∈ us) → empAt (wipeL ls us) vs = true
  | [], _ => rfl
  | v :: vs, h => by
    unfold empAt
    rw [empAt_wipe fun i hi => h i (List.mem_cons_of_mem _ hi), Bool.and_true]
    rcases wipeL_at (ls := ls) (i := v) (vs := us) with ⟨_, b⟩ | ⟨_, b | b⟩
    · exact absurd (h v List.mem_cons_self) b
    · rw [b]
    · rw [b]
section
variable {G : Cfg} {F F' H H' : Hp} {σ σ' : L2.St} {ls ls' : LS} {vs ws : List V} {ks as : List Slot} {v : V} {k : Slot} {d : D} {W : WX} {own : List Nat}
/-- other values at places that hold nothing -/
theorem Rp.agree (R : Rp G F H σ' ls vs ks) (ag : Agree own σ' σ) (he : empAt ls own = true) : Rp G F H σ ls vs ks := by
  have same : ∀ {i : Nat} {s : Slot}, ls[i]? = some s → s ≠ .emp → σ'[i]? = σ[i]? := fun {i s} h hs => ag.2 i fun hm => by
    rcases empAt_at he hm with z | z
    · rw [h] at z; cases z; exact hs rfl
    · rw [h] at z; cases z
  have look : ∀ {n : Nat} {e : Ent}, (ent vs ks σ ls)[n]? = some e → (ent vs ks σ' ls)[n]? = some e ∨ e.2 = .emp := fun {n e} h => by
    by_cases hn : n < vs.length
    · left
      unfold ent at h ⊢
      have hl : n < ((vs.map some).zip ks).length := by simp [R.klen] at hn ⊢; exact hn
      rw [List.getElem?_append_left hl] at h ⊢
      exact h
    · obtain ⟨j, rfl⟩ : ∃ j, n = vs.length + j := ⟨n - vs.length, by omega⟩
      rw [ent_loc R.klen] at h
      obtain ⟨u, s⟩ := e
      rw [List.getElem?_zip_eq_some] at h
      by_cases hs : s = .emp
      · exact .inr hs
      · left
        rw [ent_loc R.klen]
        exact zip_at (by rw [same h.2 hs]; exact h.1) h.2
  refine ⟨R.ex, R.ex0, by rw [← ag.1]; exact R.len, R.klen, ⟨fun n e h => ?_, fun m n e e' p h1 h2 o1 o2 => ?_⟩, fun w i h => ?_, fun i d h => ?_, R.b1, R.b2, R.b3⟩
  · rcases look h with z | z
    · exact R.good.all n e z
    · obtain ⟨u, s⟩ := e
      have z : s = .emp := z
      subst z; trivial
  · have ne : ∀ {e : Ent}, p ∈ adE H e → e.2 ≠ .emp := fun {e} o z => by
      obtain ⟨u, s⟩ := e
      have z : s = .emp := z
      subst z
      cases o
    rcases look h1 with z1 | z1
    · rcases look h2 with z2 | z2
      · exact R.good.nd m n e e' p z1 z2 o1 o2
      · exact absurd z2 (ne o2)
    · exact absurd z1 (ne o1)
  · obtain ⟨s, a1, a2, a3⟩ := R.al w i h
    exact ⟨s, by rw [← same a2 (fun z => by rw [z] at a3; cases a3)]; exact a1, a2, a3⟩
  · obtain ⟨u, a1, a2⟩ := R.pin i d h
    refine ⟨u, a1, ?_⟩
    rcases h with h | h | h | ⟨t, h⟩
    · rw [← same h (fun z => by cases z)]; exact a2
    · rw [← same h (fun z => by cases z)]; exact a2
    · rw [← same h (fun z => by cases z)]; exact a2
    · rw [← same h (fun z => by cases z)]; exact a2
theorem wipe_agree {σ : L2.St} : ∀ {vs : List Nat}, Agree vs (wipe σ vs) σ := fun {vs} => ⟨wipe_length σ vs, fun i hi => wipe_out hi⟩
theorem Agree.symm {is : List Nat} {σ σ' : L2.St} (a : Agree is σ' σ) : Agree is σ σ' := ⟨a.1.symm, fun i hi => (a.2 i hi).symm⟩
theorem Agree.mono {is js : List Nat} {σ σ' : L2.St} (a : Agree is σ' σ) (h : ∀ i ∈ is, i ∈ js) : Agree js σ' σ := ⟨a.1, fun i hi => a.2 i fun z => hi (h i z)⟩
theorem wipe_in {σ : L2.St} {i : Nat} : ∀ {vs : List Nat}, i ∈ vs → (wipe σ vs)[i]? = if i < σ.length then some none else none
  | [], h => by simp at h
  | v :: vs, h => by
    unfold wipe
    by_cases hi : v = i
    · subst hi
      rw [List.getElem?_set]
      simp only [if_true, wipe_length]
    · rw [List.getElem?_set_ne hi]
      exact wipe_in ((List.mem_cons.mp h).resolve_left (Ne.symm hi))
theorem wipe_of_agree {σ σ' : L2.St} {vs : List Nat} (a : Agree vs σ' σ) : wipe σ' vs = wipe σ vs := by
  refine List.ext_getElem? fun i => ?_
  by_cases hi : i ∈ vs
  · rw [wipe_in hi, wipe_in hi, a.1]
  · rw [wipe_out hi, wipe_out hi]; exact a.2 i hi
/-- a place is told no more -/
theorem Rp.forget (R : Rp G F H σ ls vs ks) {i : Nat} (hn : Slot.ali i ∉ ks) : Rp G F H σ (ls.set i .emp) vs ks := by
  by_cases hi : i < ls.length
  · obtain ⟨v, hv⟩ : ∃ v, σ[i]? = some v := ⟨_, List.getElem?_eq_getElem (by rw [R.len]; exact hi)⟩
    refine ⟨R.ex, R.ex0, by simp [R.len], R.klen, ?_, fun w i' hj => ?_, fun i' d h => ?_, R.b1, R.b2, R.b3⟩
    · rw [ent_setl R.klen hv]
      exact R.good.set trivial fun q hq => by cases hq
    · obtain ⟨s, a1, a2, a3⟩ := R.al w i' hj
      have hne : i ≠ i' := fun z => hn (by rw [z]; exact (List.of_mem_zip hj).2)
      exact ⟨s, a1, by rw [List.getElem?_set_ne hne]; exact a2, a3⟩
    · by_cases hh : i = i'
      · subst hh
        rw [List.getElem?_set_self hi] at h
        rcases h with z | z | z | ⟨t, z⟩ <;> cases z
      · rw [List.getElem?_set_ne hh] at h
        exact R.pin i' d h
  · rw [List.set_eq_of_length_le (by omega)]; exact R
theorem Rp.forgetL (R : Rp G F H σ ls vs ks) : ∀ {own : List Nat}, (∀ i ∈ own, Slot.ali i ∉ ks) → Rp G F H σ (wipeL ls own) vs ks
  | [], _ => R
  | v :: own, h => (Rp.forgetL R fun i hi => h i (List.mem_cons_of_mem _ hi)).forget (h v List.mem_cons_self)
theorem Rp.noAliEmp (R : Rp G F H σ ls vs ks) (he : empAt ls own = true) : ∀ i ∈ own, Slot.ali i ∉ ks := fun i hi hm => by
  obtain ⟨j, hj⟩ := List.getElem?_of_mem hm
  have hl : j < vs.length := by rw [R.klen]; exact (List.getElem?_eq_some_iff.mp hj).1
  obtain ⟨s, a1, a2, a3⟩ := R.al vs[j] i (List.mem_of_getElem? (i := j) (by rw [List.getElem?_zip_eq_some]; exact ⟨List.getElem?_eq_getElem hl, hj⟩))
  rcases empAt_at he hi with z | z
  · rw [a2] at z; cases z; cases a3
  · rw [a2] at z; cases z
end
def lcL (own : List Nat) (g : Gd) (tg : TgM) (t e : M) : List D → LS → List D → R
  | [], ls, acc => if gOk g ls = true then .ok (.own (.lst acc)) ls else .stk
  | d :: ds, ls, acc => if gOk g ls = true then (match tg d ls with
    | some ls1 => (match t ls1 with
      | .ok (.dat (.bl true)) ls2 => (match e ls2 with
        | .ok k ls3 => (match freezeK k ls3 with
          | some (y, ls4) => if acc.length < 1000000 then lcL own g tg t e ds (wipeL ls4 own) (acc ++ [y]) else .stk
          | none => .stk)
        | _ => .stk)
      | .ok (.dat (.bl false)) ls2 => lcL own g tg t e ds (wipeL ls2 own) acc
      | _ => .stk)
    | none => .stk) else .stk
def lcM (own : List Nat) (src : IM) (tg : TgM) (t e : M) : M := fun ls => match src ls with
  | .ok items g ls => if empAt ls own then lcL own g tg t e items ls [] else .stk
  | .err x ls => .err x ls
  | .stk => .stk
abbrev WF : WX := fun _ _ _ _ => False
section
variable {X : Cx} {B : Base} {W : WX} {im : IM} {t : TgM} {mt me : M} {own is : List Nat}
theorem top2 {G : Cfg} {F H : Hp} {σ : L2.St} {ls : LS} {vs : List V} {ks : List Slot} {v : V} {k : Slot} {p : Addr} {acc : List D} (R : Rp G F H σ ls (v :: .ref p :: vs) (k :: .own (.lst acc) :: ks)) : ∃ xs, H p = some (.lst xs) ∧ DDs G.K G.mg F acc xs := by
  obtain ⟨q, e, o⟩ := R.pop.good.head
  cases e
  obtain ⟨_, _, o', h1, h2⟩ := o
  cases o' <;> first | exact h2.elim | exact ⟨_, h1, h2⟩
theorem DDs.snoc {K : PySem.W.Frag} {mg : Str → Option Value} {F : Hp} : ∀ {ds : List D} {xs : List V} {d : D} {x : V}, DDs K mg F ds xs → DD K mg F d x → DDs K mg F (ds ++ [d]) (xs ++ [x])
  | _, _, _, _, .nil, h => .cons h .nil
  | _, _, _, _, .cons a r, h => .cons a (DDs.snoc r h)
theorem imp_lc {G : Cfg} {tt : TT} {te : TE} (his : ∀ i ∈ is, i ∈ own) (htt : ∀ σ H Q, tT G WF mt σ H Q → tt σ H Q) (hte : ∀ σ H Q, tM G WF me σ H Q → te σ H Q) {σ : L2.St} {H : Hp} {Q : VK} (h : tM G W (lcM own im t mt me) σ H Q) : tLc (tI G W im) (tG G t is) tt te own σ H Q := by
  obtain ⟨F, ls, vs, ks, R, po⟩ := h
  refine ⟨F, ls, vs, ks, R, ?_⟩
  cases e1 : im ls with
  | stk => simp only [lcM, e1, PostM] at po
  | err x ls1 => simp only [lcM, e1] at po; exact po
  | ok items gd ls1 =>
    simp only [lcM, e1] at po
    split at po
    · rename_i hem
      intro J gvs gks F1 H1 gl gna R1 wk Ad hD
      refine ⟨fun i m H => m = items.length - i ∧ i ≤ items.length ∧ ∃ F ls acc, empAt ls own = true ∧ Rp G F H (wipe σ own) ls (.ref Ad :: (gvs ++ vs)) (.own (.lst acc) :: (gks ++ ks)) ∧ PostM G W σ vs ks (lcL own gd t mt me (items.drop i) ls acc) Q, ⟨_, rfl, Nat.zero_le _, F1, ls1, [], hem, ?_, po⟩, ?_⟩
      · exact (R1.agree wipe_agree.symm hem).pushOwn hD (d := .lst []) .nil
      · rintro i m H2 ⟨rfl, hi2, F2, ls2, acc, hem2, R2, po2⟩
        by_cases hlt : i < items.length
        · refine .inr ?_
          have hd : items.drop i = items[i] :: items.drop (i + 1) := List.drop_eq_getElem_cons hlt
          rw [hd] at po2
          have R2' : Rp G F2 H2 (wipe σ own) ls2 (gvs ++ .ref Ad :: vs) (gks ++ .own (.lst acc) :: ks) := R2.unrot gl
          have hg : gOk gd ls2 = true := by
            cases q : gOk gd ls2 with
            | true => rfl
            | false => simp only [lcL, q, PostM] at po2; exact po2.elim
          simp only [lcL, hg, if_true] at po2
          obtain ⟨go, step⟩ := wk.go i items[i] F2 H2 _ ls2 (.ref Ad :: vs) (.own (.lst acc) :: ks) hg (List.getElem?_eq_getElem hlt) R2'
          refine ⟨go, fun H' => ∃ F ls acc, empAt ls own = true ∧ Rp G F H' (wipe σ own) ls (.ref Ad :: (gvs ++ vs)) (.own (.lst acc) :: (gks ++ ks)) ∧ PostM G W σ vs ks (lcL own gd t mt me (items.drop (i + 1)) ls acc) Q, fun H' ⟨F', ls', a', h', R', p'⟩ => ⟨items.length - (i + 1), by omega, rfl, hlt, F', ls', a', h', R', p'⟩, fun x H3 hy => ?_⟩
          obtain ⟨F3, R3⟩ := step x H3 hy
          -- the new list next to the top
          have R3' : Rp G F3 H3 (wipe σ own) ls2 (x :: .ref Ad :: (gvs ++ vs)) (.dat items[i] :: .own (.lst acc) :: (gks ++ ks)) := by
            have z : Rp G F3 H3 (wipe σ own) ls2 ((x :: gvs) ++ .ref Ad :: vs) ((.dat items[i] :: gks) ++ .own (.lst acc) :: ks) := R3
            have z2 := z.rot (by simp [gl])
            have z3 : Rp G F3 H3 (wipe σ own) ls2 (.ref Ad :: ([x] ++ (gvs ++ vs))) (.own (.lst acc) :: ([.dat items[i]] ++ (gks ++ ks))) := z2
            exact z3.unrot rfl
          have nal := R3'.pop.noAliEmp hem2
          refine ⟨F3, ls2, .ref Ad :: (gvs ++ vs), .own (.lst acc) :: (gks ++ ks), items[i], fun i hi => nal i (his i hi), R3', ?_⟩
          cases e2 : t items[i] ls2 with
          | none => simp only [e2, PostM] at po2
          | some ls3 =>
            simp only [e2] at po2
            intro σ4 F4 H4 R4 ag
            have ag' : Agree own σ4 (wipe σ own) := ag.mono his
            have back : ∀ {F5 H5 : Hp} {ls5 : LS} {a5 : List D}, Rp G F5 H5 σ4 ls5 (.ref Ad :: (gvs ++ vs)) (.own (.lst a5) :: (gks ++ ks)) → Rp G F5 H5 (wipe σ own) (wipeL ls5 own) (.ref Ad :: (gvs ++ vs)) (.own (.lst a5) :: (gks ++ ks)) := fun {F5 H5 ls5 a5} R5 => by
              refine (R5.forgetL fun i hi hm => ?_).agree ag' (empAt_wipe fun i hi => hi)
              rcases List.mem_cons.mp hm with z | z
              · cases z
              · exact nal i hi (List.mem_cons_of_mem _ z)
            refine ⟨?_, ?_⟩
            · rw [wipe_of_agree ag']
              exact wipe_of_agree wipe_agree
            · refine htt _ _ _ ⟨F4, ls3, _, _, R4, ?_⟩
              cases e3 : mt ls3 with
              | err x ls5 => simp only [e3, PostM] at po2
              | stk => simp only [e3, PostM] at po2
              | ok k3 ls5 =>
                cases k3 with
                | dat d3 =>
                  cases d3 with
                  | bl b =>
                    cases b with
                    | false =>
                      simp only [e3] at po2
                      intro F5 H5 R5
                      rw [if_neg (by decide)]
                      exact ⟨F5, _, acc, empAt_wipe fun i hi => hi, back R5, po2⟩
                    | true =>
                      simp only [e3] at po2
                      intro F5 H5 R5
                      rw [if_pos rfl]
                      refine hte _ _ _ ⟨F5, ls5, _, _, R5, ?_⟩
                      cases e6 : me ls5 with
                      | err x ls6 => simp only [e6, PostM] at po2
                      | stk => simp only [e6, PostM] at po2
                      | ok k6 ls6 =>
                        simp only [e6] at po2
                        intro y F6 H6 R6
                        cases e7 : VM.freezeK k6 ls6 with
                        | none => simp only [e7, PostM] at po2
                        | some q =>
                          obtain ⟨yd, ls7⟩ := q
                          simp only [e7] at po2
                          split at po2
                          · rename_i hz
                            obtain ⟨F7, _, R7⟩ := R6.freezeK e7
                            obtain ⟨xs, hx, dx⟩ := top2 R7
                            obtain ⟨y', ey, dy⟩ := R7.good.head
                            cases ey
                            refine ⟨xs, hx, line_lt (by rw [← dx.length]; exact hz), F7, _, acc ++ [yd], empAt_wipe fun i hi => hi, back ?_, po2⟩
                            exact R7.pop.mutTop (d' := .lst (acc ++ [yd])) (dx.snoc dy)
                          · exact po2.elim
                  | _ => simp only [e3, PostM] at po2
                | _ => simp only [e3, PostM] at po2
        · have e0 : i = items.length := by omega
          subst e0
          rw [List.drop_length] at po2
          have R2' : Rp G F2 H2 (wipe σ own) ls2 (gvs ++ .ref Ad :: vs) (gks ++ .own (.lst acc) :: ks) := R2.unrot gl
          have hg : gOk gd ls2 = true := by
            cases q : gOk gd ls2 with
            | true => rfl
            | false => simp only [lcL, q, PostM] at po2; exact po2.elim
          simp only [lcL, hg, if_true] at po2
          refine .inl ⟨wk.stop F2 H2 _ ls2 _ _ hg R2', po2 _ F2 H2 ?_⟩
          exact (Rp.popN gks gvs gl R2').agree wipe_agree hem2
    · exact po.elim
theorem imp_yes {G : Cfg} {σ : L2.St} {H : Hp} {Q : Bool → Hp → Prop} (h : tT G WF (conM (.bl true)) σ H Q) : tYes σ H Q := by
  obtain ⟨F, ls, vs, ks, R, po⟩ := h
  exact po F H R
variable {elt tg iter c : Expr} {scope : Scope} {ow : List (Str × Nat)} {pos : Pos}
/-- [elt for tg in iter] -/
theorem e_lc (hc : X.calm = true) (hN : X.N.Nodup) (hi : L2.PI X tg iter (tI (cfg X B) W im)) (ok : BlkOk X.N X.env.scope scope ow)
    (hg : ∀ (s : Shared) (H : Hp) (C : Addr) (cl : List (Str × Addr)) (fp : List Addr), L2.PG (X.blk s H scope (compEnvC scope cl C X.env) fp) tg (tG (cfg X B) t is))
    (he : ∀ (s : Shared) (H : Hp) (C : Addr) (cl : List (Str × Addr)) (fp : List Addr), L2.PE (X.blk s H scope (compEnvC scope cl C X.env) fp) elt (tM (cfg X B) WF me)) (his : ∀ i ∈ is, i ∈ ow.map (·.2) := by decide) (hs : ∀ x, foldedSetIterable iter X.env x = pure x := by intro _; rfl) :
    L2.PE X (.ListComp elt [⟨tg, iter, [], 0⟩] scope pos) (tM (cfg X B) W (lcM (ow.map (·.2)) im t (conM (.bl true)) me)) :=
  PE.imp (pe_lc hc hN hi ok hg (fun _ _ _ _ _ => pts_nil) he hs) fun σ H Q h => imp_lc his (fun _ _ _ => imp_yes) (fun _ _ _ q => q) h
/-- [elt for tg in iter if c] -/
theorem e_lcI (hc : X.calm = true) (hN : X.N.Nodup) (hi : L2.PI X tg iter (tI (cfg X B) W im)) (ok : BlkOk X.N X.env.scope scope ow)
    (hg : ∀ (s : Shared) (H : Hp) (C : Addr) (cl : List (Str × Addr)) (fp : List Addr), L2.PG (X.blk s H scope (compEnvC scope cl C X.env) fp) tg (tG (cfg X B) t is))
    (ht : ∀ (s : Shared) (H : Hp) (C : Addr) (cl : List (Str × Addr)) (fp : List Addr), L2.PT (X.blk s H scope (compEnvC scope cl C X.env) fp) c (tT (cfg X B) WF mt))
    (he : ∀ (s : Shared) (H : Hp) (C : Addr) (cl : List (Str × Addr)) (fp : List Addr), L2.PE (X.blk s H scope (compEnvC scope cl C X.env) fp) elt (tM (cfg X B) WF me)) (his : ∀ i ∈ is, i ∈ ow.map (·.2) := by decide) (hs : ∀ x, foldedSetIterable iter X.env x = pure x := by intro _; rfl) :
    L2.PE X (.ListComp elt [⟨tg, iter, [c], 0⟩] scope pos) (tM (cfg X B) W (lcM (ow.map (·.2)) im t mt me)) :=
  PE.imp (pe_lc hc hN hi ok hg (fun s H C cl fp => pts_one (ht s H C cl fp)) he hs) fun σ H Q h => imp_lc his (fun _ _ _ q => q) (fun _ _ _ q => q) h
theorem imp_asg {i : Nat} {m : M} {te : TE} (h : ∀ σ H Q, tM (cfg X B) W m σ H Q → te σ H Q) {D : Ends} {σ : L2.St} {H : Hp} (hh : tS (cfg X B) W (asgM i m) D σ H) : tAsg te (gName i) D σ H :=
  h _ _ _ (tS_bind hh fun F ls vs ks v H' k na R po => asgK_ok na R po)
theorem s_setLc {i : Nat} {y : Str} {py spos : Pos} (hc : X.calm = true) (hN : X.N.Nodup) (hi : L2.PI X tg iter (tI (cfg X B) W im)) (ok : BlkOk X.N X.env.scope scope ow)
    (hg : ∀ (s : Shared) (H : Hp) (C : Addr) (cl : List (Str × Addr)) (fp : List Addr), L2.PG (X.blk s H scope (compEnvC scope cl C X.env) fp) tg (tG (cfg X B) t is))
    (he : ∀ (s : Shared) (H : Hp) (C : Addr) (cl : List (Str × Addr)) (fp : List Addr), L2.PE (X.blk s H scope (compEnvC scope cl C X.env) fp) elt (tM (cfg X B) WF me)) (his : ∀ i ∈ is, i ∈ ow.map (·.2) := by decide) (hs : ∀ x, foldedSetIterable iter X.env x = pure x := by intro _; rfl)
    (hy : X.N[i]? = some y := by rfl) (hyl : X.env.scope.names.lookup y = some .local := by rfl) (hsw : swapsWith (.ListComp elt [⟨tg, iter, [], 0⟩] scope pos) (some (.Name y py)) spos.line X.env = pure true := by rfl) :
    L2.PS X (.Assign [.Name y py] (.ListComp elt [⟨tg, iter, [], 0⟩] scope pos) spos) (tS (cfg X B) W (asgM i (lcM (ow.map (·.2)) im t (conM (.bl true)) me))) :=
  PS.imp (ps_setLc hc hN hy hyl hsw hi ok hg (fun _ _ _ _ _ => pts_nil) he hs) fun D σ H h => imp_asg (fun σ H Q h => imp_lc his (fun _ _ _ => imp_yes) (fun _ _ _ q => q) h) h
theorem s_setLcI {i : Nat} {y : Str} {py spos : Pos} (hc : X.calm = true) (hN : X.N.Nodup) (hi : L2.PI X tg iter (tI (cfg X B) W im)) (ok : BlkOk X.N X.env.scope scope ow)
    (hg : ∀ (s : Shared) (H : Hp) (C : Addr) (cl : List (Str × Addr)) (fp : List Addr), L2.PG (X.blk s H scope (compEnvC scope cl C X.env) fp) tg (tG (cfg X B) t is))
    (ht : ∀ (s : Shared) (H : Hp) (C : Addr) (cl : List (Str × Addr)) (fp : List Addr), L2.PT (X.blk s H scope (compEnvC scope cl C X.env) fp) c (tT (cfg X B) WF mt))
    (he : ∀ (s : Shared) (H : Hp) (C : Addr) (cl : List (Str × Addr)) (fp : List Addr), L2.PE (X.blk s H scope (compEnvC scope cl C X.env) fp) elt (tM (cfg X B) WF me)) (his : ∀ i ∈ is, i ∈ ow.map (·.2) := by decide) (hs : ∀ x, foldedSetIterable iter X.env x = pure x := by intro _; rfl)
    (hy : X.N[i]? = some y := by rfl) (hyl : X.env.scope.names.lookup y = some .local := by rfl) (hsw : swapsWith (.ListComp elt [⟨tg, iter, [c], 0⟩] scope pos) (some (.Name y py)) spos.line X.env = pure true := by rfl) :
    L2.PS X (.Assign [.Name y py] (.ListComp elt [⟨tg, iter, [c], 0⟩] scope pos) spos) (tS (cfg X B) W (asgM i (lcM (ow.map (·.2)) im t mt me))) :=
  PS.imp (ps_setLc hc hN hy hyl hsw hi ok hg (fun s H C cl fp => pts_one (ht s H C cl fp)) he hs) fun D σ H h => imp_asg (fun σ H Q h => imp_lc his (fun _ _ _ q => q) (fun _ _ _ q => q) h) h
/-- places that are told no more, ahead of a statement -/
def fgtS (own : List Nat) (s : SM) : SM := fun ls => s (wipeL ls own)
theorem s_fgt {st : Stmt} {sa : SM} (own : List Nat) (h : L2.PS X st (tS (cfg X B) W sa)) : L2.PS X st (tS (cfg X B) W (fgtS own sa)) := PS.imp h fun D σ H h => by
  obtain ⟨F, ls, vs, ks, na, R, po⟩ := h
  exact ⟨F, wipeL ls own, vs, ks, na, R.forgetL fun i _ => na i, po⟩
end
end VM

set_option Elab.async false
set_option linter.all false
set_option maxRecDepth 100000
set_option maxHeartbeats 1000000
namespace VM
open PySem L2

/-! ### built-in functions on data -/
def looks (ls : LS) : List Slot → Option (List D)
  | [] => some []
  | k :: r => match look ls k, looks ls r with
    | some d, some ds => some (d :: ds)
    | _, _ => none
inductive Vws (G : Cfg) (F H : Hp) : List V → List D → Prop
  | nil : Vws G F H [] []
  | cons {v : V} {d : D} {vs : List V} {ds : List D} : Vw G F H v d → Vws G F H vs ds → Vws G F H (v :: vs) (d :: ds)
theorem Rp.views {G : Cfg} {F H : Hp} {σ : L2.St} {ls : LS} {vs : List V} {ks : List Slot} : ∀ {as : List Slot} {ws : List V} {ds : List D}, ws.length = as.length → looks ls as = some ds → Rp G F H σ ls (ws ++ vs) (as ++ ks) → Vws G F H ws ds
  | [], [], _, _, h, _ => by cases h; exact .nil
  | [], _ :: _, _, hl, _, _ => by simp at hl
  | _ :: _, [], _, hl, _, _ => by simp at hl
  | k :: as, w :: ws, ds, hl, h, R => by
    cases e : look ls k with
    | none => simp only [looks, e] at h; cases h
    | some d =>
      cases e2 : looks ls as with
      | none => simp only [looks, e, e2] at h; cases h
      | some r =>
        simp only [looks, e, e2] at h
        cases h
        exact .cons (R.view0 e) (Rp.views (by simpa using hl) e2 R.pop)
def OpMA (G : Cfg) (r : List V → Hp → VK → Prop) (g : List D → Option Slot) : Prop := ∀ F H σ ls vs ks ws ds k Q, Rp G F H σ ls vs ks → Vws G F H ws ds → g ds = some k →
  (∀ u F' H', Rp G F' H' σ ls (u :: vs) (k :: ks) → Q u H') → r ws H Q
def bltM (g : List D → Option Slot) (am : AM) : M := fun ls => (am ls).bind fun as ls => match looks ls as with
  | some ds => (match g ds with
    | some k => .ok k ls
    | none => .stk)
  | none => .stk
section
variable {X : Cx} {B : Base} {W : WX} {e o : Expr} {es : List Expr} {am : AM} {om vm im : M} {pos p apos cpos : Pos} {x name : Str} {id T : String} {r : List V → Hp → VK → Prop} {g : List D → Option Slot}
theorem imp_blt {G : Cfg} (hr : OpMA G r g) {σ : L2.St} {H : Hp} {Q : VK} (h : tM G W (bltM g am) σ H Q) : tCB r (tA G W am) σ H Q := by
  refine tA_bind h fun F ls vs ks ws H' as hl R po => ?_
  cases e1 : looks ls as with
  | none => simp only [e1, PostM] at po
  | some ds =>
    cases e2 : g ds with
    | none => simp only [e1, e2, PostM] at po
    | some k =>
      simp only [e1, e2] at po
      exact hr F H' σ ls vs ks ws ds k Q (Rp.popN as ws hl R) (R.views hl e1) e2 po
theorem e_blt (hr : OpMA (cfg X B) r g) (hc : CallR X (.builtin id) r) (hm : X.mg x = none) (hv : bootBuiltins x = some (.builtin id)) (ha : L2.PA X (e :: es) (tA (cfg X B) W am)) (hg : Gl X x := by rfl) (hn : x ≠ "__name__" := by decide) (hdb : (x == ("__debug__" : Str)) = false := by decide)
    (he : starEach (e :: es) X.env = (false, eval e X.env) :: starEach es X.env := by rfl) (hpl : (backTo pos (starEach es X.env)).any (·.1) = false := by rfl) : L2.PE X (.Call (.Name x p) (e :: es) [] pos) (tM (cfg X B) W (bltM g am)) :=
  PE.imp (pe_callB hc hg hm hv ha hn hdb he hpl) fun _ _ _ h => imp_blt hr h
theorem e_bty (hr : OpMA (cfg X B) r g) (hc : CallR X (.type T) r) (hm : X.mg x = none) (hv : bootBuiltins x = some (.type T)) (ha : L2.PA X (e :: es) (tA (cfg X B) W am)) (hg : Gl X x := by rfl) (hn : x ≠ "__name__" := by decide) (hdb : (x == ("__debug__" : Str)) = false := by decide)
    (he : starEach (e :: es) X.env = (false, eval e X.env) :: starEach es X.env := by rfl) (hpl : (backTo pos (starEach es X.env)).any (·.1) = false := by rfl) : L2.PE X (.Call (.Name x p) (e :: es) [] pos) (tM (cfg X B) W (bltM g am)) :=
  PE.imp (pe_callTy hc hg hm hv ha hn hdb he hpl) fun _ _ _ h => imp_blt hr h
end
theorem CallR.or {X : Cx} {f : Value} {r r' : List V → Hp → VK → Prop} (h : CallR X f r) (h' : CallR X f r') : CallR X f fun xs H Q => r xs H Q ∨ r' xs H Q := fun pins s σ H xs us Q I rr q => q.elim (h pins s σ H xs us Q I rr) (h' pins s σ H xs us Q I rr)
section
variable {G : Cfg}
def absD : List D → Option Slot
  | [.int i] => some (.dat (.int (if i < 0 then -i else i)))
  | _ => none
theorem m_abs : OpMA G (fun xs H Q => ∃ i, xs = [.int i] ∧ Q (.int (if i < 0 then -i else i)) H) absD := by
  intro F H σ ls vs ks ws ds k Q R hv hg q
  unfold absD at hg
  split at hg
  · cases hg
    cases hv with | cons h1 h2 =>
    cases h2
    have := Vw.int R.ex h1
    subst this
    exact ⟨_, rfl, q _ _ _ (R.pushDat (.int _))⟩
  · cases hg
def intD : List D → Option Slot
  | [.int i] => some (.dat (.int i))
  | [.bl k] => some (.dat (.int (if k then 1 else 0)))
  | _ => none
theorem m_int : OpMA G (fun xs H Q => (∃ i, xs = [.int i] ∧ Q (.int i) H) ∨ ∃ k, xs = [.bl k] ∧ Q (.int (if k then 1 else 0)) H) intD := by
  intro F H σ ls vs ks ws ds k Q R hv hg q
  unfold intD at hg
  split at hg
  · cases hg
    cases hv with | cons h1 h2 =>
    cases h2
    have := Vw.int R.ex h1
    subst this
    exact .inl ⟨_, rfl, q _ _ _ (R.pushDat (.int _))⟩
  · cases hg
    cases hv with | cons h1 h2 =>
    cases h2
    have := Vw.bl R.ex h1
    subst this
    exact .inr ⟨_, rfl, q _ _ _ (R.pushDat (.int _))⟩
  · cases hg
def maxD : List D → Option Slot
  | [.int i, .int j] => some (.dat (.int (if j > i then j else i)))
  | _ => none
def minD : List D → Option Slot
  | [.int i, .int j] => some (.dat (.int (if j < i then j else i)))
  | _ => none
theorem m_max : OpMA G (fun xs H Q => ∃ i j, xs = [.int i, .int j] ∧ Q (.int (if j > i then j else i)) H) maxD := by
  intro F H σ ls vs ks ws ds k Q R hv hg q
  unfold maxD at hg
  split at hg
  · cases hg
    cases hv with | cons h1 h2 =>
    cases h2 with | cons h2 h3 =>
    cases h3
    have := Vw.int R.ex h1
    subst this
    have := Vw.int R.ex h2
    subst this
    exact ⟨_, _, rfl, q _ _ _ (R.pushDat (.int _))⟩
  · cases hg
theorem m_min : OpMA G (fun xs H Q => ∃ i j, xs = [.int i, .int j] ∧ Q (.int (if j < i then j else i)) H) minD := by
  intro F H σ ls vs ks ws ds k Q R hv hg q
  unfold minD at hg
  split at hg
  · cases hg
    cases hv with | cons h1 h2 =>
    cases h2 with | cons h2 h3 =>
    cases h3
    have := Vw.int R.ex h1
    subst this
    have := Vw.int R.ex h2
    subst this
    exact ⟨_, _, rfl, q _ _ _ (R.pushDat (.int _))⟩
  · cases hg
/-- len -/
def lenD : List D → Option Slot
  | [.lst ds] => some (.dat (.int ds.length))
  | [.tup ds] => some (.dat (.int ds.length))
  | [.ktup ds] => some (.dat (.int ds.length))
  | [.scr ds] => some (.dat (.int ds.length))
  | [.dK ds] => some (.dat (.int ds.length))
  | [.dT ds] => some (.dat (.int ds.length))
  | [.str z] => if z.length ≤ lim then some (.dat (.int z.length)) else none
  | _ => none
def rLenU (K : PySem.W.Frag) : List V → Hp → VK → Prop := fun xs H Q => (∃ p ys, xs = [.ref p] ∧ (SqL K H p ys ∨ SqT K H p ys) ∧ Q (.int ys.length) H) ∨ (∃ z, xs = [.str z] ∧ z.length ≤ sizeLine ∧ Q (.int z.length) H) ∨ (∃ a kvs, xs = [V.ref a] ∧ H a = some (.dK kvs) ∧ Q (.int kvs.length) H) ∨ rLenT xs H Q
theorem c_len {X : Cx} : CallR X (.builtin "len") (rLenU X.K) := call_len_seq.or (call_len_str.or (call_lenD.or call_len_dT))
theorem m_len : OpMA G (rLenU G.K) lenD := by
  intro F H σ ls vs ks ws ds k Q R hv hg q
  have one : ∀ {n m : Nat}, n = m → (∀ u F' H', Rp G F' H' σ ls (u :: vs) (.dat (.int (n : Int)) :: ks) → Q u H') → Q (.int (m : Int)) H := fun e q => by
    subst e; exact q _ _ _ (R.pushDat (.int _))
  unfold lenD at hg
  split at hg
  · cases hg
    cases hv with | cons h1 h2 =>
    cases h2
    obtain ⟨a, xs, rfl, e, dd⟩ := Vw.lst R.ex h1
    exact .inl ⟨a, xs, rfl, .inl (SqL.of e), one dd.length q⟩
  · cases hg
    cases hv with | cons h1 h2 =>
    cases h2
    obtain ⟨a, xs, rfl, e, dd⟩ := Vw.tup R.ex h1
    exact .inl ⟨a, xs, rfl, .inr (SqT.of e), one dd.length q⟩
  · cases hg
    cases hv with | cons h1 h2 =>
    cases h2
    obtain ⟨a, xs, rfl, e, dd⟩ := Vw.ktup R.ex h1
    exact .inl ⟨a, xs, rfl, .inr e, one dd.length q⟩
  · cases hg
    cases hv with | cons h1 h2 =>
    cases h2
    obtain ⟨a, rfl, e⟩ := Vw.scr R.ex h1
    exact .inl ⟨a, _, rfl, .inl e, one (List.length_map _).symm q⟩
  · cases hg
    cases hv with | cons h1 h2 =>
    cases h2
    obtain ⟨a, xs, rfl, e, dd⟩ := Vw.dK R.ex h1
    exact .inr (.inr (.inl ⟨a, xs, rfl, e, one dd.length q⟩))
  · cases hg
    cases hv with | cons h1 h2 =>
    cases h2
    obtain ⟨a, xs, rfl, e, dd⟩ := Vw.dT R.ex h1
    exact .inr (.inr (.inr ⟨a, xs, rfl, e, one dd.length q⟩))
  · obtain ⟨hz, rfl⟩ := ite_some hg
    cases hv with | cons h1 h2 =>
    cases h2
    have := Vw.str R.ex h1
    subst this
    exact .inr (.inl ⟨_, rfl, line_of hz, one rfl q⟩)
  · cases hg
/-- list(..), tuple(..) of a list, a tuple -/
def listD : List D → Option Slot
  | [.lst ds] => some (.own (.lst ds))
  | [.tup ds] => some (.own (.lst ds))
  | [.ktup ds] => some (.own (.lst ds))
  | _ => none
theorem m_list : OpMA G (fun xs H Q => ∃ p ys, xs = [.ref p] ∧ (SqL G.K H p ys ∨ SqT G.K H p ys) ∧ ∀ l, H l = none → Q (.ref l) (upd H l (.lst ys))) listD := by
  intro F H σ ls vs ks ws ds k Q R hv hg q
  unfold listD at hg
  split at hg
  · cases hg
    cases hv with | cons h1 h2 =>
    cases h2
    obtain ⟨a, xs, rfl, e, dd⟩ := Vw.lst R.ex h1
    exact ⟨a, xs, rfl, .inl (SqL.of e), fun l hl => q _ _ _ (R.pushOwn hl (d := .lst _) dd)⟩
  · cases hg
    cases hv with | cons h1 h2 =>
    cases h2
    obtain ⟨a, xs, rfl, e, dd⟩ := Vw.tup R.ex h1
    exact ⟨a, xs, rfl, .inr (SqT.of e), fun l hl => q _ _ _ (R.pushOwn hl (d := .lst _) dd)⟩
  · cases hg
    cases hv with | cons h1 h2 =>
    cases h2
    obtain ⟨a, xs, rfl, e, dd⟩ := Vw.ktup R.ex h1
    exact ⟨a, xs, rfl, .inr e, fun l hl => q _ _ _ (R.pushOwn hl (d := .lst _) dd)⟩
  · cases hg
def tupleD : List D → Option Slot
  | [.lst ds] => some (.dat (.tup ds))
  | [.tup ds] => some (.dat (.tup ds))
  | _ => none
theorem m_tuple : OpMA G (fun xs H Q => ∃ p ys, xs = [.ref p] ∧ ((SqL G.K H p ys ∧ ∀ l, H l = none → Q (.ref l) (upd H l (.tup ys))) ∨ (SqT G.K H p ys ∧ Q (.ref p) H))) tupleD := by
  intro F H σ ls vs ks ws ds k Q R hv hg q
  unfold tupleD at hg
  split at hg
  · cases hg
    cases hv with | cons h1 h2 =>
    cases h2
    obtain ⟨a, xs, rfl, e, dd⟩ := Vw.lst R.ex h1
    exact ⟨a, xs, rfl, .inl ⟨SqL.of e, fun l hl => q _ _ _ (R.pushTup hl dd)⟩⟩
  · cases hg
    cases hv with | cons h1 h2 =>
    cases h2
    have h0 := h1.dd_tup
    obtain ⟨a, xs, rfl, e, dd⟩ := Vw.tup R.ex h1
    exact ⟨a, xs, rfl, .inr ⟨SqT.of e, q _ _ _ (R.pushDat h0)⟩⟩
  · cases hg
def blsD : List D → Option (List Bool)
  | [] => some []
  | .bl b :: r => (blsD r).map (b :: ·)
  | _ :: _ => none
theorem bls_dd {K : PySem.W.Frag} {mg : Str → Option Value} {F : Hp} : ∀ {ds : List D} {xs : List V} {bs : List Bool}, DDs K mg F ds xs → blsD ds = some bs → xs = bs.map V.bl
  | [], _, _, .nil, h => by cases h; rfl
  | d :: ds, _, bs, .cons h1 h2, h => by
    cases d with
    | bl b =>
      cases h1
      cases e : blsD ds with
      | none => simp [blsD, e] at h
      | some r =>
        simp only [blsD, e, Option.map_some, Option.some.injEq] at h
        subst h
        rw [bls_dd h2 e]; rfl
    | _ => simp [blsD] at h
def allD : List D → Option Slot
  | [.lst ds] => (blsD ds).map fun bs => .dat (.bl (bs.all id))
  | _ => none
def anyD : List D → Option Slot
  | [.lst ds] => (blsD ds).map fun bs => .dat (.bl (bs.any id))
  | _ => none
theorem m_all : OpMA G (rAll G.K) allD := by
  intro F H σ ls vs ks ws ds k Q R hv hg q
  unfold allD at hg
  split at hg
  · rename_i ds
    cases hv with | cons h1 h2 =>
    cases h2
    obtain ⟨a, xs, rfl, e, dd⟩ := Vw.lst R.ex h1
    cases e2 : blsD ds with
    | none => rw [e2] at hg; cases hg
    | some bs =>
      rw [e2] at hg
      cases hg
      have := bls_dd dd e2
      subst this
      exact ⟨a, bs, rfl, SqL.of e, q _ _ _ (R.pushDat (.bl _))⟩
  · cases hg
theorem m_any : OpMA G (rAny G.K) anyD := by
  intro F H σ ls vs ks ws ds k Q R hv hg q
  unfold anyD at hg
  split at hg
  · rename_i ds
    cases hv with | cons h1 h2 =>
    cases h2
    obtain ⟨a, xs, rfl, e, dd⟩ := Vw.lst R.ex h1
    cases e2 : blsD ds with
    | none => rw [e2] at hg; cases hg
    | some bs =>
      rw [e2] at hg
      cases hg
      have := bls_dd dd e2
      subst this
      exact ⟨a, bs, rfl, SqL.of e, q _ _ _ (R.pushDat (.bl _))⟩
  · cases hg
def intsD : List D → Option (List Int)
  | [] => some []
  | .int b :: r => (intsD r).map (b :: ·)
  | _ :: _ => none
theorem ints_dd {K : PySem.W.Frag} {mg : Str → Option Value} {F : Hp} : ∀ {ds : List D} {xs : List V} {bs : List Int}, DDs K mg F ds xs → intsD ds = some bs → xs = bs.map V.int
  | [], _, _, .nil, h => by cases h; rfl
  | d :: ds, _, bs, .cons h1 h2, h => by
    cases d with
    | int b =>
      cases h1
      cases e : intsD ds with
      | none => simp [intsD, e] at h
      | some r =>
        simp only [intsD, e, Option.map_some, Option.some.injEq] at h
        subst h
        rw [ints_dd h2 e]; rfl
    | _ => simp [intsD] at h
def sumD : List D → Option Slot
  | [.lst ds] => (intsD ds).map fun bs => .dat (.int bs.sum)
  | _ => none
theorem m_sum : OpMA G (rSum G.K) sumD := by
  intro F H σ ls vs ks ws ds k Q R hv hg q
  unfold sumD at hg
  split at hg
  · rename_i ds
    cases hv with | cons h1 h2 =>
    cases h2
    obtain ⟨a, xs, rfl, e, dd⟩ := Vw.lst R.ex h1
    cases e2 : intsD ds with
    | none => rw [e2] at hg; cases hg
    | some bs =>
      rw [e2] at hg
      cases hg
      have := ints_dd dd e2
      subst this
      exact ⟨a, bs, rfl, SqL.of e, q _ _ _ (R.pushDat (.int _))⟩
  · cases hg
/-! ### is None -/
def isnD : D → D → Option Slot
  | .non, .non => some (.dat (.bl true))
  | _, .non => some (.dat (.bl false))
  | _, _ => none
def notnD : D → D → Option Slot
  | .non, .non => some (.dat (.bl false))
  | _, .non => some (.dat (.bl true))
  | _, _ => none
theorem Vw.not_non {F H : Hp} {v : V} {d : D} (h : Vw G F H v d) (hd : d ≠ .non) : v ≠ .non := by
  intro e
  subst e
  rcases h with h | ⟨p, o, e, _⟩
  · cases h; exact hd rfl
  · cases e
theorem m_isn : OpM2 G (fun x y H Q => y = .non ∧ Q (.bl (decide (x = .non))) H) isnD := by
  intro F H σ ls vs ks v w x y k Q R h1 h2 hg q
  unfold isnD at hg
  split at hg
  · cases hg
    have := Vw.non R.ex h1
    subst this
    have := Vw.non R.ex h2
    subst this
    exact ⟨rfl, by simpa using q _ _ _ (R.pushDat (.bl true))⟩
  · rename_i hx
    cases hg
    have := Vw.non R.ex h2
    subst this
    have hn := h1.not_non (fun z => hx z)
    refine ⟨rfl, ?_⟩
    rw [decide_eq_false hn]
    exact q _ _ _ (R.pushDat (.bl false))
  · cases hg
theorem m_notn : OpM2 G (fun x y H Q => y = .non ∧ Q (.bl (!decide (x = .non))) H) notnD := by
  intro F H σ ls vs ks v w x y k Q R h1 h2 hg q
  unfold notnD at hg
  split at hg
  · cases hg
    have := Vw.non R.ex h1
    subst this
    have := Vw.non R.ex h2
    subst this
    exact ⟨rfl, by simpa using q _ _ _ (R.pushDat (.bl false))⟩
  · rename_i hx
    cases hg
    have := Vw.non R.ex h2
    subst this
    have hn := h1.not_non (fun z => hx z)
    refine ⟨rfl, ?_⟩
    rw [decide_eq_false hn]
    exact q _ _ _ (R.pushDat (.bl true))
  · cases hg
/-! ### isinstance -/
/-- the type's name of data that is no object of an own class -/
def tyD : D → Option String
  | .non => some "NoneType"
  | .bl _ => some "bool"
  | .int _ => some "int"
  | .str _ => some "str"
  | .lst _ => some "list"
  | .tup _ => some "tuple"
  | .dK _ => some "dict"
  | .dT _ => some "dict"
  | _ => none
theorem tyD_vw {F H : Hp} (x : Ex F H) {v : V} {d : D} {t : String} (h : Vw G F H v d) (e : tyD d = some t) : TyX G.K H v (.type t) := by
  cases d <;> first | (cases e; done) | cases e
  · rw [Vw.non x h]; exact .base .non
  · rw [Vw.bl x h]; exact .base (.bl _)
  · rw [Vw.int x h]; exact .base (.int _)
  · rw [Vw.str x h]; exact .base (.str _)
  · obtain ⟨a, xs, rfl, e, _⟩ := Vw.lst x h; exact .base (.lst e)
  · obtain ⟨a, xs, rfl, e, _⟩ := Vw.tup x h; exact .base (.tup e)
  · obtain ⟨a, xs, rfl, e, _⟩ := Vw.dK x h; exact .base (.dK e)
  · obtain ⟨a, xs, rfl, e, _⟩ := Vw.dT x h; exact .base (.dT e)
/-- what isinstance asks of an own class -/
structure InsOk (K : PySem.W.Frag) (C : Addr) : Prop where
  cl : Cls K C
  ha : PySem.W.findIn K (.ref C) "__class__" = some (some (.builtin "object.__class__"))
  hn : PySem.W.specialIn K (.builtin "object.__class__") "__get__" = some (some (.builtin "getset_descriptor.__get__"))
  htk : PySem.W.takesIn K (.builtin "object.__class__") = some true
  hm : PySem.W.mroIn K C (.type "object") = some true
/-- tb: of data of a built-in type; tc: by an own class's name -/
def isiD (tb : D → Option Bool) (tc : Str → Option Bool) (d : D) : Option Bool := match d with
  | .ins y _ => tc y
  | d => tb d
structure IsiOk (K : PySem.W.Frag) (mg : Str → Option Value) (u : Value) (tb : D → Option Bool) (tc : Str → Option Bool) : Prop where
  b : ∀ d b, tb d = some b → ∃ t, tyD d = some t ∧ PySem.W.kitOne K (.type t) u = some b
  c : ∀ y b, tc y = some b → ∃ C, mg y = some (.ref C) ∧ InsOk K C ∧ PySem.W.kitOne K (.ref C) u = some b
def isiM (tb : D → Option Bool) (tc : Str → Option Bool) (om : M) : M := fun ls => (om ls).bind fun k ls => match look ls k with
  | some d => (match isiD tb tc d with
    | some b => .ok (.dat (.bl b)) ls
    | none => .stk)
  | none => .stk
theorem isi_vw {F H : Hp} {σ : L2.St} {ls vs ks} {v c : V} {u : Value} {d : D} {b : Bool} {tb : D → Option Bool} {tc : Str → Option Bool} {Q : VK} (R : Rp G F H σ ls vs ks) (ok : IsiOk G.K G.mg u tb tc) (k : ClsV c u) (h : Vw G F H v d) (e : isiD tb tc d = some b) (q : Q (.bl b) H) : rIsi G.K [v, c] H Q := by
  have gen : tb d = some b → rIsi G.K [v, c] H Q := fun h0 => by
    obtain ⟨t, h1, h2⟩ := ok.b _ _ h0
    exact ⟨v, c, _, u, b, rfl, k, tyD_vw R.ex h h1, h2, q⟩
  cases d with
  | ins y gs =>
    obtain ⟨a, C, dx, fs, rfl, hm, ha, _⟩ := Vw.ins R.ex h
    obtain ⟨C', h1, h2, h3⟩ := ok.c y b e
    rw [h1] at hm
    cases hm
    exact ⟨_, c, _, u, b, rfl, k, .base (.ins ha h2.cl h2.ha h2.hn h2.htk h2.hm), h3, q⟩
  | _ => exact gen e
end
section
variable {X : Cx} {B : Base} {W : WX} {e o : Expr} {es : List Expr} {am : AM} {om vm im : M} {pos p apos cpos : Pos} {x name : Str} {id T : String} {tb : D → Option Bool} {tc : Str → Option Bool}
theorem e_ty {u : Str} {T : String} {up : Pos} (hmu : X.mg u = none) (hv : bootBuiltins u = some (.type T)) (hgu : Gl X u := by rfl) (hn : u ≠ "__name__" := by decide) (hdb : (u == ("__debug__" : Str)) = false := by decide) : L2.PE X (.Name u up) (tC (.ty T)) :=
  ⟨fun pins s σ H Q I h => ld_blt I hgu hmu hv ⟨.ty T, H, I, (show RelV (V.ty T) (Value.type T) from rfl), h⟩ hn hdb⟩
/-- isinstance(o, T), T a built-in type -/
theorem e_isB {u : Str} (ok : IsiOk X.K X.mg (.type T) tb tc) (ho : L2.PE X o (tM (cfg X B) W om)) (hm : X.mg "isinstance" = none) (hmu : X.mg u = none) (hv : bootBuiltins u = some (.type T)) {up : Pos} (hg : Gl X "isinstance" := by rfl) (hgu : Gl X u := by rfl)
    (he : starEach [o, .Name u up] X.env = (false, eval o X.env) :: starEach [.Name u up] X.env := by rfl) (he2 : starEach [.Name u up] X.env = (false, eval (.Name u up) X.env) :: starEach [] X.env := by rfl) (hpl : (backTo pos (starEach [.Name u up] X.env)).any (·.1) = false := by rfl)
    (hT : L2.PE X (.Name u up) (tC (.ty T))) :
    L2.PE X (.Call (.Name "isinstance" p) [o, .Name u up] [] pos) (tM (cfg X B) W (isiM tb tc om)) :=
  PE.imp (pe_callB call_isi hg hm PyProof.Rows.boot_isinstance (pa_cons ho (pa_cons hT pa_nil he2) he) (by decide) (by decide) he hpl) fun σ H Q h => by
    refine tM_bind h fun F ls vs ks v H' k R po => ?_
    cases e1 : look ls k with
    | none => simp only [e1, PostM] at po
    | some d =>
      cases e2 : isiD tb tc d with
      | none => simp only [e1, e2, PostM] at po
      | some b =>
        simp only [e1, e2] at po
        exact isi_vw R.pop ok (.ty T) (R.view0 e1) e2 (po _ _ _ (R.pop.pushDat (.bl b)))
theorem e_isO {u : Str} {C : Addr} (ok : IsiOk X.K X.mg (.ref C) tb tc) (ho : L2.PE X o (tM (cfg X B) W om)) (hm : X.mg "isinstance" = none) {up : Pos} (hg : Gl X "isinstance" := by rfl)
    (he : starEach [o, .Name u up] X.env = (false, eval o X.env) :: starEach [.Name u up] X.env := by rfl) (he2 : starEach [.Name u up] X.env = (false, eval (.Name u up) X.env) :: starEach [] X.env := by rfl) (hpl : (backTo pos (starEach [.Name u up] X.env)).any (·.1) = false := by rfl)
    (hT : L2.PE X (.Name u up) (tC (.ref C))) :
    L2.PE X (.Call (.Name "isinstance" p) [o, .Name u up] [] pos) (tM (cfg X B) W (isiM tb tc om)) :=
  PE.imp (pe_callB call_isi hg hm PyProof.Rows.boot_isinstance (pa_cons ho (pa_cons hT pa_nil he2) he) (by decide) (by decide) he hpl) fun σ H Q h => by
    refine tM_bind h fun F ls vs ks v H' k R po => ?_
    cases e1 : look ls k with
    | none => simp only [e1, PostM] at po
    | some d =>
      cases e2 : isiD tb tc d with
      | none => simp only [e1, e2, PostM] at po
      | some b =>
        simp only [e1, e2] at po
        exact isi_vw R.pop ok (.own C) (R.view0 e1) e2 (po _ _ _ (R.pop.pushDat (.bl b)))
/-! ### attributes -/
structure FldOk (K : PySem.W.Frag) (mg : Str → Option Value) (f : Str) (xs : List Str) : Prop where
  c : ∀ y ∈ xs, ∃ C, mg y = some (.ref C) ∧ Cls K C ∧ NoAttr K C f
def fldM (xs : List Str) (f : Str) (om : M) : M := fun ls => (om ls).bind fun k ls => match look ls k with
  | some (.ins y gs) => if y ∈ xs then (match gs.lookup f with
    | some d => .ok (.dat d) ls
    | none => .stk) else .stk
  | _ => .stk
theorem e_fld {xs : List Str} {f : Str} (ok : FldOk X.K X.mg f xs) (ho : L2.PE X o (tM (cfg X B) W om)) (hb : attributeBase o f X.env (eval o X.env) = eval o X.env := by rfl) : L2.PE X (.Attribute o f pos) (tM (cfg X B) W (fldM xs f om)) := PE.imp (pe_fld ho hb) fun σ H Q h => by
  refine tM_bind h fun F ls vs ks v H' k R po => ?_
  cases e1 : look ls k with
  | none => simp only [e1, PostM] at po
  | some d =>
    cases d with
    | ins y gs =>
      simp only [e1] at po
      split at po
      · rename_i hy
        obtain ⟨a, C, dx, fs, rfl, hm, ha, hf⟩ := Vw.ins R.ex (R.view0 e1)
        obtain ⟨C', h1, h2, h3⟩ := ok.c y hy
        obtain rfl : C' = C := by
          have z := h1.symm.trans hm
          cases z; rfl
        rcases ddf_lookup (y := f) hf with ⟨z, _⟩ | ⟨d, v, z1, z2, z3⟩
        · rw [z] at po; exact po.elim
        · rw [z1] at po
          exact ⟨a, _, dx, fs, v, rfl, ha, h2, h3, z2, po _ _ _ (R.pop.pushDat z3)⟩
      · exact po.elim
    | _ => simp only [e1, PostM] at po
/-- what is changed where it stands, at the local i -/
theorem Rp.mutAli {G : Cfg} {F H : Hp} {σ : L2.St} {ls : LS} {vs ws : List V} {ks as : List Slot} {v : V} {i : Nat} {d : D} {c : D → Slot} (hc : c = Slot.own ∨ c = Slot.par) (hl : ws.length = as.length) (R : Rp G F H σ ls (ws ++ v :: vs) (as ++ .ali i :: ks)) (hi : ls[i]? = some (c d)) :
    ∃ p o, v = .ref p ∧ H p = some o ∧ ObD G F o d ∧ ∀ o' d', ObD G F o' d' → Rp G F (upd H p o') σ (ls.set i (c d')) (ws ++ v :: vs) (as ++ .ali i :: ks) := by
  have hm : (v, Slot.ali i) ∈ (ws ++ v :: vs).zip (as ++ .ali i :: ks) := by
    rw [List.zip_append hl]
    exact List.mem_append_right _ (by simp)
  obtain ⟨s, a1, a2, a3⟩ := R.al v i hm
  rw [hi] at a2; cases a2
  obtain ⟨u, b1, b2⟩ := R.loc hi
  rw [a1] at b1; cases b1
  have key : ∃ p, v = .ref p ∧ OwnAt G F H p d := by
    rcases hc with rfl | rfl
    · obtain ⟨p, e, o⟩ := b2; cases e; exact ⟨p, rfl, o⟩
    · obtain ⟨p, e, o⟩ := b2; cases e; exact ⟨p, rfl, o⟩
  obtain ⟨p, rfl, _, _, o, h1, h2⟩ := key
  exact ⟨p, o, rfl, h1, h2, fun o' d' hb => R.mutLoc hc hi a1 hb⟩
def putFD (f : Str) (d : D) : List (Str × D) → List (Str × D)
  | [] => [(f, d)]
  | (g, x) :: r => if g = f then (g, d) :: r else (g, x) :: putFD f d r
theorem ddf_put {K : PySem.W.Frag} {mg : Str → Option Value} {F : Hp} {f : Str} {d : D} {v : V} (h : DD K mg F d v) : ∀ {gs : List (Str × D)} {fs : List (Str × V)}, DDf K mg F gs fs → DDf K mg F (putFD f d gs) (putF f v fs)
  | _, _, .nil => .cons h .nil
  | _, _, .cons (f := g) h1 r => by
    unfold putFD putF
    split
    · exact .cons h r
    · exact .cons h1 (ddf_put h r)
theorem ddf_len {K : PySem.W.Frag} {mg : Str → Option Value} {F : Hp} : ∀ {gs : List (Str × D)} {fs : List (Str × V)}, DDf K mg F gs fs → gs.length = fs.length
  | _, _, .nil => rfl
  | _, _, .cons _ r => by simp [ddf_len r]
/-- a local's content is changed -/
def chg (i : Nat) (g : D → Option D) (ls : LS) : Option LS := match ls[i]? with
  | some (.own d) => (g d).map fun d' => ls.set i (.own d')
  | some (.par d) => (g d).map fun d' => ls.set i (.par d')
  | _ => none
theorem chg_some {i : Nat} {g : D → Option D} {ls ls' : LS} (h : chg i g ls = some ls') : ∃ (c : D → Slot) (d d' : D), (c = Slot.own ∨ c = Slot.par) ∧ ls[i]? = some (c d) ∧ g d = some d' ∧ ls' = ls.set i (c d') := by
  unfold chg at h
  split at h
  · rename_i d hd
    cases e : g d with
    | none => rw [e] at h; cases h
    | some d' => rw [e] at h; cases h; exact ⟨.own, d, d', .inl rfl, hd, e, rfl⟩
  · rename_i d hd
    cases e : g d with
    | none => rw [e] at h; cases h
    | some d' => rw [e] at h; cases h; exact ⟨.par, d, d', .inr rfl, hd, e, rfl⟩
  · cases h
/-- o.f = v -/
def fldG (xs : List Str) (f : Str) (d : D) : D → Option D
  | .ins y gs => if y ∈ xs ∧ gs.length < 1000 then some (.ins y (putFD f d gs)) else none
  | _ => none
def setF (xs : List Str) (f : Str) (om vm : M) : SM := fun ls => (frzM vm ls).bindS fun k ls => match k with
  | .dat d => (om ls).bindS fun ko ls => (match ko with
    | .ali i => (match chg i (fldG xs f d) ls with
      | some ls => .nx ls
      | none => .stk)
    | _ => .stk)
  | _ => .stk
theorem s_setF {v : Expr} {xs : List Str} {f : Str} {pos' : Pos} (ok : FldOk X.K X.mg f xs) (ho : L2.PE X o (tM (cfg X B) W om)) (hv : L2.PE X v (tM (cfg X B) W vm)) (hs : swapsWith v (some (.Attribute o f pos')) pos.line X.env = pure false := by rfl) :
    L2.PS X (.Assign [.Attribute o f pos'] v pos) (tS (cfg X B) W (setF xs f om vm)) := PS.imp (ps_fld ho (e_frz hv) hs) fun D σ H h => by
  refine tS_bind h fun F ls vs ks v H' k na R po => ?_
  cases k with
  | dat d =>
    simp only at po
    refine ⟨F, ls, v :: vs, .dat d :: ks, R, ?_⟩
    cases e1 : om ls with
    | stk => simp only [e1, VM.R.bindS, PostS] at po
    | err x ls1 =>
      simp only [e1, VM.R.bindS] at po
      exact fun cls d F' H' r' er => po cls d σ F' H' r'.pop er
    | ok ko ls1 =>
      simp only [e1, VM.R.bindS] at po
      intro w F1 H1 R1
      cases ko with
      | ali i =>
        simp only at po
        cases e2 : chg i (fldG xs f d) ls1 with
        | none => simp only [e2, PostS] at po
        | some ls2 =>
          simp only [e2] at po
          obtain ⟨c, d0, d1, hc, hi, hg, rfl⟩ := chg_some e2
          obtain ⟨p, ob, rfl, h1, h2, mt⟩ := Rp.mutAli (ws := []) (as := []) hc rfl R1 hi
          unfold fldG at hg
          split at hg
          · rename_i y gs
            obtain ⟨⟨hy, hlen⟩, rfl⟩ := ite_some hg
            obtain ⟨C', z1, z2, z3⟩ := ok.c y hy
            cases ob with
            | ins C dx fs =>
              obtain ⟨q1, q2⟩ := h2
              obtain rfl : C' = C := by
                have z := z1.symm.trans q1
                cases z; rfl
              refine ⟨p, C', dx, fs, rfl, h1, z2, z3, by rw [← ddf_len q2]; exact hlen, ?_⟩
              have dv : DD X.K X.mg F1 d v := by
                obtain ⟨x, ex, dd⟩ := R1.pop.good.head
                cases ex; exact dd
              have R2 := mt (.ins C' dx (putF f v fs)) (.ins y (putFD f d gs)) ⟨z1, ddf_put dv q2⟩
              exact po _ _ _ (show Rp _ _ _ _ _ (V.ref p :: v :: vs) (Slot.ali i :: Slot.dat d :: ks) from R2).pop.pop
            | _ => exact h2.elim
          · cases hg
      | _ => simp only [PostS] at po
  | _ => simp only [PostS] at po
end
end VM

set_option Elab.async false
set_option linter.all false
set_option maxRecDepth 100000
set_option maxHeartbeats 2000000
namespace L2
open PySem PySem.Spec PyProof.Rows
/-! ### several except clauses, with a name or without -/
abbrev CLs := List (Option Nat × Value × (Addr → Value → Option Addr → TS))
def atNone (i : Nat) (D : Ends) : Ends := { nx := fun σ' H' => D.nx (σ'.set i none) H', rt := D.rt, bk := fun σ' H' => D.bk (σ'.set i none) H', ct := fun σ' H' => D.ct (σ'.set i none) H' }
def inSuite (io : Option Nat) (ts : TS) (a : Addr) (D : Ends) (σ : St) (H : Hp) : Prop := match io with
  | none => ts D σ H
  | some i => ts (atNone i D) (σ.set i (some (.ref a))) H
def wBoth (K : PySem.W.Frag) (Wout : WX) (D : Ends) : CLs → WX
  | [] => Wout
  | (io, c, ts) :: r => fun cls d σ H => ∃ b, PySem.W.exmOne K cls c = some b ∧ (b = true → ∀ a, H a = none → inSuite io (ts a cls d) a D σ H) ∧ (b = false → wBoth K Wout D r cls d σ H)
inductive HdsOkB (X : Cx) : List ExceptHandler → CLs → Prop
  | nil : HdsOkB X [] []
  | cons {x : Str} {c : Value} {ts : Addr → Value → Option Addr → TS} {b₀ : Stmt} {suite : List Stmt} {np pos' : Pos} {hds : List ExceptHandler} {l : CLs} (hc : Names X x c)
      (hsu : ∀ (a : Addr) (oe : Obj) (cls : Value) (d : Option Addr) (pn : List (Addr × Obj)), Zc cls d oe → (∃ vs, oe.data = .fields vs) → PSs (X.suite a ((a, oe) :: pn)) (b₀ :: suite) (ts a cls d)) (r : HdsOkB X hds l) :
      HdsOkB X (.ExceptHandler (some (.Name x np)) none (b₀ :: suite) pos' :: hds) ((none, c, ts) :: l)
  | as {x n : Str} {i : Nat} {c : Value} {ts : Addr → Value → Option Addr → TS} {b₀ : Stmt} {suite : List Stmt} {np pos' : Pos} {hds : List ExceptHandler} {l : CLs} (hc : Names X x c) (hi : X.N[i]? = some n) (hln : X.env.kindOf n = some .local)
      (hsu : ∀ (a : Addr) (oe : Obj) (cls : Value) (d : Option Addr) (pn : List (Addr × Obj)), Zc cls d oe → (∃ vs, oe.data = .fields vs) → PSs (X.suite a ((a, oe) :: pn)) (b₀ :: suite) (ts a cls d)) (r : HdsOkB X hds l) :
      HdsOkB X (.ExceptHandler (some (.Name x np)) (some n) (b₀ :: suite) pos' :: hds) ((some i, c, ts) :: l)
section
variable {X : Cx} {body : List Stmt} {h₀ : ExceptHandler} {hds : List ExceptHandler} {l : CLs} {pos : Pos} {tb : WX → TS} {Wout : WX}
theorem ps_try_both (hN : X.N.Nodup) (hs : X.stack = X.env :: X.outer) (hf : X.env.frame = some X.env.locals) (tk : Takes X Wout)
    (hb : ∀ (W : WX) (pn : List (Addr × Obj)) (xe : Value → Shared → Prop), Takes (X.tr pn xe) W → PassesOwn (model X.prog X.w) X.A X.env xe → PSs (X.tr pn xe) body (tb W))
    (hh : HdsOkB X (h₀ :: hds) l) : PS X (.Try body (h₀ :: hds) [] [] pos) (fun D σ H => tb (wBoth X.K Wout D l) D σ H) := by
  refine ⟨fun pins s σ H D I h => ?_⟩
  have ok := I.ok
  have hfr : X.A.frames = some (X.env :: X.outer) := by rw [ok.frames, hs]
  refine wpAny_Try_except ?_
  refine wpAny_mono ((hb (wBoth X.K Wout D l) (X.pn ++ pins) (fun e s₁ => wpAny (model X.prog X.w) X.A (noteFrame e X.env) (fun _ s₂ => wpAny (model X.prog X.w) X.A (setFlight e none) (fun _ s₃ =>
    wpAny (model X.prog X.w) X.A (handleBy e X.env (h₀ :: hds)) (SP X pins D) X.xe s₃) X.xe s₂) X.xe s₁) (fun u s' xx => ?_) PassesOwn.looking).run [] s σ H D (I.toTry _) h) (fun f s1 hsp => ?_) (fun e s1 he => he)
  · -- the catch
    obtain ⟨a, B, sI, pins', σ', H', cls, d, rfl, J', nb, up, sky, na, os, ag, w⟩ := xx
    have J : Inv X pins σ' H' sI := J'.ofTry ok
    have sky' : Sky B (X.env :: X.outer) a (Zc cls d) X.env.locals s'.heap := by rw [← hs]; exact sky
    show wpAny (model X.prog X.w) X.A (noteFrame (.ref a) X.env) _ _ _
    refine Sky.land Zc.steady hfr hf sky' fun h3 fl3 up3 => ?_
    have J3 : Inv X pins σ' H' { s' with heap := h3 } := J.landed nb fl3.1 (up.trans up3) os ag
    obtain ⟨oe3, vs3, he3, hz3, hd3⟩ := fl3.there
    have notFr : ∀ {h : Heap} {o : Obj} {vs : Array Value}, h.FunFrames B (X.env :: X.outer) → h.get? a = some o → o.data = .fields vs → a ∉ frs (X.env :: X.outer) := fun {h o vs} ff e dd hm => by
      obtain ⟨_, o', e', hnf⟩ := ff.mem hm
      rw [e] at e'; cases e'
      exact hnf _ dd
    have nfr := notFr fl3.2.2.1 he3 hd3
    have nL : a ≠ X.env.locals := fun z => nfr (List.mem_filterMap.mpr ⟨X.env, List.mem_cons_self, by rw [hf, z]⟩)
    have nF : a ∉ X.fs := fun hm => by
      obtain ⟨e, he, q⟩ := List.mem_filterMap.mp hm
      exact nfr (List.mem_filterMap.mpr ⟨e, List.mem_cons_of_mem _ he, q⟩)
    have S3 := J3.suite he3 hd3 na nL nF
    have LT : PySem.W.Looks (model X.prog X.w) h3 (typeOf (.ref a)) cls := fun A Q E s k q => wpAny_typeOf_ref (k _ _ he3) (by rw [hz3.1]; exact q)
    have test : ∀ {x : Str} {c : Value} {np : Pos} {Q : Value → Shared → Prop} {E : Value → Shared → Prop}, Names X x c → Q c { s' with heap := h3 } → wpAny (model X.prog X.w) (X.A.mark (some (.ref a))) (eval (.Name x np) X.env) Q E { s' with heap := h3 } := fun {x c np Q E} hc q => by
      obtain ⟨hg, hdbg, hm | ⟨hm, hv, hnn⟩⟩ := hc
      · exact ld_glob (X := X.suite a ((a, oe3) :: (X.pn ++ pins))) S3 hg hm q hdbg
      · exact ld_blt (X := X.suite a ((a, oe3) :: (X.pn ++ pins))) S3 hg hm hv q hnn hdbg
    have go : ∀ {hds' : List ExceptHandler} {l' : CLs}, HdsOkB X hds' l' → wBoth X.K Wout D l' cls d σ' H' →
        wpAny (model X.prog X.w) X.A (handleBy (.ref a) X.env hds') (SP X pins D) X.xe { s' with heap := h3 } := by
      intro hds' l' hk
      induction hk with
      | nil =>
        intro w
        refine wpAny_handleBy_nil ?_
        obtain ⟨k1, k2, k3, oe, vs, T, oT, ts', he, hz, hd, h1, hr⟩ := id fl3
        unfold PySem.passOn
        refine wpAny_bind (wpAny_field he hd h1 ?_)
        rw [if_neg (show ¬ ((Value.ref T == Value.none) = true) from by simp)]
        have fin : wpAny (model X.prog X.w) X.A (setFlight (.ref a) X.env.frame) (fun _ s4 => wpAny (model X.prog X.w) X.A (throw (.ref a) : Sem Flow) (SP X pins D) X.xe s4) X.xe { s' with heap := h3 } := by
          rw [hf]
          refine HandSPX.setFlight_upZ fl3 fun h4 hh4 up4 => wpAny_throw (tk _ _ ?_)
          exact ⟨a, B, sI, pins, σ', H', cls, d, rfl, J, nb, (up.trans up3).trans up4, .inr (.inr (by rw [hs]; exact hh4)), na, os, ag, w⟩
        first
          | exact wpAny_bind (wpAny_pure (wpAny_bind fin))
          | exact wpAny_bind fin
      | @cons x c ts b₀ suite np pos' hds2 l2 hc hsu r ih =>
        intro w
        obtain ⟨b, hb1, hyes, hno⟩ := w
        refine wpAny_handleBy_cons (codeAny_handlers_test ?_) (by intro q; cases q)
        have LM := PySem.W.exm_one (M := model X.prog X.w) (J3.kIn) LT hb1
        refine test hc (LM.here ?_)
        cases b with
        | true =>
          refine codeAny_handlers_suite ?_
          refine HandSPX.lands_againZ fl3 fun h4 fl4 up4 => ?_
          have J4 : Inv X pins σ' H' { s' with heap := h4 } := J.landed nb fl4.1 ((up.trans up3).trans up4) os ag
          obtain ⟨oe4, vs4, he4, hz4, hd4⟩ := fl4.there
          have S4 := J4.suite he4 hd4 na nL nF
          refine wpAny_mono ((hsu a oe4 cls d (X.pn ++ pins) hz4 ⟨_, hd4⟩).run [] _ _ H' _ S4 (hyes rfl a na)) (fun f s6 hsp => ?_) (fun _ _ z => False.elim z)
          cases f with
          | next =>
            obtain ⟨σ6, H6, S6, q6⟩ := hsp
            exact ⟨_, _, S6.unsuite ok, q6⟩
          | brk =>
            obtain ⟨σ6, H6, S6, q6⟩ := hsp
            exact ⟨_, _, S6.unsuite ok, q6⟩
          | cont =>
            obtain ⟨σ6, H6, S6, q6⟩ := hsp
            exact ⟨_, _, S6.unsuite ok, q6⟩
          | ret u =>
            obtain ⟨v6, σ6, H6, S6, r6, q6⟩ := hsp
            exact ⟨_, _, _, S6.unsuite ok, r6, q6⟩
        | false =>
          show wpAny _ X.A (handleBy (.ref a) X.env hds2) _ _ _
          exact ih (hno rfl)
      | @as x n i c ts b₀ suite np pos' hds2 l2 hc hi hln hsu r ih =>
        intro w
        obtain ⟨b, hb1, hyes, hno⟩ := w
        have hloc : Loc X.env.scope n := .inl hln
        refine wpAny_handleBy_cons (codeAny_handlers_test ?_) (by intro q; cases q)
        have LM := PySem.W.exm_one (M := model X.prog X.w) (J3.kIn) LT hb1
        refine test hc (LM.here ?_)
        cases b with
        | true =>
          refine codeAny_handlers_suite_as ?_
          refine HandSPX.lands_againZ fl3 fun h4 fl4 up4 => ?_
          have J4 : Inv X pins σ' H' { s' with heap := h4 } := J.landed nb fl4.1 ((up.trans up3).trans up4) os ag
          obtain ⟨oe4, vs4, he4, hz4, hd4⟩ := fl4.there
          have S4 := J4.suite he4 hd4 na nL nF
          refine store_ok (X := X.suite a ((a, oe4) :: (X.pn ++ pins))) (v := .ref a) S4 hN hi hloc rfl (fun s5 S5 => ?_) (.inr hln)
          refine wpAny_mono ((hsu a oe4 cls d (X.pn ++ pins) hz4 ⟨_, hd4⟩).run [] s5 _ H' _ S5 (hyes rfl a na)) (fun f s6 hsp => ?_) (fun _ _ z => False.elim z)
          have end_ : ∀ {σ6 : St} {H6 : Hp} {Q : Shared → Prop}, Inv (X.suite a ((a, oe4) :: (X.pn ++ pins))) [] σ6 H6 s6 → (∀ s7, Inv X pins (σ6.set i none) H6 s7 → Q s7) →
              wpAny (model X.prog X.w) X.A (do bindName X.env n .none; unbindBehindTheSuite X.env n pos') (fun _ s7 => Q s7) X.xe s6 := fun {σ6 H6 Q} S6 hq => gone_ok (S6.unsuite ok) hN hi hln hq
          cases f with
          | next =>
            obtain ⟨σ6, H6, S6, q6⟩ := hsp
            exact end_ S6 fun s7 J7 => ⟨_, _, J7, q6⟩
          | brk =>
            obtain ⟨σ6, H6, S6, q6⟩ := hsp
            exact end_ S6 fun s7 J7 => ⟨_, _, J7, q6⟩
          | cont =>
            obtain ⟨σ6, H6, S6, q6⟩ := hsp
            exact end_ S6 fun s7 J7 => ⟨_, _, J7, q6⟩
          | ret u =>
            obtain ⟨v6, σ6, H6, S6, r6, q6⟩ := hsp
            exact end_ S6 fun s7 J7 => ⟨_, _, _, J7, r6, q6⟩
        | false =>
          show wpAny _ X.A (handleBy (.ref a) X.env hds2) _ _ _
          exact ih (hno rfl)
    exact go hh w
  · cases f with
    | next =>
      obtain ⟨σ', H', J', q⟩ := hsp
      exact wpAny_execs_nil ⟨σ', H', J'.ofTry ok, q⟩
    | brk =>
      obtain ⟨σ', H', J', q⟩ := hsp
      exact ⟨σ', H', J'.ofTry ok, q⟩
    | cont =>
      obtain ⟨σ', H', J', q⟩ := hsp
      exact ⟨σ', H', J'.ofTry ok, q⟩
    | ret u =>
      obtain ⟨v, σ', H', J', r, q⟩ := hsp
      exact ⟨v, σ', H', J'.ofTry ok, r, q⟩
/-- X(), X an own exception class without an __init__ -/
theorem pmk_own0 {C : Addr} {bmB : List Value} {Bn newId initId : String} {x : Str} {p pos : Pos} (F : ExcBaseFacts Bn newId initId bmB) (q : PySem.W.excIn X.K C bmB newId = true) (gC : X.mg x = some (.ref C)) (kC : PySem.W.keepIn X.K (.ref C) = true) (r : Raises X (.ref C)) (hg : Gl X x)
    (hdb : (x == ("__debug__" : Str)) = false := by decide) : PMk X (.Call (.Name x p) [] [] pos) (fun _ H Q => Q (.ref C) none H) := by
  intro pins s σ H Q I h
  refine wpAny_Call_Name_kw (ld_glob I hg gC ?_ hdb)
  refine PySem.W.callWith_K0 (first := []) I.kIn kC ?_
  show wpAny _ _ (call (.ref C) []) _ _ _
  obtain ⟨bm, N, nm, qn, bs, hdct, sn, sub, ab, col, dd, k0, k1, k2, k3, k5, mN, hC, hN, hni, T⟩ := exc_obj I.kIn q
  refine wpAny_call_exc_subT F T hC hN hni (fun h' e hm => ?_) (Nat.zero_le _)
  exact mk_of I hm r h (I.hok.gone hm.new)
end
end L2

set_option Elab.async false
set_option linter.all false
set_option maxRecDepth 100000
set_option maxHeartbeats 2000000
namespace VM
open PySem L2

/-! ### an exception class with one field -/
def spX1 (C : Addr) (f : Str) : Sp := fun vs H Q E => ∃ a y, vs = [V.ref a, y] ∧ H a = some (exo a C none) ∧ ∀ dx, H dx = none → dx ≠ a → Q .non (upd (upd H dx (exd dx [(f, y)])) a (exo a C (some dx)))
def spX2 (C : Addr) (f g : Str) : Sp := fun vs H Q E => ∃ a y z, vs = [V.ref a, y, z] ∧ H a = some (exo a C none) ∧ ∀ dx, H dx = none → dx ≠ a →
  Q .non (upd (upd (upd H dx (exd dx [(f, y)])) a (exo a C (some dx))) dx (exd dx [(g, z), (f, y)]))
section
variable {P : Program} {w : World} {K : PySem.W.Frag} {mg : Str → Option Value} {base : Heap} {CX : CXT}
theorem xinit1 {x qual f s p : Str} {st : Stmt} {C fI : Addr} {fd : FuncData} {pos p1 p2 p3 : Pos} (F : L2.Fun K x qual st fI fd) (S : FnScope [s, p] [s, p] (defScope st)) (T : OexC K C) (hno : PySem.W.findIn K (.ref C) f = some none)
    (hbd : defBody st = [.Assign [.Attribute (.Name s p1) f p2] (.Name p p3) pos])
    (h1 : (defScope st).names.lookup s = some .local := by rfl) (h2 : (defScope st).names.lookup p = some .local := by rfl)
    (hs : ∀ env : Env, swapsWith (.Name p p3) (some (.Attribute (.Name s p1) f p2)) pos.line env = pure false := by intro _; rfl)
    (d1 : (s == ("__debug__" : Str)) = false := by decide) (d2 : (p == ("__debug__" : Str)) = false := by decide) (c1 : (s == ("__classdict__" : Str)) = false := by decide) (c2 : (p == ("__classdict__" : Str)) = false := by decide) :
    FnOk P w K mg base (L2.CX P w) 1 fI fd [s, p] (spX1 C f) := by
  refine F.okX (sp := spX1 C f) S (fun vs H Q E ⟨a, y, e, _⟩ => by rw [e]; rfl) (fun cdv A outer s0 H vs Q E hr h => ?_)
  obtain ⟨a, y, rfl, ea, q⟩ := h
  rw [hbd]
  refine ⟨_, pss_one (ps_ost (pe_var (i := 0) rfl (.inl h1) d1 c1) (pe_var (i := 1) rfl (.inl h2) d2 c2) (hs _)), ?_⟩
  exact ⟨y, rfl, .ref a, rfl, a, C, rfl, T, hno, .inl ⟨ea, fun dx n ne => q dx n ne⟩⟩
theorem xinit2 {x qual f g s p r : Str} {st : Stmt} {C fI : Addr} {fd : FuncData} {pos p1 p2 p3 pos' q1 q2 q3 : Pos} (F : L2.Fun K x qual st fI fd) (S : FnScope [s, p, r] [s, p, r] (defScope st)) (T : OexC K C) (hno : PySem.W.findIn K (.ref C) f = some none) (hno2 : PySem.W.findIn K (.ref C) g = some none)
    (hbd : defBody st = [.Assign [.Attribute (.Name s p1) f p2] (.Name p p3) pos, .Assign [.Attribute (.Name s q1) g q2] (.Name r q3) pos'])
    (h1 : (defScope st).names.lookup s = some .local := by rfl) (h2 : (defScope st).names.lookup p = some .local := by rfl) (h3 : (defScope st).names.lookup r = some .local := by rfl)
    (hs : ∀ env : Env, swapsWith (.Name p p3) (some (.Attribute (.Name s p1) f p2)) pos.line env = pure false := by intro _; rfl)
    (hs2 : ∀ env : Env, swapsWith (.Name r q3) (some (.Attribute (.Name s q1) g q2)) pos'.line env = pure false := by intro _; rfl)
    (d1 : (s == ("__debug__" : Str)) = false := by decide) (d2 : (p == ("__debug__" : Str)) = false := by decide) (d3 : (r == ("__debug__" : Str)) = false := by decide) (c1 : (s == ("__classdict__" : Str)) = false := by decide) (c2 : (p == ("__classdict__" : Str)) = false := by decide) (c3 : (r == ("__classdict__" : Str)) = false := by decide) :
    FnOk P w K mg base (L2.CX P w) 1 fI fd [s, p, r] (spX2 C f g) := by
  refine F.okX (sp := spX2 C f g) S (fun vs H Q E ⟨a, y, z, e, _⟩ => by rw [e]; rfl) (fun cdv A outer s0 H vs Q E hr h => ?_)
  obtain ⟨a, y, z, rfl, ea, q⟩ := h
  rw [hbd]
  refine ⟨_, pss_cons (ps_ost (pe_var (i := 0) rfl (.inl h1) d1 c1) (pe_var (i := 1) rfl (.inl h2) d2 c2) (hs _)) (pss_one (ps_ost (pe_var (i := 0) rfl (.inl h1) d1 c1) (pe_var (i := 2) rfl (.inl h3) d3 c3) (hs2 _))), ?_⟩
  refine ⟨y, rfl, .ref a, rfl, a, C, rfl, T, hno, .inl ⟨ea, fun dx n ne => ?_⟩⟩
  refine ⟨z, rfl, .ref a, rfl, a, C, rfl, T, hno2, .inr ⟨dx, [(f, y)], upd_same, ?_, by show 1 ≤ 900; omega, q dx n ne⟩⟩
  rw [upd_ne ne]; exact upd_same
end

/-! ### raise -/
def raise0 (c : Str) : SM := fun ls => .err ⟨c, []⟩ ls
def raise1 (c f : Str) (am : AM) : SM := fun ls => match am ls with
  | .ok as ls => (match as with
    | [.dat d] => .err ⟨c, [(f, d)]⟩ ls
    | _ => .stk)
  | .err x ls => .err x ls
  | .stk => .stk
def raise2 (c f g : Str) (am : AM) : SM := fun ls => match am ls with
  | .ok as ls => (match as with
    | [.dat d, .dat d'] => .err ⟨c, [(g, d'), (f, d)]⟩ ls
    | _ => .stk)
  | .err x ls => .err x ls
  | .stk => .stk
section
variable {X : Cx} {B : Base} {W : WX} {e : Expr} {es : List Expr} {am : AM} {pos p pos' : Pos} {x : Str} {C fI : Addr} {k : Nat} {fd : FuncData} {ps : List Str}
theorem s_raise0 {bmB : List Value} {Bn newId initId : String} (tk : Takes X W) (F : ExcBaseFacts Bn newId initId bmB) (q : PySem.W.excIn X.K C bmB newId = true) (gC : X.mg x = some (.ref C)) (kC : PySem.W.keepIn X.K (.ref C) = true) (r : Raises X (.ref C)) (hc : X.calm = true := by rfl) (hg : Gl X x := by rfl)
    (hdb : (x == ("__debug__" : Str)) = false := by decide) : L2.PS X (.Raise (some (.Call (.Name x p) [] [] pos)) none pos') (tS (cfg X B) W (raise0 x)) := PS.imp (ps_raise hc tk (pmk_own0 F q gC kC r hg hdb)) fun D σ H h => by
  obtain ⟨F, ls, vs, ks, na, R, po⟩ := h
  exact po (.ref C) none σ F H R ⟨gC, .inl ⟨rfl, rfl⟩⟩
theorem upd_back {H : Hp} {a dx : Addr} {o o' u : HO} (ha : H a = none) (ne : dx ≠ a) : upd (del (upd (upd (upd H a u) dx o) a o') a) dx (.xd fs) = upd H dx (.xd fs) := by
  funext b
  by_cases h1 : b = dx
  · subst h1; rw [upd_same, upd_same]
  · rw [upd_ne h1, upd_ne h1]
    by_cases h2 : b = a
    · subst h2; rw [del_same, ha]
    · rw [del_ne h2, upd_ne h2, upd_ne h1, upd_ne h2]
theorem upd_back2 {H : Hp} {a dx : Addr} {o o' o2 u : HO} (ha : H a = none) (ne : dx ≠ a) : upd (del (upd (upd (upd (upd H a u) dx o) a o') dx o2) a) dx (.xd fs) = upd H dx (.xd fs) := by
  funext b
  by_cases h1 : b = dx
  · subst h1; rw [upd_same, upd_same]
  · rw [upd_ne h1, upd_ne h1]
    by_cases h2 : b = a
    · subst h2; rw [del_same, ha]
    · rw [del_ne h2, upd_ne h1, upd_ne h2, upd_ne h1, upd_ne h2]
theorem s_raise1 {f : Str} (tk : Takes X W) (T : OexC X.K C) (iC : PySem.W.findIn X.K (.ref C) "__init__" = some (some (.ref fI))) (tI : PySem.W.typeIn X.K (.ref fI) = some (.type "function"))
    (F1 : FnOk X.prog X.w X.K X.mg X.base (L2.CX X.prog X.w) k fI fd ps (spX1 C f)) (hr : Room (k + 1) X.A) (hb : Binds X.K fd ps []) (hm : X.mg x = some (.ref C)) (ha : L2.PA X (e :: es) (tA (cfg X B) W am)) (hc : X.calm = true := by rfl) (hg : Gl X x := by rfl)
    (hdb : (x == ("__debug__" : Str)) = false := by decide) (he : starEach (e :: es) X.env = (false, eval e X.env) :: starEach es X.env := by rfl) (hpl : (backTo pos (starEach es X.env)).any (·.1) = false := by rfl) :
    L2.PS X (.Raise (some (.Call (.Name x p) (e :: es) [] pos)) none pos') (tS (cfg X B) W (raise1 x f am)) := PS.imp (ps_raise hc tk (pmk_oex T iC tI F1 hr hb .nil passL hg hm ha hdb he hpl)) fun D σ H h => by
  obtain ⟨F, ls, vs, ks, na, R, po⟩ := h
  refine ⟨F, ls, vs, ks, R, ?_⟩
  cases e1 : am ls with
  | stk => simp only [raise1, e1, PostS] at po
  | err y ls1 =>
    simp only [raise1, e1] at po
    exact fun cls d F' H' r' er => po cls d σ F' H' r' er
  | ok as ls1 =>
    simp only [raise1, e1] at po
    intro ws F1 H1 hl R1
    split at po
    · rename_i d
      match ws, hl with
      | [y], _ =>
        obtain ⟨y', ey, dy⟩ := R1.good.head
        cases ey
        refine ⟨by show 1 ≤ 1000; omega, fun a ha => ?_⟩
        refine ⟨a, y, rfl, upd_same, fun dx n ne => ⟨rfl, dx, [(f, y)], upd_same, by rw [upd_ne ne]; exact upd_same, by rw [upd_ne ne] at n; exact n, ?_⟩⟩
        rw [upd_back ha ne]
        rw [upd_ne ne] at n
        have R2 := R1.pop.frzNew (o := .xd [(f, y)]) n
        refine po (.ref C) (some dx) σ _ _ R2 ⟨hm, .inr ⟨dx, [(f, y)], rfl, upd_same, .cons (dy.mono (Ex.upd (R1.fresh n).2)) .nil⟩⟩
    · exact po.elim
theorem s_raise2 {f g : Str} (tk : Takes X W) (T : OexC X.K C) (iC : PySem.W.findIn X.K (.ref C) "__init__" = some (some (.ref fI))) (tI : PySem.W.typeIn X.K (.ref fI) = some (.type "function"))
    (F1 : FnOk X.prog X.w X.K X.mg X.base (L2.CX X.prog X.w) k fI fd ps (spX2 C f g)) (hr : Room (k + 1) X.A) (hb : Binds X.K fd ps []) (hm : X.mg x = some (.ref C)) (ha : L2.PA X (e :: es) (tA (cfg X B) W am)) (hc : X.calm = true := by rfl) (hg : Gl X x := by rfl)
    (hdb : (x == ("__debug__" : Str)) = false := by decide) (he : starEach (e :: es) X.env = (false, eval e X.env) :: starEach es X.env := by rfl) (hpl : (backTo pos (starEach es X.env)).any (·.1) = false := by rfl) :
    L2.PS X (.Raise (some (.Call (.Name x p) (e :: es) [] pos)) none pos') (tS (cfg X B) W (raise2 x f g am)) := PS.imp (ps_raise hc tk (pmk_oex T iC tI F1 hr hb .nil passL hg hm ha hdb he hpl)) fun D σ H h => by
  obtain ⟨F, ls, vs, ks, na, R, po⟩ := h
  refine ⟨F, ls, vs, ks, R, ?_⟩
  cases e1 : am ls with
  | stk => simp only [raise2, e1, PostS] at po
  | err y ls1 =>
    simp only [raise2, e1] at po
    exact fun cls d F' H' r' er => po cls d σ F' H' r' er
  | ok as ls1 =>
    simp only [raise2, e1] at po
    intro ws F1 H1 hl R1
    split at po
    · rename_i d d'
      match ws, hl with
      | [y, z], _ =>
        obtain ⟨y', ey, dy⟩ := R1.good.head
        cases ey
        obtain ⟨z', ez, dz⟩ := R1.pop.good.head
        cases ez
        refine ⟨by show 2 ≤ 1000; omega, fun a ha => ?_⟩
        refine ⟨a, y, z, rfl, upd_same, fun dx n ne => ⟨rfl, dx, [(g, z), (f, y)], by rw [upd_ne (Ne.symm ne)]; exact upd_same, upd_same, by rw [upd_ne ne] at n; exact n, ?_⟩⟩
        rw [upd_back2 ha ne]
        rw [upd_ne ne] at n
        have R2 := R1.pop.pop.frzNew (o := .xd [(g, z), (f, y)]) n
        have x := Ex.upd (o := .xd [(g, z), (f, y)]) (R1.fresh n).2
        refine po (.ref C) (some dx) σ _ _ R2 ⟨hm, .inr ⟨dx, [(g, z), (f, y)], rfl, upd_same, .cons (dz.mono x) (.cons (dy.mono x) .nil)⟩⟩
    · exact po.elim
end

/-! ### try -/
structure XFact (K : PySem.W.Frag) (mg : Str → Option Value) (B : Base) (io : Option Nat) (a : Addr) (cls : Value) (d : Option Addr) (x : Exn) : Prop where
  name : mg x.name = some cls
  at_ : ∀ i, io = some i → B.P i = some (some (.ref a))
  er : (d = none ∧ x.fs = []) ∨ ∃ dd fs, d = some dd ∧ B.F dd = some (.xd fs) ∧ DDf K mg B.F x.fs fs
structure Cl where
  ct : Str → Option Bool
  io : Option Nat
  h : Exn → SM
def unAs (i : Nat) (r : S) : S := match r with
  | .nx ls => .nx (ls.set i .emp)
  | .brk ls => .brk (ls.set i .emp)
  | .cnt ls => .cnt (ls.set i .emp)
  | .ret k ls => (match k with
    | .ali j => if j = i then .stk else .ret (.ali j) (ls.set i .emp)
    | k => .ret k (ls.set i .emp))
  | _ => .stk
def catchL : List Cl → Exn → LS → S
  | [], x, ls => .err x ls
  | c :: r, x, ls => match c.ct x.name with
    | some true => (match c.io with
      | none => (match c.h x ls with
        | .err _ _ => .stk
        | r => r)
      | some i => unAs i (c.h x (ls.set i (.ali 0))))
    | some false => catchL r x ls
    | none => .stk
def tryM (b : SM) (cl : List Cl) : SM := fun ls => match b ls with
  | .err x ls => catchL cl x ls
  | r => r
def tSuite (K : PySem.W.Frag) (mg : Str → Option Value) (c : Cl) : Addr → Value → Option Addr → TS := fun a cls d D σ H => ∃ x B, XFact K mg B c.io a cls d x ∧ tS ⟨K, mg, B⟩ WF (c.h x) D σ H
/-- the clauses -/
structure CtOk (K : PySem.W.Frag) (mg : Str → Option Value) (ct : Str → Option Bool) (c : Value) : Prop where
  h : ∀ n b cls, ct n = some b → mg n = some cls → PySem.W.exmOne K cls c = some b
inductive CtsOk (K : PySem.W.Frag) (mg : Str → Option Value) : List (Cl × Value) → Prop
  | nil : CtsOk K mg []
  | cons {c : Cl} {v : Value} {l : List (Cl × Value)} : CtOk K mg c.ct v → CtsOk K mg l → CtsOk K mg ((c, v) :: l)
def clTS (K : PySem.W.Frag) (mg : Str → Option Value) (l : List (Cl × Value)) : CLs := l.map fun p => (p.1.io, p.2, tSuite K mg p.1)
section
variable {X : Cx} {B : Base} {W : WX} {sa : SM} {sts : List Stmt} {pos : Pos} {h₀ : ExceptHandler} {hds : List ExceptHandler} {l : List (Cl × Value)}
theorem Rp.rebase {G : Cfg} {F F1 H H1 : Hp} {σ σ1 : L2.St} {ls ls1 : LS} {vs ks} {P : Nat → Option (Option V)} {vs1 ks1} (R0 : Rp G F H σ ls vs ks) (R : Rp ⟨G.K, G.mg, ⟨F, G.B.H, G.B.W, P⟩⟩ F1 H1 σ1 ls1 vs1 ks1)
    (hp : ∀ (i : Nat) (d : D), (ls1[i]? = some (.par d) ∨ ls1[i]? = some (.pdt d) ∨ ls1[i]? = some (.ali 0) ∨ ∃ t, ls1[i]? = some (.ptr t)) → P i = G.B.P i) : Rp G F1 H1 σ1 ls1 vs1 ks1 := by
  refine ⟨R.ex, R0.ex0.trans R.ex0, R.len, R.klen, ⟨fun n e he => ?_, R.good.nd⟩, R.al, fun i d hd => ?_, R.b1, R.b2, fun b z => ?_⟩
  · exact EnOk.reC (K := G.K) (mg := G.mg) (F1 := G.B.F) (P' := G.B.P) (R.good.all n e he)
  · obtain ⟨v, h1, h2⟩ := R.pin i d hd
    exact ⟨v, by rw [← hp i d hd]; exact h1, h2⟩
  · rcases R.b3 b z with y | y | y
    · exact .inl y
    · exact (R0.b3 b y).imp (fun ⟨xs, q⟩ => ⟨xs, R.ex0 _ _ q⟩) id
    · exact .inr (.inr y)
theorem Rp.intobase {G : Cfg} {F H : Hp} {σ : L2.St} {ls : LS} {vs ks} {P : Nat → Option (Option V)} (R : Rp G F H σ ls vs ks) (hp : ∀ (i : Nat) (d : D), (ls[i]? = some (.par d) ∨ ls[i]? = some (.pdt d) ∨ ls[i]? = some (.ali 0) ∨ ∃ t, ls[i]? = some (.ptr t)) → ∃ v, P i = some v ∧ σ[i]? = some v) :
    Rp ⟨G.K, G.mg, ⟨F, G.B.H, G.B.W, P⟩⟩ F H σ ls vs ks := by
  refine ⟨R.ex, Ex.rfl, R.len, R.klen, ⟨fun n e he => ?_, R.good.nd⟩, R.al, hp, R.b1, R.b2, fun b z => .inr (.inl z)⟩
  exact EnOk.reC (K := G.K) (mg := G.mg) (F0 := G.B.F) (P := G.B.P) (R.good.all n e he)
theorem catch_ok {G : Cfg} {D : Ends} {vs ks} (na : noAli ks) {x : Exn} : ∀ {l : List (Cl × Value)} {ls1 : LS}, CtsOk G.K G.mg l → PostS G W vs ks (catchL (l.map (·.1)) x ls1) D →
    ∀ cls d σ' F' H', Rp G F' H' σ' ls1 vs ks → ErrRel G F' cls d x → wBoth G.K W D (clTS G.K G.mg l) cls d σ' H'
  | [], ls1, _, po => fun cls d σ' F' H' R er => po cls d σ' F' H' R er
  | (c, v) :: l, ls1, .cons h1 h2, po => fun cls d σ' F' H' R er => by
    cases e : c.ct x.name with
    | none => simp only [List.map_cons, catchL, e, PostS] at po
    | some b =>
      refine ⟨b, h1.h _ _ _ e er.1, fun hb a ha => ?_, fun hb => ?_⟩
      · subst hb
        simp only [List.map_cons, catchL, e] at po
        cases hio : c.io with
        | none =>
          simp only [hio] at po
          show inSuite none _ a D σ' H'
          refine ⟨x, ⟨F', G.B.H, G.B.W, G.B.P⟩, ⟨er.1, fun i z => (by rw [hio] at z; cases z), er.2⟩, F', ls1, vs, ks, na, R.intobase (fun i d hd => R.pin i d hd), ?_⟩
          have back : ∀ {F1 H1 : Hp} {σ1 : L2.St} {ls2 : LS} {vs1 ks1}, Rp ⟨G.K, G.mg, ⟨F', G.B.H, G.B.W, G.B.P⟩⟩ F1 H1 σ1 ls2 vs1 ks1 → Rp G F1 H1 σ1 ls2 vs1 ks1 := fun R1 => R.rebase R1 fun i d _ => rfl
          cases e2 : c.h x ls1 with
          | nx ls2 => simp only [e2] at po; exact fun σ2 F2 H2 R2 => po σ2 F2 H2 (back R2)
          | brk ls2 => simp only [e2] at po; exact fun σ2 F2 H2 R2 => po σ2 F2 H2 (back R2)
          | cnt ls2 => simp only [e2] at po; exact fun σ2 F2 H2 R2 => po σ2 F2 H2 (back R2)
          | ret k ls2 => simp only [e2] at po; exact fun v σ2 F2 H2 R2 => po v σ2 F2 H2 (back R2)
          | err y ls2 => simp only [e2, PostS] at po
          | stk => simp only [e2, PostS] at po
        | some i =>
          simp only [hio] at po
          show inSuite (some i) _ a D σ' H'
          refine ⟨x, ⟨F', G.B.H, G.B.W, fun j => if j = i then some (some (.ref a)) else G.B.P j⟩, ⟨er.1, fun i' z => (by rw [hio] at z; cases z; exact if_pos rfl), er.2⟩, F', ls1.set i (.ali 0), vs, ks, na, ?_, ?_⟩
          · have R1 : Rp ⟨G.K, G.mg, ⟨F', G.B.H, G.B.W, G.B.P⟩⟩ F' H' (σ'.set i none) (ls1.set i .emp) vs ks := (R.setNone (i := i) (na i)).intobase (fun i d hd => (R.setNone (na _)).pin i d hd)
            refine ⟨R1.ex, R1.ex0, by simp [R.len], R1.klen, ⟨fun n e' he => ?_, fun m n e1 e2 p q1 q2 o1 o2 => ?_⟩, fun w i' hj => absurd hj na.zip, fun j dd hd => ?_, R1.b1, R1.b2, R1.b3⟩
            · rw [ent_set R.klen] at he
              rw [List.getElem?_set] at he
              split at he
              · split at he
                · cases he; trivial
                · cases he
              · exact EnOk.reC (K := G.K) (mg := G.mg) (F0 := G.B.F) (P := G.B.P) (R.good.all n e' he)
            · have g := (R.good.set (n := vs.length + i) (e := (some (.ref a), Slot.ali 0)) trivial fun q hq => by cases hq)
              rw [ent_set R.klen] at q1 q2
              exact g.nd m n e1 e2 p q1 q2 o1 o2
            · by_cases hj : j = i
              · subst hj
                have hlt : j < ls1.length := by
                  rcases hd with z | z | z | ⟨_, z⟩ <;> (have := (List.getElem?_eq_some_iff.mp z).1; simpa using this)
                exact ⟨_, if_pos rfl, by rw [List.getElem?_set_self (by rw [R.len]; exact hlt)]⟩
              · rw [List.getElem?_set_ne (Ne.symm hj)] at hd
                obtain ⟨v, p1, p2⟩ := R.pin j dd hd
                exact ⟨v, by show (if j = i then _ else _) = _; rw [if_neg hj]; exact p1, by rw [List.getElem?_set_ne (Ne.symm hj)]; exact p2⟩
          · have back : ∀ {F1 H1 : Hp} {σ1 : L2.St} {ls2 : LS}, Rp ⟨G.K, G.mg, ⟨F', G.B.H, G.B.W, fun j => if j = i then some (some (.ref a)) else G.B.P j⟩⟩ F1 H1 σ1 ls2 vs ks → Rp G F1 H1 (σ1.set i none) (ls2.set i .emp) vs ks := fun {F1 H1 σ1 ls2} R1 => by
              refine R.rebase (R1.setNone (na i)) fun j dd hd => ?_
              by_cases hj : j = i
              · subst hj
                exfalso
                rw [List.getElem?_set] at hd
                simp only [if_true] at hd
                split at hd <;> rcases hd with z | z | z | ⟨_, z⟩ <;> cases z
              · exact if_neg hj
            cases e2 : c.h x (ls1.set i (.ali 0)) with
            | nx ls2 => simp only [e2, unAs] at po; exact fun σ2 F2 H2 R2 => po _ F2 H2 (back R2)
            | brk ls2 => simp only [e2, unAs] at po; exact fun σ2 F2 H2 R2 => po _ F2 H2 (back R2)
            | cnt ls2 => simp only [e2, unAs] at po; exact fun σ2 F2 H2 R2 => po _ F2 H2 (back R2)
            | ret k ls2 =>
              have back2 : ∀ {k' : Slot}, (∀ j, k' = .ali j → j ≠ i) → PostS G W vs ks (.ret k' (ls2.set i .emp)) D → ∀ v σ2 F2 H2, Rp ⟨G.K, G.mg, ⟨F', G.B.H, G.B.W, fun j => if j = i then some (some (.ref a)) else G.B.P j⟩⟩ F2 H2 σ2 ls2 (v :: vs) (k' :: ks) → D.rt v H2 := fun {k'} hk po v σ2 F2 H2 R2 => by
                have hn : Slot.ali i ∉ k' :: ks := fun hm => by
                  rcases List.mem_cons.mp hm with z | z
                  · exact hk i z.symm rfl
                  · exact na i z
                refine po v (σ2.set i none) F2 H2 (R.rebase (R2.setNone hn) fun j dd hd => ?_)
                by_cases hj : j = i
                · subst hj
                  exfalso
                  rw [List.getElem?_set] at hd
                  simp only [if_true] at hd
                  split at hd <;> rcases hd with z | z | z | ⟨_, z⟩ <;> cases z
                · exact if_neg hj
              cases k with
              | ali j =>
                simp only [e2, unAs] at po
                by_cases hj : j = i
                · rw [if_pos hj] at po; exact po.elim
                · rw [if_neg hj] at po
                  exact fun v σ2 F2 H2 R2 => back2 (k' := .ali j) (fun j' z => by cases z; exact hj) po v σ2 F2 H2 R2
              | emp => simp only [e2, unAs] at po; exact fun v σ2 F2 H2 R2 => back2 (k' := .emp) (fun j' z => by cases z) po v σ2 F2 H2 R2
              | dat d => simp only [e2, unAs] at po; exact fun v σ2 F2 H2 R2 => back2 (k' := .dat d) (fun j' z => by cases z) po v σ2 F2 H2 R2
              | pdt d => simp only [e2, unAs] at po; exact fun v σ2 F2 H2 R2 => back2 (k' := .pdt d) (fun j' z => by cases z) po v σ2 F2 H2 R2
              | own d => simp only [e2, unAs] at po; exact fun v σ2 F2 H2 R2 => back2 (k' := .own d) (fun j' z => by cases z) po v σ2 F2 H2 R2
              | par d => simp only [e2, unAs] at po; exact fun v σ2 F2 H2 R2 => back2 (k' := .par d) (fun j' z => by cases z) po v σ2 F2 H2 R2
              | tre d => simp only [e2, unAs] at po; exact fun v σ2 F2 H2 R2 => back2 (k' := .tre d) (fun j' z => by cases z) po v σ2 F2 H2 R2
              | ptr d => simp only [e2, unAs] at po; exact fun v σ2 F2 H2 R2 => back2 (k' := .ptr d) (fun j' z => by cases z) po v σ2 F2 H2 R2
            | err y ls2 => simp only [e2, unAs, PostS] at po
            | stk => simp only [e2, unAs, PostS] at po
      · subst hb
        simp only [List.map_cons, catchL, e] at po
        exact catch_ok na h2 po cls d σ' F' H' R er
/-- the clauses' text -/
inductive HdsM (X : Cx) : List ExceptHandler → List (Cl × Value) → Prop
  | nil : HdsM X [] []
  | cons {x : Str} {c : Value} {ct : Str → Option Bool} {h : Exn → SM} {b₀ : Stmt} {suite : List Stmt} {np pos' : Pos} {hds : List ExceptHandler} {l : List (Cl × Value)} (hc : Names X x c)
      (hsu : ∀ (a : Addr) (oe : Obj) (cls : Value) (d : Option Addr) (pn : List (Addr × Obj)) (x : Exn) (B : Base), Zc cls d oe → (∃ vs, oe.data = .fields vs) → XFact X.K X.mg B none a cls d x → L2.PSs (X.suite a ((a, oe) :: pn)) (b₀ :: suite) (tS ⟨X.K, X.mg, B⟩ WF (h x))) (r : HdsM X hds l) :
      HdsM X (.ExceptHandler (some (.Name x np)) none (b₀ :: suite) pos' :: hds) ((⟨ct, none, h⟩, c) :: l)
  | as {x n : Str} {i : Nat} {c : Value} {ct : Str → Option Bool} {h : Exn → SM} {b₀ : Stmt} {suite : List Stmt} {np pos' : Pos} {hds : List ExceptHandler} {l : List (Cl × Value)} (hc : Names X x c) (hi : X.N[i]? = some n) (hln : X.env.kindOf n = some .local)
      (hsu : ∀ (a : Addr) (oe : Obj) (cls : Value) (d : Option Addr) (pn : List (Addr × Obj)) (x : Exn) (B : Base), Zc cls d oe → (∃ vs, oe.data = .fields vs) → XFact X.K X.mg B (some i) a cls d x → L2.PSs (X.suite a ((a, oe) :: pn)) (b₀ :: suite) (tS ⟨X.K, X.mg, B⟩ WF (h x))) (r : HdsM X hds l) :
      HdsM X (.ExceptHandler (some (.Name x np)) (some n) (b₀ :: suite) pos' :: hds) ((⟨ct, some i, h⟩, c) :: l)
theorem HdsM.ok {hds : List ExceptHandler} {l : List (Cl × Value)} (h : HdsM X hds l) : HdsOkB X hds (clTS X.K X.mg l) := by
  induction h with
  | nil => exact .nil
  | cons hc hsu r ih =>
    refine .cons hc (fun a oe cls d pn hz hf => ?_) ih
    exact ⟨fun pins s σ H D I ⟨x, B, f, t⟩ => (hsu a oe cls d pn x B hz hf f).run pins s σ H D I t⟩
  | as hc hi hln hsu r ih =>
    refine .as hc hi hln (fun a oe cls d pn hz hf => ?_) ih
    exact ⟨fun pins s σ H D I ⟨x, B, f, t⟩ => (hsu a oe cls d pn x B hz hf f).run pins s σ H D I t⟩
theorem s_try (hN : X.N.Nodup) (hs : X.stack = X.env :: X.outer) (hf : X.env.frame = some X.env.locals) (tk : Takes X W)
    (hb : ∀ (W' : WX) (pn : List (Addr × Obj)) (xe : Value → Shared → Prop), Takes (X.tr pn xe) W' → PassesOwn (model X.prog X.w) X.A X.env xe → L2.PSs (X.tr pn xe) sts (tS (cfg X B) W' sa))
    (hh : HdsM X (h₀ :: hds) l) (hct : CtsOk X.K X.mg l) : L2.PS X (.Try sts (h₀ :: hds) [] [] pos) (tS (cfg X B) W (tryM sa (l.map (·.1)))) := PS.imp (ps_try_both hN hs hf tk hb hh.ok) fun D σ H h => by
  obtain ⟨F, ls, vs, ks, na, R, po⟩ := h
  refine ⟨F, ls, vs, ks, na, R, ?_⟩
  cases e : sa ls with
  | err x ls1 =>
    simp only [tryM, e] at po
    exact catch_ok na hct po
  | nx ls1 => simp only [tryM, e] at po; exact po
  | brk ls1 => simp only [tryM, e] at po; exact po
  | cnt ls1 => simp only [tryM, e] at po; exact po
  | ret k ls1 => simp only [tryM, e] at po; exact po
  | stk => simp only [tryM, e, PostS] at po
/-- e.f of the caught exception -/
def xfM (i : Nat) (nm f : Str) (x : Exn) : M := fun ls => match ls[i]? with
  | some (.ali 0) => if x.name = nm then (match x.fs.lookup f with
    | some d => .ok (.dat d) ls
    | none => .stk) else .stk
  | _ => .stk
theorem e_xf {a C : Addr} {oe : Obj} {cls : Value} {d : Option Addr} {pn : List (Addr × Obj)} {n f nm : Str} {i : Nat} {x : Exn} {p : Pos} {B : Base} (T : XfC X.K C) (hno : PySem.W.findIn X.K (.ref C) f = some none) (hm : X.mg nm = some (.ref C))
    (hz : Zc cls d oe) (hf : ∃ vs, oe.data = .fields vs) (xf : XFact X.K X.mg B (some i) a cls d x) (hi : X.N[i]? = some n := by rfl) (hv : Vis (X.suite a ((a, oe) :: pn)).env.scope n := by first | exact Or.inl rfl | exact Or.inr (Or.inl rfl) | exact Or.inr (Or.inr rfl))
    (hd : (n == ("__debug__" : Str)) = false := by decide) (hcd : (n == ("__classdict__" : Str)) = false := by decide) (hb : attributeBase (.Name n p) f X.env (eval (.Name n p) X.env) = eval (.Name n p) X.env := by rfl) :
    L2.PE (X.suite a ((a, oe) :: pn)) (.Attribute (.Name n p) f pos) (tM ⟨X.K, X.mg, B⟩ W (xfM i nm f x)) := by
  refine PE.imp (pe_xf T hno hz hf (pe_var (X := X.suite a ((a, oe) :: pn)) (i := i) hi hv hd hcd) hb) fun σ H Q h => ?_
  obtain ⟨F, ls, vs, ks, R, po⟩ := h
  unfold xfM at po
  split at po
  · rename_i hls
    split at po
    · rename_i hx
      obtain ⟨v, h1, h2⟩ := R.pin i .non (.inr (.inr (.inl hls)))
      rw [xf.at_ i rfl] at h1
      cases h1
      refine ⟨.ref a, h2, rfl, ?_, ?_⟩
      · have z := xf.name
        rw [hx, hm] at z
        cases z; rfl
      · rcases xf.er with ⟨_, z⟩ | ⟨dd, fs, rfl, e1, e2⟩
        · rw [z] at po; exact po.elim
        · rcases ddf_lookup (y := f) e2 with ⟨z, _⟩ | ⟨y, v, z1, z2, z3⟩
          · rw [z] at po; exact po.elim
          · rw [z1] at po
            exact ⟨dd, fs, v, rfl, R.ex _ _ (R.ex0 _ _ e1), z2, po _ _ _ (R.pushDat (z3.mono R.ex0))⟩
    · exact po.elim
  · exact po.elim
end
end VM

set_option Elab.async false
set_option linter.all false
set_option maxRecDepth 100000
set_option maxHeartbeats 2000000
namespace VM
open PySem L2

/-! ### o[i] = v -/
def setD (x i v : D) : Option D := match x with
  | .lst xs => (match i with
    | .int k => (ixN xs.length k).map fun j => .lst (xs.set j v)
    | _ => none)
  | .dK es => if es.length < lim then (keyK i).map fun k => .dK (putG es k v) else none
  | .dT es => if es.length < lim then (keyT i).map fun k => .dT (putG es k v) else none
  | _ => none
def rSetU : TSet := fun o i v H Q => rSetL o i v H Q ∨ ∃ a H4, o = .ref a ∧ DPut H a i v H4 ∧ Q H4
theorem set_U {X : Cx} (hu : X.A.units + 1 < cLine) : PSet X rSetU := by
  intro pins s σ H o i v ov iv u Q I ro ri rv h
  rcases h with h | ⟨a, H4, rfl, g, q⟩
  · exact set_list pins s σ H o i v ov iv u Q I ro ri rv h
  · obtain rfl : ov = Value.ref a := ro
    exact d_setItem hu I g ri rv fun s' I' => ⟨H4, I', q⟩
theorem DDs.set {K : PySem.W.Frag} {mg : Str → Option Value} {F : Hp} : ∀ {ds : List D} {xs : List V} {d : D} {x : V} {j : Nat}, DDs K mg F ds xs → DD K mg F d x → DDs K mg F (ds.set j d) (xs.set j x)
  | _, _, _, _, _, .nil, h => .nil
  | _, _, _, _, 0, .cons a r, h => .cons h r
  | _, _, _, _, j + 1, .cons a r, h => .cons a (DDs.set r h)
/-- the value, the object, the place -/
def setI (om im vm : M) : SM := fun ls => (frzM vm ls).bindS fun kv ls => match kv with
  | .dat d => (om ls).bindS fun ko ls => (im ls).bindS fun ki ls => (match ko, look ls ki with
    | .ali j, some i => (match chg j (fun x => setD x i d) ls with
      | some ls => .nx ls
      | none => .stk)
    | _, _ => .stk)
  | _ => .stk
section
variable {X : Cx} {B : Base} {W : WX} {e o ie v : Expr} {es : List Expr} {am : AM} {om vm im : M} {pos p apos cpos : Pos} {x name : Str} {id T : String}
theorem set_ok {G : Cfg} {F H : Hp} {σ : L2.St} {ls ls' : LS} {vs ks} {a b c : V} {j : Nat} {ki : Slot} {d i : D} {Q : Hp → Prop} (R : Rp G F H σ ls (b :: a :: c :: vs) (ki :: .ali j :: .dat d :: ks)) (hi : look ls ki = some i) (hc : chg j (fun x => setD x i d) ls = some ls')
    (q : ∀ H', Rp G F H' σ ls' vs ks → Q H') : rSetU a b c H Q := by
  obtain ⟨cc, d0, d1, hcc, hj, hg, rfl⟩ := chg_some hc
  obtain ⟨p, ob, rfl, h1, h2, mt⟩ := Rp.mutAli (ws := [b]) (as := [ki]) hcc rfl R hj
  have vi := R.view0 hi
  have dv : DD G.K G.mg F d c := by
    obtain ⟨x, ex, dd⟩ := R.pop.pop.good.head
    cases ex; exact dd
  have fin : ∀ {o' : HO}, ObD G F o' d1 → Q (upd H p o') := fun {o'} h => by
    have z : Rp G F (upd H p o') σ (ls.set j (cc d1)) (b :: .ref p :: c :: vs) (ki :: .ali j :: .dat d :: ks) := mt o' d1 h
    exact q _ z.pop.pop.pop
  unfold setD at hg
  split at hg
  · rename_i xs
    split at hg
    · rename_i k
      cases e : ixN xs.length k with
      | none => rw [e] at hg; cases hg
      | some n =>
        rw [e] at hg
        cases hg
        cases ob with
        | lst ys =>
          have h2 : DDs G.K G.mg F xs ys := h2
          have := Vw.int R.ex vi
          subst this
          exact .inl ⟨p, ys, k, n, rfl, rfl, h1, by rw [← h2.length]; exact e, fin (h2.set dv)⟩
        | _ => exact h2.elim
    · cases hg
  · rename_i es
    split at hg
    · rename_i hz
      cases e : keyK i with
      | none => rw [e] at hg; cases hg
      | some k =>
        rw [e] at hg
        cases hg
        cases ob with
        | dK kvs =>
          have h2 : DDk G.K G.mg F es kvs := h2
          have := keyK_kV R.ex vi e
          subst this
          exact .inr ⟨p, _, rfl, DPut.k h1 (line_lt (by rw [← h2.length]; exact hz)), fin (ddk_put dv h2)⟩
        | _ => exact h2.elim
    · cases hg
  · rename_i es
    split at hg
    · rename_i hz
      cases e : keyT i with
      | none => rw [e] at hg; cases hg
      | some k =>
        rw [e] at hg
        cases hg
        cases ob with
        | dT kvs =>
          have h2 : DDt G.K G.mg F es kvs := h2
          obtain ⟨t, rfl, ht⟩ := keyT_vw R.ex vi e
          exact .inr ⟨p, _, rfl, DPut.t h1 ht (line_lt (by rw [← h2.length]; exact hz)), fin (ddt_put dv h2)⟩
        | _ => exact h2.elim
    · cases hg
  · cases hg
theorem s_setI {pos' : Pos} (hu : X.A.units + 1 < cLine) (ho : L2.PE X o (tM (cfg X B) W om)) (hi : L2.PE X ie (tM (cfg X B) W im)) (hv : L2.PE X v (tM (cfg X B) W vm))
    (hs : swapsWithSole [.Subscript o ie pos'] v pos.line X.env = pure false := by rfl) (hw : swappedStores [.Subscript o ie pos'] v X.env = pure none := by rfl) (h1 : (assignEach [.Subscript o ie pos'] X.env).map (·.2) = [assign (.Subscript o ie pos') X.env] := by rfl)
    (ha : ∀ v, assign (.Subscript o ie pos') X.env v = (do
      let ov ← holding [v] (eval o X.env)
      let iv ← holding [v, ov] (eval ie X.env)
      standAt pos'
      holding [v, ov, iv] (setItem ov iv v)
      release [v, ov, iv] []) := by intro _; rfl) :
    L2.PS X (.Assign [.Subscript o ie pos'] v pos) (tS (cfg X B) W (setI om im vm)) := PS.imp (ps_asg (e_frz hv) (pg_sub ho hi (set_U hu) ha) hs hw h1) fun D σ H h => by
  refine tS_bind h fun F ls vs ks c H' k na R po => ?_
  cases k with
  | dat d =>
    simp only at po
    refine ⟨F, ls, c :: vs, .dat d :: ks, R, ?_⟩
    cases e1 : om ls with
    | stk => simp only [e1, VM.R.bindS, PostS] at po
    | err x ls1 =>
      simp only [e1, VM.R.bindS] at po
      exact fun cls d F' H' r' er => po cls d σ F' H' r'.pop er
    | ok ko ls1 =>
      simp only [e1, VM.R.bindS] at po
      intro a F1 H1 R1
      refine ⟨F1, ls1, a :: c :: vs, ko :: .dat d :: ks, R1, ?_⟩
      cases e2 : im ls1 with
      | stk => simp only [e2, PostS] at po
      | err x ls2 =>
        simp only [e2] at po
        exact fun cls d F' H' r' er => po cls d σ F' H' r'.pop.pop er
      | ok ki ls2 =>
        simp only [e2] at po
        intro b F2 H2 R2
        cases ko with
        | ali j =>
          cases e3 : look ls2 ki with
          | none => simp only [e3, PostS] at po
          | some i =>
            cases e4 : chg j (fun x => setD x i d) ls2 with
            | none => simp only [e3, e4, PostS] at po
            | some ls3 =>
              simp only [e3, e4] at po
              exact set_ok R2 e3 e4 fun H3 R3 => po σ F2 H3 R3
        | _ => simp only [PostS] at po
  | _ => simp only [PostS] at po

/-! ### methods that change what they are of -/
/-- g: the content, the arguments; the new content, the answer -/
def OpMut (G : Cfg) (T : String) (r : V → List V → Hp → VK → Prop) (g : D → List D → Option (D × D)) : Prop :=
  (∀ F H p o d ds q, Ex F H → H p = some o → ObD G F o d → g d ds = some q → tyV G.K T (.ref p) H) ∧
  ∀ F H p o d ws ds d' res (Q : VK), Ex F H → H p = some o → ObD G F o d → DDs G.K G.mg F ds ws → g d ds = some (d', res) → (∀ o' u, ObD G F o' d' → DD G.K G.mg F res u → Q u (upd H p o')) → r (.ref p) ws H Q
def tyAt (ls : LS) (i : Nat) (ty : D → Bool) : Bool := match ls[i]? with
  | some (.own d) => ty d
  | some (.par d) => ty d
  | _ => false
def mutM (ty : D → Bool) (g : D → List D → Option (D × D)) (om : M) (am : AM) : M := fun ls => (om ls).bind fun ko ls => match ko with
  | .ali i => if tyAt ls i ty = true then
      ((am ls).bind fun as ls => match dats as, ls[i]? with
      | some ds, some (.own d) => (match g d ds with
        | some (d', r) => .ok (.dat r) (ls.set i (.own d'))
        | none => .stk)
      | some ds, some (.par d) => (match g d ds with
        | some (d', r) => .ok (.dat r) (ls.set i (.par d'))
        | none => .stk)
      | _, _ => .stk) else .stk
  | _ => .stk
structure TyOk (G : Cfg) (T : String) (ty : D → Bool) : Prop where
  h : ∀ F H p o d, Ex F H → H p = some o → ObD G F o d → ty d = true → tyV G.K T (.ref p) H
theorem mut_ok {G : Cfg} {T : String} {r : V → List V → Hp → VK → Prop} {g : D → List D → Option (D × D)} (hr : OpMut G T r g) {c : D → Slot} (hc : c = Slot.own ∨ c = Slot.par) {F H : Hp} {σ : L2.St} {ls : LS} {vs ws : List V} {ks as : List Slot} {v : V} {i : Nat} {d d' res : D} {ds : List D} {Q : VK}
    (hl : ws.length = as.length) (R : Rp G F H σ ls (ws ++ v :: vs) (as ++ .ali i :: ks)) (hi : ls[i]? = some (c d)) (hd : dats as = some ds) (hg : g d ds = some (d', res)) (q : ∀ u H', Rp G F H' σ (ls.set i (c d')) (u :: vs) (.dat res :: ks) → Q u H') : r v ws H Q := by
  obtain ⟨p, o, rfl, h1, h2, mt⟩ := Rp.mutAli hc hl R hi
  exact hr.2 F H p o d ws ds d' res Q R.ex h1 h2 (R.dats hl hd) hg fun o' u ho hu => q u _ ((Rp.popN as ws hl (mt o' d' ho)).pop.pushDat hu)
theorem ty_at {G : Cfg} {T : String} {ty : D → Bool} (tk : TyOk G T ty) {F H : Hp} {σ : L2.St} {ls : LS} {vs : List V} {ks : List Slot} {v : V} {i : Nat} (R : Rp G F H σ ls (v :: vs) (.ali i :: ks)) (h : tyAt ls i ty = true) : tyV G.K T v H := by
  unfold tyAt at h
  split at h
  · rename_i d hd
    obtain ⟨p, o, rfl, h1, h2, mt⟩ := Rp.mutAli (ws := []) (as := []) (.inl rfl) rfl R hd
    exact tk.h F H p o d R.ex h1 h2 h
  · rename_i d hd
    obtain ⟨p, o, rfl, h1, h2, mt⟩ := Rp.mutAli (ws := []) (as := []) (.inr rfl) rfl R hd
    exact tk.h F H p o d R.ex h1 h2 h
  · cases h
theorem e_mut {ty : D → Bool} {r : V → List V → Hp → VK → Prop} {g : D → List D → Option (D × D)} (hr : OpMut (cfg X B) T r g) (tk : TyOk (cfg X B) T ty) (pa : PlainAttrs T) (slot : PySem.Slot T name id) (hty : typeOf (.builtin id) = pure (.type "method_descriptor")) (hm : MtR X id r) (ho : L2.PE X o (tM (cfg X B) W om)) (ha : L2.PA X (e :: es) (tA (cfg X B) W am))
    (hbase : attributeBase o name X.env (eval o X.env) = eval o X.env := by rfl)
    (hfew : ((backTo cpos (starEach (e :: es) X.env)).all (fun x => !x.1) && (backToKw cpos (keywordEach [] X.env)).all (fun x => x.1.isSome)
      && decide ((e :: es).length + ([] : List Keyword).length + (if ([] : List Keyword).isEmpty then 0 else 1) < 30)) = true := by rfl)
    (hline : (apos.endLine == cpos.line) = true := by rfl) (hs : starEach (e :: es) X.env = (false, eval e X.env) :: starEach es X.env := by rfl) (hplain : (backTo cpos (starEach es X.env)).any (·.1) = false := by rfl) :
    L2.PE X (.Call (.Attribute o name apos) (e :: es) [] cpos) (tM (cfg X B) W (mutM ty g om am)) := PE.imp (pe_bm pa slot hty hm ho ha hbase hfew hline hs hplain) fun σ H Q h => by
  refine tM_bind h fun F ls vs ks v H' k R po => ?_
  cases k with
  | ali i =>
    simp only at po
    split at po
    · rename_i hty2
      refine ⟨ty_at tk R hty2, F, ls, v :: vs, .ali i :: ks, R, ?_⟩
      cases e1 : am ls with
      | stk => simp only [e1, RA.bind, PostM] at po
      | err x ls1 =>
        simp only [e1, RA.bind] at po
        exact fun cls d F' H' r' er => po cls d F' H' r'.pop er
      | ok as ls1 =>
        simp only [e1, RA.bind] at po
        intro ws F1 H1 hl R1
        split at po
        · rename_i ds d hd hi
          cases e2 : g d ds with
          | none => simp only [e2, PostM] at po
          | some q =>
            obtain ⟨d', res⟩ := q
            simp only [e2] at po
            exact mut_ok hr (.inl rfl) hl R1 hi hd e2 fun u H2 R2 => po u F1 H2 R2
        · rename_i ds d hd hi
          cases e2 : g d ds with
          | none => simp only [e2, PostM] at po
          | some q =>
            obtain ⟨d', res⟩ := q
            simp only [e2] at po
            exact mut_ok hr (.inr rfl) hl R1 hi hd e2 fun u H2 R2 => po u F1 H2 R2
        · exact po.elim
    · exact po.elim
  | _ => simp only [PostM] at po
def isLst : D → Bool
  | .lst _ => true
  | _ => false
theorem tyOk_lst {G : Cfg} : TyOk G "list" isLst := ⟨fun F H p o d x h1 h2 h => by
  cases d <;> first | (cases h; done) | skip
  cases o <;> first | exact h2.elim | exact .inl ⟨rfl, _, SqL.of h1⟩⟩
def appG : D → List D → Option (D × D)
  | .lst xs, [d] => if xs.length < lim then some (.lst (xs ++ [d]), .non) else none
  | _, _ => none
theorem m_app {G : Cfg} : OpMut G "list" rAppend appG := by
  refine ⟨fun F H p o d ds q x h1 h2 hg => ?_, fun F H p o d ws ds d' res Q x h1 h2 hd hg q => ?_⟩
  · unfold appG at hg
    split at hg
    · exact tyOk_lst.h F H p o _ x h1 h2 rfl
    · cases hg
  · unfold appG at hg
    split at hg
    · obtain ⟨hz, e⟩ := ite_some hg
      cases e
      cases o with
      | lst ys =>
        have h2 : DDs G.K G.mg F _ ys := h2
        cases hd with | cons hy hn =>
        cases hn
        exact ⟨p, ys, _, rfl, rfl, h1, line_lt (by rw [← h2.length]; exact hz), q (.lst (ys ++ [_])) .non (h2.snoc hy) .non⟩
      | _ => exact h2.elim
    · cases hg
def insG : D → List D → Option (D × D)
  | .lst xs, [.int i, d] => if xs.length < lim ∧ 0 ≤ i ∧ i < 2 ^ 63 then some (.lst (xs.take i.toNat ++ [d] ++ xs.drop i.toNat), .non) else none
  | _, _ => none
theorem DDs.take {K : PySem.W.Frag} {mg : Str → Option Value} {F : Hp} : ∀ {ds : List D} {xs : List V} {n : Nat}, DDs K mg F ds xs → DDs K mg F (ds.take n) (xs.take n)
  | _, _, 0, _ => by simp only [List.take_zero]; exact .nil
  | _, _, n + 1, .nil => .nil
  | _, _, n + 1, .cons a r => .cons a (DDs.take r)
theorem DDs.drop {K : PySem.W.Frag} {mg : Str → Option Value} {F : Hp} : ∀ {ds : List D} {xs : List V} {n : Nat}, DDs K mg F ds xs → DDs K mg F (ds.drop n) (xs.drop n)
  | _, _, 0, h => h
  | _, _, n + 1, .nil => .nil
  | _, _, n + 1, .cons a r => DDs.drop (n := n) r
def rInsert : V → List V → Hp → VK → Prop := fun x vs H Q => ∃ (l : Addr) (xs : List V) (i : Int) (y : V), x = .ref l ∧ vs = [.int i, y] ∧ H l = some (.lst xs) ∧ xs.length < sizeLine ∧ 0 ≤ i ∧ i < 2 ^ 63 ∧
    Q .non (upd H l (.lst (xs.take i.toNat ++ [y] ++ xs.drop i.toNat)))
theorem m_ins {G : Cfg} : OpMut G "list" rInsert insG := by
  refine ⟨fun F H p o d ds q x h1 h2 hg => ?_, fun F H p o d ws ds d' res Q x h1 h2 hd hg q => ?_⟩
  · unfold insG at hg
    split at hg
    · exact tyOk_lst.h F H p o _ x h1 h2 rfl
    · cases hg
  · unfold insG at hg
    split at hg
    · obtain ⟨hz, e⟩ := ite_some hg
      cases e
      cases o with
      | lst ys =>
        have h2 : DDs G.K G.mg F _ ys := h2
        cases hd with | cons h0 hn =>
        cases hn with | cons hy hn =>
        cases hn
        cases h0
        exact ⟨p, ys, _, _, rfl, rfl, h1, line_lt (by rw [← h2.length]; exact hz.1), hz.2.1, hz.2.2, q (.lst _) .non ((h2.take.append (.cons hy .nil)).append h2.drop) .non⟩
      | _ => exact h2.elim
    · cases hg

/-! ### displays of nothing -/
def ownM (d : D) : M := fun ls => .ok (.own d) ls
theorem e_dK : L2.PE X (.Dict [] [] pos) (tM (cfg X B) W (ownM (.dK []))) := PE.imp pe_dnewK fun σ H Q h => by
  obtain ⟨F, ls, vs, ks, R, po⟩ := h
  exact fun p hp => po _ _ _ (R.pushOwn hp (d := .dK []) .nil)
theorem e_dT : L2.PE X (.Dict [] [] pos) (tM (cfg X B) W (ownM (.dT []))) := PE.imp pe_dnewT fun σ H Q h => by
  obtain ⟨F, ls, vs, ks, R, po⟩ := h
  exact fun p hp => po _ _ _ (R.pushOwn hp (d := .dT []) .nil)

/-! ### a op b op c -/
def chainM (g g' : D → D → Option Slot) (a b c : M) : M := fun ls => (a ls).bind fun k1 ls => (b ls).bind fun k2 ls => match lift2 g k1 k2 ls with
  | .ok (.dat (.bl true)) ls => (c ls).bind fun k3 ls => lift2 g' k2 k3 ls
  | .ok (.dat (.bl false)) ls => .ok (.dat (.bl false)) ls
  | _ => .stk
theorem imp_chain {ma mb mc : M} {r r' : R2} {g g' : D → D → Option Slot} (hr : OpM2 (cfg X B) r g) (hr' : OpM2 (cfg X B) r' g') {σ : L2.St} {H : Hp} {Q : VK} (h : tM (cfg X B) W (chainM g g' ma mb mc) σ H Q) :
    tChain r r' (tM (cfg X B) W ma) (tM (cfg X B) W mb) (tM (cfg X B) W mc) σ H Q := by
  refine tM_bind h fun F ls vs ks v H' k1 R po => ?_
  refine ⟨F, ls, v :: vs, k1 :: ks, R, ?_⟩
  cases e1 : mb ls with
  | stk => simp only [e1, VM.R.bind, PostM] at po
  | err x ls1 =>
    simp only [e1, VM.R.bind] at po
    exact fun cls d F' H' r' er => po cls d F' H' r'.pop er
  | ok k2 ls1 =>
    simp only [e1, VM.R.bind] at po
    intro w F1 H1 R1
    cases e2 : look ls1 k1 with
    | none => simp only [lift2, e2, PostM] at po
    | some x =>
      cases e3 : look ls1 k2 with
      | none => simp only [lift2, e2, e3, PostM] at po
      | some y =>
        cases e4 : g x y with
        | none => simp only [lift2, e2, e3, e4, PostM] at po
        | some k =>
          simp only [lift2, e2, e3, e4] at po
          refine hr F1 H1 σ ls1 (w :: v :: vs) (k2 :: k1 :: ks) v w x y k _ R1 (R1.pop.view0 e2) (R1.view0 e3) e4 fun u F2 H2 R2 => ?_
          cases k with
          | dat dd =>
            cases dd with
            | bl t =>
              have := Vw.bl R2.ex (R2.view0 (d := .bl t) rfl)
              subst this
              refine ⟨t, rfl, ?_⟩
              cases t with
              | false =>
                simp only at po
                rw [if_neg (by decide)]
                exact po _ _ _ (R2.pop.pop.pop.pushDat (.bl false))
              | true =>
                simp only at po
                rw [if_pos rfl]
                refine ⟨F2, ls1, w :: v :: vs, k2 :: k1 :: ks, R2.pop, ?_⟩
                cases e5 : mc ls1 with
                | stk => simp only [e5, PostM] at po
                | err x ls2 =>
                  simp only [e5] at po
                  exact fun cls d F' H' r' er => po cls d F' H' r'.pop.pop er
                | ok k3 ls2 =>
                  simp only [e5] at po
                  intro z F3 H3 R3
                  cases e6 : look ls2 k2 with
                  | none => simp only [e6, PostM] at po
                  | some y' =>
                    cases e7 : look ls2 k3 with
                    | none => simp only [e6, e7, PostM] at po
                    | some z' =>
                      cases e8 : g' y' z' with
                      | none => simp only [e6, e7, e8, PostM] at po
                      | some k' =>
                        simp only [e6, e7, e8] at po
                        exact hr' F3 H3 σ ls2 vs ks w z y' z' k' Q R3.pop.pop.pop (R3.pop.view0 e6) (R3.view0 e7) e8 po
            | _ => exact po.elim
          | _ => exact po.elim
theorem e_chain {a b c : Expr} {ma mb mc : M} {op op' : CmpOp} {r r' : R2} {g g' : D → D → Option Slot} (ho : OpR X (compareOp op) r) (hr : OpM2 (cfg X B) r g) (ho' : OpR X (compareOp op') r') (hr' : OpM2 (cfg X B) r' g')
    (ha : L2.PE X a (tM (cfg X B) W ma)) (hb : L2.PE X b (tM (cfg X B) W mb)) (hc : L2.PE X c (tM (cfg X B) W mc)) (hm : lastMarks [op, op'] [b, c] = false := by with_unfolding_all rfl) :
    L2.PE X (.Compare a [op, op'] [b, c] pos) (tM (cfg X B) W (chainM g g' ma mb mc)) := PE.imp (pe_chain ho ho' ha hb hc hm) fun σ H Q h => imp_chain hr hr' h
theorem t_chain {a b c : Expr} {ma mb mc : M} {op op' : CmpOp} {r r' : R2} {g g' : D → D → Option Slot} (ho : OpR X (compareOp op) r) (hr : OpM2 (cfg X B) r g) (ho' : OpR X (compareOp op') r') (hr' : OpM2 (cfg X B) r' g')
    (ha : L2.PE X a (tM (cfg X B) W ma)) (hb : L2.PE X b (tM (cfg X B) W mb)) (hc : L2.PE X c (tM (cfg X B) W mc)) (hm : lastMarks [op, op'] [b, c] = false := by with_unfolding_all rfl) :
    L2.PT X (.Compare a [op, op'] [b, c] pos) (tT (cfg X B) W (chainM g g' ma mb mc)) := PT.imp (pt_chain ho ho' ha hb hc hm) fun σ H Q h => imp_chain hr hr' (tT_of h)

/-! ### slices -/
def cutG {α : Type} (xs : List α) (lo hi : Option Int) : List α := (xs.drop (HT.sIx xs.length 0 lo)).take (HT.sIx xs.length xs.length hi - HT.sIx xs.length 0 lo)
def slD (x : D) (lo hi : Option Int) : Option Slot := match x with
  | .lst xs => some (.own (.lst (cutG xs lo hi)))
  | .tup xs => some (.dat (.tup (cutG xs lo hi)))
  | .str z => if z.length ≤ lim then some (.dat (.str (cutS z lo hi))) else none
  | _ => none
abbrev OM := LS → Option (Option Int × LS)
def noO : OM := fun ls => some (none, ls)
def atO (m : M) : OM := fun ls => match m ls with
  | .ok (.dat (.int i)) ls => some (some i, ls)
  | _ => none
def slM (om : M) (lo hi : OM) : M := fun ls => (om ls).bind fun k ls => match lo ls with
  | some (l, ls) => (match hi ls with
    | some (h, ls) => (match look ls k with
      | some x => (match slD x l h with
        | some k => .ok k ls
        | none => .stk)
      | none => .stk)
    | none => .stk)
  | none => .stk
def tO (G : Cfg) (m : OM) : TO := fun σ H Q => ∃ F ls vs ks, Rp G F H σ ls vs ks ∧ match m ls with
  | some (o, ls') => ∀ F' H', Rp G F' H' σ ls' vs ks → Q o H'
  | none => False
theorem PO.imp {X : Cx} {e : Option Expr} {t t' : TO} (h : L2.PO X e t) (hi : ∀ σ H Q, t' σ H Q → t σ H Q) : L2.PO X e t' := ⟨fun pins s σ H Q I q => h.run pins s σ H Q I (hi σ H Q q)⟩
theorem o_none : L2.PO X none (tO (cfg X B) noO) := PO.imp po_none fun σ H Q h => by
  obtain ⟨F, ls, vs, ks, R, po⟩ := h
  exact po F H R
theorem o_at {m : M} (h : L2.PE X e (tM (cfg X B) WF m)) : L2.PO X (some e) (tO (cfg X B) (atO m)) := PO.imp (po_some h) fun σ H Q h => by
  obtain ⟨F, ls, vs, ks, R, po⟩ := h
  refine ⟨F, ls, vs, ks, R, ?_⟩
  unfold atO at po
  cases e1 : m ls with
  | stk => simp only [e1] at po
  | err x ls1 => simp only [e1] at po
  | ok k ls1 =>
    simp only [e1] at po
    cases k with
    | dat d =>
      cases d with
      | int i =>
        intro v F1 H1 R1
        have := Vw.int R1.ex (R1.view0 (d := .int i) rfl)
        subst this
        exact ⟨i, rfl, po F1 H1 R1.pop⟩
      | _ => exact po.elim
    | _ => exact po.elim
def rSlU (K : PySem.W.Frag) : V → Option Int → Option Int → Hp → VK → Prop := fun x lo hi H Q => rSlL K x lo hi H Q ∨ rSlA K x lo hi H Q ∨ rSlS x lo hi H Q
theorem SlR.or {X : Cx} {r r' : V → Option Int → Option Int → Hp → VK → Prop} (h : SlR X r) (h' : SlR X r') : SlR X fun x lo hi H Q => r x lo hi H Q ∨ r' x lo hi H Q := fun pins s σ H x v vl vu lo hi sl Q I rx hs pl pu q => q.elim (h pins s σ H x v vl vu lo hi sl Q I rx hs pl pu) (h' pins s σ H x v vl vu lo hi sl Q I rx hs pl pu)
theorem sl_U : SlR X (rSlU X.K) := SlR.or sl_list (SlR.or sl_tupA sl_str)
theorem cut_dds {K : PySem.W.Frag} {mg : Str → Option Value} {F : Hp} {ds : List D} {xs : List V} {lo hi : Option Int} (h : DDs K mg F ds xs) : DDs K mg F (cutG ds lo hi) (cutV xs lo hi) := by
  unfold cutG cutV
  rw [h.length]
  exact h.drop.take
theorem cut_all {α : Type} {xs : List α} {lo hi : Option Int} (h : HT.sIx xs.length 0 lo = 0 ∧ HT.sIx xs.length xs.length hi = xs.length) : cutG xs lo hi = xs := by
  unfold cutG
  rw [h.1, h.2]
  simp
theorem e_sl {lo hi : Option Expr} {ml mh : OM} {p2 : Pos} (ho : L2.PE X o (tM (cfg X B) W om)) (hl : L2.PO X lo (tO (cfg X B) ml)) (hh : L2.PO X hi (tO (cfg X B) mh)) : L2.PE X (.Subscript o (.Slice lo hi none p2) pos) (tM (cfg X B) W (slM om ml mh)) := PE.imp (pe_slice sl_U ho hl hh) fun σ H Q h => by
  refine tM_bind h fun F ls vs ks v H' k R po => ?_
  refine ⟨F, ls, v :: vs, k :: ks, R, ?_⟩
  cases e1 : ml ls with
  | none => simp only [e1, PostM] at po
  | some q =>
    obtain ⟨l, ls1⟩ := q
    simp only [e1] at po
    intro F1 H1 R1
    refine ⟨F1, ls1, v :: vs, k :: ks, R1, ?_⟩
    cases e2 : mh ls1 with
    | none => simp only [e2, PostM] at po
    | some q =>
      obtain ⟨h, ls2⟩ := q
      simp only [e2] at po
      intro F2 H2 R2
      cases e3 : look ls2 k with
      | none => simp only [e3, PostM] at po
      | some x =>
        cases e4 : slD x l h with
        | none => simp only [e3, e4, PostM] at po
        | some k' =>
          simp only [e3, e4] at po
          have vw := R2.view0 e3
          unfold slD at e4
          split at e4
          · cases e4
            obtain ⟨a, xs, rfl, e, dd⟩ := Vw.lst R2.ex vw
            exact .inl ⟨a, xs, rfl, SqL.of e, fun p hp => po _ _ _ (R2.pop.pushOwn hp (d := .lst _) (cut_dds dd))⟩
          · rename_i ds
            cases e4
            have d0 := vw.dd_tup
            obtain ⟨a, xs, rfl, e, dd⟩ := Vw.tup R2.ex vw
            refine .inr (.inl ⟨a, xs, rfl, SqT.of e, fun hw => ?_, fun _ p hp => po _ _ _ (R2.pop.pushTup hp (cut_dds dd))⟩)
            rw [← dd.length] at hw
            rw [cut_all hw] at po
            exact po _ _ _ (R2.pop.pushDat d0)
          · obtain ⟨hz, rfl⟩ := ite_some e4
            have := Vw.str R2.ex vw
            subst this
            exact .inr (.inr ⟨_, rfl, line_of hz, po _ _ _ (R2.pop.pushDat (.str _))⟩)
          · cases e4
end
end VM

set_option Elab.async false
set_option linter.all false
set_option maxRecDepth 100000
set_option maxHeartbeats 2000000
namespace PySem.W
open PySem PySem.Calls PyProof.Rows Builtin
section
variable {prog : Program} {w : World} {A : Around} {E : Value → Shared → Prop} {s : Shared} {K : Frag} {x C f : Addr} {ox : Obj} {od : Option Obj} {v b tb : Value}
theorem vm_contains {M : Model} {Q : Bool → Shared → Prop} (X : K.In s.heap) (I : InstAt s.heap x ox C od) (hs : findIn K (.ref C) "__contains__" = some (some (.ref f))) (hf : isFn K (.ref f) = true)
    (h : wpAny M A (call (.ref f) [.ref x, v]) (fun r s' => ∃ b, r = .bool b ∧ Q b s') E s) : wpAny M A (contains (.ref x) v) Q E s := by
  unfold contains
  refine wpAny_holding (wpAny_bind (wpAny_bind (I.type.here ((looks_findIn X hs).here ?_))))
  rw [if_neg (by simp)]
  refine wpAny_bind (unlessNone_K X I hs hf (wpAny_mono h (fun r s' z => ?_) fun _ _ z => z))
  obtain ⟨b, rfl, q⟩ := z
  exact wpAny_truthy_bool q
theorem vm_bind_ne (self : Value) : bindSpecial (.builtin "object.__ne__") self = pure (.builtin "object.__ne__", [self]) := by
  have hop : withoutEnding? "object.__ne__" "#opaque" = none := by decide +kernel
  have hdat : withoutEnding? "object.__ne__" "#data" = none := by decide +kernel
  simp only [bindSpecial, typeOf, builtinType, hop, hdat, PySem.F.cmpKind_ne]; rfl
theorem vm_plain_ne : plainId "object.__ne__" = true := by decide +kernel
theorem vm_objNe {Q : Fin → Shared → Prop} (hu : A.units < cLine) (X : K.In s.heap) (I : InstAt s.heap x ox C od) (hs : findIn K (.ref C) "__eq__" = some (some (.ref f))) (hf : isFn K (.ref f) = true)
    (h : wpAny (model prog w) A (call (.ref f) [.ref x, b]) (fun v s' => ∃ k, v = .bool k ∧ Q (.done (.ret (.bool (!k)))) s') E s) : wpAny (model prog w) A (Builtin.«object.__ne__» ⟨[.ref x, b], []⟩) Q E s := by
  unfold Builtin.«object.__ne__»
  repeat (first
    | with_reducible refine wpAny_cRoomFor hu ?_
    | (refine wpAny_bind (m := callSpecialIfBound? (.ref x) (Str.ofString "__eq__") [b])
        (ifBound_K X I hs hf (wpAny_mono h (fun r s' hr => by
          obtain ⟨b, rfl, hq⟩ := hr
          repeat (first | exact hq | exact wpAny_pure hq | exact wpAny_truthy_bool hq | (refine wpAny_bind (m := truthy (.bool _)) (wpAny_truthy_bool ?_)) | wp_step)) fun _ _ e => e)))
    | wp_step)
theorem vm_tryNe {Q : Option Value → Shared → Prop} (hu : A.units + 1 < cLine) (X : K.In s.heap) (I : InstAt s.heap x ox C od) (hs : findIn K (.ref C) "__eq__" = some (some (.ref f))) (hf : isFn K (.ref f) = true)
    (hn : findIn K (.ref C) "__ne__" = some (some (.builtin "object.__ne__"))) (hm : mroIn K C (.type "object") = some true)
    (h : wpAny (model prog w) A.in1 (call (.ref f) [.ref x, b]) (fun v s' => ∃ k, v = .bool k ∧ Q (some (.bool (!k))) s') E s) : wpAny (model prog w) A (tryCompare (.ref x) "__ne__" b) Q E s := by
  simp only [tryCompare]
  have hcall : wpAny (model prog w) A (call (.builtin "object.__ne__") (.ref x :: [b])) (fun v s' => ∃ k, v = .bool k ∧ Q (some (.bool k)) s') E s := by
    refine wpAny_call (codeAny_call_builtin vm_plain_ne PySem.F.cmpEntry_ne (check_slot (i := "object.__ne__") (owner := "object") (n := "__ne__") PySem.F.cmpKind_ne PySem.F.cmpSplit_ne (I.type.andThen (looks_mroIn X hm)) (PySem.F.cmpArgs_ne _ _) ?_))
    refine vm_objNe (A := A.in1) hu X I hs hf (wpAny_mono h (fun v s' hv => ?_) fun _ _ e => e)
    obtain ⟨k, rfl, hq⟩ := hv
    first | exact ⟨k, rfl, _, rfl, hq⟩ | exact ⟨k, rfl, wpAny_pure ⟨_, rfl, hq⟩⟩
  refine wpAny_bind (m := callSpecialIfBound? (.ref x) (Str.ofString "__ne__") [b]) ?_
  simp only [callSpecialIfBound?, bindSpecialIfBound?]
  refine wpAny_holding (wpAny_bind (wpAny_bind (wpAny_bind (I.type.here ((looks_findIn X hn).here ?_)))))
  simp only [vm_bind_ne]
  refine wpAny_bind (wpAny_askSetting (wpAny_ite ?_))
  have fin : wpAny (model prog w) A (call (.builtin "object.__ne__") ([.ref x] ++ [b]) >>= fun v => pure (some v)) (fun a s₁ => wpAny (model prog w) A (match a with | some .notImplemented | none => pure none | some v => pure (some v)) Q E s₁) E s := by
    refine wpAny_bind (wpAny_mono hcall (fun v s' hv => ?_) fun _ _ e => e)
    obtain ⟨k, rfl, hq⟩ := hv
    exact wpAny_pure (wpAny_pure hq)
  split
  · exact wpAny_bind (wpAny_pure (wpAny_pure fin))
  · exact wpAny_tryCatch (wpAny_bind (wpAny_pure (wpAny_pure fin)))
theorem vm_ne {Q : Value → Shared → Prop} (hu : A.units + 1 < cLine) (X : K.In s.heap) (I : InstAt s.heap x ox C od) (hb : Looks (model prog w) s.heap (typeOf b) tb) (hnf : notFirst K C tb = true)
    (hs : findIn K (.ref C) "__eq__" = some (some (.ref f))) (hf : isFn K (.ref f) = true) (hn : findIn K (.ref C) "__ne__" = some (some (.builtin "object.__ne__"))) (hm : mroIn K C (.type "object") = some true)
    (h : wpAny (model prog w) A.in1 (call (.ref f) [.ref x, b]) (fun v s' => ∃ k, v = .bool k ∧ Q (.bool (!k)) s') E s) : wpAny (model prog w) A (richCompare .NotEq (.ref x) b) Q E s := by
  have one : wpAny (model prog w) A (tryCompare (.ref x) "__ne__" b) (fun r s' => ∃ v, r = some v ∧ Q v s') E s := by
    refine vm_tryNe hu X I hs hf hn hm (wpAny_mono h (fun v s' hv => ?_) fun _ _ e => e)
    obtain ⟨k, rfl, q⟩ := hv
    exact ⟨k, rfl, _, rfl, q⟩
  unfold richCompare
  simp only [oneThing_ref]
  refine wpAny_holding (wpAny_bind (wpAny_cRoomFor (Nat.lt_of_succ_lt hu) ?_))
  rw [cmpInfo_NotEq]
  dsimp only
  refine wpAny_bind (I.type.here (wpAny_bind (hb.here ?_)))
  split
  · rename_i q
    have e : subIn K tb (.ref C) = some false := by
      rcases Bool.or_eq_true_iff.mp hnf with e | e
      · rw [beq_iff_eq.mp e] at q; simp at q
      · exact beq_iff_eq.mp e
    refine wpAny_bind ((looks_subIn X e).here ?_)
    simp only [Bool.false_eq_true, if_false]
    refine wpAny_bind (wpAny_mono one (fun r s' z => ?_) fun _ _ e => e)
    obtain ⟨v, rfl, hq⟩ := z
    exact wpAny_pure hq
  · refine wpAny_bind (wpAny_pure ?_)
    simp only [Bool.false_eq_true, if_false]
    refine wpAny_bind (wpAny_mono one (fun r s' z => ?_) fun _ _ e => e)
    obtain ⟨v, rfl, hq⟩ := z
    exact wpAny_pure hq
end
end PySem.W

set_option Elab.async false
set_option linter.all false
set_option maxRecDepth 100000
set_option maxHeartbeats 2000000
namespace VM
open PySem L2

/-! ### own __contains__, __eq__, __len__ -/
section
variable {X : Cx} {k : Nat} {f C : Addr} {fd : FuncData} {ps : List Str} {sp : Sp} {pins : List (Addr × Obj)} {σ : L2.St} {H : Hp} {s : Shared} {Q : VK} {us : List Value} {vs : List V}
theorem inst_of {a dx : Addr} {fs : List (Str × V)} (I : Inv X pins σ H s) (e : H a = some (.ins C dx fs)) : ∃ ox od, PySem.W.InstAt s.heap a ox C od := by
  obtain ⟨mA, O, _⟩ := ins_get I.hok e
  obtain ⟨od, J, _⟩ := O.look
  exact ⟨_, _, J⟩
def rInOwn (C : Addr) (sp : Sp) : R2 := fun x y H Q => ∃ a dx fs, y = .ref a ∧ H a = some (.ins C dx fs) ∧ sp [y, x] H (fun v H' => ∃ b, v = .bl b ∧ Q (.bl b) H') E0
theorem op_inOwn (hM : Meth X.K C "__contains__" f) (F : FnG X.prog X.w X.K X.mg X.base (L2.CX X.prog X.w) k f fd ps sp) (hr : RoomG k X.A) (hb : Binds X.K fd ps []) : OpR X (compareOp .In) (rInOwn C sp) := by
  intro pins s σ H x y v u Q I rx ry h
  obtain ⟨a, dx, fs, rfl, ea, q⟩ := h
  obtain rfl : u = Value.ref a := ry
  obtain ⟨ox, od, J⟩ := inst_of I ea
  refine wpAny_bind (PySem.W.vm_contains I.kIn J hM.at_ hM.fn (wpAny_mono (run_fnG (us := [.ref a, v]) (vs := [.ref a, x]) (E := E0) F hr hb (fun pins H s e s' => passL pins σ H s e s') I (.cons rfl (.cons rx .nil)) q) (fun r s' z => ?_) fun _ _ z => z))
  obtain ⟨z', H', I', rz, b, rfl, qz⟩ := z
  obtain rfl : r = Value.bool b := rz
  exact ⟨b, rfl, wpAny_pure ⟨.bl b, H', I', rfl, qz⟩⟩
theorem op_ninOwn (hM : Meth X.K C "__contains__" f) (F : FnG X.prog X.w X.K X.mg X.base (L2.CX X.prog X.w) k f fd ps sp) (hr : RoomG k X.A) (hb : Binds X.K fd ps []) : OpR X (compareOp .NotIn) (fun x y H Q => rInOwn C sp x y H fun v H' => ∃ b, v = .bl b ∧ Q (.bl (!b)) H') := by
  intro pins s σ H x y v u Q I rx ry h
  obtain ⟨a, dx, fs, rfl, ea, q⟩ := h
  obtain rfl : u = Value.ref a := ry
  obtain ⟨ox, od, J⟩ := inst_of I ea
  refine wpAny_bind (PySem.W.vm_contains I.kIn J hM.at_ hM.fn (wpAny_mono (run_fnG (us := [.ref a, v]) (vs := [.ref a, x]) (E := E0) F hr hb (fun pins H s e s' => passL pins σ H s e s') I (.cons rfl (.cons rx .nil)) q) (fun r s' z => ?_) fun _ _ z => z))
  obtain ⟨z', H', I', rz, b, rfl, b', eb, qz⟩ := z
  cases eb
  obtain rfl : r = Value.bool b := rz
  exact ⟨b, rfl, wpAny_pure ⟨.bl (!b), H', I', rfl, qz⟩⟩
/-- what == asks of the other value -/
def rEqOwn (K : PySem.W.Frag) (C : Addr) (sp : Sp) : R2 := fun x y H Q => ∃ a dx fs tb, x = .ref a ∧ H a = some (.ins C dx fs) ∧ TyX K H y tb ∧ PySem.W.notFirst K C tb = true ∧ sp [x, y] H (fun v H' => ∃ b, v = .bl b ∧ Q (.bl b) H') E0
theorem op_eqOwn (hM : Meth X.K C "__eq__" f) (F : FnG X.prog X.w X.K X.mg X.base (L2.CX X.prog X.w) k f fd ps sp) (hr : RoomG k X.A) (hb : Binds X.K fd ps []) : OpR X (compareOp .Eq) (rEqOwn X.K C sp) := by
  intro pins s σ H x y v u Q I rx ry h
  obtain ⟨a, dx, fs, tb, rfl, ea, ty, hn, q⟩ := h
  obtain rfl : v = Value.ref a := rx
  obtain ⟨ox, od, J⟩ := inst_of I ea
  obtain ⟨P, Z, p, _⟩ := kit_of I ry ty
  obtain ⟨m, hF⟩ := I.fr
  show wpAny _ _ (richCompare .Eq _ _) _ _ _
  refine PySem.W.cmp_K (op := .Eq) (tb := tb) hr.r.units0 hF I.ok.mod.kin J (Z.ty _ _ I.kIn p) hn hM.at_ hM.fn ?_
  refine wpAny_mono (run_fnG (us := [.ref a, u]) (vs := [.ref a, y]) (E := E0) F hr hb (fun pins H s e s' => passL pins σ H s e s') I (.cons rfl (.cons ry .nil)) q) (fun r s' z => ?_) fun _ _ z => z
  obtain ⟨z', H', I', rz, b, rfl, qz⟩ := z
  obtain rfl : r = Value.bool b := rz
  exact ⟨.bl b, H', I', rfl, qz⟩
theorem op_neOwn (hM : Meth X.K C "__eq__" f) (hno : PySem.W.findIn X.K (.ref C) "__ne__" = some (some (.builtin "object.__ne__"))) (hm : PySem.W.mroIn X.K C (.type "object") = some true) (F : FnG X.prog X.w X.K X.mg X.base (L2.CX X.prog X.w) k f fd ps sp) (hr : RoomG (k + 1) X.A) (hb : Binds X.K fd ps []) :
    OpR X (compareOp .NotEq) (fun x y H Q => rEqOwn X.K C sp x y H fun v H' => ∃ b, v = .bl b ∧ Q (.bl (!b)) H') := by
  intro pins s σ H x y v u Q I rx ry h
  obtain ⟨a, dx, fs, tb, rfl, ea, ty, hn, q⟩ := h
  obtain rfl : v = Value.ref a := rx
  obtain ⟨ox, od, J⟩ := inst_of I ea
  obtain ⟨P, Z, p, _⟩ := kit_of I ry ty
  show wpAny _ _ (richCompare .NotEq _ _) _ _ _
  refine PySem.W.vm_ne (tb := tb) (by have := hr.r.un; omega) I.kIn J (Z.ty _ _ I.kIn p) hn hM.at_ hM.fn hno hm ?_
  refine wpAny_mono (run_in1 (us := [.ref a, u]) (vs := [.ref a, y]) F hr hb I (.cons rfl (.cons ry .nil)) q) (fun r s' z => ?_) fun _ _ z => z
  obtain ⟨z', H', I', rz, b, rfl, b', eb, qz⟩ := z
  cases eb
  obtain rfl : r = Value.bool b := rz
  exact ⟨b, rfl, .bl (!b), H', I', rfl, qz⟩
def rLenOwn (C : Addr) (sp : Sp) : List V → Hp → VK → Prop := fun xs H Q => ∃ a dx fs, xs = [.ref a] ∧ H a = some (.ins C dx fs) ∧ sp [.ref a] H (fun v H' => ∃ n : Int, v = .int n ∧ 0 ≤ n ∧ n < 2 ^ 63 ∧ Q (.int n) H') E0
theorem call_lenOwn (hM : Meth X.K C "__len__" f) (F : FnG X.prog X.w X.K X.mg X.base (L2.CX X.prog X.w) k f fd ps sp) (hr : RoomG (k + 1) X.A) (hb : Binds X.K fd ps []) : CallR X (.builtin "len") (rLenOwn C sp) := by
  intro pins s σ H xs us Q I r h
  obtain ⟨a, dx, fs, rfl, ea, q⟩ := h
  obtain ⟨u, rfl, ru⟩ := vals1 r
  obtain rfl : u = Value.ref a := ru
  obtain ⟨ox, od, J⟩ := inst_of I ea
  obtain ⟨m, hF⟩ := I.fr
  refine PySem.W.len_K hF I.ok.mod.kin J hM.at_ hM.fn (wpAny_mono (run_in1 (us := [.ref a]) (vs := [.ref a]) F hr hb I (.cons rfl .nil) q) (fun r s' z => ?_) fun _ _ z => z)
  obtain ⟨z', H', I', rz, n, rfl, h0, h1, qz⟩ := z
  obtain ⟨t, rfl⟩ := (show ∃ t, r = Value.int n t from rz)
  exact ⟨⟨h0, h1⟩, .int n, H', I'.tok _, ⟨_, rfl⟩, qz⟩
end
/-- x in o, o == y, len(o), by the own methods -/
def inO (xs : List Str) (f : List Slot → RF) (g : Bool → Bool) (a b : M) : M := fun ls => (a ls).bind fun k1 ls => (b ls).bind fun k2 ls => match look ls k2 with
  | some (.ins y _) => if y ∈ xs then (match callK f [k2, k1] ls with
    | .ok (.dat (.bl t)) ls => .ok (.dat (.bl (g t))) ls
    | _ => .stk) else .stk
  | _ => .stk
def eqO (xs : List Str) (f : List Slot → RF) (g : Bool → Bool) (ok : D → Bool) (a b : M) : M := fun ls => (a ls).bind fun k1 ls => (b ls).bind fun k2 ls => match look ls k1, look ls k2 with
  | some (.ins y _), some d => if y ∈ xs ∧ ok d = true then (match callK f [k1, k2] ls with
    | .ok (.dat (.bl t)) ls => .ok (.dat (.bl (g t))) ls
    | _ => .stk) else .stk
  | _, _ => .stk
def lenO (xs : List Str) (f : List Slot → RF) (a : AM) : M := fun ls => (a ls).bind fun ks ls => match ks with
  | [k] => (match look ls k with
    | some (.ins y _) => if y ∈ xs then (match callK f [k] ls with
      | .ok (.dat (.int n)) ls => if 0 ≤ n ∧ n < 2 ^ 63 then .ok (.dat (.int n)) ls else .stk
      | _ => .stk) else .stk
    | _ => .stk)
  | _ => .stk
structure ClsAt (K : PySem.W.Frag) (mg : Str → Option Value) (C : Addr) (xs : List Str) : Prop where
  h : ∀ y ∈ xs, mg y = some (.ref C)
structure EqOk (K : PySem.W.Frag) (mg : Str → Option Value) (C : Addr) (ok : D → Bool) : Prop where
  b : ∀ d t, ok d = true → tyD d = some t → PySem.W.notFirst K C (.type t) = true
  t : ∀ d, ok d = true → (tyD d).isSome = true ∨ ∃ y gs, d = .ins y gs
  c : ∀ y gs, ok (.ins y gs) = true → ∃ C', mg y = some (.ref C') ∧ InsOk K C' ∧ PySem.W.notFirst K C (.ref C') = true
theorem EqOk.ty {G : Cfg} {C : Addr} {ok : D → Bool} (e : EqOk G.K G.mg C ok) {F H : Hp} (x : Ex F H) {v : V} {d : D} (h : Vw G F H v d) (hd : ok d = true) : ∃ tb, TyX G.K H v tb ∧ PySem.W.notFirst G.K C tb = true := by
  rcases e.t d hd with z | ⟨y, gs, rfl⟩
  · obtain ⟨t, ht⟩ := Option.isSome_iff_exists.mp z
    exact ⟨_, tyD_vw x h ht, e.b d t hd ht⟩
  · obtain ⟨a, C1, dx, fs, rfl, hm, ha, _⟩ := Vw.ins x h
    obtain ⟨C', h1, h2, h3⟩ := e.c y gs hd
    obtain rfl : C' = C1 := by
      have z := h1.symm.trans hm
      cases z; rfl
    exact ⟨_, .base (.ins ha h2.cl h2.ha h2.hn h2.htk h2.hm), h3⟩
section
variable {X : Cx} {B : Base} {W : WX} {a b e : Expr} {ma mb : M} {am : AM} {k : Nat} {f C : Addr} {fd : FuncData} {ps : List Str} {g : List Slot → RF} {xs : List Str} {pos p : Pos} {ok : D → Bool}
theorem own_call {G : Cfg} {F0 H : Hp} {σ : L2.St} {ls : LS} {vs ws : List V} {ks as : List Slot} {n : Nat} {Q : VK} {fl : D → Option D} (hn : as.length = n) (hl : ws.length = as.length) (R : Rp G F0 H σ ls (ws ++ vs) (as ++ ks))
    (po : PostM G W σ vs ks (match callK g as ls with
      | .ok (.dat d) ls => (match fl d with
        | some d' => .ok (.dat d') ls
        | none => .stk)
      | _ => .stk) Q) : spM G.K G.mg n g ws H (fun v H' => ∃ d d', (∀ F', DD G.K G.mg F' d v → fl d = some d' → True) ∧ ∃ F', DD G.K G.mg F' d v ∧ fl d = some d' ∧ ∀ u, DD G.K G.mg F' d' u → Q u H') E0 := by
  have po' : PostM G WF σ vs ks (callK g as ls) (fun v H' => ∃ d d', (∀ F', DD G.K G.mg F' d v → fl d = some d' → True) ∧ ∃ F', DD G.K G.mg F' d v ∧ fl d = some d' ∧ ∀ u, DD G.K G.mg F' d' u → Q u H') := by
    cases e : callK g as ls with
    | stk => rw [e] at po; exact po.elim
    | err x ls1 => rw [e] at po; exact po.elim
    | ok kk ls1 =>
      rw [e] at po
      cases kk with
      | dat d =>
        simp only at po
        cases e2 : fl d with
        | none => rw [e2] at po; exact po.elim
        | some d' =>
          rw [e2] at po
          intro v F' H' R'
          obtain ⟨y, ey, dy⟩ := R'.good.head
          cases ey
          exact ⟨d, d', fun _ _ _ => trivial, F', dy, e2, fun u hu => po u F' H' (R'.pop.pushDat hu)⟩
      | _ => exact po.elim
  obtain ⟨F1, W0, qs, na, R1, po1⟩ := callK_ok hl R po'
  exact ⟨by omega, F1, W0, qs, na, R1, po1⟩
def blF (g : Bool → Bool) : D → Option D
  | .bl t => some (.bl (g t))
  | _ => none
theorem Sp_mono {K : PySem.W.Frag} {mg : Str → Option Value} {n : Nat} {vs : List V} {H : Hp} {Q Q' : VK} {E : XK} (h : spM K mg n g vs H Q E) (hq : ∀ v H', Q v H' → Q' v H') : spM K mg n g vs H Q' E := by
  obtain ⟨h0, F, W, ps, na, R, po⟩ := h
  refine ⟨h0, F, W, ps, na, R, ?_⟩
  cases e : g ps with
  | ok k ps' => rw [e] at po; exact fun v F' H' R' => hq _ _ (po v F' H' R')
  | err x ps' => rw [e] at po; exact po
  | stk => rw [e] at po; exact po.elim
theorem imp_inO (hM : Meth X.K C "__contains__" f) (hC : ClsAt X.K X.mg C xs) (F : FnG X.prog X.w X.K X.mg X.base (L2.CX X.prog X.w) k f fd ps (spM X.K X.mg 2 g)) (hr : RoomG k X.A) (hb : Binds X.K fd ps []) {σ : L2.St} {H : Hp} {Q : VK} (h : tM (cfg X B) W (inO xs g id ma mb) σ H Q) : tOp (rInOwn C (spM X.K X.mg 2 g)) (tM (cfg X B) W ma) (tM (cfg X B) W mb) σ H Q := by
  refine tM_two h fun F ls vs ks v w k1 k2 H' R po => ?_
  cases e1 : look ls k2 with
  | none => simp only [e1, PostM] at po
  | some d =>
    cases d with
    | ins y gs =>
      simp only [e1] at po
      split at po
      · rename_i hy
        obtain ⟨p, C1, dx, fs, rfl, hmy, hp, _⟩ := ins_of R e1
        obtain rfl : C = C1 := by
          have z := (hC.h y hy).symm.trans hmy
          cases z; rfl
        refine ⟨p, dx, fs, rfl, hp, ?_⟩
        refine Sp_mono (own_call (Q := Q) (σ := σ) (fl := blF id) (as := [k2, k1]) (ws := [.ref p, v]) (vs := vs) (ks := ks) (W := W) rfl rfl R ?_) ?_
        · cases e2 : callK g [k2, k1] ls with
          | ok kk ls2 =>
            rw [e2] at po
            cases kk with
            | dat d => cases d <;> exact po
            | _ => exact po
          | err x ls2 => rw [e2] at po; exact po
          | stk => rw [e2] at po; exact po
        · rintro v H1 ⟨d, d', _, F', dd, e3, q⟩
          cases d <;> first | (cases e3; done) | skip
          cases e3
          cases dd
          exact ⟨_, rfl, q _ (.bl _)⟩
      · exact po.elim
    | _ => simp only [e1, PostM] at po
theorem e_inO (hM : Meth X.K C "__contains__" f) (hC : ClsAt X.K X.mg C xs) (F : FnG X.prog X.w X.K X.mg X.base (L2.CX X.prog X.w) k f fd ps (spM X.K X.mg 2 g)) (hr : RoomG k X.A) (hb : Binds X.K fd ps []) (ha : L2.PE X a (tM (cfg X B) W ma)) (hbb : L2.PE X b (tM (cfg X B) W mb)) (hm : behindInMarks .In b = false := by first | exact nomark _ | rfl) : L2.PE X (.Compare a [.In] [b] pos) (tM (cfg X B) W (inO xs g id ma mb)) := PE.imp (pe_cmpR (op_inOwn hM F hr hb) ha hbb hm) fun σ H Q h => imp_inO hM hC F hr hb h
theorem t_inO (hM : Meth X.K C "__contains__" f) (hC : ClsAt X.K X.mg C xs) (F : FnG X.prog X.w X.K X.mg X.base (L2.CX X.prog X.w) k f fd ps (spM X.K X.mg 2 g)) (hr : RoomG k X.A) (hb : Binds X.K fd ps []) (ha : L2.PE X a (tM (cfg X B) W ma)) (hbb : L2.PE X b (tM (cfg X B) W mb)) (hm : behindInMarks .In b = false := by first | exact nomark _ | rfl) : L2.PT X (.Compare a [.In] [b] pos) (tT (cfg X B) W (inO xs g id ma mb)) := PT.imp (pt_cmpR (op_inOwn hM F hr hb) ha hbb hm) fun σ H Q h => imp_inO hM hC F hr hb (tT_of h)
theorem imp_ninO (hM : Meth X.K C "__contains__" f) (hC : ClsAt X.K X.mg C xs) (F : FnG X.prog X.w X.K X.mg X.base (L2.CX X.prog X.w) k f fd ps (spM X.K X.mg 2 g)) (hr : RoomG k X.A) (hb : Binds X.K fd ps []) {σ : L2.St} {H : Hp} {Q : VK} (h : tM (cfg X B) W (inO xs g (fun t => !t) ma mb) σ H Q) : tOp (fun x y H Q => rInOwn C (spM X.K X.mg 2 g) x y H fun v H' => ∃ b, v = .bl b ∧ Q (.bl (!b)) H') (tM (cfg X B) W ma) (tM (cfg X B) W mb) σ H Q := by
  refine tM_two (r := fun x y H Q => rInOwn C (spM X.K X.mg 2 g) x y H fun v H' => ∃ b, v = .bl b ∧ Q (.bl (!b)) H') h fun F ls vs ks v w k1 k2 H' R po => ?_
  cases e1 : look ls k2 with
  | none => simp only [e1, PostM] at po
  | some d =>
    cases d with
    | ins y gs =>
      simp only [e1] at po
      split at po
      · rename_i hy
        obtain ⟨p, C1, dx, fs, rfl, hmy, hp, _⟩ := ins_of R e1
        obtain rfl : C = C1 := by
          have z := (hC.h y hy).symm.trans hmy
          cases z; rfl
        refine ⟨p, dx, fs, rfl, hp, ?_⟩
        refine Sp_mono (own_call (Q := Q) (σ := σ) (fl := blF (fun t => !t)) (as := [k2, k1]) (ws := [.ref p, v]) (vs := vs) (ks := ks) (W := W) rfl rfl R ?_) ?_
        · cases e2 : callK g [k2, k1] ls with
          | ok kk ls2 =>
            rw [e2] at po
            cases kk with
            | dat d => cases d <;> exact po
            | _ => exact po
          | err x ls2 => rw [e2] at po; exact po
          | stk => rw [e2] at po; exact po
        · rintro v H1 ⟨d, d', _, F', dd, e3, q⟩
          cases d <;> first | (cases e3; done) | skip
          cases e3
          cases dd
          exact ⟨_, rfl, _, rfl, q _ (.bl _)⟩
      · exact po.elim
    | _ => simp only [e1, PostM] at po
theorem e_ninO (hM : Meth X.K C "__contains__" f) (hC : ClsAt X.K X.mg C xs) (F : FnG X.prog X.w X.K X.mg X.base (L2.CX X.prog X.w) k f fd ps (spM X.K X.mg 2 g)) (hr : RoomG k X.A) (hb : Binds X.K fd ps []) (ha : L2.PE X a (tM (cfg X B) W ma)) (hbb : L2.PE X b (tM (cfg X B) W mb)) (hm : behindInMarks .NotIn b = false := by first | exact nomark _ | rfl) : L2.PE X (.Compare a [.NotIn] [b] pos) (tM (cfg X B) W (inO xs g (fun t => !t) ma mb)) := PE.imp (pe_cmpR (op_ninOwn hM F hr hb) ha hbb hm) fun σ H Q h => imp_ninO hM hC F hr hb h
theorem t_ninO (hM : Meth X.K C "__contains__" f) (hC : ClsAt X.K X.mg C xs) (F : FnG X.prog X.w X.K X.mg X.base (L2.CX X.prog X.w) k f fd ps (spM X.K X.mg 2 g)) (hr : RoomG k X.A) (hb : Binds X.K fd ps []) (ha : L2.PE X a (tM (cfg X B) W ma)) (hbb : L2.PE X b (tM (cfg X B) W mb)) (hm : behindInMarks .NotIn b = false := by first | exact nomark _ | rfl) : L2.PT X (.Compare a [.NotIn] [b] pos) (tT (cfg X B) W (inO xs g (fun t => !t) ma mb)) := PT.imp (pt_cmpR (op_ninOwn hM F hr hb) ha hbb hm) fun σ H Q h => imp_ninO hM hC F hr hb (tT_of h)
theorem imp_eqO (hM : Meth X.K C "__eq__" f) (hC : ClsAt X.K X.mg C xs) (eo : EqOk X.K X.mg C ok) (F : FnG X.prog X.w X.K X.mg X.base (L2.CX X.prog X.w) k f fd ps (spM X.K X.mg 2 g)) (hr : RoomG k X.A) (hb : Binds X.K fd ps []) {σ : L2.St} {H : Hp} {Q : VK} (h : tM (cfg X B) W (eqO xs g id ok ma mb) σ H Q) : tOp (rEqOwn X.K C (spM X.K X.mg 2 g)) (tM (cfg X B) W ma) (tM (cfg X B) W mb) σ H Q := by
  refine tM_two h fun F ls vs ks v w k1 k2 H' R po => ?_
  cases e1 : look ls k1 with
  | none => simp only [e1, PostM] at po
  | some d =>
    cases d with
    | ins y gs =>
      cases e0 : look ls k2 with
      | none => simp only [e1, e0, PostM] at po
      | some d2 =>
        simp only [e1, e0] at po
        split at po
        · rename_i hy
          obtain ⟨p, C1, dx, fs, rfl, hmy, hp, _⟩ := Vw.ins R.ex (R.pop.view0 e1)
          obtain rfl : C = C1 := by
            have z := (hC.h y hy.1).symm.trans hmy
            cases z; rfl
          obtain ⟨tb, t1, t2⟩ := eo.ty (G := cfg X B) R.ex (R.view0 e0) hy.2
          refine ⟨p, dx, fs, tb, rfl, hp, t1, t2, ?_⟩
          have R2 : Rp (cfg X B) F H' σ ls ([.ref p, w] ++ vs) ([k1, k2] ++ ks) := Rp.rot (ws := [w]) (as := [k2]) rfl R
          refine Sp_mono (own_call (Q := Q) (σ := σ) (fl := blF id) (as := [k1, k2]) (ws := [.ref p, w]) (vs := vs) (ks := ks) (W := W) rfl rfl R2 ?_) ?_
          · cases e2 : callK g [k1, k2] ls with
            | ok kk ls2 =>
              rw [e2] at po
              cases kk with
              | dat d => cases d <;> exact po
              | _ => exact po
            | err x ls2 => rw [e2] at po; exact po
            | stk => rw [e2] at po; exact po
          · rintro v H1 ⟨d, d', _, F', dd, e3, q⟩
            cases d <;> first | (cases e3; done) | skip
            cases e3
            cases dd
            exact ⟨_, rfl, q _ (.bl _)⟩
        · exact po.elim
    | _ => (first | (simp only [e1, PostM] at po; done) | (cases e0 : look ls k2 <;> simp only [e1, e0, PostM] at po))
theorem e_eqO (hM : Meth X.K C "__eq__" f) (hC : ClsAt X.K X.mg C xs) (eo : EqOk X.K X.mg C ok) (F : FnG X.prog X.w X.K X.mg X.base (L2.CX X.prog X.w) k f fd ps (spM X.K X.mg 2 g)) (hr : RoomG k X.A) (hb : Binds X.K fd ps []) (ha : L2.PE X a (tM (cfg X B) W ma)) (hbb : L2.PE X b (tM (cfg X B) W mb)) (hm : behindInMarks .Eq b = false := by first | exact nomark _ | rfl) : L2.PE X (.Compare a [.Eq] [b] pos) (tM (cfg X B) W (eqO xs g id ok ma mb)) := PE.imp (pe_cmpR (op_eqOwn hM F hr hb) ha hbb hm) fun σ H Q h => imp_eqO hM hC eo F hr hb h
theorem t_eqO (hM : Meth X.K C "__eq__" f) (hC : ClsAt X.K X.mg C xs) (eo : EqOk X.K X.mg C ok) (F : FnG X.prog X.w X.K X.mg X.base (L2.CX X.prog X.w) k f fd ps (spM X.K X.mg 2 g)) (hr : RoomG k X.A) (hb : Binds X.K fd ps []) (ha : L2.PE X a (tM (cfg X B) W ma)) (hbb : L2.PE X b (tM (cfg X B) W mb)) (hm : behindInMarks .Eq b = false := by first | exact nomark _ | rfl) : L2.PT X (.Compare a [.Eq] [b] pos) (tT (cfg X B) W (eqO xs g id ok ma mb)) := PT.imp (pt_cmpR (op_eqOwn hM F hr hb) ha hbb hm) fun σ H Q h => imp_eqO hM hC eo F hr hb (tT_of h)
theorem imp_neO (hM : Meth X.K C "__eq__" f) (hno : PySem.W.findIn X.K (.ref C) "__ne__" = some (some (.builtin "object.__ne__"))) (hmo : PySem.W.mroIn X.K C (.type "object") = some true) (hC : ClsAt X.K X.mg C xs) (eo : EqOk X.K X.mg C ok) (F : FnG X.prog X.w X.K X.mg X.base (L2.CX X.prog X.w) k f fd ps (spM X.K X.mg 2 g)) (hr : RoomG (k + 1) X.A) (hb : Binds X.K fd ps []) {σ : L2.St} {H : Hp} {Q : VK} (h : tM (cfg X B) W (eqO xs g (fun t => !t) ok ma mb) σ H Q) : tOp (fun x y H Q => rEqOwn X.K C (spM X.K X.mg 2 g) x y H fun v H' => ∃ b, v = .bl b ∧ Q (.bl (!b)) H') (tM (cfg X B) W ma) (tM (cfg X B) W mb) σ H Q := by
  refine tM_two (r := fun x y H Q => rEqOwn X.K C (spM X.K X.mg 2 g) x y H fun v H' => ∃ b, v = .bl b ∧ Q (.bl (!b)) H') h fun F ls vs ks v w k1 k2 H' R po => ?_
  cases e1 : look ls k1 with
  | none => simp only [e1, PostM] at po
  | some d =>
    cases d with
    | ins y gs =>
      cases e0 : look ls k2 with
      | none => simp only [e1, e0, PostM] at po
      | some d2 =>
        simp only [e1, e0] at po
        split at po
        · rename_i hy
          obtain ⟨p, C1, dx, fs, rfl, hmy, hp, _⟩ := Vw.ins R.ex (R.pop.view0 e1)
          obtain rfl : C = C1 := by
            have z := (hC.h y hy.1).symm.trans hmy
            cases z; rfl
          obtain ⟨tb, t1, t2⟩ := eo.ty (G := cfg X B) R.ex (R.view0 e0) hy.2
          refine ⟨p, dx, fs, tb, rfl, hp, t1, t2, ?_⟩
          have R2 : Rp (cfg X B) F H' σ ls ([.ref p, w] ++ vs) ([k1, k2] ++ ks) := Rp.rot (ws := [w]) (as := [k2]) rfl R
          refine Sp_mono (own_call (Q := Q) (σ := σ) (fl := blF (fun t => !t)) (as := [k1, k2]) (ws := [.ref p, w]) (vs := vs) (ks := ks) (W := W) rfl rfl R2 ?_) ?_
          · cases e2 : callK g [k1, k2] ls with
            | ok kk ls2 =>
              rw [e2] at po
              cases kk with
              | dat d => cases d <;> exact po
              | _ => exact po
            | err x ls2 => rw [e2] at po; exact po
            | stk => rw [e2] at po; exact po
          · rintro v H1 ⟨d, d', _, F', dd, e3, q⟩
            cases d <;> first | (cases e3; done) | skip
            cases e3
            cases dd
            exact ⟨_, rfl, _, rfl, q _ (.bl _)⟩
        · exact po.elim
    | _ => (first | (simp only [e1, PostM] at po; done) | (cases e0 : look ls k2 <;> simp only [e1, e0, PostM] at po))
theorem e_neO (hM : Meth X.K C "__eq__" f) (hno : PySem.W.findIn X.K (.ref C) "__ne__" = some (some (.builtin "object.__ne__"))) (hmo : PySem.W.mroIn X.K C (.type "object") = some true) (hC : ClsAt X.K X.mg C xs) (eo : EqOk X.K X.mg C ok) (F : FnG X.prog X.w X.K X.mg X.base (L2.CX X.prog X.w) k f fd ps (spM X.K X.mg 2 g)) (hr : RoomG (k + 1) X.A) (hb : Binds X.K fd ps []) (ha : L2.PE X a (tM (cfg X B) W ma)) (hbb : L2.PE X b (tM (cfg X B) W mb)) (hm : behindInMarks .NotEq b = false := by first | exact nomark _ | rfl) : L2.PE X (.Compare a [.NotEq] [b] pos) (tM (cfg X B) W (eqO xs g (fun t => !t) ok ma mb)) := PE.imp (pe_cmpR (op_neOwn hM hno hmo F hr hb) ha hbb hm) fun σ H Q h => imp_neO hM hno hmo hC eo F hr hb h
theorem t_neO (hM : Meth X.K C "__eq__" f) (hno : PySem.W.findIn X.K (.ref C) "__ne__" = some (some (.builtin "object.__ne__"))) (hmo : PySem.W.mroIn X.K C (.type "object") = some true) (hC : ClsAt X.K X.mg C xs) (eo : EqOk X.K X.mg C ok) (F : FnG X.prog X.w X.K X.mg X.base (L2.CX X.prog X.w) k f fd ps (spM X.K X.mg 2 g)) (hr : RoomG (k + 1) X.A) (hb : Binds X.K fd ps []) (ha : L2.PE X a (tM (cfg X B) W ma)) (hbb : L2.PE X b (tM (cfg X B) W mb)) (hm : behindInMarks .NotEq b = false := by first | exact nomark _ | rfl) : L2.PT X (.Compare a [.NotEq] [b] pos) (tT (cfg X B) W (eqO xs g (fun t => !t) ok ma mb)) := PT.imp (pt_cmpR (op_neOwn hM hno hmo F hr hb) ha hbb hm) fun σ H Q h => imp_neO hM hno hmo hC eo F hr hb (tT_of h)
def lenF : D → Option D
  | .int n => if 0 ≤ n ∧ n < 2 ^ 63 then some (.int n) else none
  | _ => none
theorem e_lenO {es : List Expr} (hM : Meth X.K C "__len__" f) (hC : ClsAt X.K X.mg C xs) (F : FnG X.prog X.w X.K X.mg X.base (L2.CX X.prog X.w) k f fd ps (spM X.K X.mg 1 g)) (hr : RoomG (k + 1) X.A) (hb : Binds X.K fd ps []) (hm : X.mg "len" = none) (ha : L2.PA X (e :: es) (tA (cfg X B) W am)) (hg : Gl X "len" := by rfl)
    (he : starEach (e :: es) X.env = (false, eval e X.env) :: starEach es X.env := by rfl) (hpl : (backTo pos (starEach es X.env)).any (·.1) = false := by rfl) : L2.PE X (.Call (.Name "len" p) (e :: es) [] pos) (tM (cfg X B) W (lenO xs g am)) :=
  PE.imp (pe_callB (call_lenOwn hM F hr hb) hg hm PySem.boot_len ha (by decide) (by decide) he hpl) fun σ H Q h => by
  refine tA_bind h fun F ls vs ks ws H' as hl R po => ?_
  split at po
  · rename_i kk
    cases e1 : look ls kk with
    | none => simp only [e1, PostM] at po
    | some d =>
      cases d with
      | ins y gs =>
        simp only [e1] at po
        split at po
        · rename_i hy
          match ws, hl with
          | [v], _ =>
            obtain ⟨p, C1, dx, fs, rfl, hmy, hp, _⟩ := ins_of (σ := σ) (vs := vs) (ks := ks) R e1
            obtain rfl : C = C1 := by
              have z := (hC.h y hy).symm.trans hmy
              cases z; rfl
            refine ⟨p, dx, fs, rfl, hp, ?_⟩
            refine Sp_mono (own_call (Q := Q) (σ := σ) (fl := lenF) (as := [kk]) (ws := [.ref p]) (vs := vs) (ks := ks) (W := W) rfl rfl R ?_) ?_
            · cases e2 : callK g [kk] ls with
              | ok k3 ls2 =>
                rw [e2] at po
                cases k3 with
                | dat d =>
                  cases d with
                  | int n =>
                    simp only [lenF] at po ⊢
                    by_cases hn : 0 ≤ n ∧ n < 2 ^ 63
                    · rw [if_pos hn] at po ⊢; exact po
                    · rw [if_neg hn] at po; exact po.elim
                  | _ => exact po
                | _ => exact po
              | err x ls2 => rw [e2] at po; exact po
              | stk => rw [e2] at po; exact po
            · rintro v H1 ⟨d, d', _, F', dd, e3, q⟩
              cases d <;> first | (cases e3; done) | skip
              obtain ⟨hn, rfl⟩ := ite_some (k := d') e3
              cases dd
              exact ⟨_, rfl, hn.1, hn.2, q _ (.int _)⟩
        · exact po.elim
      | _ => simp only [e1, PostM] at po
  · exact po.elim
end
end VM

set_option Elab.async false
set_option linter.all false
set_option maxRecDepth 100000
set_option maxHeartbeats 2000000
namespace L2
open PySem PySem.Spec PyProof.Rows
/-! ### dict comprehensions of either kind -/
theorem d_dictSetP {X : Cx} {pins : List (Addr × Obj)} {σ : St} {H H' : Hp} {s : Shared} {A : Around} {E : Value → Shared → Prop} {a : Addr} {y v : V} {u r : Value} {Q : Unit → Shared → Prop} (hu : A.units + 1 < cLine) (I : Inv X pins σ H s) (g : DPut H a y v H') (ry : RelV y u) (rv : RelV v r)
    (h : ∀ s', Inv X pins σ H' s' → Q () s') : wpAny (model X.prog X.w) A (dictSet a u r) Q E s := by
  rcases g with ⟨kvs, k, e, ey, l, eH⟩ | ⟨kvs, k, b, e, ey, eb, l, eH⟩
  · subst ey eH
    obtain ⟨z, hd, vs, rel, dd⟩ := dk_of I.hok e
    have hz : vs.length ≤ sizeLine := by rw [← rel.length]; exact z
    have hl : (putK kvs k v).length ≤ sizeLine := by have := length_putK kvs k v; omega
    refine wpAny_dictSet_pairs (hsz := hz) (kV_is ry) dd fun h' dd' hs => h _ ?_
    have he : ∃ q, h'.get? a = some q := let ⟨q, _, _, hq, _⟩ := dd'; ⟨q, hq⟩
    exact d_write I (by rw [e]; exact True.intro) hs he (dk_new hl hd (rel.put k rv) dd')
  · subst ey eH
    cases (show u = Value.ref b from ry)
    obtain ⟨z, hd, xs, rel, dd⟩ := dt_of I.hok e
    have hz : xs.length ≤ sizeLine := by rw [← Paired.length rel]; exact z
    have hl : (putK kvs k v).length ≤ sizeLine := by have := length_putK kvs k v; omega
    refine wpAny_dictSet_heap (hsz := hz) (by first | exact hu | (show A.units < cLine; omega) | exact Nat.lt_of_succ_lt hu) (key_of I.hok eb) dd fun h' dd' hs => h _ ?_
    obtain ⟨q, es, ep, hq, h2, h3, h4, _, h5⟩ := dd'
    refine d_write I (by rw [e]; exact True.intro) hs ⟨q, hq⟩ ⟨hl, hd, _, (rel.put k eb rv).keeps fun c ys ec => ?_, q, es, ep, hq, h2, h3, h4, h5⟩
    rw [upd_ne (ne_of ec e (fun z => nomatch z))]
    exact ec
section
variable {X : Cx}
def tDcG (o0 : HO) (wi : TI) (g : TG) (tt : TT) (tk tv : TE) (vs : List Nat) : TE := fun σ H Q => wi σ H fun J H1 => ∀ D, H1 D = none → ∃ W : Nat → Nat → Hp → Prop, (∃ m, W 0 m (upd H1 D o0)) ∧ ∀ i m H, W i m H →
  (J.stop i H ∧ Q (.ref D) H) ∨ (J.go i H ∧ ∃ Nx : Hp → Prop, (∀ H', Nx H' → ∃ m', m' < m ∧ W (i + 1) m' H') ∧ ∀ x H', J.yld i H x H' → g x (wipe σ vs) H' fun σ2 H2 => wipe σ2 vs = wipe σ vs ∧ tt σ2 H2 fun b H3 =>
    if b = true then tk σ2 H3 fun y H4 => tv σ2 H4 fun z H5 => ∃ H6, DPut H5 D y z H6 ∧ Nx H6 else Nx H3)
theorem dc_coreG {o0 : HO} (hnew : ∀ (s : Shared) (H : Hp), sysModules < s.heap.objs.size → ObjOk X.prog X.w H (s.heap.push { cls := .type "dict", data := .dict #[] }) s.heap.objs.size o0) (hu : X.A.units + 1 < cLine) {pins : List (Addr × Obj)} {s : Shared} {σ : St} {H : Hp} {Q : VK} {kx vx tg iter : Expr} {ifs : List Expr} {scope : Scope} {own : List (Str × Nat)} {pos pos' : Pos} {wi : TI} {g : TG} {tt : TT} {tk tv : TE} {use : Option (Value → Sem Unit)} {Qf : Value → Shared → Prop}
    (hc : X.calm = true) (hN : X.N.Nodup) (I : Inv X pins σ H s) (hi : PI X tg iter wi) (ok : BlkOk X.N X.env.scope scope own)
    (hg : ∀ (s : Shared) (H : Hp) (C : Addr) (cl : List (Str × Addr)) (fp : List Addr), PG (X.blk s H scope (compEnvC scope cl C X.env) fp) tg g) (ht : ∀ (s : Shared) (H : Hp) (C : Addr) (cl : List (Str × Addr)) (fp : List Addr), PTs (X.blk s H scope (compEnvC scope cl C X.env) fp) ifs tt)
    (hk : ∀ (s : Shared) (H : Hp) (C : Addr) (cl : List (Str × Addr)) (fp : List Addr), PE (X.blk s H scope (compEnvC scope cl C X.env) fp) kx tk)
    (he : ∀ (s : Shared) (H : Hp) (C : Addr) (cl : List (Str × Addr)) (fp : List Addr), PE (X.blk s H scope (compEnvC scope cl C X.env) fp) vx tv) (hs : ∀ x, foldedSetIterable iter X.env x = pure x)
    (h : tDcG o0 wi g tt tk tv (own.map (·.2)) σ H Q)
    (hRR : ∀ D C s' m H', Inv X pins σ H' s' → Q (.ref D) H' → s'.heap.Ns C m → FpOk X pins H' C → compPost (model X.prog X.w) X.A X.xe use Qf (.ref D) C (.ok .next) s') :
    wpAny (model X.prog X.w) X.A (comprehension (.DictComp kx vx [⟨tg, iter, ifs, 0⟩] scope pos) scope X.env pos' newDict false (eval iter X.env) use) Qf X.xe s := by
  have hfree : ∀ y ∈ scope.names, y.2 = .free → ∃ c, X.env.cells.lookup y.1 = some c := fun y hy e => by
    rcases ok.free y hy e with k | k
    · exact I.ok.has _ (.inl k)
    · exact I.ok.has _ (.inr k)
  refine wpAny_comprehension_free (use := use) rfl hs (closure_ok hfree) ok.kind (fun y hy e => by rw [ok.uniq y hy, e])
    (thn (hi.run pins s σ H _ I h) fun xv s1 hx => thn hx fun itv s2 h2 => ?_)
  obtain ⟨it, fp, tn, J, H2, e, I2, T, st2, f2, q⟩ := h2
  subst e
  refine wpAny_newObj_type (newEnv_comp ?_)
  generalize hD : s2.heap.objs.size = D
  have hDn : H2 D = none := I2.hok.fresh (Nat.le_of_eq hD)
  obtain ⟨W, ⟨m0, w0⟩, turn⟩ := q D hDn
  -- the new list
  generalize hs3 : ({ s2 with heap := s2.heap.push { cls := .type "dict", data := .dict #[] } } : Shared) = s3
  have I3 : Inv X pins σ (upd H2 D o0) s3 := by
    rw [← hs3]
    refine I2.laid (t' := s2.toks) (fun b o e => Heap.get?_push_of_some _ e) (Nat.le_of_eq hD) ?_
    rw [← hD]
    exact hnew s2 _ I2.big
  have h3 : s3.heap = s2.heap.push { cls := .type "dict", data := .dict #[] } := by rw [← hs3]
  have sz : ∀ b ∈ fp, b < s2.heap.objs.size := fun b hb => by
    obtain ⟨o, e, _⟩ := T.obj _ _ st2 b hb
    exact Heap.lt_size e
  have f3 : ∀ b ∈ fp, FpOk X pins (upd H2 D o0) b ∧ b < s3.heap.objs.size := fun b hb => by
    have hlt := sz b hb
    refine ⟨⟨?_, (f2 b hb).2⟩, by rw [h3, Heap.size_push]; exact Nat.lt_succ_of_lt hlt⟩
    rw [upd_ne (by rw [← hD]; exact Nat.ne_of_lt hlt)]
    exact (f2 b hb).1
  have st3 : tn 0 s3.heap := T.keep _ _ _ st2 fun b _ o e => by rw [h3]; exact Heap.get?_push_of_some _ e
  have I4 := block_start I3 ok hN f3
  have pg := hg s3 (upd H2 D o0) s3.heap.objs.size (cellsFrom (s3.heap.objs.size + 1) scope.names (cloFrom X.env.cells scope.names [])) fp
  have pt := ht s3 (upd H2 D o0) s3.heap.objs.size (cellsFrom (s3.heap.objs.size + 1) scope.names (cloFrom X.env.cells scope.names [])) fp
  have pk := hk s3 (upd H2 D o0) s3.heap.objs.size (cellsFrom (s3.heap.objs.size + 1) scope.names (cloFrom X.env.cells scope.names [])) fp
  have pe := he s3 (upd H2 D o0) s3.heap.objs.size (cellsFrom (s3.heap.objs.size + 1) scope.names (cloFrom X.env.cells scope.names [])) fp
  show codeAny _ _ (.compStart (.DictComp kx vx [⟨tg, iter, ifs, 0⟩] scope pos) 0 (.ref it) (.ref D) (compEnvC scope (cellsFrom (s3.heap.objs.size + 1) scope.names (cloFrom X.env.cells scope.names [])) s3.heap.objs.size X.env)) (compPost (model X.prog X.w) X.A X.xe use Qf (.ref D) s3.heap.objs.size) { s3 with heap := pushCells (s3.heap.push { cls := .type "dict", data := .dict #[] }) scope.names }
  have nfp : ∀ b ∈ fp, (upd H2 D o0) b = none := fun b hb => (f3 b hb).1.1
  generalize hce : compEnvC scope (cellsFrom (s3.heap.objs.size + 1) scope.names (cloFrom X.env.cells scope.names [])) s3.heap.objs.size X.env = ce at I4 pg pt pk pe ⊢
  have cL : ce.locals = s3.heap.objs.size := by subst hce; rfl
  generalize hH3 : upd H2 D o0 = H3 at I3 I4 pg pt pk pe w0 nfp f3
  generalize hs4 : ({ s3 with heap := pushCells (s3.heap.push { cls := .type "dict", data := .dict #[] }) scope.names } : Shared) = s4 at I4 ⊢
  have st4 : tn 0 s4.heap := T.keep _ _ _ st3 fun b _ o e => by rw [← hs4]; exact pushCells_keeps _ _ _ _ (Heap.get?_push_of_some _ e)
  have stat : ∀ {σ' : St} {H' : Hp} {s' : Shared}, Inv (X.blk s3 H3 scope ce fp) [] σ' H' s' → (∀ b ∈ fp, H' b = none) → ∀ b ∈ fp, FpOk (X.blk s3 H3 scope ce fp) [] H' b := fun {σ' H' s'} I' hn b hb =>
    ⟨hn b hb, (I'.ok.exf b hb).1, I'.ok.exfs b hb, .inl hb, fun x c e => (I'.ok.exf b hb).2 x c e, fun p hp => absurd (show p ∈ ([] : List (Addr × Obj)) ++ [] from hp) (by simp)⟩
  have loop : codeAny (model X.prog X.w) X.A (.compLoop (.DictComp kx vx [⟨tg, iter, ifs, 0⟩] scope pos) 0 (.ref it) (.ref D) ce) (compPost (model X.prog X.w) X.A X.xe use Qf (.ref D) s3.heap.objs.size) s4 := by
    refine compLoop_anyD (fun n s' => ∃ i H', Inv (X.blk s3 H3 scope ce fp) [] (wipe σ (own.map (·.2))) H' s' ∧ tn i s'.heap ∧ (∀ b ∈ fp, H' b = none) ∧ W i n H') ?_ m0 ⟨0, H3, I4, st4, nfp, w0⟩
    rintro n s5 ⟨i, H5, I5, st5, n5, w5⟩
    rcases turn i n H5 w5 with ⟨stop, qq⟩ | ⟨go, Nx, hNx, step⟩
    · have td := T.done (X.blk s3 H3 scope ce fp) rfl rfl rfl hc i [] s5 _ H5 (fun _ _ => False) I5 (stat I5 n5) st5 stop
      refine thnF td fun r s6 ⟨hr, I6⟩ => ?_
      subst hr
      -- back in the def's context
      have I7 : Inv X pins σ H5 s6 := I3.call' (ch := fp) I6.os I6.base I6.hok I6.bare fun b hb => ⟨(f3 b hb).1.2.2.2.1, (f3 b hb).1.2.1, (f3 b hb).1.2.2.2.2.1, (f3 b hb).1.2.2.2.2.2⟩
      have nC : H5 s3.heap.objs.size = none := by
        have z : H5 ce.locals = none := I6.free
        rw [cL] at z
        exact z
      obtain ⟨m, hn, _⟩ := I6.loc
      have hn : s6.heap.Ns ce.locals m := hn
      rw [cL] at hn
      exact hRR D s3.heap.objs.size s6 m H5 I7 qq hn (I3.fpOk (Nat.le_refl _) nC)
    · have ti := T.item (X.blk s3 H3 scope ce fp) rfl rfl rfl hc i [] s5 _ H5 (fun _ _ => False) I5 (stat I5 n5) st5 go
      refine thnF ti fun r s6 ⟨u, hr, h6⟩ => ?_
      subst hr
      refine thnF h6 fun _ s7 ⟨x, H7, I7, r7, y7, st7, n7⟩ => ?_
      have I7' := I7.pinned (stat I7 n7) (T.obj _ _ st7)
      refine thnF (pg.run _ s7 _ H7 x u _ I7' r7 (step x H7 y7)) fun _ s8 ⟨σ8, H8, I8, hw8, q8⟩ => ?_
      refine thnF (pt.run _ s8 σ8 H8 _ I8 q8) fun b s9 ⟨H9, I9, q9⟩ => ?_
      -- the turn's end
      have fin : ∀ {s' : Shared} {H' : Hp}, Inv (X.blk s3 H3 scope ce fp) ([] ++ pinsAt fp s7.heap) σ8 H' s' → Nx H' → ∃ m, m < n ∧ ∃ i H', Inv (X.blk s3 H3 scope ce fp) [] (wipe σ (own.map (·.2))) H' s' ∧ tn i s'.heap ∧ (∀ b ∈ fp, H' b = none) ∧ W i m H' := fun {s' H'} I' nx => by
        obtain ⟨m', hm, w'⟩ := hNx H' nx
        have pin' : ∀ b ∈ fp, ∀ o, s7.heap.get? b = some o → s'.heap.get? b = some o ∧ H' b = none := fun b hb o e =>
          let z := I'.pin (b, o) (List.mem_append_right _ (List.mem_append_right _ (mem_pinsAt hb e)))
          ⟨z.1, z.2.1⟩
        have hl : (wipe σ (own.map (·.2))).length = σ8.length := by rw [← hw8, wipe_length]
        refine ⟨m', hm, i + 1, H', (I'.unpinned (pins := [])).weak hl (fun j v e => ?_), T.keep _ _ _ st7 fun b hb o e => (pin' b hb o e).1, fun b hb => ?_, w'⟩
        · rw [← hw8] at e
          exact (wipe_some e).1
        · obtain ⟨o, e, _⟩ := T.obj _ _ st7 b hb
          exact (pin' b hb o e).2
      cases b with
      | false =>
        simp only [Bool.false_eq_true, if_false] at q9 ⊢
        exact fin I9 q9
      | true =>
        simp only [if_true] at q9 ⊢
        refine thnF (pk.run _ s9 σ8 H9 _ I9 q9) fun z s10 ⟨yk, H10, I10, r10, q10⟩ => ?_
        refine thnF (pe.run _ s10 σ8 H10 _ I10 q10) fun z2 s11 ⟨yv, H11, I11, r11, H12, pt12, nx⟩ => ?_
        exact d_dictSetP (X := X.blk s3 H3 scope ce fp) hu I11 pt12 r10 r11 fun s12 I12 => fin I12 nx
  exact codeAny_compStart_dict loop (T.self X.A 0 _ _ _ st4 loop)
theorem pe_dcG {o0 : HO} (hnew : ∀ (s : Shared) (H : Hp), sysModules < s.heap.objs.size → ObjOk X.prog X.w H (s.heap.push { cls := .type "dict", data := .dict #[] }) s.heap.objs.size o0) (hu : X.A.units + 1 < cLine) {kx vx tg iter : Expr} {ifs : List Expr} {scope : Scope} {own : List (Str × Nat)} {pos : Pos} {wi : TI} {g : TG} {tt : TT} {tk tv : TE} (hc : X.calm = true) (hN : X.N.Nodup) (hi : PI X tg iter wi) (ok : BlkOk X.N X.env.scope scope own)
    (hg : ∀ (s : Shared) (H : Hp) (C : Addr) (cl : List (Str × Addr)) (fp : List Addr), PG (X.blk s H scope (compEnvC scope cl C X.env) fp) tg g) (ht : ∀ (s : Shared) (H : Hp) (C : Addr) (cl : List (Str × Addr)) (fp : List Addr), PTs (X.blk s H scope (compEnvC scope cl C X.env) fp) ifs tt)
    (hk : ∀ (s : Shared) (H : Hp) (C : Addr) (cl : List (Str × Addr)) (fp : List Addr), PE (X.blk s H scope (compEnvC scope cl C X.env) fp) kx tk)
    (he : ∀ (s : Shared) (H : Hp) (C : Addr) (cl : List (Str × Addr)) (fp : List Addr), PE (X.blk s H scope (compEnvC scope cl C X.env) fp) vx tv) (hs : ∀ x, foldedSetIterable iter X.env x = pure x := by intro _; rfl) :
    PE X (.DictComp kx vx [⟨tg, iter, ifs, 0⟩] scope pos) (tDcG o0 wi g tt tk tv (own.map (·.2))) := by
  refine ⟨fun pins s σ H Q I h => ?_⟩
  rw [arm_eval_DictComp]
  refine dc_coreG hnew hu hc hN I hi ok hg ht hk he hs h fun D C s' m H' I' q hn f => ⟨m, hn, fun h'' sb => ?_⟩
  obtain ⟨f0, f1, f2, f3, f4, f5⟩ := f
  exact ⟨.ref D, H', I'.turned (t' := s'.toks) (fun b o hb e => (sb.2 b hb).trans e) f0 f1 f3 f4 f5, rfl, q⟩
theorem new_dK (s : Shared) (H : Hp) (h : sysModules < s.heap.objs.size) : ObjOk P w H (s.heap.push { cls := .type "dict", data := .dict #[] }) s.heap.objs.size (.dK []) := dk_empty s.heap h
theorem new_dT (s : Shared) (H : Hp) (h : sysModules < s.heap.objs.size) : ObjOk P w H (s.heap.push { cls := .type "dict", data := .dict #[] }) s.heap.objs.size (.dT []) := dt_empty s.heap h
end
end L2

set_option Elab.async false
set_option linter.all false
set_option maxRecDepth 100000
set_option maxHeartbeats 2000000
namespace VM
open PySem L2
/-! ### dict comprehensions -/
def putD (x i v : D) : Option D := match x with
  | .dK es => if es.length < lim then (keyK i).map fun k => .dK (putG es k v) else none
  | .dT es => if es.length < lim then (keyT i).map fun k => .dT (putG es k v) else none
  | _ => none
def dcL (own : List Nat) (g : Gd) (tg : TgM) (t mk mv : M) : List D → LS → D → R
  | [], ls, acc => if gOk g ls = true then .ok (.own acc) ls else .stk
  | d :: ds, ls, acc => if gOk g ls = true then (match tg d ls with
    | some ls1 => (match t ls1 with
      | .ok (.dat (.bl true)) ls2 => (match mk ls2 with
        | .ok (.dat kd) ls3 => (match mv ls3 with
          | .ok kv ls4 => (match freezeK kv ls4 with
            | some (vd, ls5) => (match putD acc kd vd with
              | some acc' => dcL own g tg t mk mv ds (wipeL ls5 own) acc'
              | none => .stk)
            | none => .stk)
          | _ => .stk)
        | _ => .stk)
      | .ok (.dat (.bl false)) ls2 => dcL own g tg t mk mv ds (wipeL ls2 own) acc
      | _ => .stk)
    | none => .stk) else .stk
def dcM (own : List Nat) (src : IM) (tg : TgM) (t mk mv : M) (d0 : D) : M := fun ls => match src ls with
  | .ok items g ls => if empAt ls own then dcL own g tg t mk mv items ls d0 else .stk
  | .err x ls => .err x ls
  | .stk => .stk
section
variable {X : Cx} {B : Base} {W : WX} {im : IM} {t : TgM} {mt mk mv : M} {own is : List Nat}
theorem putD_ok {G : Cfg} {F H : Hp} {σ : L2.St} {ls : LS} {vs : List V} {ks : List Slot} {y z : V} {kd vd acc acc' : D} {p : Addr} (R : Rp G F H σ ls (z :: y :: .ref p :: vs) (.dat vd :: .dat kd :: .own acc :: ks)) (h : putD acc kd vd = some acc') :
    ∃ H', DPut H p y z H' ∧ Rp G F H' σ ls (.ref p :: vs) (.own acc' :: ks) := by
  obtain ⟨q, e, o⟩ := R.pop.pop.good.head
  cases e
  obtain ⟨_, _, ob, h1, h2⟩ := o
  obtain ⟨z', ez, dz⟩ := R.good.head
  cases ez
  have vy : Vw G F H y kd := R.pop.view0 rfl
  unfold putD at h
  split at h
  · rename_i es
    split at h
    · rename_i hz
      cases e : keyK kd with
      | none => rw [e] at h; cases h
      | some k =>
        rw [e] at h; cases h
        cases ob with
        | dK kvs =>
          have h2 : DDk G.K G.mg F es kvs := h2
          have := keyK_kV R.ex vy e
          subst this
          exact ⟨_, DPut.k h1 (line_lt (by rw [← h2.length]; exact hz)), R.pop.pop.mutTop (d' := .dK _) (ddk_put dz h2)⟩
        | _ => exact h2.elim
    · cases h
  · rename_i es
    split at h
    · rename_i hz
      cases e : keyT kd with
      | none => rw [e] at h; cases h
      | some k =>
        rw [e] at h; cases h
        cases ob with
        | dT kvs =>
          have h2 : DDt G.K G.mg F es kvs := h2
          obtain ⟨t, rfl, ht⟩ := keyT_vw R.ex vy e
          exact ⟨_, DPut.t h1 ht (line_lt (by rw [← h2.length]; exact hz)), R.pop.pop.mutTop (d' := .dT _) (ddt_put dz h2)⟩
        | _ => exact h2.elim
    · cases h
  · cases h
theorem imp_dc {G : Cfg} {o0 : HO} {d0 : D} (h0 : ∀ F, ObD G F o0 d0) {tt : TT} {tk tv : TE} (his : ∀ i ∈ is, i ∈ own) (htt : ∀ σ H Q, tT G WF mt σ H Q → tt σ H Q) (htk : ∀ σ H Q, tM G WF mk σ H Q → tk σ H Q) (hte : ∀ σ H Q, tM G WF mv σ H Q → tv σ H Q) {σ : L2.St} {H : Hp} {Q : VK} (h : tM G W (dcM own im t mt mk mv d0) σ H Q) :
    tDcG o0 (tI G W im) (tG G t is) tt tk tv own σ H Q := by
  obtain ⟨F, ls, vs, ks, R, po⟩ := h
  refine ⟨F, ls, vs, ks, R, ?_⟩
  cases e1 : im ls with
  | stk => simp only [dcM, e1, PostM] at po
  | err x ls1 => simp only [dcM, e1] at po; exact po
  | ok items gd ls1 =>
    simp only [dcM, e1] at po
    split at po
    · rename_i hem
      intro J gvs gks F1 H1 gl gna R1 wk Ad hD
      refine ⟨fun i m H => m = items.length - i ∧ i ≤ items.length ∧ ∃ F ls acc, empAt ls own = true ∧ Rp G F H (wipe σ own) ls (.ref Ad :: (gvs ++ vs)) (.own acc :: (gks ++ ks)) ∧ PostM G W σ vs ks (dcL own gd t mt mk mv (items.drop i) ls acc) Q, ⟨_, rfl, Nat.zero_le _, F1, ls1, d0, hem, ?_, po⟩, ?_⟩
      · exact (R1.agree wipe_agree.symm hem).pushOwn hD (h0 _)
      · rintro i m H2 ⟨rfl, hi2, F2, ls2, acc, hem2, R2, po2⟩
        by_cases hlt : i < items.length
        · refine .inr ?_
          have hd : items.drop i = items[i] :: items.drop (i + 1) := List.drop_eq_getElem_cons hlt
          rw [hd] at po2
          have R2' : Rp G F2 H2 (wipe σ own) ls2 (gvs ++ .ref Ad :: vs) (gks ++ .own acc :: ks) := R2.unrot gl
          have hg : gOk gd ls2 = true := by
            cases q : gOk gd ls2 with
            | true => rfl
            | false => simp only [dcL, q, PostM] at po2; exact po2.elim
          simp only [dcL, hg, if_true] at po2
          obtain ⟨go, step⟩ := wk.go i items[i] F2 H2 _ ls2 (.ref Ad :: vs) (.own acc :: ks) hg (List.getElem?_eq_getElem hlt) R2'
          refine ⟨go, fun H' => ∃ F ls acc, empAt ls own = true ∧ Rp G F H' (wipe σ own) ls (.ref Ad :: (gvs ++ vs)) (.own acc :: (gks ++ ks)) ∧ PostM G W σ vs ks (dcL own gd t mt mk mv (items.drop (i + 1)) ls acc) Q, fun H' ⟨F', ls', a', h', R', p'⟩ => ⟨items.length - (i + 1), by omega, rfl, hlt, F', ls', a', h', R', p'⟩, fun x H3 hy => ?_⟩
          obtain ⟨F3, R3⟩ := step x H3 hy
          have R3' : Rp G F3 H3 (wipe σ own) ls2 (x :: .ref Ad :: (gvs ++ vs)) (.dat items[i] :: .own acc :: (gks ++ ks)) := by
            have z : Rp G F3 H3 (wipe σ own) ls2 ((x :: gvs) ++ .ref Ad :: vs) ((.dat items[i] :: gks) ++ .own acc :: ks) := R3
            have z2 := z.rot (by simp [gl])
            have z3 : Rp G F3 H3 (wipe σ own) ls2 (.ref Ad :: ([x] ++ (gvs ++ vs))) (.own acc :: ([.dat items[i]] ++ (gks ++ ks))) := z2
            exact z3.unrot rfl
          have nal := R3'.pop.noAliEmp hem2
          refine ⟨F3, ls2, .ref Ad :: (gvs ++ vs), .own acc :: (gks ++ ks), items[i], fun i hi => nal i (his i hi), R3', ?_⟩
          cases e2 : t items[i] ls2 with
          | none => simp only [e2, PostM] at po2
          | some ls3 =>
            simp only [e2] at po2
            intro σ4 F4 H4 R4 ag
            have ag' : Agree own σ4 (wipe σ own) := ag.mono his
            have back : ∀ {F5 H5 : Hp} {ls5 : LS} {a5 : D}, Rp G F5 H5 σ4 ls5 (.ref Ad :: (gvs ++ vs)) (.own a5 :: (gks ++ ks)) → Rp G F5 H5 (wipe σ own) (wipeL ls5 own) (.ref Ad :: (gvs ++ vs)) (.own a5 :: (gks ++ ks)) := fun {F5 H5 ls5 a5} R5 => by
              refine (R5.forgetL fun i hi hm => ?_).agree ag' (empAt_wipe fun i hi => hi)
              rcases List.mem_cons.mp hm with z | z
              · cases z
              · exact nal i hi (List.mem_cons_of_mem _ z)
            refine ⟨?_, ?_⟩
            · rw [wipe_of_agree ag']
              exact wipe_of_agree wipe_agree
            · refine htt _ _ _ ⟨F4, ls3, _, _, R4, ?_⟩
              cases e3 : mt ls3 with
              | err x ls5 => simp only [e3, PostM] at po2
              | stk => simp only [e3, PostM] at po2
              | ok k3 ls5 =>
                cases k3 with
                | dat d3 =>
                  cases d3 with
                  | bl b =>
                    cases b with
                    | false =>
                      simp only [e3] at po2
                      intro F5 H5 R5
                      rw [if_neg (by decide)]
                      exact ⟨F5, _, acc, empAt_wipe fun i hi => hi, back R5, po2⟩
                    | true =>
                      simp only [e3] at po2
                      intro F5 H5 R5
                      rw [if_pos rfl]
                      refine htk _ _ _ ⟨F5, ls5, _, _, R5, ?_⟩
                      cases e6 : mk ls5 with
                      | err x ls6 => simp only [e6, PostM] at po2
                      | stk => simp only [e6, PostM] at po2
                      | ok k6 ls6 =>
                        cases k6 with
                        | dat kd =>
                          simp only [e6] at po2
                          intro y F6 H6 R6
                          refine hte _ _ _ ⟨F6, ls6, _, _, R6, ?_⟩
                          cases e8 : mv ls6 with
                          | err x ls7 => simp only [e8, PostM] at po2
                          | stk => simp only [e8, PostM] at po2
                          | ok k8 ls7 =>
                            simp only [e8] at po2
                            intro z F7 H7 R7
                            cases e9 : VM.freezeK k8 ls7 with
                            | none => simp only [e9, PostM] at po2
                            | some q =>
                              obtain ⟨vd, ls8⟩ := q
                              simp only [e9] at po2
                              cases e10 : putD acc kd vd with
                              | none => simp only [e10, PostM] at po2
                              | some acc' =>
                                simp only [e10] at po2
                                obtain ⟨F8, _, R8⟩ := R7.freezeK e9
                                obtain ⟨H9, pt, R9⟩ := putD_ok R8 e10
                                exact ⟨H9, pt, F8, _, acc', empAt_wipe fun i hi => hi, back R9, po2⟩
                        | _ => simp only [e6, PostM] at po2
                  | _ => simp only [e3, PostM] at po2
                | _ => simp only [e3, PostM] at po2
        · have e0 : i = items.length := by omega
          subst e0
          rw [List.drop_length] at po2
          have R2' : Rp G F2 H2 (wipe σ own) ls2 (gvs ++ .ref Ad :: vs) (gks ++ .own acc :: ks) := R2.unrot gl
          have hg : gOk gd ls2 = true := by
            cases q : gOk gd ls2 with
            | true => rfl
            | false => simp only [dcL, q, PostM] at po2; exact po2.elim
          simp only [dcL, hg, if_true] at po2
          refine .inl ⟨wk.stop F2 H2 _ ls2 _ _ hg R2', po2 _ F2 H2 ?_⟩
          exact (Rp.popN gks gvs gl R2').agree wipe_agree hem2
    · exact po.elim
variable {kx vx tg iter c : Expr} {scope : Scope} {ow : List (Str × Nat)} {pos : Pos}
theorem e_dcT (hu : X.A.units + 1 < cLine) (hc : X.calm = true) (hN : X.N.Nodup) (hi : L2.PI X tg iter (tI (cfg X B) W im)) (ok : BlkOk X.N X.env.scope scope ow)
    (hg : ∀ (s : Shared) (H : Hp) (C : Addr) (cl : List (Str × Addr)) (fp : List Addr), L2.PG (X.blk s H scope (compEnvC scope cl C X.env) fp) tg (tG (cfg X B) t is))
    (hk : ∀ (s : Shared) (H : Hp) (C : Addr) (cl : List (Str × Addr)) (fp : List Addr), L2.PE (X.blk s H scope (compEnvC scope cl C X.env) fp) kx (tM (cfg X B) WF mk))
    (hv : ∀ (s : Shared) (H : Hp) (C : Addr) (cl : List (Str × Addr)) (fp : List Addr), L2.PE (X.blk s H scope (compEnvC scope cl C X.env) fp) vx (tM (cfg X B) WF mv)) (his : ∀ i ∈ is, i ∈ ow.map (·.2) := by decide) (hs : ∀ x, foldedSetIterable iter X.env x = pure x := by intro _; rfl) :
    L2.PE X (.DictComp kx vx [⟨tg, iter, [], 0⟩] scope pos) (tM (cfg X B) W (dcM (ow.map (·.2)) im t (conM (.bl true)) mk mv (.dT []))) :=
  PE.imp (pe_dcG (o0 := .dT []) (fun s H h => new_dT s H h) hu hc hN hi ok hg (fun _ _ _ _ _ => pts_nil) hk hv hs) fun σ H Q h => imp_dc (G := cfg X B) (o0 := .dT []) (d0 := .dT []) (fun F => show DDt _ _ F [] [] from .nil) his (fun _ _ _ => imp_yes) (fun _ _ _ q => q) (fun _ _ _ q => q) h
theorem e_dcK (hu : X.A.units + 1 < cLine) (hc : X.calm = true) (hN : X.N.Nodup) (hi : L2.PI X tg iter (tI (cfg X B) W im)) (ok : BlkOk X.N X.env.scope scope ow)
    (hg : ∀ (s : Shared) (H : Hp) (C : Addr) (cl : List (Str × Addr)) (fp : List Addr), L2.PG (X.blk s H scope (compEnvC scope cl C X.env) fp) tg (tG (cfg X B) t is))
    (hk : ∀ (s : Shared) (H : Hp) (C : Addr) (cl : List (Str × Addr)) (fp : List Addr), L2.PE (X.blk s H scope (compEnvC scope cl C X.env) fp) kx (tM (cfg X B) WF mk))
    (hv : ∀ (s : Shared) (H : Hp) (C : Addr) (cl : List (Str × Addr)) (fp : List Addr), L2.PE (X.blk s H scope (compEnvC scope cl C X.env) fp) vx (tM (cfg X B) WF mv)) (his : ∀ i ∈ is, i ∈ ow.map (·.2) := by decide) (hs : ∀ x, foldedSetIterable iter X.env x = pure x := by intro _; rfl) :
    L2.PE X (.DictComp kx vx [⟨tg, iter, [], 0⟩] scope pos) (tM (cfg X B) W (dcM (ow.map (·.2)) im t (conM (.bl true)) mk mv (.dK []))) :=
  PE.imp (pe_dcG (o0 := .dK []) (fun s H h => new_dK s H h) hu hc hN hi ok hg (fun _ _ _ _ _ => pts_nil) hk hv hs) fun σ H Q h => imp_dc (G := cfg X B) (o0 := .dK []) (d0 := .dK []) (fun F => show DDk _ _ F [] [] from .nil) his (fun _ _ _ => imp_yes) (fun _ _ _ q => q) (fun _ _ _ q => q) h
end
end VM

set_option Elab.async false
set_option linter.all false
set_option maxRecDepth 100000
set_option maxHeartbeats 4000000
namespace L2
open PySem PySem.Spec PyProof.Rows SrtO Srt
def pairOf (H : Hp) : Value → Int × Int
  | .ref b => (match H b with
    | some (.tup [.int x, .int y]) => (x, y)
    | _ => (0, 0))
  | _ => (0, 0)
def PairAt (H : Hp) (q : Int × Int) (b : Addr) : Prop := H b = some (.tup [.int q.1, .int q.2])
theorem pairOf_at {H : Hp} {q : Int × Int} {b : Addr} (h : PairAt H q b) : pairOf H (.ref b) = q := by
  unfold pairOf
  have h : H b = some (.tup [.int q.1, .int q.2]) := h
  simp only [h]
theorem isPair_of {P : Program} {w : World} {H : Hp} {h : Heap} {q : Int × Int} {b : Addr} (ok : HOk P w H h) (e : PairAt H q b) : IsPair h (.ref b) q.1 q.2 := by
  obtain ⟨_, its, r, o, h1, h2, n, h3⟩ := (show ObjOk P w H h b (.tup [.int q.1, .int q.2]) from ok b _ e)
  cases r with | cons r1 r =>
  cases r with | cons r2 r =>
  cases r
  obtain ⟨t, rfl⟩ := r1
  obtain ⟨u, rfl⟩ := r2
  exact ⟨b, o, t, u, n, rfl, h1, h2, h3⟩
/-- the refs of a list that are pairs -/
theorem vm_pairs_of : ∀ {H : Hp} {out : List Value}, (∀ v ∈ out, ∃ b, v = .ref b ∧ PairAt H (pairOf H v) b) → ∃ bs : List Addr, out = bs.map Value.ref ∧ Paired (PairAt H) (out.map (pairOf H)) bs
  | _, [], _ => ⟨[], rfl, .nil⟩
  | H, v :: out, h => by
    obtain ⟨bs, e, p⟩ := vm_pairs_of (out := out) fun v hv => h v (List.mem_cons_of_mem _ hv)
    obtain ⟨b, rfl, hb⟩ := h v List.mem_cons_self
    exact ⟨b :: bs, by rw [List.map_cons, ← e], .cons hb p⟩
section
variable {X : Cx}
/-- sort of what was collected, a list of pairs; shared by the two -/
theorem sort_pairs {pins : List (Addr × Obj)} {σ : St} {H : Hp} {s : Shared} {A : Around} {E : Value → Shared → Prop} {Q : VK} {vs : List Value} (I : Inv X pins σ H s) (hz : vs.length ≤ sizeLine) (hp : ∀ v ∈ vs, ∃ b, v = .ref b ∧ PairAt H (pairOf H v) b)
    (q : ∀ p bs (out : List (Int × Int)), H p = none → out.Perm (vs.map (pairOf H)) → Srtd lexB out → Paired (PairAt H) out bs → Q (.ref p) (upd H p (.lst (bs.map V.ref)))) {R : PySem.Fin → Shared → Prop}
    (hR : ∀ h' p, p = s.heap.objs.size → (∃ v H', Inv X pins σ H' { s with heap := h' } ∧ RelV v (.ref p) ∧ Q v H') → R (.done (.ret .none)) { s with heap := h' }) :
    wpAny (model X.prog X.w) A (Builtin.«list.sort» ⟨[.ref s.heap.objs.size], []⟩) R E { s with heap := s.heap.push (seqObj "list" vs.toArray 0) } := by
  have hoL : (s.heap.push (seqObj "list" vs.toArray 0)).get? s.heap.objs.size = some (seqObj "list" vs.toArray 0) := Heap.get?_push_size _ rfl
  have isp : ∀ v ∈ vs, IsPair s.heap v (pairOf H v).1 (pairOf H v).2 := fun v hv => by
    obtain ⟨b, rfl, hb⟩ := hp v hv
    exact isPair_of I.hok hb
  refine list_sort_ord (s := { s with heap := s.heap.push (seqObj "list" vs.toArray 0) }) (swo_lex (pairOf H)) hoL hz (fun h2 => ?_) fun out hs hb => ?_
  · refine pairs_sortableO (s := { s with heap := s.heap.push (seqObj "list" vs.toArray 0) }) (by omega) (fun v hv => (isp v hv).keeps fun b o e _ => Heap.get?_push_of_some _ e) fun o e => ?_
    have e' : some o = some (seqObj "list" vs.toArray 0) := e.symm.trans hoL
    cases e'
    intro c
    exact absurd (Value.type.inj c) (by decide)
  · have hpo : ∀ v ∈ out, ∃ b, v = .ref b ∧ PairAt H (pairOf H v) b := fun v hv => hp v (hb.perm.mem_iff.mp hv)
    obtain ⟨bs, eo, pp⟩ := vm_pairs_of hpo
    obtain ⟨e', he'⟩ := sortedHeap_at (vs := vs) (out := out.toArray) hoL
    have hsrt : Srtd lexB (out.map (pairOf H)) := by
      rw [Srtd, List.pairwise_map]
      exact hs
    have hlen : (bs.map V.ref).length ≤ sizeLine := by
      have e1 : bs.length = out.length := by rw [eo, List.length_map]
      rw [List.length_map, e1, hb.perm.length_eq]; exact hz
    have rv : Vals (bs.map V.ref) out := by rw [eo]; exact vals_refs bs
    refine hR _ s.heap.objs.size rfl ⟨.ref s.heap.objs.size, upd H s.heap.objs.size (.lst (bs.map V.ref)), ?_, rfl, q _ bs _ (I.hok.fresh (Nat.le_refl _)) (hb.perm.map _) hsrt pp⟩
    refine I.laid (t' := s.toks) (fun b u e => ?_) (Nat.le_refl _) (show ObjOk X.prog X.w _ _ _ (.lst (bs.map V.ref)) from ⟨hlen, out, e', rv, he'⟩)
    have hlt : b < s.heap.objs.size := Heap.lt_size e
    rw [sortedHeap_old (Nat.ne_of_lt hlt) (by rw [size_push']; exact Nat.lt_succ_of_lt hlt)]
    exact Heap.get?_push_of_some _ e
def pk (q : Int × Int) : List Key := [.inl q.1, .inl q.2]
def rSortT : List V → Hp → VK → Prop := fun xs H Q => ∃ d kvs ps, xs = [V.ref d] ∧ H d = some (.dT kvs) ∧ kvs.map (·.1) = ps.map pk ∧
  ∀ p bs (out : List (Int × Int)), H p = none → out.Perm ps → Srtd lexB out → Paired (PairAt H) out bs → Q (.ref p) (upd H p (.lst (bs.map V.ref)))
theorem call_sortT (hc : X.calm = true) : CallR X (.builtin "sorted") rSortT := by
  intro pins s σ H xs us Q I r h
  obtain ⟨d, kvs, ps, rfl, hd, hps, q⟩ := h
  obtain ⟨u, rfl, rx⟩ := r.one
  cases rx
  obtain ⟨z, hs, ks, pr, o, es, ep, ho, hx, hdt, he, hn⟩ := (show ObjOk X.prog X.w H s.heap d (.dT kvs) from I.hok d _ hd)
  have l1 : es.size = ks.length := size_of_entries he
  have l2 : kvs.length = ks.length := Paired.length pr
  refine Calls.call_function_entry PyProof.Rows.kind_sorted PyProof.Rows.plain_sorted PyProof.Rows.entry_sorted (PyProof.Rows.args_sorted1 _) ?_
  unfold Builtin.«sorted»
  refine wpAny_bind (m := checkCount "sorted" 1 1 _) (wpAny_pure ?_)
  refine wpAny_bind (PySem.W.kdu_collect (A := X.A.in1) (kdl_raw hs hx hdt) (I.ok.hd hc) ho (by omega) fun h' tk acc' kp it => ?_)
  have ea : acc'.toList = ks.map fun x => Value.ref x.2.1 := by
    have hl : acc'.toList.length = ks.length := by rw [Array.length_toList, it.1]; exact l1
    apply List.ext_getElem?
    intro j
    rw [List.getElem?_map]
    cases hj : acc'.toList[j]? with
    | none =>
      have h1 := List.getElem?_eq_none_iff.mp hj
      rw [List.getElem?_eq_none (by omega)]
      all_goals rfl
    | some v =>
      obtain ⟨en, hen, hv⟩ := it.2 j v (by rw [← Array.getElem?_toList]; exact hj)
      have qe := entry_at he j
      rw [hen] at qe
      cases hb : ks[j]? with
      | none =>
        rw [hb] at qe
        exact nomatch (show some en = none from qe)
      | some b =>
        rw [hb] at qe
        have e2 : en = entryOfKey (tupleKind (mixKind X.prog X.w)) b := Option.some.inj qe
        rw [hv, e2]
        all_goals rfl
  have I1 : Inv X pins σ H { s with heap := h', toks := tk } := I.kept (t' := tk) kp
  -- each is a pair
  have each : ∀ {kvs : List (List Key × V)} {ks : List (List Key × Addr × Value)} {ps : List (Int × Int)}, KT H kvs ks → kvs.map (·.1) = ps.map pk → Paired (PairAt H) ps (ks.map fun x => x.2.1) := by
    intro kvs ks ps pr
    induction pr generalizing ps with
    | nil =>
      intro e
      cases ps with
      | nil => exact .nil
      | cons _ _ => cases e
    | cons h t ih =>
      intro e
      cases ps with
      | nil => cases e
      | cons p ps =>
        rw [List.map_cons, List.map_cons] at e
        injection e with e1 e2
        refine .cons ?_ (ih e2)
        have := h.2.1
        rw [e1] at this
        exact this
  have pp := each pr hps
  have mapk : ∀ {ps : List (Int × Int)} {bs : List Addr}, Paired (PairAt H) ps bs → (bs.map Value.ref).map (pairOf H) = ps ∧ ∀ v ∈ bs.map Value.ref, ∃ b, v = .ref b ∧ PairAt H (pairOf H v) b := by
    intro ps bs pr
    induction pr with
    | nil => exact ⟨rfl, fun v hv => by simp at hv⟩
    | cons h t ih =>
      refine ⟨by rw [List.map_cons, List.map_cons, ih.1, pairOf_at h], fun v hv => ?_⟩
      rcases List.mem_cons.mp hv with z | z
      · exact ⟨_, z, by rw [z, pairOf_at h]; exact h⟩
      · exact ih.2 v z
  have eb : acc'.toList = (ks.map fun x => x.2.1).map Value.ref := by rw [ea, List.map_map]; all_goals rfl
  obtain ⟨m1, m2⟩ := mapk pp
  rw [← eb] at m1 m2
  have hz : acc'.toList.length ≤ sizeLine := by rw [ea, List.length_map]; omega
  refine wpAny_bind (wpAny_newList ?_ hz)
  have hoL : (h'.push (seqObj "list" acc'.toList.toArray 0)).get? h'.objs.size = some (seqObj "list" acc'.toList.toArray 0) := Heap.get?_push_size _ rfl
  show wpAny _ _ _ _ _ { s with heap := h'.push (seqObj "list" acc'.toList.toArray 0), toks := tk }
  refine wpAny_bind (wpAny_holding (wpAny_call_entry PyProof.Rows.slot_list_sort ⟨_, hoL, rfl⟩ PyProof.Rows.entry_list_sort
    (sort_pairs (s := { s with heap := h', toks := tk }) (Q := Q) I1 hz m2 (fun p bs out hp pm st pr2 => q p bs out hp (by rw [m1] at pm; exact pm) st pr2) fun h2 p hp2 hq => ⟨_, rfl, ?_⟩) (PyProof.Rows.args_list_sort _)))
  obtain ⟨v, H', I', rv, qq⟩ := hq
  subst hp2
  exact wpAny_pure ⟨_, rfl, v, H', I', rv, qq⟩
end
end L2

set_option Elab.async false
set_option linter.all false
set_option maxRecDepth 100000
set_option maxHeartbeats 4000000
namespace VM
open PySem L2
open SrtO (lexB)
theorem lexB_anti {p q : Int × Int} (h1 : lexB p q = false) (h2 : lexB q p = false) : p = q := by
  rw [SrtO.lexB_no] at h1 h2
  obtain ⟨a, b⟩ := p
  obtain ⟨c, d⟩ := q
  simp only at h1 h2
  have : a = c := by omega
  have : b = d := by omega
  subst_vars; rfl
theorem srtd_uniq : ∀ {l m : List (Int × Int)}, l.Perm m → l.Pairwise (fun x y => lexB y x = false) → m.Pairwise (fun x y => lexB y x = false) → l = m
  | [], m, p, _, _ => (p.symm.eq_nil).symm
  | a :: l, [], p, _, _ => absurd p.eq_nil (by simp)
  | a :: l, b :: m, p, h1, h2 => by
    have hab : a = b := by
      have ha : a ∈ b :: m := p.mem_iff.mp List.mem_cons_self
      have hb : b ∈ a :: l := p.mem_iff.mpr List.mem_cons_self
      rcases List.mem_cons.mp ha with z | z
      · exact z
      · rcases List.mem_cons.mp hb with y | y
        · exact y.symm
        · exact lexB_anti ((List.pairwise_cons.mp h2).1 a z) ((List.pairwise_cons.mp h1).1 b y)
    subst hab
    rw [srtd_uniq (p.cons_inv) (List.pairwise_cons.mp h1).2 (List.pairwise_cons.mp h2).2]
def sortP (ps : List (Int × Int)) : List (Int × Int) := ps.mergeSort fun p q => !lexB q p
theorem sortP_perm (ps : List (Int × Int)) : (sortP ps).Perm ps := List.mergeSort_perm _ _
theorem sortP_srtd (ps : List (Int × Int)) : (sortP ps).Pairwise (fun x y => lexB y x = false) := by
  have h := List.pairwise_mergeSort (le := fun p q : Int × Int => !lexB q p) (fun a b c h1 h2 => by
      simp only [Bool.not_eq_true'] at h1 h2 ⊢
      rw [SrtO.lexB_no] at h1 h2 ⊢
      omega) (fun a b => by
      cases e : lexB b a with
      | false => simp
      | true =>
        have h2 := SrtO.lexB_iff.mp e
        have : lexB a b = false := by
          rw [SrtO.lexB_no]; omega
        simp [this]) ps
  exact h.imp fun h => by simpa using h
theorem sortP_eq {out ps : List (Int × Int)} (h1 : out.Perm ps) (h2 : out.Pairwise (fun x y => lexB y x = false)) : out = sortP ps := srtd_uniq (h1.trans (sortP_perm ps).symm) h2 (sortP_srtd ps)
def prs : List (List Key) → Option (List (Int × Int))
  | [] => some []
  | [.inl a, .inl b] :: r => (prs r).map ((a, b) :: ·)
  | _ => none
theorem prs_ok : ∀ {ks : List (List Key)} {ps : List (Int × Int)}, prs ks = some ps → ks = ps.map pk
  | [], ps, h => by cases h; rfl
  | k :: ks, ps, h => by
    unfold prs at h
    split at h
    · rename_i e; cases e
    · rename_i a b r e
      cases e
      cases e2 : prs ks with
      | none => rw [e2] at h; cases h
      | some qs => rw [e2] at h; cases h; rw [List.map_cons, ← prs_ok e2]; rfl
    · cases h
def tupP (q : Int × Int) : D := .tup [.int q.1, .int q.2]
def sortD : List D → Option Slot
  | [.dT es] => (prs (es.map (·.1))).map fun ps => .own (.lst ((sortP ps).map tupP))
  | _ => none
theorem ddt_keys {K : PySem.W.Frag} {mg : Str → Option Value} {F : Hp} : ∀ {es : List (List Key × D)} {kvs : List (List Key × V)}, DDt K mg F es kvs → es.map (·.1) = kvs.map (·.1)
  | _, _, .nil => rfl
  | _, _, .cons _ r => by rw [List.map_cons, List.map_cons, ddt_keys r]
/-- a tuple that stands in the heap may be taken as frozen -/
theorem Rp.frzTup {G : Cfg} {F H : Hp} {σ : L2.St} {ls : LS} {vs ks} (R : Rp G F H σ ls vs ks) {b : Addr} {xs : List V} (hb : H b = some (.tup xs)) (hf : F b = none) : Rp G (upd F b (.tup xs)) H σ ls vs ks := by
  refine ⟨fun a u e => ?_, R.ex0.trans (Ex.upd hf), R.len, R.klen, R.good.grow (Ex.upd hf) fun n e q he hq => ⟨?_, rfl⟩, R.al, R.pin, R.b1, R.b2, fun c z => ?_⟩
  · by_cases ha : a = b
    · subst ha; rw [upd_same] at e; cases e; exact hb
    · rw [upd_ne ha] at e; exact R.ex a u e
  · have hne : q ≠ b := fun z => by
      obtain ⟨_, _, o, h3, h4⟩ := R.good.one he hq
      rw [z, hb] at h3
      cases h3
      exact h4.elim
    rw [upd_ne hne]
    exact (R.good.owned he hq).1
  · by_cases hc : c = b
    · subst hc; exact .inl ⟨xs, upd_same⟩
    · rw [upd_ne hc] at z ⊢; exact R.b3 c z
theorem Rp.frzPair {G : Cfg} {F H : Hp} {σ : L2.St} {ls : LS} {vs ks} (R : Rp G F H σ ls vs ks) {q : Int × Int} {b : Addr} (hb : PairAt H q b) : ∃ F', Ex F F' ∧ Rp G F' H σ ls vs ks ∧ DD G.K G.mg F' (tupP q) (.ref b) := by
  have hb : H b = some (.tup [.int q.1, .int q.2]) := hb
  cases e : F b with
  | none => exact ⟨_, Ex.upd e, R.frzTup hb e, .tup upd_same (.cons (.int _) (.cons (.int _) .nil))⟩
  | some o =>
    have := R.ex _ _ e
    rw [hb] at this
    cases this
    exact ⟨F, Ex.rfl, R, .tup e (.cons (.int _) (.cons (.int _) .nil))⟩
theorem Rp.frzPairs {G : Cfg} {H : Hp} {σ : L2.St} {ls : LS} {vs ks} : ∀ {qs : List (Int × Int)} {bs : List Addr} {F : Hp}, Paired (PairAt H) qs bs → Rp G F H σ ls vs ks → ∃ F', Ex F F' ∧ Rp G F' H σ ls vs ks ∧ DDs G.K G.mg F' (qs.map tupP) (bs.map V.ref)
  | _, _, F, .nil, R => ⟨F, Ex.rfl, R, .nil⟩
  | _, _, F, .cons h t, R => by
    obtain ⟨F1, x1, R1, d1⟩ := R.frzPair h
    obtain ⟨F2, x2, R2, d2⟩ := Rp.frzPairs t R1
    exact ⟨F2, x1.trans x2, R2, .cons (d1.mono x2) d2⟩
theorem m_sortT {G : Cfg} : OpMA G rSortT sortD := by
  intro F H σ ls vs ks ws ds k Q R hv hg q
  unfold sortD at hg
  split at hg
  · rename_i es
    cases hv with | cons h1 h2 =>
    cases h2
    obtain ⟨a, kvs, rfl, e, dd⟩ := Vw.dT R.ex h1
    cases e2 : prs (es.map (·.1)) with
    | none => rw [e2] at hg; cases hg
    | some ps =>
      rw [e2] at hg
      cases hg
      refine ⟨a, kvs, ps, rfl, e, by rw [← ddt_keys dd]; exact prs_ok e2, fun p bs out hp pm st pr => ?_⟩
      have := sortP_eq pm st
      subst this
      obtain ⟨F', _, R', d'⟩ := R.frzPairs pr
      exact q _ _ _ (R'.pushOwn hp (d := .lst _) d')
  · cases hg
end VM

set_option Elab.async false
set_option linter.all false
set_option maxRecDepth 100000
set_option maxHeartbeats 4000000
namespace VM
open PySem PySem.Spec L2
/-! ### what the head tells -/
abbrev Frag := PySem.W.Frag
def gA (x : Str) : Frag → Addr := fun K => He.ga K x
def mA (c m : Str) : Frag → Addr := fun K => He.ma K (He.ga K c) m
def pA (c f : Str) : Frag → Addr := fun K => match PySem.W.recIn K (mA c f K) "property" with
  | some (.ref g :: _) => g
  | _ => 0
structure Df where
  a : Frag → Addr
  name : Str
  qual : Str
  st : Stmt
abbrev FnV : Type := Option (Str × Str × Arguments × FuncBody × Scope × Addr × List (Str × Addr) × Value × Addr)
def fnV (K : Frag) (a : Addr) : FnV := match K.lookup a with
  | some ⟨_, _, .func fd, _⟩ => some (fd.name, fd.qualname, fd.params, fd.body, fd.scope, fd.globals, fd.closure, fd.defaults, fd.builtins)
  | _ => none
def fdV (K : Frag) (a : Addr) : Option FuncData := match K.lookup a with
  | some ⟨_, _, .func fd, _⟩ => some fd
  | _ => none
def Df.val (d : Df) : FnV := some (d.name, d.qual, defArgs d.st, .stmts (defBody d.st), defScope d.st, mainGlobals, [], .none, builtinsNs)
def Df.ok (K : Frag) (d : Df) : Bool := PySem.W.keepIn K (.ref (d.a K)) && (match K.lookup (d.a K) with
  | some ⟨_, _, .func fd, _⟩ => PySem.W.codeIn K fd.code d.qual
  | _ => false)
theorem Df.fun_ {K : Frag} {d : Df} (e : fnV K (d.a K) = d.val) (c : d.ok K = true) : ∃ fd, fdV K (d.a K) = some fd ∧ L2.Fun K d.name d.qual d.st (d.a K) fd := by
  obtain ⟨kp, c2⟩ := He.ba c
  unfold fnV at e
  unfold fdV
  cases q : K.lookup (d.a K) with
  | none => rw [q] at c2; cases c2
  | some o =>
    obtain ⟨oc, od, dt, osl⟩ := o
    rw [q] at c2 e
    cases dt with
    | func fd =>
      obtain ⟨n1, n2, n3, n4, n5, n6, n7, n8, n9, n10, n11, n12, n13, n14, n15⟩ := fd
      have e2 : (some (n1, n2, n3, n4, n5, n6, n7, n8, n15) : FnV) = some (d.name, d.qual, defArgs d.st, .stmts (defBody d.st), defScope d.st, mainGlobals, [], .none, builtinsNs) := e
      simp only [Option.some.injEq, Prod.mk.injEq] at e2
      obtain ⟨h1, h2, h3, h4, h5, h6, h7, h8, h9⟩ := e2
      subst h1 h2 h3 h4 h5 h6 h7 h8 h9
      exact ⟨_, rfl, ⟨⟨oc, od, _, _, _, _, _, _, osl, rfl, q, c2⟩, kp⟩⟩
    | _ => cases c2
/-- by place -/
theorem all_at {K : Frag} {l : List (Frag → Bool)} (h : (l.all fun f => f K) = true) (i : Nat) {f : Frag → Bool} (e : l[i]? = some f) : f K = true := List.all_eq_true.mp h f (List.mem_of_getElem? e)
abbrev AlV : Type := Bool × List FnV
def obsV (bk : List (Frag → Bool)) (fn : List Df) (K : Frag) : AlV := ((bk.all fun f => f K) && (fn.all fun d => d.ok K), fn.map fun d => fnV K (d.a K))
def valV (fn : List Df) : AlV := (true, fn.map Df.val)
def SaysV (bk : List (Frag → Bool)) (fn : List Df) (K : Frag) : Prop := obsV bk fn K = valV fn
def obsVG (n : Nat) (bk : List (Frag → Bool)) (fn : List Df) (g : Addr → Option Obj) : AlV := obsV bk fn (He.frG g (He.asD g n))
def hookV (n : Nat) (bk : List (Frag → Bool)) (fn : List Df) : PySem.W.Hook where
  α := AlV
  obs := fun s => obsVG n bk fn s.heap.get?
  val := fun _ => valV fn
  says := fun _ h => ∃ K : Frag, K.In h ∧ SaysV bk fn K
  of := fun _ _ e => ⟨_, He.frG_in, e⟩
  keeps := fun _ _ _ ⟨K, hK, c⟩ k => ⟨K, PySem.W.Frag.In.keeps hK k, c⟩
theorem obsVG_eq {n : Nat} {bk : List (Frag → Bool)} {fn : List Df} {g : Addr → Option Obj} {s : Shared} (h : ∀ a, g a = s.heap.get? a) : obsVG n bk fn g = (hookV n bk fn).obs s := by
  have e : g = s.heap.get? := funext h
  rw [e]; rfl
section
variable {bk : List (Frag → Bool)} {fn : List Df} {K : Frag} {mg : Str → Option Value} {h : Heap}
theorem SaysV.bkAt (c : SaysV bk fn K) (i : Nat) {f : Frag → Bool} (e : bk[i]? = some f := by rfl) : f K = true :=
  all_at (He.ba (congrArg (fun z : AlV => z.1) c)).1 i e
theorem SaysV.fnAt (c : SaysV bk fn K) (i : Nat) {d : Df} (e : fn[i]? = some d := by rfl) : ∃ fd, fdV K (d.a K) = some fd ∧ L2.Fun K d.name d.qual d.st (d.a K) fd := by
  have h1 := (He.ba (congrArg (fun z : AlV => z.1) c)).2
  have h2 : fn.map (fun d => fnV K (d.a K)) = fn.map Df.val := congrArg (fun z : AlV => z.2) c
  have h3 : (fn.map fun d => fnV K (d.a K))[i]? = (fn.map Df.val)[i]? := by rw [h2]
  rw [List.getElem?_map, List.getElem?_map, e] at h3
  exact Df.fun_ (Option.some.inj h3) (List.all_eq_true.mp h1 d (List.mem_of_getElem? e))
end
/-- the facts, as what is looked at -/
def kGlo (x : Str) : Frag → Bool := fun K => He.eqO (PySem.W.nsIn K mainGlobals x) (some (some (.ref (gA x K))))
def kFree (x : Str) : Frag → Bool := fun K => He.eqO (PySem.W.nsIn K mainGlobals x) (some none)
def kInt (x : Str) (i : Int) : Frag → Bool := fun K => He.Fa.ok K (.int x i)
def kStr (x z : Str) : Frag → Bool := fun K => He.Fa.ok K (.str x z)
def kCls (x : Str) : Frag → Bool := fun K => He.Fa.ok K (.cls x)
def kNoat (x f : Str) : Frag → Bool := fun K => He.Fa.ok K (.noat x f)
def kMeth (x m : Str) : Frag → Bool := fun K => He.Fa.ok K (.meth x m)
def kMkr (x : Str) : Frag → Bool := fun K => He.Fa.ok K (.mkr x)
def kExc (x : Str) : Frag → Bool := fun K => He.Fa.ok K (.exc x)
def kExm (x y : Str) (b : Bool) : Frag → Bool := fun K => He.Fa.ok K (.exm x y b)
def kKeep (a : Frag → Addr) : Frag → Bool := fun K => PySem.W.keepIn K (.ref (a K))
def kProp (x f : Str) : Frag → Bool := fun K => He.eqO (PySem.W.findIn K (.ref (gA x K)) f) (some (some (.ref (mA x f K)))) && (He.eqO (PySem.W.specialIn K (.ref (mA x f K)) "__get__") (some (some (.builtin "property.__get__"))) && (decide (PySem.W.takesIn K (.ref (mA x f K)) = some true) &&
  (match PySem.W.recIn K (mA x f K) "property" with
  | some (.ref _ :: _) => true
  | _ => false)))
def kIns (x : Str) : Frag → Bool := fun K => He.Fa.ok K (.cls x) && (He.eqO (PySem.W.findIn K (.ref (gA x K)) "__class__") (some (some (.builtin "object.__class__"))) && (He.eqO (PySem.W.specialIn K (.builtin "object.__class__") "__get__") (some (some (.builtin "getset_descriptor.__get__"))) &&
  (decide (PySem.W.takesIn K (.builtin "object.__class__") = some true) && decide (PySem.W.mroIn K (gA x K) (.type "object") = some true))))
def kKit (t u : Frag → Value) (b : Bool) : Frag → Bool := fun K => decide (PySem.W.kitOne K (t K) (u K) = some b)
def kNf (x : Str) (t : Frag → Value) : Frag → Bool := fun K => PySem.W.notFirst K (gA x K) (t K)
def kNe (x : Str) : Frag → Bool := fun K => He.eqO (PySem.W.findIn K (.ref (gA x K)) "__ne__") (some (some (.builtin "object.__ne__"))) && decide (PySem.W.mroIn K (gA x K) (.type "object") = some true)
def oexB (K : Frag) (C : Addr) : Bool := (match K.lookup C with
  | some ⟨.type "type", _, .cls cd, sl⟩ => (match cd.mro, sl.toList with
    | .ref C' :: bm, [_, _, _, _, some (.builtin n), _] => C' == C && n == "ValueError.__new__" && !cd.hasDel && cd.hasDict && PySem.HandSPX.refsVE bm
    | _, _ => false)
  | _ => false) && (He.eqO (PySem.W.findIn K (.ref C) "__setattr__") (some (some (.builtin "object.__setattr__"))) && (decide (PySem.W.subIn K (.ref C) (.type "BaseException") = some true) && (decide (PySem.W.typeIn K (.ref C) = some (.type "type")) && PySem.W.keepIn K (.ref C))))
theorem oexB_ok {K : Frag} {C : Addr} (h : oexB K C = true) : OexC K C := by
  obtain ⟨h1, h⟩ := He.ba h
  obtain ⟨h2, h⟩ := He.ba h
  obtain ⟨h3, h⟩ := He.ba h
  obtain ⟨h4, h5⟩ := He.ba h
  refine ⟨?_, He.eqO_ok h2, of_decide_eq_true h3, of_decide_eq_true h4, h5⟩
  split at h1
  · rename_i dd cd sl ho
    split at h1
    · rename_i C' bm k0 k1 k2 k3 n k5 hm hs
      simp only [Bool.and_eq_true, beq_iff_eq, Bool.not_eq_true'] at h1
      obtain ⟨⟨⟨⟨rfl, rfl⟩, hdel⟩, hdict⟩, hv⟩ := h1
      obtain ⟨nm, bs, mro, ns, qn, hd, sn, sub, ab, col, del⟩ := cd
      dsimp only at hm hdel hdict
      subst hm hdel hdict
      have hsl : sl = #[k0, k1, k2, k3, some (.builtin "ValueError.__new__"), k5] := by
        obtain ⟨l⟩ := sl
        simp only at hs
        rw [hs]
      subst hsl
      exact ⟨nm, qn, ns, bs, bm, sn, sub, ab, col, dd, k0, k1, k2, k3, k5, ho, hv⟩
    · cases h1
  · cases h1
def kOex (x : Str) : Frag → Bool := fun K => oexB K (gA x K)
def kXf (x : Str) : Frag → Bool := fun K => xfB K (gA x K)
/-- the init of a class: where, and that it is a def -/
def kInit (x : Str) : Frag → Bool := fun K => He.eqO (PySem.W.findIn K (.ref (gA x K)) "__init__") (some (some (.ref (mA x "__init__" K)))) && decide (PySem.W.typeIn K (.ref (mA x "__init__" K)) = some (.type "function"))
structure Hd (bk : List (Frag → Bool)) (fn : List Df) (K : Frag) (mg : Str → Option Value) : Prop where
  c : SaysV bk fn K
  g : ∃ h : Heap, K.In h ∧ h.Ns mainGlobals mg
section
variable {bk : List (Frag → Bool)} {fn : List Df} {K : Frag} {mg : Str → Option Value}
theorem Hd.glo (c : Hd bk fn K mg) (i : Nat) {x : Str} (e : bk[i]? = some (kGlo x) := by rfl) : mg x = some (.ref (gA x K)) := by
  obtain ⟨h, X, G⟩ := c.g
  exact He.glo_ok X G (c.c.bkAt i e)
theorem Hd.free (c : Hd bk fn K mg) (i : Nat) {x : Str} (e : bk[i]? = some (kFree x) := by rfl) : mg x = none := by
  obtain ⟨h, X, G⟩ := c.g
  exact He.free_ok X G (c.c.bkAt i e)
theorem Hd.int (c : Hd bk fn K mg) (i : Nat) {x : Str} {j : Int} (e : bk[i]? = some (kInt x j) := by rfl) : ∃ t, mg x = some (.int j t) := by
  obtain ⟨h, X, G⟩ := c.g
  exact He.int_ok X G (c.c.bkAt i e)
theorem Hd.str (c : Hd bk fn K mg) (i : Nat) {x z : Str} (e : bk[i]? = some (kStr x z) := by rfl) : ∃ t, mg x = some (.str z t) := by
  obtain ⟨h, X, G⟩ := c.g
  exact He.str_ok X G (c.c.bkAt i e)
theorem Hd.cls (c : Hd bk fn K mg) (i : Nat) {x : Str} (e : bk[i]? = some (kCls x) := by rfl) : Cls K (gA x K) := He.cls_ok (c.c.bkAt i e)
theorem Hd.noat (c : Hd bk fn K mg) (i : Nat) {x f : Str} (e : bk[i]? = some (kNoat x f) := by rfl) : NoAttr K (gA x K) f := He.noat_ok (c.c.bkAt i e)
theorem Hd.meth (c : Hd bk fn K mg) (i : Nat) {x m : Str} (e : bk[i]? = some (kMeth x m) := by rfl) : Meth K (gA x K) m (mA x m K) := He.meth_ok (c.c.bkAt i e)
theorem Hd.mkr (c : Hd bk fn K mg) (i : Nat) {x : Str} (e : bk[i]? = some (kMkr x) := by rfl) : Mk K (gA x K) (mA x "__init__" K) := He.mkr_ok (c.c.bkAt i e)
theorem Hd.exc (c : Hd bk fn K mg) (i : Nat) {x : Str} (e : bk[i]? = some (kExc x) := by rfl) : PySem.W.excIn K (gA x K) He.veBase "ValueError.__new__" = true ∧ PySem.W.keepIn K (.ref (gA x K)) = true ∧ PySem.W.subIn K (.ref (gA x K)) (.type "BaseException") = some true ∧ PySem.W.typeIn K (.ref (gA x K)) = some (.type "type") := He.exc_ok (c.c.bkAt i e)
theorem Hd.exm (c : Hd bk fn K mg) (i : Nat) {x y : Str} {b : Bool} (e : bk[i]? = some (kExm x y b) := by rfl) : PySem.W.exmOne K (.ref (gA x K)) (.ref (gA y K)) = some b := He.exm_ok (c.c.bkAt i e)
theorem Hd.keep (c : Hd bk fn K mg) (i : Nat) {a : Frag → Addr} (e : bk[i]? = some (kKeep a) := by rfl) : PySem.W.keepIn K (.ref (a K)) = true := c.c.bkAt i e
theorem Hd.prop (c : Hd bk fn K mg) (i : Nat) {x f : Str} (e : bk[i]? = some (kProp x f) := by rfl) : PropOf K (gA x K) f (mA x f K) (pA x f K) := by
  obtain ⟨h1, h⟩ := He.ba (c.c.bkAt i e)
  obtain ⟨h2, h⟩ := He.ba h
  obtain ⟨h3, h4⟩ := He.ba h
  refine ⟨He.eqO_ok h1, He.eqO_ok h2, of_decide_eq_true h3, ?_⟩
  unfold pA
  split at h4
  · rename_i g r q
    rw [q]
    exact ⟨r, rfl⟩
  · cases h4
theorem Hd.ins (c : Hd bk fn K mg) (i : Nat) {x : Str} (e : bk[i]? = some (kIns x) := by rfl) : InsOk K (gA x K) := by
  obtain ⟨h1, h⟩ := He.ba (c.c.bkAt i e)
  obtain ⟨h2, h⟩ := He.ba h
  obtain ⟨h3, h⟩ := He.ba h
  obtain ⟨h4, h5⟩ := He.ba h
  exact ⟨He.cls_ok h1, He.eqO_ok h2, He.eqO_ok h3, of_decide_eq_true h4, of_decide_eq_true h5⟩
theorem Hd.kit (c : Hd bk fn K mg) (i : Nat) {t u : Frag → Value} {b : Bool} (e : bk[i]? = some (kKit t u b) := by rfl) : PySem.W.kitOne K (t K) (u K) = some b := of_decide_eq_true (c.c.bkAt i e)
theorem Hd.nf (c : Hd bk fn K mg) (i : Nat) {x : Str} {t : Frag → Value} (e : bk[i]? = some (kNf x t) := by rfl) : PySem.W.notFirst K (gA x K) (t K) = true := c.c.bkAt i e
theorem Hd.ne (c : Hd bk fn K mg) (i : Nat) {x : Str} (e : bk[i]? = some (kNe x) := by rfl) : PySem.W.findIn K (.ref (gA x K)) "__ne__" = some (some (.builtin "object.__ne__")) ∧ PySem.W.mroIn K (gA x K) (.type "object") = some true :=
  ⟨He.eqO_ok (He.ba (c.c.bkAt i e)).1, of_decide_eq_true (He.ba (c.c.bkAt i e)).2⟩
theorem Hd.oex (c : Hd bk fn K mg) (i : Nat) {x : Str} (e : bk[i]? = some (kOex x) := by rfl) : OexC K (gA x K) := oexB_ok (c.c.bkAt i e)
theorem Hd.xf (c : Hd bk fn K mg) (i : Nat) {x : Str} (e : bk[i]? = some (kXf x) := by rfl) : XfC K (gA x K) := xfB_ok (c.c.bkAt i e)
theorem Hd.init (c : Hd bk fn K mg) (i : Nat) {x : Str} (e : bk[i]? = some (kInit x) := by rfl) : PySem.W.findIn K (.ref (gA x K)) "__init__" = some (some (.ref (mA x "__init__" K))) ∧ PySem.W.typeIn K (.ref (mA x "__init__" K)) = some (.type "function") :=
  ⟨He.eqO_ok (He.ba (c.c.bkAt i e)).1, of_decide_eq_true (He.ba (c.c.bkAt i e)).2⟩
theorem Hd.fnAt (c : Hd bk fn K mg) (i : Nat) {d : Df} (e : fn[i]? = some d := by rfl) : ∃ fd, fdV K (d.a K) = some fd ∧ L2.Fun K d.name d.qual d.st (d.a K) fd := c.c.fnAt i e
end
theorem room_u {k : Nat} {A : Around} (hr : Room k A) : A.units + 65 < cLine := by have := hr.un; omega
theorem room_v {k : Nat} {A : Around} (hr : Room k A) : A.units + 1 < cLine := by have := hr.un; omega
/-! ### built-in types -/
def tbInt : D → Option Bool
  | .int _ => some true
  | .bl _ => some true
  | .ins _ _ => none
  | .scr _ => none
  | .ktup _ => none
  | _ => some false
def tbBool : D → Option Bool
  | .bl _ => some true
  | .ins _ _ => none
  | .scr _ => none
  | .ktup _ => none
  | _ => some false
def tbStr : D → Option Bool
  | .str _ => some true
  | .ins _ _ => none
  | .scr _ => none
  | .ktup _ => none
  | _ => some false
def tbTuple : D → Option Bool
  | .tup _ => some true
  | .ins _ _ => none
  | .scr _ => none
  | .ktup _ => none
  | _ => some false
def tbList : D → Option Bool
  | .lst _ => some true
  | .ins _ _ => none
  | .scr _ => none
  | .ktup _ => none
  | _ => some false
def tbNo : D → Option Bool
  | .ins _ _ => none
  | .scr _ => none
  | .ktup _ => none
  | _ => some false
theorem tb_ok {K : Frag} {u : String} {tb : D → Option Bool} (h : ∀ d b, tb d = some b → ∃ t, tyD d = some t ∧ kitB t u = some b) : ∀ d b, tb d = some b → ∃ t, tyD d = some t ∧ PySem.W.kitOne K (.type t) (.type u) = some b := fun d b e => by
  obtain ⟨t, h1, h2⟩ := h d b e
  exact ⟨t, h1, kit_ty h2⟩
theorem tbInt_ok : ∀ d b, tbInt d = some b → ∃ t, tyD d = some t ∧ kitB t "int" = some b := fun d b e => by
  cases d <;> cases e <;> exact ⟨_, rfl, by decide +kernel⟩
theorem tbBool_ok : ∀ d b, tbBool d = some b → ∃ t, tyD d = some t ∧ kitB t "bool" = some b := fun d b e => by
  cases d <;> cases e <;> exact ⟨_, rfl, by decide +kernel⟩
theorem tbStr_ok : ∀ d b, tbStr d = some b → ∃ t, tyD d = some t ∧ kitB t "str" = some b := fun d b e => by
  cases d <;> cases e <;> exact ⟨_, rfl, by decide +kernel⟩
theorem tbTuple_ok : ∀ d b, tbTuple d = some b → ∃ t, tyD d = some t ∧ kitB t "tuple" = some b := fun d b e => by
  cases d <;> cases e <;> exact ⟨_, rfl, by decide +kernel⟩
theorem tbList_ok : ∀ d b, tbList d = some b → ∃ t, tyD d = some t ∧ kitB t "list" = some b := fun d b e => by
  cases d <;> cases e <;> exact ⟨_, rfl, by decide +kernel⟩
end VM

set_option Elab.async false
set_option linter.all false
set_option maxRecDepth 100000
set_option maxHeartbeats 4000000
namespace VM
open PySem PySem.Spec L2 PyProof.Rows
/-! ### list(range(n)) -/
def lrM (m : M) : M := fun ls => (m ls).bind fun k ls => match k with
  | .dat (.int j) => if 0 ≤ j ∧ j ≤ 1000000 then .ok (.own (.lst (rangeD 0 j.toNat))) ls else .stk
  | _ => .stk
theorem dds_range {K : PySem.W.Frag} {mg : Str → Option Value} {F : Hp} (l : List Nat) (a : Int) : DDs K mg F (l.map fun i => D.int (a + (i : Nat))) (l.map fun i => V.int (a + (i : Nat))) := by
  induction l with
  | nil => exact .nil
  | cons x l ih => exact .cons (.int _) ih
section
variable {X : Cx} {B : Base} {W : WX} {a e o : Expr} {es : List Expr} {m om : M} {am : AM} {pos p p2 q2 : Pos}
theorem e_listR1 (hl : X.mg "list" = none) (hm : X.mg "range" = none) (ha : L2.PE X a (tM (cfg X B) W m)) (hc : X.calm = true := by rfl) (hg : Gl X "list" := by rfl) (hg2 : Gl X "range" := by rfl) (na : starEach [a] X.env = (false, eval a X.env) :: starEach [] X.env := by rfl)
    (na2 : starEach [.Call (.Name "range" p2) [a] [] q2] X.env = (false, eval (.Call (.Name "range" p2) [a] [] q2) X.env) :: starEach [] X.env := by rfl) :
    L2.PE X (.Call (.Name "list" p) [.Call (.Name "range" p2) [a] [] q2] [] pos) (tM (cfg X B) W (lrM m)) := PE.imp (pe_listRg hc hg hl (prg_1 hg2 hm ha na) na2) fun σ H Q h => by
  refine tM_bind h fun F ls vs ks v H' k R po => ?_
  cases k with
  | dat d =>
    cases d with
    | int j =>
      simp only at po
      split at po
      · rename_i hj
        have := Vw.int R.ex (R.view0 (d := .int j) rfl)
        subst this
        refine ⟨j, rfl, RgOk.of_le (Int.le_refl 0) (by omega) (by omega) hj.1, fun q hq => po _ _ _ (R.pop.pushOwn hq (d := .lst _) ?_)⟩
        have e := dds_range (K := X.K) (mg := X.mg) (F := F) (List.range j.toNat) 0
        simpa [rgV, rangeD, ObD] using e
      · exact po.elim
    | _ => exact po.elim
  | _ => exact po.elim
/-! ### repr -/
def reprP (p : PyData) : Option Slot := if p.showable = true ∧ p.hasDict = false ∧ p.shown.length ≤ 1000000 ∧ p.depth ≤ 50 then some (.dat (.str p.shown)) else none
def reprD : List D → Option Slot
  | [d] => (toPy d).bind reprP
  | _ => none
def rRepr (K : PySem.W.Frag) : List V → Hp → VK → Prop := fun xs H Q => ∃ x d, xs = [x] ∧ Dp K H x d ∧ d.showable = true ∧ d.hasDict = false ∧ d.shown.length ≤ sizeLine ∧ d.depth ≤ 50 ∧ Q (.str d.shown) H
theorem c_repr (hg : X.A.guards = some []) (hu : X.A.units + 65 < cLine) : CallR X (.builtin "repr") (rRepr X.K) := by
  intro pins s σ H xs us Q I r h
  obtain ⟨x, d, rfl, hd, h1, h2, h3, h4, q⟩ := h
  obtain ⟨u, rfl, ru⟩ := vals1 r
  obtain ⟨as, rd⟩ := Dp.reads I d x u hd ru
  cases rd with
  | none => exact P.repr_of_none ⟨.str (PyData.shown .none), H, I.tok _, ⟨_, rfl⟩, q⟩
  | bool b => exact P.repr_of_bool ⟨.str (PyData.shown (.bool b)), H, I.tok _, ⟨_, rfl⟩, q⟩
  | int i t => exact P.repr_of_int (by simpa [PyData.showable] using h1) ⟨.str (PyData.shown (.int i)), H, I.tok _, ⟨_, rfl⟩, q⟩
  | str y t => exact P.repr_of_str ⟨.str (PyData.shown (.str y)), H, I.tok _, ⟨_, rfl⟩, q⟩ (by simpa [PyData.shown] using h3)
  | list a1 a2 a3 a4 => exact repr_of_reads' (.list a1 a2 a3 a4) h1 (fun z => by rw [h2] at z; cases z) hg (by omega) (fun _ _ e => e) (fun h' u tk hk => ⟨.str (PyData.shown (.list _)), H, I.kept (t' := tk) hk, ⟨_, rfl⟩, q⟩) h3
  | tuple a1 a2 a3 a4 => exact repr_of_reads' (.tuple a1 a2 a3 a4) h1 (fun z => by rw [h2] at z; cases z) hg (by omega) (fun _ _ e => e) (fun h' u tk hk => ⟨.str (PyData.shown (.tuple _)), H, I.kept (t' := tk) hk, ⟨_, rfl⟩, q⟩) h3
  | dict a1 a2 a3 a4 a5 => simp [PyData.hasDict] at h2
theorem m_repr {G : Cfg} : OpMA G (rRepr G.K) reprD := by
  intro F H σ ls vs ks ws ds k Q R hv hg q
  unfold reprD at hg
  split at hg
  · rename_i d
    cases hv with | cons h1 h2 =>
    cases h2
    cases e : toPy d with
    | none => rw [e] at hg; cases hg
    | some p =>
      rw [e] at hg
      obtain ⟨hc, rfl⟩ := ite_some (show (if p.showable = true ∧ p.hasDict = false ∧ p.shown.length ≤ 1000000 ∧ p.depth ≤ 50 then some (Slot.dat (.str p.shown)) else none) = some k from hg)
      exact ⟨_, p, rfl, vw_dp R.ex h1 e, hc.1, hc.2.1, line_of hc.2.2.1, hc.2.2.2, q _ _ _ (R.pushDat (.str _))⟩
  · cases hg
end
section
variable {X : Cx} {B : Base} {W : WX} {a b : Expr} {am : AM} {pos : Pos}
/-- a, b = x, y: by a tuple that nobody keeps -/
theorem s_asg2T {x y : Str} {px py pt : Pos} {kt k2 : Nat} {pt2 : Pos} (i j : Nat) (hc : X.calm = true) (hN : X.N.Nodup) (ha : L2.PA X [a, b] (tA (cfg X B) W am)) (hi : X.N[i]? = some x := by rfl) (hj : X.N[j]? = some y := by rfl)
    (hx : Loc X.env.scope x := by first | exact Or.inl rfl | exact Or.inr rfl) (hy : Loc X.env.scope y := by first | exact Or.inl rfl | exact Or.inr rfl) (hf : X.fn x = true ∨ X.env.scope.names.lookup x = some .local := by first | exact .inl rfl | exact .inr rfl | assumption)
    (hf2 : X.fn y = true ∨ X.env.scope.names.lookup y = some .local := by first | exact .inl rfl | exact .inr rfl | assumption)
    (hw : swappedStores [.Tuple [.Name x px, .Name y py] kt pt] (.Tuple [a, b] k2 pt2) X.env = pure none := by rfl)
    (hs : swapsWithSole [.Tuple [.Name x px, .Name y py] kt pt] (.Tuple [a, b] k2 pt2) pos.line X.env = pure false := by rfl) (h1 : (assignEach [.Tuple [.Name x px, .Name y py] kt pt] X.env).map (·.2) = [assign (.Tuple [.Name x px, .Name y py] kt pt) X.env] := by rfl)
    (hn : (assignEach [.Name x px, .Name y py] X.env).length = 2 := by rfl) (hst : (assignEach [.Name x px, .Name y py] X.env).findIdx? (·.1) = none := by rfl)
    (he1 : (assignEach [.Name x px, .Name y py] X.env).map (·.2) = assign (.Name x px) X.env :: (assignEach [.Name y py] X.env).map (·.2) := by rfl) (he2 : (assignEach [.Name y py] X.env).map (·.2) = assign (.Name y py) X.env :: (assignEach [] X.env).map (·.2) := by rfl) :
    L2.PS X (.Assign [.Tuple [.Name x px, .Name y py] kt pt] (.Tuple [a, b] k2 pt2) pos) (tS (cfg X B) W (asg2 i j am)) :=
  PS.imp (ps_asg (pe_tup ha) (pg_tup hc (pgs_cons (pg_name hN hi hx hf) (pgs_cons (pg_name hN hj hy hf2) pgs_nil he2) he1) hn hst) hs hw h1) fun D σ H h => by
  obtain ⟨F, ls, vs, ks, na, R, po⟩ := h
  refine ⟨F, ls, vs, ks, R, ?_⟩
  have fin : ∀ {ls1 : LS} {k k' : Slot}, k.fit = true → k'.fit = true → (∀ d, k ≠ .ali d) → (∀ d, k' ≠ .ali d) → (∀ σ' F' H', Rp (cfg X B) F' H' σ' ((ls1.set i k).set j k') vs ks → D.nx σ' H') → ∀ ws F' H', ws.length = [k, k'].length → Rp (cfg X B) F' H' σ ls1 (ws ++ vs) ([k, k'] ++ ks) →
      ws.length ≤ sizeLine ∧ ∀ p, H' p = none → gTup X.K 2 (gCons (gName i) (gCons (gName j) gNil)) (.ref p) σ (upd H' p (.tup ws)) D.nx := fun {ls1 k k'} f1 f2 n1 n2 q ws F' H' hl R => by
    match ws, hl with
    | [v, w], _ =>
      refine ⟨line_of (by show 2 ≤ 1000000; omega), fun p hp => ⟨p, [v, w], rfl, SqT.of upd_same, rfl, v, [w], rfl, w, [], rfl, rfl, ?_⟩⟩
      have R0 : Rp (cfg X B) F' (upd H' p (.tup [v, w])) σ ls1 (v :: (w :: vs)) (k :: (k' :: ks)) := R.heapNew hp
      have na' : noAli (k' :: ks) := fun i' hm => by
        rcases List.mem_cons.mp hm with z | z
        · exact n2 i' z.symm
        · exact na i' z
      exact q _ _ _ ((R0.setTop (i := i) na' f1).setTop (i := j) na f2)
  cases e : am ls with
  | ok as ls1 =>
    simp only [asg2, e] at po
    split at po
    · rename_i h'; cases h'; exact fin rfl rfl (fun d z => by cases z) (fun d z => by cases z) po
    · rename_i h'; cases h'; exact fin rfl rfl (fun d z => by cases z) (fun d z => by cases z) po
    · rename_i h'; cases h'; exact fin rfl rfl (fun d z => by cases z) (fun d z => by cases z) po
    · rename_i h'; cases h'; exact fin rfl rfl (fun d z => by cases z) (fun d z => by cases z) po
    · rename_i h'; cases h'
    · exact po.elim
  | err x ls1 =>
    simp only [asg2, e] at po
    exact fun cls d F' H' r' er => po cls d σ F' H' r' er
  | stk => simp only [asg2, e, PostS] at po
end
end VM

set_option Elab.async false
set_option linter.all false
set_option maxRecDepth 100000
set_option maxHeartbeats 4000000
namespace VM
open PySem PySem.Spec L2 PyProof.Rows
/-! ### the end (over FnG; it goes the way of the library's law_call) -/
theorem law_callG {P : Program} {w : World} {K : PySem.W.Frag} {mg mb : Str → Option Value} {CX : CXT} {k : Nat} {fa a : Addr} {fd : FuncData} {x : Str} {sp : Sp} {s₁ : Shared} {vs : List Value} {ns : List Int}
    (KX : K.In s₁.heap) (hns : s₁.heap.Ns mainGlobals mg) (hb : s₁.heap.Ns builtinsNs mb) (hbb : ∀ x : Str, x ≠ "__name__" → mb x = bootBuiltins x) (hlim : s₁.heap.NoLimit) (hg : s₁.gens = #[])
    (ha : s₁.heap.get? a = some { cls := .type "list", data := .seq vs.toArray }) (hi : IntsAre vs ns) (hl : ns.length ≤ sizeLine) (hr : RoomG k callerA)
    (F : ∀ base : Heap, K.In base → base.Ns mainGlobals mg → FnG P w K mg base CX k fa fd [x] sp) (hbind : ∀ (s : Shared) (u : Value), BindsTo s fd ⟨[u], []⟩ [(x, u)])
    (hsp : ∀ H : Hp, Only H → SqL K H a (ns.map V.int) → sp [.ref a] H (fun v _ => v = .bl true) fun _ _ _ => False)
    (hCX : ∀ H e s', CX [] H s₁ (fun _ _ _ => False) e s' → False) :
    codeAny (model P w) callerA (.call (.ref fa) ⟨[.ref a], []⟩) (fun r s' => r = .ok (.ret (.bool true)) ∧ OldK s₁.heap s'.heap ∧ s'.os = s₁.os ∧ AllBare s'.gens) s₁ := by
  have rv := vals_ints hi
  have lenV := hi.length
  -- from an abstract heap in which nothing but the script may be tracked
  have main : ∀ H : Hp, Only H → SqL K H a (ns.map V.int) → HOk P w H s₁.heap → (∀ b, H b ≠ none → b = a) → (H a ≠ none → K.lookup a = none) →
      codeAny (model P w) callerA (.call (.ref fa) ⟨[.ref a], []⟩) (fun r s' => r = .ok (.ret (.bool true)) ∧ OldK s₁.heap s'.heap ∧ s'.os = s₁.os ∧ AllBare s'.gens) s₁ := by
    intro H hO hS hok hA hK
    have bsOf : ∀ {b : Addr} {o : Obj}, s₁.heap.get? b = some o → H b = none → (hidT s₁.heap H).get? b = some o := fun e n => hidT_get e n
    have nA : ∀ {b : Addr} {o : Obj} {es : Array DictEntry} {ep : Nat}, s₁.heap.get? b = some o → o.data = .dict es ep → H b = none := fun {b o es ep} e d => by
      cases q : H b with
      | none => rfl
      | some u =>
        have e' : b = a := hA b (by rw [q]; simp)
        subst e'
        rw [ha] at e; cases e
        have d' : Data.seq vs.toArray _ = Data.dict es ep := d
        cases d'
    have nK : ∀ {b : Addr} {m : Str → Option Value}, s₁.heap.Ns b m → (hidT s₁.heap H).Ns b m := fun {b m} ⟨o, es, ep, e, d, r⟩ => ⟨o, es, ep, bsOf e (nA e d), d, r⟩
    have kb : K.In (hidT s₁.heap H) := fun b o e => bsOf (KX b o e) (by
      cases q : H b with
      | none => rfl
      | some u =>
        have e' : b = a := hA b (by rw [q]; simp)
        subst e'
        rw [hK (by rw [q]; simp)] at e; cases e)
    have mdl : Mod K mg (hidT s₁.heap H) := ⟨kb, nK hns, ⟨mb, nK hb, hbb⟩, let ⟨mc, h1, h2⟩ := hlim; ⟨mc, nK h1, h2⟩⟩
    have e0 : Env0 P w K mg (hidT s₁.heap H) callerA [] s₁ H := ⟨rfl, mdl, fun b o e => of_hidT e, Nat.le_of_eq (hidT_size _ _), trivial, fun b hb => absurd (show b ∈ ([] : List Addr) from hb) (by simp), hok, .of_eq hg⟩
    refine codeAny_mono ((F _ kb (nK hns)).run callerA [] s₁ H ⟨[.ref a], []⟩ [.ref a] [.ref a] _ _ hr e0 (hbind s₁ (.ref a)) (.cons rfl .nil) (hsp H hO hS)) fun r s' h => ?_
    cases r with
    | error e => exact (hCX H e s' h).elim
    | ok fl =>
      cases fl with
      | next => exact False.elim h
      | brk => exact False.elim h
      | cont => exact False.elim h
      | ret u =>
        obtain ⟨v, H', os, bare, un, hok', r', q⟩ := h
        have q' : v = .bl true := q
        subst q'
        obtain rfl : u = Value.bool true := r'
        refine ⟨rfl, OldK.of_keep fun b o e => ?_, os, bare⟩
        cases q : H b with
        | none => exact un.keep b o e q (by intro z; exact absurd (show b ∈ ([] : List Addr) from z) (by simp)) (by simp)
        | some u =>
          rcases hO b with z | ⟨ob, xs, z⟩
          · rw [q] at z; cases z
          · have z2 := un.frzs b ob _ z
            obtain ⟨e1, _⟩ := hok b _ z
            obtain ⟨e2, _⟩ := hok' b _ z2
            rw [e] at e1; cases e1
            exact e2
  cases hk : K.lookup a with
  | some o =>
    -- the script is one of the module's own objects
    have e := KX a o hk
    rw [ha] at e
    cases e
    refine main (fun _ => none) (fun _ => .inl rfl) (.inr ⟨_, vs.toArray, _, hk, rfl, rfl, rfl, by rw [List.size_toArray, lenV]; exact hl, by simpa using rv⟩) (fun b u z => by have z' : (none : Option HO) = some u := z; cases z') (fun b z => absurd rfl z) fun z => absurd rfl z
  | none =>
    refine main (fun b => if b = a then some (.frz { cls := .type "list", data := .seq vs.toArray } (.lst (ns.map V.int))) else none) (fun b => ?_) (.inl (.inr ⟨{ cls := .type "list", data := .seq vs.toArray }, if_pos rfl⟩)) (fun b u z => ?_) (fun b z => ?_) fun _ => hk
    · by_cases hb : b = a
      · exact .inr ⟨_, _, if_pos hb⟩
      · exact .inl (if_neg hb)
    · by_cases hb : b = a
      · have z' := (if_pos hb).symm.trans z
        cases z'
        subst hb
        exact ⟨ha, by rw [List.length_map]; exact hl, vs, _, rv, ha⟩
      · have z' := (if_neg hb).symm.trans z
        cases z'
    · by_cases hb : b = a
      · exact hb
      · exact absurd (if_neg hb) z
theorem walk_ofG {l : PySem.W.OpenLaw} {n k : Nat} {q : Program} {loose : List Str} {XP : (Str → Option Value) → Heap → Prop} {YP : World → Heap → Prop} {d : DefRec} {CX : World → CXT} {x : Str}
    (hn : l.most = some n) (hn2 : n ≤ sizeLine) (hdf : d.params.defaults = []) (hr : RoomG k callerA)
    (F : ∀ (w : World) (mg : Str → Option Value) (fa : Addr) (h : Heap), YP w h → h.Ns mainGlobals mg → mg d.name = some (.ref fa) →
      ∃ (K : PySem.W.Frag) (fd : FuncData) (sp : Sp), K.In h ∧ (∀ (s : Shared) (u : Value), BindsTo s fd ⟨[u], []⟩ [(x, u)]) ∧
        (∀ (H : Hp) (a : Addr) (ns : List Int), ns.length ≤ n → Only H → SqL K H a (ns.map V.int) → sp [.ref a] H (fun v _ => v = .bl true) fun _ _ _ => False) ∧
        ∀ base : Heap, K.In base → base.Ns mainGlobals mg → FnG l.prog w K mg base (CX w) k fa fd [x] sp)
    (hCX : ∀ (w : World) (H : Hp) (s : Shared) (e : Value) (s' : Shared), CX w [] H s (fun _ _ _ => False) e s' → False) :
    PySem.W.WalkO q loose XP YP l.row.toRowW d [] (fun f vs => PySem.call f vs) := by
  refine Att.attach_call hn hdf fun w s₀ s₁ mg mb fa o pm cd doc a vs ns G Y ho hd hcd hmg hobj hints hlen hg => ?_
  obtain ⟨K, fd, sp, KX, hb, hsp, hF⟩ := F w mg fa _ Y G.T.g hmg
  exact law_callG KX G.T.g G.T.b G.T.builtins G.T.nolimit hg hobj hints (Nat.le_trans hlen hn2) hr hF hb (fun H hO hS => hsp H a ns hlen hO hS) fun H e s' => hCX w H s₁ e s'
/-- the law's promise, from its mirror -/
theorem law_sp {K : Frag} {mg : Str → Option Value} {m : List Slot → RF} {H : Hp} {a : Addr} {ns : List Int} (hS : SqL K H a (ns.map V.int)) (hm : ∃ ps, m [.dat (.scr ns)] = .ok (.dat (.bl true)) ps) :
    spM K mg 1 m [.ref a] H (fun v _ => v = .bl true) fun _ _ _ => False := by
  obtain ⟨ps, hm⟩ := hm
  refine ⟨rfl, H, fun _ => False, [.dat (.scr ns)], fun i hi => by simp at hi, ⟨Ex.rfl, Ex.rfl, rfl, rfl, ⟨fun n e he => ?_, fun m' n e e' p h1 h2 o1 o2 => ?_⟩, fun v i hi => by simp at hi, fun i d hd => by rcases hd with z | z | z | ⟨_, z⟩ <;> simp at z, fun b o e => .inr e, fun b h => h, fun b h => .inr (.inl h)⟩, ?_⟩
  · obtain ⟨w, q, h1, h2, rfl⟩ := ent_nil he
    cases n with
    | zero => cases h1; cases h2; exact ⟨_, rfl, .scr hS⟩
    | succ n => simp at h1
  · obtain ⟨w, q, h3, h4, rfl⟩ := ent_nil h1
    cases m' with
    | zero => cases h3; cases h4; cases o1
    | succ n => simp at h3
  · rw [hm]
    intro v F' H' R
    exact Vw.bl R.ex (R.view0 (d := .bl true) rfl)
theorem noCX {P : Program} {w : World} {outer : List Env} {H : Hp} {s : Shared} {e : Value} {s' : Shared} (h : L2.CX P w outer H s (fun _ _ _ => False) e s') : False := by
  obtain ⟨_, _, _, _, _, _, _, _, _, _, _, _, z⟩ := h
  exact z
end VM

set_option Elab.async false
set_option linter.all false
set_option maxRecDepth 100000
set_option maxHeartbeats 4000000
namespace VM
open PySem PySem.Spec L2 PyProof.Rows
/-! ### quiet defs: they may be called while an exception is handled; they raise nothing -/
structure RoomQ (k : Nat) (A : Around) : Prop where
  dp : A.depth + 3 * k + 5 < recursionLimit
  un : A.units + 16 * k + 200 < cLine
  g : A.guards = some []
theorem RoomG.q {k : Nat} {A : Around} (r : RoomG k A) : RoomQ k A := ⟨r.r.dp, r.r.un, r.g⟩
theorem RoomG.qm {j k : Nat} {A : Around} (r : RoomG k A) (h : j ≤ k) {hd : Option Value} : RoomQ j (A.mark hd) := ⟨(r.mono h).r.dp, (r.mono h).r.un, r.g⟩
theorem RoomQ.mono {j k : Nat} {A : Around} (r : RoomQ k A) (h : j ≤ k) : RoomQ j A := ⟨by have := r.dp; omega, by have := r.un; omega, r.g⟩
theorem RoomQ.deeper {k : Nat} {A : Around} (r : RoomQ (k + 1) A) (env : Env) : RoomQ k (A.deeper env) :=
  ⟨by have := r.dp; show A.depth + 1 + 3 * k + 5 < _; omega, by have := r.un; show A.units + 3 + 16 * k + 200 < _; omega, r.g⟩
theorem RoomQ.u {k : Nat} {A : Around} (r : RoomQ k A) : A.units + 65 < cLine := by have := r.un; omega
structure FnQ (P : Program) (w : World) (K : PySem.W.Frag) (mg : Str → Option Value) (base : Heap) (CX : CXT) (k : Nat) (f : Addr) (fd : FuncData) (pn : List Str) (sp : Sp) : Prop where
  len : ∀ vs H Q E, sp vs H Q E → vs.length = pn.length
  run : ∀ (A : Around) (outer : List Env) (s : Shared) (H : Hp) (args : Args) (us : List Value) (vs : List V) (Q : VK) (E : XK), RoomQ k A → Env0 P w K mg base A outer s H → BindsTo s fd args (pn.zip us) → Vals vs us → sp vs H Q E →
    codeAny (model P w) A (.call (.ref f) args) (CR CX outer P w H s Q E) s
def cxQ (CX : CXT) (P : Program) (w : World) (K : PySem.W.Frag) (mg : Str → Option Value) (base : Heap) (N : List Str) (qual : Str) (scope : Scope) (f : Addr) (cd : Value) (A : Around) (outer : List Env) (s : Shared) (H : Hp) (E : XK) : Cx :=
  { cxOf CX P w K mg base N qual scope f cd A outer s H E with calm := false }
theorem Inv.quiet {X : Cx} {A2 : Around} {xe2 : Value → Shared → Prop} {pins : List (Addr × Obj)} {σ : L2.St} {H : Hp} {s : Shared} (hf : A2.frames = X.A.frames) (I : Inv X pins σ H s) : Inv { X with A := A2, calm := false, xe := xe2 } pins σ H s :=
  ⟨⟨I.ok.mod, I.ok.kind, I.ok.glob, I.ok.blt, I.ok.above, I.ok.inj, I.ok.has, I.ok.cab, fun z => Bool.noConfusion (show false = true from z), hf.trans I.ok.frames, I.ok.stk, I.ok.exf, I.ok.bs, I.ok.bsz, I.ok.noex, I.ok.exfs, I.ok.funs, I.ok.frf⟩,
    I.os, I.bare, I.base, I.loc, I.cell, I.free, I.freeC, I.pin, I.hok, I.len⟩
theorem fn_ofQ {CX : CXT} {P : Program} {w : World} {K : PySem.W.Frag} {mg : Str → Option Value} {base : Heap} {k : Nat} {f : Addr} {x qual : Str} {st : Stmt} {fd : FuncData} {N pn : List Str} {sp : Sp} (F : L2.Fun K x qual st f fd) (S : FnScope N pn (defScope st))
    (len : ∀ vs H Q E, sp vs H Q E → vs.length = pn.length)
    (hbody : ∀ (cdv : Value) (A : Around) (outer : List Env) (s : Shared) (H : Hp) (vs : List V) (Q : VK) (E : XK), RoomQ k (A.deeper (PyProof.Rows.envOfC qual (defScope st) s.heap.objs.size f cdv)) → sp vs H Q E →
      ∃ t, L2.PSs (cxQ CX P w K mg base N qual (defScope st) f cdv A outer s H E) (defBody st) t ∧ t { nx := fun _ H' => Q .non H', rt := Q } (L2.start N vs) H) : FnQ P w K mg base CX (k + 1) f fd pn sp := by
  obtain ⟨oc, od, kV, doc, pm, an, cdv, ct, osl, rfl, lk, hcd⟩ := F.ex
  refine ⟨len, fun A outer s H args us vs Q E hr e0 hb rv hsp => ?_⟩
  have hl := len _ _ _ _ hsp
  have KX : K.In s.heap := e0.mod.kin.keeps (fun b o e => (e0.bs b o e).1)
  have lm : s.heap.NoLimit := e0.mod.nolimit.keeps (fun b o e => (e0.bs b o e).1)
  have kinds : ∀ y ∈ pn.zip us, (defScope st).names.lookup y.1 = some .local ∨ ((defScope st).names.lookup y.1 = some .cell ∧ ((cellsFrom (s.heap.objs.size + 1) (defScope st).names []).lookup y.1).isSome = true) := by
    intro y hy
    exact (S.par y.1 (List.of_mem_zip hy).1).imp id fun q => ⟨q, PySem.W.cellsFrom_some _ _ _ (.inl q)⟩
  refine codeAny_call_function (by have := hr.dp; omega) (KX _ _ lk) rfl S.co S.gen rfl (PySem.W.codeRec_of KX hcd) (hb _ _ _ _ (wpAny_newFunctionEnv_cells S.kind kinds fun env he s1 x => ?_))
  subst he
  refine ⟨lm.keeps x.toInCall.keep, codeAny_func ?_⟩
  obtain ⟨t, ht, hq⟩ := hbody cdv A outer s H vs Q E (hr.deeper _) hsp
  have e1 : Env0 P w K mg base { A with handled := none } outer s H := ⟨e0.frames, e0.mod, e0.bs, e0.bsz, e0.funs, e0.frf, e0.hok, e0.bare⟩
  have I0 : Inv (cxOf CX P w K mg base N qual (defScope st) f cdv { A with handled := none } outer s H E) [] (L2.start N vs) H s1 := inv_start S rfl e1 hl rv x
  have I : Inv (cxQ CX P w K mg base N qual (defScope st) f cdv A outer s H E) [] (L2.start N vs) H s1 :=
    VM.Inv.quiet (X := cxOf CX P w K mg base N qual (defScope st) f cdv { A with handled := none } outer s H E) (A2 := (cxQ CX P w K mg base N qual (defScope st) f cdv A outer s H E).A) (xe2 := (cxQ CX P w K mg base N qual (defScope st) f cdv A outer s H E).xe) rfl I0
  refine wpAny_mono (ht.run [] s1 (L2.start N vs) H _ I hq) (fun fl s' hs => ?_) (fun e s' hs => hs)
  have fin : ∀ {σ' : L2.St} {H' : Hp} {v : V} {u : Value}, Inv (cxQ CX P w K mg base N qual (defScope st) f cdv A outer s H E) [] σ' H' s' → RelV v u → Q v H' → CE outer P w H s Q u s' := fun {σ' H' v u} J r q => ⟨v, H', J.os, J.bare, J.base, J.hok, r, q⟩
  cases fl with
  | ret u => exact let ⟨v, σ', H', J, r, q⟩ := hs; fin J r q
  | next => exact let ⟨σ', H', J, q⟩ := hs; fin (v := V.non) (u := Value.none) J rfl q
  | brk => exact let ⟨_, _, _, q⟩ := hs; q.elim
  | cont => exact let ⟨_, _, _, q⟩ := hs; q.elim
section
variable {X : Cx} {k : Nat} {f : Addr} {fd : FuncData} {pn : List Str} {sp : Sp} {pins : List (Addr × Obj)} {σ : L2.St} {H : Hp} {s : Shared} {Q : VK} {us : List Value} {vs : List V}
theorem run_fnQ (F : FnQ X.prog X.w X.K X.mg X.base (L2.CX X.prog X.w) k f fd pn sp) (hr : RoomQ k X.A) (hb : Binds X.K fd pn []) (I : Inv X pins σ H s) (r : Vals vs us) (h : sp vs H Q E0) {E' : Value → Shared → Prop} : wpAny (model X.prog X.w) X.A (call (.ref f) us) (EP X pins σ Q) E' s := by
  have hl : us.length = pn.length := r.length.symm.trans (F.len _ _ _ _ h)
  have b := hb s us I.kIn (by simpa using hl)
  rw [List.append_nil] at b
  refine wpAny_call (codeAny_mono (F.run X.A X.stack s H ⟨us, []⟩ us vs Q E0 hr I.env0 b r h) fun r2 s' hq => ?_)
  cases r2 with
  | error e => exact False.elim (passL (X := X.nox) pins σ H s e s' (I.wish _) hq)
  | ok fl => cases fl <;> first | exact I.after hq | exact False.elim hq
end
/-- a def's rule, quiet -/
theorem fun_okQ {P : Program} {w : World} {K : PySem.W.Frag} {mg : Str → Option Value} {base : Heap} {x qual : Str} {st : Stmt} {f : Addr} {fd : FuncData} {N pn : List Str} {k n m : Nat} {b : SM} (F : L2.Fun K x qual st f fd) (S : FnScope N pn (defScope st))
    (hn : n = pn.length) (hm : m = N.length)
    (hbody : ∀ (cdv : Value) (A : Around) (outer : List Env) (s : Shared) (H : Hp) (E : XK) (B : Base), RoomQ k (A.deeper (PyProof.Rows.envOfC qual (defScope st) s.heap.objs.size f cdv)) →
      L2.PSs (cxQ (L2.CX P w) P w K mg base N qual (defScope st) f cdv A outer s H E) (defBody st) (tS ⟨K, mg, B⟩ (fun cls d _ H => E cls d H) b)) :
    FnQ P w K mg base (L2.CX P w) (k + 1) f fd pn (spM K mg n (funM m b)) := by
  subst hm
  refine fn_ofQ F S (fun vs H Q E h => h.1.trans hn) (fun cdv A outer s H vs Q E hr h => ?_)
  obtain ⟨hlen, F0, Wp, ps, na, R, po⟩ := h
  have hpn : pn.length ≤ N.length := by
    have := congrArg List.length S.pre
    rw [List.length_take] at this
    omega
  have hv : vs.length ≤ N.length := by omega
  refine ⟨_, hbody cdv A outer s H E ⟨F0, H, Wp, fun i => (L2.start N vs)[i]?⟩ hr, F0, startLS N.length ps, [], [], fun i => by simp, fn_start hv na R, ?_⟩
  exact fin_post hv R po
def callQ (n : Nat) (f : List Slot → RF) (am : AM) : M := fun ls => (am ls).bind fun as ls => if as.length = n then (match callK f as ls with
  | .ok k ls => .ok k ls
  | _ => .stk) else .stk
theorem e_callQ {X : Cx} {B : Base} {W : WX} {k n : Nat} {f : Addr} {fd : FuncData} {pn : List Str} {x : Str} {p pos : Pos} {e : Expr} {es : List Expr} {am : AM} {g : List Slot → RF} (F : FnQ X.prog X.w X.K X.mg X.base (L2.CX X.prog X.w) k f fd pn (spM X.K X.mg n g)) (hr : RoomQ k X.A) (hm : X.mg x = some (.ref f)) (hk : PySem.W.keepIn X.K (.ref f) = true) (hb : Binds X.K fd pn []) (ha : L2.PA X (e :: es) (tA (cfg X B) W am))
    (hg : Gl X x := by rfl) (hdb : (x == ("__debug__" : Str)) = false := by decide) (he : starEach (e :: es) X.env = (false, eval e X.env) :: starEach es X.env := by rfl) (hpl : (backTo pos (starEach es X.env)).any (·.1) = false := by rfl) :
    L2.PE X (.Call (.Name x p) (e :: es) [] pos) (tM (cfg X B) W (callQ n g am)) := by
  refine PE.imp (t := tCallS (spM X.K X.mg n g) (fun _ => E0) (tA (cfg X B) W am)) ⟨fun pins s σ H Q I h => wpAny_Call_Name_kw (ld_glob I hg hm ?_ hdb)⟩ fun σ H Q h => ?_
  · exact PySem.W.callWith_K (h₀ := X.base) I.ok.mod.kin hk (thn (ha.run pos pins s σ H _ I h) fun us s1 ⟨vs, H1, I1, r, q⟩ => ⟨I1.kIn, run_fnQ F hr hb I1 r q⟩) he hpl
  · refine tA_bind h fun F ls vs ks ws H' as hl R po => ?_
    split at po
    · rename_i hn
      have po' : PostM (cfg X B) WF σ vs ks (callK g as ls) Q := by
        cases e2 : callK g as ls with
        | ok k2 ls2 => rw [e2] at po; exact po
        | err x2 ls2 => rw [e2] at po; exact False.elim po
        | stk => rw [e2] at po; exact False.elim po
      obtain ⟨F0, W0, ps, na, R1, po1⟩ := callK_ok hl R po'
      exact ⟨by omega, F0, W0, ps, na, R1, po1⟩
    · exact False.elim po
end VM

set_option Elab.async false
set_option linter.all false
set_option maxRecDepth 100000
set_option maxHeartbeats 1000000
namespace VM
open PySem L2

/-! ### a display of own lists -/
def trs : List Slot → Option (List T)
  | [] => some []
  | .dat d :: r => (trs r).map (.fz d :: ·)
  | .own d :: r => (trs r).map (.fl d :: ·)
  | .tre t :: r => (trs r).map (t :: ·)
  | _ :: _ => none
section
variable {G : Cfg} {F F' H H' : Hp} {σ : L2.St} {ls : LS} {vs : List V} {ks : List Slot} {v : V} {k : Slot} {d d' : D} {p : Addr} {o o' : HO} {i : Nat} {E : List Ent} {e e' : Ent}
theorem ent_cons {w : V} {a : Slot} {ws : List V} {as : List Slot} : ent (w :: ws) (a :: as) σ ls = (some w, a) :: ent ws as σ ls := rfl
theorem trs_ok : ∀ {as : List Slot} {ws : List V} {ts : List T}, ws.length = as.length → trs as = some ts → Good G F H (ent (ws ++ vs) (as ++ ks) σ ls) →
    TOks G F H ts ws ∧ (adsL H ts ws).Nodup ∧ ∀ p, p ∈ adsL H ts ws → (∃ (n : Nat) (e : Ent), (ent (ws ++ vs) (as ++ ks) σ ls)[n]? = some e ∧ p ∈ adE H e) ∧ ∀ (n : Nat) (e : Ent), (ent vs ks σ ls)[n]? = some e → p ∉ adE H e
  | [], [], _, _, h, g => by cases h; exact ⟨.nil, by rw [adsL_nil]; exact .nil, fun p hp => by rw [adsL_nil] at hp; cases hp⟩
  | [], _ :: _, _, hl, _, _ => by simp at hl
  | _ :: _, [], _, hl, _, _ => by simp at hl
  | k :: as, w :: ws, ts, hl, h, g => by
    have g : Good G F H ((some w, k) :: ent (ws ++ vs) (as ++ ks) σ ls) := g
    have key : ∀ {t : T} {ts' : List T}, trs as = some ts' → TOk G F H t w → (ads H t w).Nodup → adE H (some w, k) = ads H t w →
        TOks G F H (t :: ts') (w :: ws) ∧ (adsL H (t :: ts') (w :: ws)).Nodup ∧ ∀ p, p ∈ adsL H (t :: ts') (w :: ws) → (∃ (n : Nat) (e : Ent), (ent (w :: ws ++ vs) (k :: as ++ ks) σ ls)[n]? = some e ∧ p ∈ adE H e) ∧ ∀ (n : Nat) (e : Ent), (ent vs ks σ ls)[n]? = some e → p ∉ adE H e := fun {t ts'} h1 h2 h3 h4 => by
      obtain ⟨a, b, c⟩ := trs_ok (by simpa using hl) h1 g.tail
      have up : ∀ (n : Nat) (e : Ent), (ent vs ks σ ls)[n]? = some e → (ent (ws ++ vs) (as ++ ks) σ ls)[ws.length + n]? = some e := fun n e he => by
        have hl' : ws.length = as.length := by simpa using hl
        have : ent (ws ++ vs) (as ++ ks) σ ls = (ws.map some).zip as ++ ent vs ks σ ls := by
          unfold ent
          rw [List.map_append, List.zip_append (by simp [hl']), List.append_assoc]
        rw [this, List.getElem?_append_right (by simp [hl'])]
        simpa [hl'] using he
      refine ⟨.cons h2 a, ?_, fun p hp => ?_⟩
      · rw [adsL_cons]
        refine List.nodup_append.mpr ⟨h3, b, fun q hq q' hq' z => ?_⟩
        subst z
        obtain ⟨⟨n, e, c1, c2⟩, _⟩ := c q hq'
        exact g.head_ne (by rw [h4]; exact hq) n e c1 c2
      · rw [adsL_cons] at hp
        rcases List.mem_append.mp hp with z | z
        · exact ⟨⟨0, _, rfl, by rw [h4]; exact z⟩, fun n e he => g.head_ne (by rw [h4]; exact z) _ e (up n e he)⟩
        · obtain ⟨⟨n, e, c1, c2⟩, c3⟩ := c p z
          exact ⟨⟨n + 1, e, by show ((some w, k) :: ent (ws ++ vs) (as ++ ks) σ ls)[n + 1]? = some e; rw [List.getElem?_cons_succ]; exact c1, c2⟩, c3⟩
    have hd := g.head
    cases k with
    | dat d =>
      cases e : trs as with
      | none => simp only [trs, e] at h; cases h
      | some r =>
        simp only [trs, e] at h; cases h
        obtain ⟨x, e1, e2⟩ := hd
        cases e1
        exact key e (.fz e2) (by rw [ads_fz]; exact .nil) (by rw [ads_fz]; rfl)
    | own d =>
      cases e : trs as with
      | none => simp only [trs, e] at h; cases h
      | some r =>
        simp only [trs, e] at h; cases h
        obtain ⟨x, e1, e2⟩ := hd
        cases e1
        exact key e (.fl e2) (by rw [ads_fl]; simp) (by rw [ads_fl]; rfl)
    | tre t =>
      cases e : trs as with
      | none => simp only [trs, e] at h; cases h
      | some r =>
        simp only [trs, e] at h; cases h
        obtain ⟨x, e1, e2, e3⟩ := hd
        cases e1
        exact key e e2 e3 rfl
    | _ => cases h
theorem Rp.pushTre {ts : List T} {as : List Slot} {ws : List V} (R : Rp G F H σ ls (ws ++ vs) (as ++ ks)) (hl : ws.length = as.length) (ht : trs as = some ts) (hp : H p = none) :
    Rp G F (L2.upd H p (.lst ws)) σ ls (.ref p :: vs) (.tre (.lst ts) :: ks) := by
  obtain ⟨a, b, c⟩ := trs_ok hl ht R.good
  have R0 : Rp G F H σ ls vs ks := Rp.popN as ws hl R
  have R1 : Rp G F (L2.upd H p (.lst ws)) σ ls vs ks := R0.heapNew hp
  have nw : ∀ q, q ∈ adsL H ts ws → q ≠ p := fun q hq z => by
    obtain ⟨_, _, o, h1, _⟩ := a.one hq
    rw [z, hp] at h1; cases h1
  obtain ⟨a', b'⟩ := a.move (B' := G.B) (F' := F) (H' := L2.upd H p (.lst ws)) Ex.rfl fun q hq => ⟨(a.one hq).1, upd_ne (nw q hq), (a.one hq).2.1⟩
  have node : Node G F (L2.upd H p (.lst ws)) p (.lst ws) := ⟨(R0.fresh hp).2, .inl (R0.fresh hp).1, upd_same⟩
  have tk : TOk G F (L2.upd H p (.lst ws)) (.lst ts) (.ref p) := .lst node a'
  refine ⟨R1.ex, R1.ex0, R1.len, by simp [R1.klen], R1.good.cons (e := (some (.ref p), .tre (.lst ts))) ⟨_, rfl, tk, ?_⟩ fun q hq n e' he z => ?_, fun w i' hj => ?_, R1.pin, R1.b1, R1.b2, R1.b3⟩
  · rw [ads_lst upd_same, b']
    exact List.nodup_cons.mpr ⟨fun z => nw p z rfl, b⟩
  · have hq : q ∈ ads (L2.upd H p (.lst ws)) (.lst ts) (.ref p) := hq
    rw [ads_lst upd_same, b'] at hq
    rw [R0.good.adNew hp he] at z
    rcases List.mem_cons.mp hq with y | y
    · exact R0.good.new hp n e' q he z y
    · exact (c q y).2 n e' he z
  · rcases List.mem_cons.mp hj with z | z
    · cases z
    · exact R1.al w i' z
end
section
variable {X : Cx} {B : Base} {W : WX} {e a b : Expr} {es : List Expr} {m ma mb : M} {am : AM} {i : Nat} {pos : Pos}
def lstT (am : AM) : M := fun ls => (am ls).bind fun as ls => match trs as with
  | some ts => if ts.length ≤ 1000 then .ok (.tre (.lst ts)) ls else .stk
  | none => .stk
theorem trs_len : ∀ {as : List Slot} {ts : List T}, trs as = some ts → as.length = ts.length
  | [], _, h => by cases h; rfl
  | k :: as, ts, h => by
    cases k <;> first | (cases h; done) | (cases e : trs as with
      | none => simp only [trs, e] at h; cases h
      | some r =>
        simp only [trs, e] at h; cases h
        simp [trs_len e])
theorem e_lstT (h : L2.PA X es (tA (cfg X B) W am)) : L2.PE X (.List es pos) (tM (cfg X B) W (lstT am)) := PE.imp (pe_lst h) fun σ H Q h => by
  refine tA_bind h fun F ls vs ks ws H' as hl R po => ?_
  cases e : trs as with
  | none => simp only [e, PostM] at po
  | some ts =>
    simp only [e] at po
    split at po
    · rename_i hz
      refine ⟨line_of (by rw [hl, trs_len e]; omega), fun p hp => ?_⟩
      exact po _ _ _ (R.pushTre hl e hp)
    · exact False.elim po
/-! ### a tree is looked at -/
def lookT (ls : LS) (k : Slot) : Option D := match look ls k with
  | some d => some d
  | none => (match k with
    | .tre t => some t.er
    | .ali i => (match ls[i]? with
      | some (.tre t) => some t.er
      | some (.ptr t) => some t.er
      | _ => none)
    | _ => none)
theorem Rp.viewT {G : Cfg} {F H : Hp} {σ : L2.St} {ls : LS} {vs : List V} {ks : List Slot} {v : V} {k : Slot} {d : D} {j : Nat} (R : Rp G F H σ ls vs ks) (h1 : vs[j]? = some v) (h2 : ks[j]? = some k) (hl : lookT ls k = some d) : ∃ F1, Ex F1 H ∧ Vw G F1 H v d := by
  unfold lookT at hl
  cases e : look ls k with
  | some d0 => rw [e] at hl; cases hl; exact ⟨F, R.ex, R.view h1 h2 e⟩
  | none =>
    simp only [e] at hl
    have he : (ent vs ks σ ls)[j]? = some (some v, k) := by
      unfold ent
      rw [List.getElem?_append_left (by simp [R.klen]; exact (List.getElem?_eq_some_iff.mp h2).1), List.getElem?_zip_eq_some]
      exact ⟨by rw [List.getElem?_map, h1]; rfl, h2⟩
    have fin : ∀ {t : T} {y : V}, TOk G F H t y → ∃ F1, Ex F1 H ∧ Vw G F1 H y t.er := fun {t y} h => ⟨_, frzS_ex R.ex, .inl (h.dd h.ex fun q hq => frzS_in hq)⟩
    cases k with
    | tre t =>
      cases hl
      obtain ⟨x, e1, e2, _⟩ := R.good.all j _ he
      cases e1; exact fin e2
    | ali i =>
      obtain ⟨s, a2, a3, a4⟩ := R.al v i (List.mem_of_getElem? (i := j) (by rw [List.getElem?_zip_eq_some]; exact ⟨h1, h2⟩))
      obtain ⟨w', b1, b2⟩ := R.loc a3
      rw [a2] at b1; cases b1
      simp only [a3] at hl
      cases s with
      | tre t =>
        cases hl
        obtain ⟨x, e1, e2, _⟩ := b2
        cases e1; exact fin e2
      | ptr t =>
        cases hl
        obtain ⟨x, e1, e2, _⟩ := b2
        cases e1; exact fin e2
      | _ => cases hl
    | _ => cases hl
/-- what is told of two values, no more -/
def OpP2 (K : PySem.W.Frag) (mg : Str → Option Value) (r : R2) (g : D → D → Option Bool) : Prop := ∀ (G : Cfg) F F' H v w x y b Q, G.K = K → G.mg = mg → Ex F H → Ex F' H → Vw G F H v x → Vw G F' H w y → g x y = some b → Q (.bl b) H → r v w H Q
def binP (g : D → D → Option Bool) (a b : M) : M := fun ls => (a ls).bind fun k1 ls => (b ls).bind fun k2 ls => match lookT ls k1, lookT ls k2 with
  | some x, some y => (match g x y with
    | some c => .ok (.dat (.bl c)) ls
    | none => .stk)
  | _, _ => .stk
theorem imp_binP {g : D → D → Option Bool} {r : R2} (hr : OpP2 X.K X.mg r g) {σ : L2.St} {H : Hp} {Q : VK} (h : tM (cfg X B) W (binP g ma mb) σ H Q) : tOp r (tM (cfg X B) W ma) (tM (cfg X B) W mb) σ H Q :=
  tM_two h fun F ls vs ks v w k1 k2 H' R po => by
    cases e1 : lookT ls k1 with
    | none => simp only [e1, PostM] at po
    | some x =>
      cases e2 : lookT ls k2 with
      | none => simp only [e1, e2, PostM] at po
      | some y =>
        cases e3 : g x y with
        | none => simp only [e1, e2, e3, PostM] at po
        | some c =>
          simp only [e1, e2, e3] at po
          obtain ⟨F1, x1, v1⟩ := R.viewT (j := 1) (v := v) (k := k1) rfl rfl e1
          obtain ⟨F2, x2, v2⟩ := R.viewT (j := 0) (v := w) (k := k2) rfl rfl e2
          exact hr (cfg X B) F1 F2 H' v w x y c Q rfl rfl x1 x2 v1 v2 e3 (po _ _ _ (R.pop.pop.pushDat (.bl _)))
theorem e_cmpP {op : CmpOp} {g : D → D → Option Bool} {r : R2} (ho : OpR X (compareOp op) r) (hr : OpP2 X.K X.mg r g) (ha : L2.PE X a (tM (cfg X B) W ma)) (hb : L2.PE X b (tM (cfg X B) W mb)) (hm : behindInMarks op b = false := by first | exact nomark _ | rfl) : L2.PE X (.Compare a [op] [b] pos) (tM (cfg X B) W (binP g ma mb)) :=
  PE.imp (pe_cmpR ho ha hb hm) fun _ _ _ h => imp_binP hr h
def neP (x y : D) : Option Bool := (eqP x y).map (!·)
theorem p_eq {K mg} : OpP2 K mg (rEqD K) eqP := by
  intro G F F' H v w x y c Q hK hmg x1 x2 h1 h2 e q
  subst hK
  cases e1 : toPy x with
  | none => simp only [eqP, e1] at e; cases e
  | some a =>
    cases e2 : toPy y with
    | none => simp only [eqP, e1, e2] at e; cases e
    | some b =>
      simp only [eqP, e1, e2] at e
      split at e
      · rename_i c
        cases e
        exact ⟨a, b, vw_dp x1 h1 e1, vw_dp x2 h2 e2, c.1, c.2, q⟩
      · cases e
theorem p_ne {K mg} : OpP2 K mg (rNeD K) neP := by
  intro G F F' H v w x y c Q hK hmg x1 x2 h1 h2 e q
  subst hK
  unfold neP at e
  cases e1 : toPy x with
  | none => simp only [eqP, e1] at e; cases e
  | some a =>
    cases e2 : toPy y with
    | none => simp only [eqP, e1, e2] at e; cases e
    | some b =>
      simp only [eqP, e1, e2] at e
      split at e
      · rename_i c
        cases e
        exact ⟨a, b, vw_dp x1 h1 e1, vw_dp x2 h2 e2, c.1, c.2, q⟩
      · cases e
end
/-! ### simple arguments: what they make is new -/
structure Ext (F H F' H' : Hp) : Prop where
  f : Ex F F'
  h : Ex H H'
  x : Ex F' H'
  n : ∀ b, F' b = F b ∨ H b = none
theorem Ext.refl {F H : Hp} (x : Ex F H) : Ext F H F H := ⟨Ex.rfl, Ex.rfl, x, fun _ => .inl rfl⟩
theorem Ext.trans {F H F1 H1 F2 H2 : Hp} (a : Ext F H F1 H1) (b : Ext F1 H1 F2 H2) : Ext F H F2 H2 := ⟨a.f.trans b.f, a.h.trans b.h, b.x, fun c => by
  rcases b.n c with z | z
  · rcases a.n c with y | y
    · exact .inl (z.trans y)
    · exact .inr y
  · refine .inr ?_
    cases q : H c with
    | none => rfl
    | some o => rw [a.h c o q] at z; cases z⟩
section
variable {G : Cfg} {F F' H H' : Hp} {σ : L2.St} {ls : LS} {vs : List V} {ks : List Slot} {v : V} {k : Slot} {d d' : D} {p c : Addr} {o o' : HO} {i : Nat}
theorem Rp.ext (R : Rp G F H σ ls vs ks) (x : Ext F H F' H') : Rp G F' H' σ ls vs ks := by
  refine ⟨x.x, R.ex0.trans x.f, R.len, R.klen, R.good.grow x.f fun n e q he hq => ?_, R.al, R.pin, fun b o e => (R.b1 b o e).imp id fun z => x.h _ _ z, fun b z => ?_, fun b z => ?_⟩
  · obtain ⟨f1, o, h1⟩ := R.good.owned he hq
    refine ⟨?_, by rw [h1]; exact x.h _ _ h1⟩
    rcases x.n q with z | z
    · rw [z]; exact f1
    · rw [h1] at z; cases z
  · cases q : H b with
    | none => exact absurd q (R.b2 b z)
    | some o => rw [x.h _ _ q]; exact Option.some_ne_none _
  · rcases x.n b with y | y
    · rw [y] at z
      exact (R.b3 b z).imp (fun ⟨xs, q⟩ => ⟨xs, by rw [y]; exact q⟩) id
    · exact .inr (.inr (.inl (R.fresh y).1))
end
abbrev XM := LS → Option D
abbrev XA := LS → Option (List D)
def tX (G : Cfg) (m : XM) : TE := fun σ H Q => ∃ F ls vs ks, Rp G F H σ ls vs ks ∧ match m ls with
  | some d => ∀ v F' H', Ext F H F' H' → DD G.K G.mg F' d v → Q v H'
  | none => False
def tXA (G : Cfg) (m : XA) : TA := fun σ H Q => ∃ F ls vs ks, Rp G F H σ ls vs ks ∧ match m ls with
  | some ds => ∀ ws F' H', Ext F H F' H' → DDs G.K G.mg F' ds ws → Q ws H'
  | none => False
def xC (d : D) : XM := fun _ => some d
def xV (i : Nat) : XM := fun ls => match ls[i]? with
  | some (.dat d) => some d
  | some (.pdt d) => some d
  | _ => none
def xNil : XA := fun _ => some []
def xCons (m : XM) (r : XA) : XA := fun ls => match m ls with
  | some d => (match r ls with
    | some ds => some (d :: ds)
    | none => none)
  | none => none
def xTup (am : XA) : XM := fun ls => match am ls with
  | some ds => if ds.length ≤ 1000 then some (.tup ds) else none
  | none => none
section
variable {X : Cx} {B : Base} {W : WX} {e a b : Expr} {es : List Expr} {m : XM} {am : XA} {i : Nat} {pos : Pos}
theorem x_con {d : D} {v : V} (hd : ∀ F, DD X.K X.mg F d v) (h : L2.PE X e (fun σ H Q => Q v H)) : L2.PE X e (tX (cfg X B) (xC d)) := PE.imp h fun σ H Q h => by
  obtain ⟨F, ls, vs, ks, R, po⟩ := h
  exact po v F H (Ext.refl R.ex) (hd F)
theorem x_int {i : Int} {j : Nat} : L2.PE X (.Constant (.int i) j pos) (tX (cfg X B) (xC (.int i))) := x_con (fun F => .int i) pe_int
theorem x_bl {b : Bool} {j : Nat} : L2.PE X (.Constant (.bool b) j pos) (tX (cfg X B) (xC (.bl b))) := x_con (fun F => .bl b) pe_bl
theorem x_non {j : Nat} : L2.PE X (.Constant .none j pos) (tX (cfg X B) (xC .non)) := x_con (fun F => .non) pe_non
theorem x_str {x : Str} {j : Nat} : L2.PE X (.Constant (.str x) j pos) (tX (cfg X B) (xC (.str x))) := x_con (fun F => .str x) pe_str
theorem x_var {x : Str} (i : Nat) (hN : X.N[i]? = some x := by rfl) (hv : Vis X.env.scope x := by first | exact Or.inl rfl | exact Or.inr (Or.inl rfl) | exact Or.inr (Or.inr rfl)) (hd : (x == ("__debug__" : Str)) = false := by decide)
    (hcd : (x == ("__classdict__" : Str)) = false := by decide) : L2.PE X (.Name x pos) (tX (cfg X B) (xV i)) := PE.imp (pe_var hN hv hd hcd) fun σ H Q h => by
  obtain ⟨F, ls, vs, ks, R, po⟩ := h
  cases e : ls[i]? with
  | none => simp only [xV, e] at po
  | some s =>
    obtain ⟨v, h1, h2⟩ := R.loc e
    cases s with
    | dat d =>
      simp only [xV, e] at po
      obtain ⟨x, rfl, q⟩ := h2
      exact ⟨x, h1, po x F H (Ext.refl R.ex) q⟩
    | pdt d =>
      simp only [xV, e] at po
      obtain ⟨x, rfl, q⟩ := h2
      exact ⟨x, h1, po x F H (Ext.refl R.ex) q⟩
    | _ => simp only [xV, e] at po
theorem xa_nil : L2.PA X [] (tXA (cfg X B) xNil) := PA.imp pa_nil fun σ H Q h => by
  obtain ⟨F, ls, vs, ks, R, po⟩ := h
  exact po [] F H (Ext.refl R.ex) .nil
theorem xa_cons (ha : L2.PE X e (tX (cfg X B) m)) (hr : L2.PA X es (tXA (cfg X B) am)) (hs : starEach (e :: es) X.env = (false, eval e X.env) :: starEach es X.env := by rfl) : L2.PA X (e :: es) (tXA (cfg X B) (xCons m am)) := PA.imp (pa_cons ha hr hs) fun σ H Q h => by
  obtain ⟨F, ls, vs, ks, R, po⟩ := h
  refine ⟨F, ls, vs, ks, R, ?_⟩
  cases e1 : m ls with
  | none => simp only [xCons, e1] at po
  | some d =>
    simp only []
    intro v F1 H1 x1 d1
    refine ⟨F1, ls, vs, ks, R.ext x1, ?_⟩
    cases e2 : am ls with
    | none => simp only [xCons, e1, e2] at po
    | some ds =>
      simp only [xCons, e1, e2] at po
      simp only []
      intro ws F2 H2 x2 d2
      exact po (v :: ws) F2 H2 (x1.trans x2) (.cons (d1.mono x2.f) d2)
theorem x_tup {x1 : Nat} (h : L2.PA X es (tXA (cfg X B) am)) : L2.PE X (.Tuple es x1 pos) (tX (cfg X B) (xTup am)) := PE.imp (pe_tup h) fun σ H Q h => by
  obtain ⟨F, ls, vs, ks, R, po⟩ := h
  refine ⟨F, ls, vs, ks, R, ?_⟩
  cases e1 : am ls with
  | none => simp only [xTup, e1] at po
  | some ds =>
    simp only [xTup, e1] at po
    simp only []
    intro ws F1 H1 x1 d1
    split at po
    · rename_i d hd
      split at hd
      · rename_i hz
        cases hd
        refine ⟨line_of (by rw [← d1.length]; exact Nat.le_trans hz (by decide)), fun p hp => ?_⟩
        have fp : F1 p = none := by
          cases q : F1 p with
          | none => rfl
          | some o => rw [x1.x _ _ q] at hp; cases hp
        have e1 : Ex F1 (L2.upd F1 p (.tup ws)) := Ex.upd fp
        refine po (.ref p) (L2.upd F1 p (.tup ws)) (L2.upd H1 p (.tup ws)) (x1.trans ⟨e1, Ex.upd hp, fun a o e => ?_, fun b => ?_⟩) (.tup upd_same (d1.mono e1))
        · by_cases ha : a = p
          · subst ha; rw [upd_same] at e ⊢; exact e
          · rw [upd_ne ha] at e ⊢; exact x1.x _ _ e
        · by_cases hb : b = p
          · subst hb; exact .inr hp
          · rw [upd_ne hb]; exact .inl rfl
      · cases hd
    · exact po.elim
end
/-! ### x[j].m(..), where x is a local list of own lists -/
section
variable {G : Cfg} {F F' H H' : Hp} {σ : L2.St} {ls : LS} {vs : List V} {ks : List Slot} {v : V} {k : Slot} {d d' : D} {p c : Addr} {o o' : HO} {i : Nat}
theorem TOks.at : ∀ {ts : List T} {xs : List V} {j : Nat}, TOks G F H ts xs → ts[j]? = some (.fl d) → ∃ c, xs[j]? = some (.ref c) ∧ OwnAt G F H c d ∧ c ∈ adsL H ts xs
  | _, _, j, .nil, h => by simp at h
  | _, _, 0, .cons a r, h => by
    rw [List.getElem?_cons_zero] at h; cases h
    cases a with
    | fl o => exact ⟨_, rfl, o, by rw [adsL_cons, ads_fl]; simp⟩
  | _, _, j + 1, .cons a r, h => by
    rw [List.getElem?_cons_succ] at h
    obtain ⟨c, h1, h2, h3⟩ := TOks.at r h
    exact ⟨c, by rw [List.getElem?_cons_succ]; exact h1, h2, by rw [adsL_cons]; exact List.mem_append_right _ h3⟩
theorem TOks.setAt (hb : ObD G F o' d') : ∀ {ts : List T} {xs : List V} {j : Nat}, TOks G F H ts xs → (adsL H ts xs).Nodup → ts[j]? = some (.fl d) → xs[j]? = some (.ref c) →
    TOks G F (L2.upd H c o') (ts.set j (.fl d')) xs ∧ adsL (L2.upd H c o') (ts.set j (.fl d')) xs = adsL H ts xs
  | _, _, j, .nil, _, h, _ => by simp at h
  | _, _, 0, .cons a r, hn, h, hx => by
    rw [List.getElem?_cons_zero] at h hx; cases h; cases hx
    rw [adsL_cons] at hn
    obtain ⟨n1, n2, n3⟩ := List.nodup_append.mp hn
    cases a with
    | fl q =>
      rw [ads_fl] at n3
      obtain ⟨r1, r2⟩ := r.move (B' := G.B) (F' := F) (H' := L2.upd H c o') Ex.rfl fun q hq => ⟨(r.one hq).1, upd_ne (fun z => n3 c (List.mem_singleton.mpr rfl) q hq z.symm), (r.one hq).2.1⟩
      refine ⟨.cons (.fl ⟨q.1, q.2.1, o', upd_same, hb⟩) r1, ?_⟩
      show adsL _ (.fl d' :: _) _ = _
      rw [adsL_cons, adsL_cons, ads_fl, ads_fl, r2]
  | _, _, j + 1, .cons (t := t) (v := v) a r, hn, h, hx => by
    rw [List.getElem?_cons_succ] at h hx
    rw [adsL_cons] at hn
    obtain ⟨n1, n2, n3⟩ := List.nodup_append.mp hn
    obtain ⟨c', h1, h2, h3⟩ := TOks.at r h
    rw [hx] at h1; cases h1
    obtain ⟨a1, a2⟩ := a.move (B' := G.B) (F' := F) (H' := L2.upd H c o') Ex.rfl fun q hq => ⟨(a.one hq).1, upd_ne (fun z => n3 q hq c h3 z), (a.one hq).2.1⟩
    obtain ⟨r1, r2⟩ := TOks.setAt hb r n2 h hx
    refine ⟨.cons a1 r1, ?_⟩
    show adsL _ (t :: _) _ = _
    rw [adsL_cons, adsL_cons, a2, r2]
theorem Rp.mutT {ts : List T} {xs : List V} {j : Nat} (R : Rp G F H σ ls vs ks) (h1 : ls[i]? = some (.tre (.lst ts))) (h2 : σ[i]? = some (some (.ref p))) (h3 : H p = some (.lst xs)) (h4 : ts[j]? = some (.fl d)) (h5 : xs[j]? = some (.ref c)) (hb : ObD G F o' d') :
    Rp G F (L2.upd H c o') σ (ls.set i (.tre (.lst (ts.set j (.fl d'))))) vs ks := by
  have he : (ent vs ks σ ls)[vs.length + i]? = some (some (.ref p), .tre (.lst ts)) := by rw [ent_loc R.klen]; exact zip_at h2 h1
  obtain ⟨y, ey, tk, nd⟩ := R.good.all _ _ he
  cases ey
  cases tk with
  | lst node q =>
    have e3 := node.2.2
    rw [h3] at e3; cases e3
    rw [ads_lst h3] at nd
    obtain ⟨nd1, nd2⟩ := List.nodup_cons.mp nd
    obtain ⟨c', g1, g2, g3⟩ := q.at h4
    rw [h5] at g1; cases g1
    have pc : p ≠ c := fun z => nd1 (by rw [z]; exact g3)
    obtain ⟨q1, q2⟩ := q.setAt hb nd2 h4 h5
    obtain ⟨m1, m2, m3⟩ := R.mutB (o' := o') g2.1 g2.2.1
    have hp' : (L2.upd H c o') p = some (.lst xs) := by rw [upd_ne pc]; exact h3
    have own : adE H (some (.ref p), Slot.tre (.lst ts)) = p :: adsL H ts xs := ads_lst h3
    have own' : adE (L2.upd H c o') (some (.ref p), Slot.tre (.lst (ts.set j (.fl d')))) = p :: adsL H ts xs := by rw [← q2]; exact ads_lst hp'
    have hl := (List.getElem?_eq_some_iff.mp h1).1
    refine ⟨m3, R.ex0, by rw [List.length_set]; exact R.len, R.klen, ?_, fun w i' hj => ?_, fun i' d2 hd => ?_, m1, m2, R.b3⟩
    · rw [ent_setl R.klen h2]
      refine R.good.take he Ex.rfl (fun q' hq' => ⟨.inl rfl, .inl (upd_ne fun z => hq' (by rw [own, z]; exact List.mem_cons_of_mem _ g3))⟩) ⟨_, rfl, .lst ⟨node.1, node.2.1, hp'⟩ q1, ?_⟩ fun q' hq' => .inl (by rw [own'] at hq'; rw [own]; exact hq')
      show (adE (L2.upd H c o') (some (.ref p), Slot.tre (.lst (ts.set j (.fl d'))))).Nodup
      rw [own']; exact nd
    · obtain ⟨s, a2, a3, a4⟩ := R.al w i' hj
      by_cases hi : i' = i
      · subst hi
        exact ⟨_, a2, by rw [List.getElem?_set_self hl], rfl⟩
      · exact ⟨s, a2, by rw [List.getElem?_set_ne (Ne.symm hi)]; exact a3, a4⟩
    · by_cases hi : i' = i
      · subst hi
        rw [List.getElem?_set_self hl] at hd
        rcases hd with z | z | z | ⟨_, z⟩ <;> cases z
      · rw [List.getElem?_set_ne (Ne.symm hi)] at hd
        exact R.pin i' d2 hd
end
/-- the local i is a list of own lists; its place j is changed -/
def mutT (ty : D → Bool) (g : D → List D → Option (D × D)) (i : Nat) (j : Nat) (am : XA) : M := fun ls => match ls[i]?, am ls with
  | some (.tre (.lst ts)), some ds => (match ts[j]? with
    | some (.fl d) => if ty d = true then (match g d ds with
      | some (d', r) => .ok (.dat r) (ls.set i (.tre (.lst (ts.set j (.fl d')))))
      | none => .stk) else .stk
    | _ => .stk)
  | _, _ => .stk
section
variable {X : Cx} {B : Base} {W : WX} {e a b : Expr} {es : List Expr} {am : XA} {i : Nat} {pos apos cpos ipos npos : Pos} {T id : String} {name : Str}
theorem e_mutT {x : Str} {k : Nat} {ty : D → Bool} {r : V → List V → Hp → VK → Prop} {g : D → List D → Option (D × D)} (i j : Nat) (hr : OpMut (cfg X B) T r g) (tk : TyOk (cfg X B) T ty) (pa : PlainAttrs T) (slot : PySem.Slot T name id) (hty : typeOf (.builtin id) = pure (.type "method_descriptor")) (hm : MtR X id r) (ha : L2.PA X (e :: es) (tXA (cfg X B) am))
    (hN : X.N[i]? = some x := by rfl) (hv : Vis X.env.scope x := by first | exact Or.inl rfl | exact Or.inr (Or.inl rfl) | exact Or.inr (Or.inr rfl)) (hd : (x == ("__debug__" : Str)) = false := by decide) (hcd : (x == ("__classdict__" : Str)) = false := by decide)
    (hbase : attributeBase (.Subscript (.Name x npos) (.Constant (.int (j : Nat)) k ipos) pos) name X.env (eval (.Subscript (.Name x npos) (.Constant (.int (j : Nat)) k ipos) pos) X.env) = eval (.Subscript (.Name x npos) (.Constant (.int (j : Nat)) k ipos) pos) X.env := by rfl)
    (hfew : ((backTo cpos (starEach (e :: es) X.env)).all (fun x => !x.1) && (backToKw cpos (keywordEach [] X.env)).all (fun x => x.1.isSome)
      && decide ((e :: es).length + ([] : List Keyword).length + (if ([] : List Keyword).isEmpty then 0 else 1) < 30)) = true := by rfl)
    (hline : (apos.endLine == cpos.line) = true := by rfl) (hs : starEach (e :: es) X.env = (false, eval e X.env) :: starEach es X.env := by rfl) (hplain : (backTo cpos (starEach es X.env)).any (·.1) = false := by rfl) :
    L2.PE X (.Call (.Attribute (.Subscript (.Name x npos) (.Constant (.int (j : Nat)) k ipos) pos) name apos) (e :: es) [] cpos) (tM (cfg X B) W (mutT ty g i j am)) :=
  PE.imp (pe_bm pa slot hty hm (pe_ix ix_list (pe_var hN hv hd hcd) pe_int (fun _ _ => rfl)) ha hbase hfew hline hs hplain) fun σ H Q h => by
  obtain ⟨F, ls, vs, ks, R, po⟩ := h
  unfold mutT at po
  split at po
  · rename_i ts ds hi hds
    split at po
    · rename_i d hj
      split at po
      · rename_i hty2
        cases hg : g d ds with
        | none => simp only [hg, PostM] at po
        | some q =>
          obtain ⟨d', res⟩ := q
          simp only [hg] at po
          obtain ⟨v, s1, s2⟩ := R.loc hi
          obtain ⟨y, ey, tk', nd⟩ := s2
          subst ey
          cases tk' with
          | lst node q =>
            rename_i p xs
            obtain ⟨c, g1, g2, g3⟩ := q.at hj
            obtain ⟨f1, f2, o, f3, f4⟩ := g2
            refine ⟨_, s1, p, xs, _, .ref c, rfl, rfl, .inl (.inl node.2.2), atI_nat g1, tk.h F H c o d R.ex f3 f4 hty2, F, ls, vs, ks, R, ?_⟩
            rw [hds]
            intro ws F' H' x' dd
            refine hr.2 F' H' c o d ws ds d' res Q x'.x (x'.h _ _ f3) (f4.mono x'.f) dd hg fun o' u ho hu => ?_
            have R1 := R.ext x'
            exact po u F' _ ((R1.mutT hi s1 (x'.h _ _ node.2.2) hj g1 ho).pushDat hu)
      · exact po.elim
    · exact po.elim
  · exact po.elim
end
end VM

set_option Elab.async false
set_option linter.all false
set_option maxRecDepth 100000
set_option maxHeartbeats 1000000
namespace VM
open PySem L2

/-! ### extend, pop(i) -/
def extG : D → List D → Option (D × D)
  | .lst xs, [.lst ys] => if xs.length + ys.length ≤ 1000000 then some (.lst (xs ++ ys), .non) else none
  | _, _ => none
theorem m_ext {G : Cfg} : OpMut G "list" rExtend extG := by
  refine ⟨fun F H p o d ds q x h1 h2 hg => ?_, fun F H p o d ws ds d' res Q x h1 h2 hd hg q => ?_⟩
  · unfold extG at hg
    split at hg
    · exact tyOk_lst.h F H p o _ x h1 h2 rfl
    · cases hg
  · unfold extG at hg
    split at hg
    · obtain ⟨hz, e⟩ := ite_some hg
      cases e
      cases o with
      | lst ys =>
        have h2 : DDs G.K G.mg F _ ys := h2
        cases hd with | cons hy hn =>
        cases hn
        cases hy with | lst f r =>
        refine ⟨p, _, ys, _, rfl, rfl, h1, x _ _ f, line_of (by rw [← h2.length, ← r.length]; exact hz), q (.lst _) .non (h2.append r) .non⟩
      | _ => exact h2.elim
    · cases hg
def popG : D → List D → Option (D × D)
  | .lst xs, [.int i] => if 0 ≤ i ∧ i < 1000000 then (match xs[i.toNat]? with
    | some d => some (.lst (xs.eraseIdx i.toNat), d)
    | none => none) else none
  | _, _ => none
theorem DDs.erase {K : PySem.W.Frag} {mg : Str → Option Value} {F : Hp} : ∀ {ds : List D} {xs : List V} {n : Nat}, DDs K mg F ds xs → DDs K mg F (ds.eraseIdx n) (xs.eraseIdx n)
  | _, _, _, .nil => .nil
  | _, _, 0, .cons a r => r
  | _, _, n + 1, .cons a r => .cons a (DDs.erase r)
/-! ### d.get(k, x) -/
def getD2 (x y z : D) : Option D := match x with
  | .dK es => (match keyK y with
    | some k => some ((getG es k).getD z)
    | none => none)
  | .dT es => (match keyT y with
    | some k => some ((getG es k).getD z)
    | none => none)
  | _ => none
def isDic (ls : LS) (k : Slot) : Bool := match look ls k with
  | some (.dK _) => true
  | some (.dT _) => true
  | _ => false
def getM (om km dm : M) : M := fun ls => (om ls).bind fun ko ls => if isDic ls ko = true then ((km ls).bind fun kk ls => (frzM dm ls).bind fun kd ls => match look ls ko, look ls kk, kd with
  | some x, some y, .dat z => (match getD2 x y z with
    | some d => .ok (.dat d) ls
    | none => .stk)
  | _, _, _ => .stk) else .stk
section
variable {X : Cx} {B : Base} {W : WX} {o e f : Expr} {om km dm : M} {pos apos cpos : Pos}
theorem isDic_at {G : Cfg} {F H : Hp} {σ : L2.St} {ls : LS} {vs ks} {v : V} {k : Slot} (R : Rp G F H σ ls (v :: vs) (k :: ks)) (h : isDic ls k = true) : ∃ a, v = .ref a ∧ IsD H a := by
  unfold isDic at h
  split at h
  · rename_i es e
    obtain ⟨a, kvs, rfl, h1, _⟩ := Vw.dK R.ex (R.view0 e)
    exact ⟨a, rfl, .inl ⟨kvs, .inl h1⟩⟩
  · rename_i es e
    obtain ⟨a, kvs, rfl, h1, _⟩ := Vw.dT R.ex (R.view0 e)
    exact ⟨a, rfl, .inr ⟨kvs, .inl h1⟩⟩
  · cases h
theorem e_get (hu : X.A.units + 1 < cLine) (ho : L2.PE X o (tM (cfg X B) W om)) (he : L2.PE X e (tM (cfg X B) W km)) (hf : L2.PE X f (tM (cfg X B) W dm))
    (hb : attributeBase o "get" X.env (eval o X.env) = eval o X.env := by rfl)
    (hfew : ((backTo cpos (starEach [e, f] X.env)).all (fun x => !x.1) && (backToKw cpos (keywordEach [] X.env)).all (fun x => x.1.isSome)
      && decide (([e, f] : List Expr).length + ([] : List Keyword).length + (if ([] : List Keyword).isEmpty then 0 else 1) < 30)) = true := by rfl)
    (hl : (apos.endLine == cpos.line) = true := by rfl) (ht : backTo cpos (starEach [e, f] X.env) = [(false, eval e X.env), (false, eval f X.env)] := by rfl) :
    L2.PE X (.Call (.Attribute o "get" apos) [e, f] [] cpos) (tM (cfg X B) W (getM om km dm)) :=
  PE.imp (pe_dget2 hu ho he (e_frz hf) ⟨hb, hfew, hl, ht⟩) fun σ H Q h => by
  refine tM_bind h fun F ls vs ks v H1 k R po => ?_
  split at po
  · rename_i hd
    obtain ⟨a, rfl, d⟩ := isDic_at R hd
    refine ⟨a, rfl, d, F, ls, .ref a :: vs, k :: ks, R, ?_⟩
    cases e1 : km ls with
    | stk => simp only [e1, VM.R.bind, PostM] at po
    | err x ls1 =>
      simp only [e1, VM.R.bind] at po
      exact fun cls d F' H' r' er => po cls d F' H' r'.pop er
    | ok k2 ls1 =>
      simp only [e1, VM.R.bind] at po
      intro w F2 H2 R2
      refine ⟨F2, ls1, w :: .ref a :: vs, k2 :: k :: ks, R2, ?_⟩
      cases e2 : frzM dm ls1 with
      | stk => simp only [e2, VM.R.bind, PostM] at po
      | err x ls2 =>
        simp only [e2, VM.R.bind] at po
        exact fun cls d F' H' r' er => po cls d F' H' r'.pop.pop er
      | ok k3 ls2 =>
        simp only [e2, VM.R.bind] at po
        intro u F3 H3 R3
        cases q1 : look ls2 k with
        | none => simp only [q1, PostM] at po
        | some x =>
          cases q2 : look ls2 k2 with
          | none => simp only [q1, q2, PostM] at po
          | some y =>
            cases k3 with
            | dat z =>
              cases q3 : getD2 x y z with
              | none => simp only [q1, q2, q3, PostM] at po
              | some r =>
                simp only [q1, q2, q3] at po
                obtain ⟨u', eu, du⟩ := R3.good.head
                cases eu
                have vk := R3.view (j := 1) (v := w) (k := k2) rfl rfl q2
                have vo := R3.view (j := 2) (v := .ref a) (k := k) rfl rfl q1
                have R4 := R3.pop.pop.pop
                unfold getD2 at q3
                cases x with
                | dK es =>
                  cases q4 : keyK y with
                  | none => simp only [q4] at q3; cases q3
                  | some ky =>
                    simp only [q4] at q3
                    obtain ⟨a', o, ea, hg, hs, hr⟩ := dget_k R3.ex vk q4 vo
                    cases ea
                    refine ⟨o, hg, po _ F3 H3 (R4.pushDat ?_)⟩
                    cases q5 : getG es ky with
                    | none =>
                      rw [q5] at hs q3; cases q3
                      cases o with
                      | none => exact du
                      | some _ => cases hs
                    | some dd =>
                      rw [q5] at q3; cases q3
                      obtain ⟨zz, e5, d5⟩ := hr _ q5
                      subst e5
                      exact d5
                | dT es =>
                  cases q4 : keyT y with
                  | none => simp only [q4] at q3; cases q3
                  | some ky =>
                    simp only [q4] at q3
                    obtain ⟨a', o, ea, hg, hs, hr⟩ := dget_t R3.ex vk q4 vo
                    cases ea
                    refine ⟨o, hg, po _ F3 H3 (R4.pushDat ?_)⟩
                    cases q5 : getG es ky with
                    | none =>
                      rw [q5] at hs q3; cases q3
                      cases o with
                      | none => exact du
                      | some _ => cases hs
                    | some dd =>
                      rw [q5] at q3; cases q3
                      obtain ⟨zz, e5, d5⟩ := hr _ q5
                      subst e5
                      exact d5
                | _ => cases q3
            | _ => simp only [q1, q2, PostM] at po
  · exact po.elim
end
/-! ### a tuple so many times -/
def mulTD : D → D → Option Slot
  | .tup ds, .int k => if ds ≠ [] ∧ 2 ≤ k ∧ k ≤ 1000 ∧ ds.length ≤ 1000 then some (.dat (.tup (List.replicate k.toNat ds).flatten)) else none
  | _, _ => none
theorem m_mulT {G : Cfg} : OpM2 G (rRepT G.K) mulTD := by
  intro F H σ ls vs ks v w x y k Q R h1 h2 e q
  unfold mulTD at e
  split at e
  · obtain ⟨⟨c1, c2, c3, c4⟩, e⟩ := ite_some e
    cases e
    obtain ⟨a, xs, rfl, e1, d1⟩ := Vw.tup R.ex h1
    have e2 := Vw.int R.ex h2
    refine ⟨a, _, xs, rfl, e2, SqT.of e1, fun z => c1 (d1.nil_iff.mp z), c2, c3, by rw [← d1.length]; exact c4, fun p hp => q _ _ _ (R.pushTup hp (d1.rep _))⟩
  · cases e
/-! ### a, b, c = x, y, z -/
def Slot.stored : Slot → Bool
  | .dat _ => true
  | .own _ => true
  | .tre _ => true
  | _ => false
theorem stored_fit {k : Slot} (h : k.stored = true) : k.fit = true ∧ ∀ d, k ≠ .ali d := by
  cases k <;> first | exact ⟨rfl, fun d z => by cases z⟩ | cases h
def asg3 (i j l : Nat) (am : AM) : SM := fun ls => match am ls with
  | .ok as ls => (match as with
    | [a, b, c] => if a.stored = true ∧ b.stored = true ∧ c.stored = true then .nx (((ls.set i a).set j b).set l c) else .stk
    | _ => .stk)
  | .err x ls => .err x ls
  | .stk => .stk
section
variable {X : Cx} {B : Base} {W : WX} {a b c : Expr} {am : AM} {pos : Pos}
theorem s_asg3 {x y z : Str} {px py pz pt : Pos} {kt k2 : Nat} {pt2 : Pos} (i j l : Nat) (hc : X.calm = true) (hN : X.N.Nodup) (ha : L2.PA X [a, b, c] (tA (cfg X B) W am)) (hi : X.N[i]? = some x := by rfl) (hj : X.N[j]? = some y := by rfl) (hl : X.N[l]? = some z := by rfl) (hij : i ≠ j := by decide) (hil : i ≠ l := by decide) (hjl : j ≠ l := by decide)
    (hx : X.env.scope.names.lookup x = some .local := by rfl) (hy : X.env.scope.names.lookup y = some .local := by rfl) (hz : X.env.scope.names.lookup z = some .local := by rfl)
    (hw : swappedStores [.Tuple [.Name x px, .Name y py, .Name z pz] kt pt] (.Tuple [a, b, c] k2 pt2) X.env = pure (some [x, y, z]) := by rfl)
    (hs : swapsWithSole [.Tuple [.Name x px, .Name y py, .Name z pz] kt pt] (.Tuple [a, b, c] k2 pt2) pos.line X.env = pure false := by rfl) :
    L2.PS X (.Assign [.Tuple [.Name x px, .Name y py, .Name z pz] kt pt] (.Tuple [a, b, c] k2 pt2) pos) (tS (cfg X B) W (asg3 i j l am)) := PS.imp (ps_par3 hc hN hi hj hl hij hil hjl hx hy hz ha hw hs) fun D σ H h => by
  obtain ⟨F, ls, vs, ks, na, r, po⟩ := h
  refine ⟨F, ls, vs, ks, r, ?_⟩
  cases e : am ls with
  | ok as ls1 =>
    simp only [asg3, e] at po
    split at po
    · rename_i k1 k2 k3
      split at po
      · rename_i hk
        obtain ⟨f1, n1⟩ := stored_fit hk.1
        obtain ⟨f2, n2⟩ := stored_fit hk.2.1
        obtain ⟨f3, n3⟩ := stored_fit hk.2.2
        intro ws F' H' hl R
        match ws, hl with
        | [u, v, w], _ =>
          refine ⟨u, v, w, rfl, ?_⟩
          have R' : Rp (cfg X B) F' H' σ ls1 (u :: (v :: (w :: vs))) (k1 :: (k2 :: (k3 :: ks))) := R
          have na3 : noAli (k3 :: ks) := fun i' hm => by
            rcases List.mem_cons.mp hm with z | z
            · exact n3 i' z.symm
            · exact na i' z
          have na2 : noAli (k2 :: k3 :: ks) := fun i' hm => by
            rcases List.mem_cons.mp hm with z | z
            · exact n2 i' z.symm
            · exact na3 i' z
          exact po _ _ _ (((R'.setTop (i := i) na2 f1).setTop (i := j) na3 f2).setTop (i := l) na f3)
      · exact po.elim
    · exact po.elim
  | err x ls1 =>
    simp only [asg3, e] at po
    exact fun cls d F' H' r' er => po cls d σ F' H' r' er
  | stk => simp only [asg3, e, PostS] at po
end
/-! ### x in a tuple of data, of any depth -/
def rInDT (K : PySem.W.Frag) : R2 := fun x y H Q => ∃ d ds, Dp K H x d ∧ Dp K H y (.tuple ds) ∧ SeqAt.shaped d = true ∧ SeqAt.shaped (.tuple ds) = true ∧ Q (.bl (ds.any fun z => PyData.eqv z d)) H
def rNinDT (K : PySem.W.Frag) : R2 := fun x y H Q => ∃ d ds, Dp K H x d ∧ Dp K H y (.tuple ds) ∧ SeqAt.shaped d = true ∧ SeqAt.shaped (.tuple ds) = true ∧ Q (.bl (!ds.any fun z => PyData.eqv z d)) H
theorem lays_tup {ds : List PyData} (h : SeqAt.shaped (.tuple ds) = true) : PyData.canLayAll0 ds = true := by
  have := SeqAt.canLay_of_shaped h
  simpa [PyData.canLay0] using this
theorem o_inT {X : Cx} (hu : X.A.units + 65 < cLine) : OpR X (compareOp .In) (rInDT X.K) := by
  intro pins s σ H x y v u Q I rx ry h
  obtain ⟨d, ds, hd, he, sd, se, q⟩ := h
  obtain ⟨as, r1⟩ := Dp.reads I d x v hd rx
  obtain ⟨bs, r2⟩ := Dp.reads I (.tuple ds) y u he ry
  exact SeqAt.in_tuple_reads r2 r1 (lays_tup se) (SeqAt.canLay_of_shaped sd) (PyProof.Rows.room_in_shaped sd hu) ⟨.bl _, H, I, rfl, q⟩
theorem o_ninT {X : Cx} (hu : X.A.units + 65 < cLine) : OpR X (compareOp .NotIn) (rNinDT X.K) := by
  intro pins s σ H x y v u Q I rx ry h
  obtain ⟨d, ds, hd, he, sd, se, q⟩ := h
  obtain ⟨as, r1⟩ := Dp.reads I d x v hd rx
  obtain ⟨bs, r2⟩ := Dp.reads I (.tuple ds) y u he ry
  exact SeqAt.notIn_tuple_reads r2 r1 (lays_tup se) (SeqAt.canLay_of_shaped sd) (PyProof.Rows.room_in_shaped sd hu) ⟨.bl _, H, I, rfl, q⟩
def inTP (x y : D) : Option Bool := match y with
  | .tup ds => (match toPy x, toPys ds with
    | some a, some bs => if SeqAt.shaped a = true ∧ SeqAt.shaped (.tuple bs) = true then some (bs.any fun z => PyData.eqv z a) else none
    | _, _ => none)
  | _ => none
def inTD (x y : D) : Option Slot := (inTP x y).map fun b => .dat (.bl b)
def ninTD (x y : D) : Option Slot := (inTP x y).map fun b => .dat (.bl (!b))
theorem inTP_at {x y : D} {b : Bool} (e : inTP x y = some b) : ∃ a bs, toPy x = some a ∧ toPy y = some (.tuple bs) ∧ SeqAt.shaped a = true ∧ SeqAt.shaped (.tuple bs) = true ∧ b = bs.any fun z => PyData.eqv z a := by
  unfold inTP at e
  split at e
  · rename_i ds
    split at e
    · rename_i a bs h1 h2
      split at e
      · rename_i c
        cases e
        exact ⟨a, bs, h1, by simp only [toPy, h2, Option.map_some], c.1, c.2, rfl⟩
      · cases e
    · cases e
  · cases e
theorem m_inT {G : Cfg} : OpM2 G (rInDT G.K) inTD := by
  intro F H σ ls vs ks v w x y k Q R h1 h2 e q
  cases e0 : inTP x y with
  | none => simp only [inTD, e0, Option.map_none] at e; cases e
  | some b =>
    simp only [inTD, e0, Option.map_some] at e
    cases e
    obtain ⟨a, bs, e1, e2, e3, e4, rfl⟩ := inTP_at e0
    exact ⟨a, bs, vw_dp R.ex h1 e1, vw_dp R.ex h2 e2, e3, e4, q _ _ _ (R.pushDat (.bl _))⟩
theorem m_ninT {G : Cfg} : OpM2 G (rNinDT G.K) ninTD := by
  intro F H σ ls vs ks v w x y k Q R h1 h2 e q
  cases e0 : inTP x y with
  | none => simp only [ninTD, e0, Option.map_none] at e; cases e
  | some b =>
    simp only [ninTD, e0, Option.map_some] at e
    cases e
    obtain ⟨a, bs, e1, e2, e3, e4, rfl⟩ := inTP_at e0
    exact ⟨a, bs, vw_dp R.ex h1 e1, vw_dp R.ex h2 e2, e3, e4, q _ _ _ (R.pushDat (.bl _))⟩
/-! ### a def that calls itself: the mirror by how deep -/
def stkF : List Slot → RF := fun _ => .stk
theorem fnG_stk {P : Program} {w : World} {K : PySem.W.Frag} {mg : Str → Option Value} {base : Heap} {CX : CXT} {k n : Nat} {f : Addr} {fd : FuncData} {pn : List Str} : FnG P w K mg base CX k f fd pn (spM K mg n stkF) :=
  ⟨fun vs H Q E ⟨_, F, W, ps, _, _, po⟩ => po.elim, fun A outer s H args us vs Q E _ _ _ _ ⟨_, F, W, ps, _, _, po⟩ => po.elim⟩
end VM

set_option Elab.async false
set_option linter.all false
set_option maxRecDepth 100000
set_option maxHeartbeats 4000000
namespace VM
open PySem PySem.Spec L2
/-! ### the text -/
abbrev pr : Program := PySem.Challenge.pw_runledger_k52_what_is_a_program
def top (i : Nat) : Stmt := pr.main.body.getD i (.Pass ⟨0, 0, 0, 0⟩)
def inner (st : Stmt) (j : Nat) : Stmt := match st with
  | .ClassDef _ _ _ body _ _ _ _ _ _ _ => body.getD j (.Pass ⟨0, 0, 0, 0⟩)
  | _ => st
theorem pt_w {X : Cx} {e : Expr} {t : TT} (h : L2.PW X e t) : L2.PT X e t := h.pt
/-! ### where the defs stand -/
abbrev s_BadProgram___init__ : Stmt := inner (top 6) 0
def d_BadProgram___init__ : Df := ⟨mA "BadProgram" "__init__", "__init__", "BadProgram.__init__", s_BadProgram___init__⟩
abbrev s_BadJump___init__ : Stmt := inner (top 4) 0
def d_BadJump___init__ : Df := ⟨mA "BadJump" "__init__", "__init__", "BadJump.__init__", s_BadJump___init__⟩
abbrev s_TooLarge___init__ : Stmt := inner (top 5) 0
def d_TooLarge___init__ : Df := ⟨mA "TooLarge" "__init__", "__init__", "TooLarge.__init__", s_TooLarge___init__⟩
abbrev s_is_name : Stmt := top 18
def d_is_name : Df := ⟨gA "is_name", "is_name", "is_name", s_is_name⟩
abbrev s_is_integer : Stmt := top 10
def d_is_integer : Df := ⟨gA "is_integer", "is_integer", "is_integer", s_is_integer⟩
abbrev s_within : Stmt := top 11
def d_within : Df := ⟨gA "within", "within", "within", s_within⟩
abbrev s_is_operand : Stmt := top 19
def d_is_operand : Df := ⟨gA "is_operand", "is_operand", "is_operand", s_is_operand⟩
abbrev s_is_step : Stmt := top 20
def d_is_step : Df := ⟨gA "is_step", "is_step", "is_step", s_is_step⟩
abbrev s_is_end : Stmt := top 21
def d_is_end : Df := ⟨gA "is_end", "is_end", "is_end", s_is_end⟩
abbrev s_is_program_block : Stmt := top 22
def d_is_program_block : Df := ⟨gA "is_program_block", "is_program_block", "is_program_block", s_is_program_block⟩
abbrev s_targets_of : Stmt := top 23
def d_targets_of : Df := ⟨gA "targets_of", "targets_of", "targets_of", s_targets_of⟩
abbrev s_is_jump : Stmt := top 12
def d_is_jump : Df := ⟨gA "is_jump", "is_jump", "is_jump", s_is_jump⟩
abbrev s_Routine___init__ : Stmt := inner (top 13) 0
def d_Routine___init__ : Df := ⟨mA "Routine" "__init__", "__init__", "Routine.__init__", s_Routine___init__⟩
abbrev s_Program___init__ : Stmt := inner (top 24) 0
def d_Program___init__ : Df := ⟨mA "Program" "__init__", "__init__", "Program.__init__", s_Program___init__⟩
abbrev s__law_made : Stmt := top 41
def d__law_made : Df := ⟨gA "_law_made", "_law_made", "_law_made", s__law_made⟩
abbrev s__law_is_name : Stmt := top 32
def d__law_is_name : Df := ⟨gA "_law_is_name", "_law_is_name", "_law_is_name", s__law_is_name⟩
abbrev s__law_is_whole : Stmt := top 33
def d__law_is_whole : Df := ⟨gA "_law_is_whole", "_law_is_whole", "_law_is_whole", s__law_is_whole⟩
abbrev s__law_is_operand : Stmt := top 34
def d__law_is_operand : Df := ⟨gA "_law_is_operand", "_law_is_operand", "_law_is_operand", s__law_is_operand⟩
abbrev s__law_is_line : Stmt := top 35
def d__law_is_line : Df := ⟨gA "_law_is_line", "_law_is_line", "_law_is_line", s__law_is_line⟩
abbrev s__law_is_end : Stmt := top 36
def d__law_is_end : Df := ⟨gA "_law_is_end", "_law_is_end", "_law_is_end", s__law_is_end⟩
abbrev s__law_is_block : Stmt := top 37
def d__law_is_block : Df := ⟨gA "_law_is_block", "_law_is_block", "_law_is_block", s__law_is_block⟩
abbrev s_Program_code : Stmt := inner (top 24) 1
def d_Program_code : Df := ⟨pA "Program" "code", "code", "Program.code", s_Program_code⟩
abbrev s_Program___eq__ : Stmt := inner (top 24) 2
def d_Program___eq__ : Df := ⟨mA "Program" "__eq__", "__eq__", "Program.__eq__", s_Program___eq__⟩
abbrev s_Routine___eq__ : Stmt := inner (top 13) 5
def d_Routine___eq__ : Df := ⟨mA "Routine" "__eq__", "__eq__", "Routine.__eq__", s_Routine___eq__⟩
abbrev s__law_told_right : Stmt := top 42
def d__law_told_right : Df := ⟨gA "_law_told_right", "_law_told_right", "_law_told_right", s__law_told_right⟩
abbrev s__law_feed : Stmt := top 26
def d__law_feed : Df := ⟨gA "_law_feed", "_law_feed", "_law_feed", s__law_feed⟩
abbrev s__law_take : Stmt := top 27
def d__law_take : Df := ⟨gA "_law_take", "_law_take", "_law_take", s__law_take⟩
abbrev s__law_pick : Stmt := top 28
def d__law_pick : Df := ⟨gA "_law_pick", "_law_pick", "_law_pick", s__law_pick⟩
abbrev s__law_operand : Stmt := top 29
def d__law_operand : Df := ⟨gA "_law_operand", "_law_operand", "_law_operand", s__law_operand⟩
abbrev s__law_lines : Stmt := top 30
def d__law_lines : Df := ⟨gA "_law_lines", "_law_lines", "_law_lines", s__law_lines⟩
abbrev s__law_code : Stmt := top 31
def d__law_code : Df := ⟨gA "_law_code", "_law_code", "_law_code", s__law_code⟩
abbrev s__law_odd_line : Stmt := top 38
def d__law_odd_line : Df := ⟨gA "_law_odd_line", "_law_odd_line", "_law_odd_line", s__law_odd_line⟩
abbrev s__law_odd_end : Stmt := top 39
def d__law_odd_end : Df := ⟨gA "_law_odd_end", "_law_odd_end", "_law_odd_end", s__law_odd_end⟩
abbrev s__law_odd : Stmt := top 40
def d__law_odd : Df := ⟨gA "_law_odd", "_law_odd", "_law_odd", s__law_odd⟩
abbrev s_law : Stmt := top 43
def d_law : Df := ⟨gA "law", "law", "law", s_law⟩
def fn : List Df := [d_BadProgram___init__, d_BadJump___init__, d_TooLarge___init__, d_is_name, d_is_integer, d_within, d_is_operand, d_is_step, d_is_end, d_is_program_block, d_targets_of, d_is_jump, d_Routine___init__, d_Program___init__, d__law_made, d__law_is_name, d__law_is_whole, d__law_is_operand, d__law_is_line, d__law_is_end, d__law_is_block, d_Program_code, d_Program___eq__, d_Routine___eq__, d__law_told_right, d__law_feed, d__law_take, d__law_pick, d__law_operand, d__law_lines, d__law_code, d__law_odd_line, d__law_odd_end, d__law_odd, d_law]
def bk : List (Frag → Bool) := [kFree "range",
  kFree "len",
  kFree "list",
  kInt "MOST_BLOCKS" 40,
  kExc "BadBlocks",
  kGlo "BadBlocks",
  kFree "enumerate",
  kKit (fun K => .ref (gA "Routine" K)) (fun _ => .type "tuple") false,
  kIns "Routine",
  kGlo "Routine",
  kKit (fun K => .ref (gA "Program" K)) (fun _ => .type "tuple") false,
  kIns "Program",
  kGlo "Program",
  kFree "isinstance",
  kFree "tuple",
  kInt "MOST_STEPS" 4,
  kKit (fun K => .ref (gA "Routine" K)) (fun _ => .type "str") false,
  kKit (fun K => .ref (gA "Program" K)) (fun _ => .type "str") false,
  kFree "str",
  kStr "NAMES" "abcdefghijklmnopqrstuvwxyz",
  kKeep (gA "is_name"),
  kGlo "is_name",
  kKit (fun K => .ref (gA "Routine" K)) (fun _ => .type "int") false,
  kKit (fun K => .ref (gA "Program" K)) (fun _ => .type "int") false,
  kFree "int",
  kKit (fun K => .ref (gA "Routine" K)) (fun _ => .type "bool") false,
  kKit (fun K => .ref (gA "Program" K)) (fun _ => .type "bool") false,
  kFree "bool",
  kKeep (gA "is_integer"),
  kGlo "is_integer",
  kInt "MOST_NUMBER" 1000000000,
  kKeep (gA "within"),
  kGlo "within",
  kKeep (gA "is_operand"),
  kGlo "is_operand",
  kKeep (gA "is_step"),
  kGlo "is_step",
  kFree "all",
  kKeep (gA "is_end"),
  kGlo "is_end",
  kKeep (gA "is_program_block"),
  kGlo "is_program_block",
  kOex "BadProgram",
  kNoat "BadProgram" "at",
  kInit "BadProgram",
  kGlo "BadProgram",
  kCls "Program",
  kNoat "Program" "listed",
  kKeep (gA "targets_of"),
  kGlo "targets_of",
  kKeep (gA "is_jump"),
  kGlo "is_jump",
  kOex "BadJump",
  kNoat "BadJump" "at",
  kInit "BadJump",
  kGlo "BadJump",
  kInt "MOST_JUMPS" 120,
  kOex "TooLarge",
  kNoat "TooLarge" "bound",
  kInit "TooLarge",
  kGlo "TooLarge",
  kCls "Routine",
  kNoat "Routine" "blocks",
  kFree "sorted",
  kNoat "Routine" "rows",
  kNoat "Routine" "there",
  kMkr "Routine",
  kNoat "Program" "routine",
  kMkr "Program",
  kExm "RunError" "BadBlocks" false,
  kGlo "RunError",
  kExm "BadBlocks" "BadBlocks" true,
  kExm "BadJump" "BadBlocks" false,
  kExm "TooLarge" "BadBlocks" false,
  kExm "BadProgram" "BadBlocks" false,
  kXf "BadProgram",
  kExm "RunError" "BadProgram" false,
  kExm "BadBlocks" "BadProgram" false,
  kExm "BadJump" "BadProgram" false,
  kExm "TooLarge" "BadProgram" false,
  kExm "BadProgram" "BadProgram" true,
  kKeep (gA "_law_made"),
  kGlo "_law_made",
  kFree "repr",
  kKit (fun K => .ref (gA "Routine" K)) (fun K => .ref (gA "Program" K)) false,
  kKit (fun K => .ref (gA "Program" K)) (fun K => .ref (gA "Program" K)) true,
  kKit (fun _ => .type "NoneType") (fun K => .ref (gA "Program" K)) false,
  kKit (fun _ => .type "bool") (fun K => .ref (gA "Program" K)) false,
  kKit (fun _ => .type "int") (fun K => .ref (gA "Program" K)) false,
  kKit (fun _ => .type "str") (fun K => .ref (gA "Program" K)) false,
  kKit (fun _ => .type "list") (fun K => .ref (gA "Program" K)) false,
  kKit (fun _ => .type "tuple") (fun K => .ref (gA "Program" K)) false,
  kKit (fun _ => .type "dict") (fun K => .ref (gA "Program" K)) false,
  kKeep (gA "_law_is_name"),
  kGlo "_law_is_name",
  kKeep (gA "_law_is_whole"),
  kGlo "_law_is_whole",
  kKeep (gA "_law_is_operand"),
  kGlo "_law_is_operand",
  kKeep (gA "_law_is_line"),
  kGlo "_law_is_line",
  kKeep (gA "_law_is_end"),
  kGlo "_law_is_end",
  kKeep (gA "_law_is_block"),
  kGlo "_law_is_block",
  kProp "Program" "code",
  kMeth "Program" "__eq__",
  kNf "Program" (fun _ => .type "NoneType"),
  kNf "Program" (fun _ => .type "bool"),
  kNf "Program" (fun _ => .type "int"),
  kNf "Program" (fun _ => .type "str"),
  kNf "Program" (fun _ => .type "list"),
  kNf "Program" (fun _ => .type "tuple"),
  kNf "Program" (fun _ => .type "dict"),
  kNf "Program" (fun K => .ref (gA "Routine" K)),
  kNf "Program" (fun K => .ref (gA "Program" K)),
  kNe "Program",
  kKit (fun K => .ref (gA "Routine" K)) (fun K => .ref (gA "Routine" K)) true,
  kKit (fun K => .ref (gA "Program" K)) (fun K => .ref (gA "Routine" K)) false,
  kKit (fun _ => .type "NoneType") (fun K => .ref (gA "Routine" K)) false,
  kKit (fun _ => .type "bool") (fun K => .ref (gA "Routine" K)) false,
  kKit (fun _ => .type "int") (fun K => .ref (gA "Routine" K)) false,
  kKit (fun _ => .type "str") (fun K => .ref (gA "Routine" K)) false,
  kKit (fun _ => .type "list") (fun K => .ref (gA "Routine" K)) false,
  kKit (fun _ => .type "tuple") (fun K => .ref (gA "Routine" K)) false,
  kKit (fun _ => .type "dict") (fun K => .ref (gA "Routine" K)) false,
  kMeth "Routine" "__eq__",
  kNf "Routine" (fun _ => .type "NoneType"),
  kNf "Routine" (fun _ => .type "bool"),
  kNf "Routine" (fun _ => .type "int"),
  kNf "Routine" (fun _ => .type "str"),
  kNf "Routine" (fun _ => .type "list"),
  kNf "Routine" (fun _ => .type "tuple"),
  kNf "Routine" (fun _ => .type "dict"),
  kNf "Routine" (fun K => .ref (gA "Routine" K)),
  kNf "Routine" (fun K => .ref (gA "Program" K)),
  kFree "min",
  kKeep (gA "_law_told_right"),
  kGlo "_law_told_right",
  kFree "max",
  kFree "abs",
  kKeep (gA "_law_feed"),
  kGlo "_law_feed",
  kKeep (gA "_law_take"),
  kGlo "_law_take",
  kKeep (gA "_law_pick"),
  kGlo "_law_pick",
  kKeep (gA "_law_operand"),
  kGlo "_law_operand",
  kKeep (gA "_law_lines"),
  kGlo "_law_lines",
  kKeep (gA "_law_code"),
  kGlo "_law_code",
  kKeep (gA "_law_odd_line"),
  kGlo "_law_odd_line",
  kKeep (gA "_law_odd_end"),
  kGlo "_law_odd_end",
  kKeep (gA "_law_odd"),
  kGlo "_law_odd",
  kGlo "law"]
section
variable {P : Program} {w : World} {K : Frag} {mg : Str → Option Value} {base : Heap}

def tc_tuple (y : Str) : Option Bool := if y = "Routine" then some false else if y = "Program" then some false else none
theorem isi_tuple (c : Hd bk fn K mg) : IsiOk K mg ((fun _ => .type "tuple") K) tbTuple tc_tuple := ⟨tb_ok tbTuple_ok, fun y b e => by
  unfold tc_tuple at e
  by_cases h : y = "Routine"
  · subst h; cases e; exact ⟨_, (c.glo 9), c.ins 8, c.kit 7⟩
  rw [if_neg h] at e
  by_cases h : y = "Program"
  · subst h; cases e; exact ⟨_, (c.glo 12), c.ins 11, c.kit 10⟩
  rw [if_neg h] at e
  cases e⟩
def tc_str (y : Str) : Option Bool := if y = "Routine" then some false else if y = "Program" then some false else none
theorem isi_str (c : Hd bk fn K mg) : IsiOk K mg ((fun _ => .type "str") K) tbStr tc_str := ⟨tb_ok tbStr_ok, fun y b e => by
  unfold tc_str at e
  by_cases h : y = "Routine"
  · subst h; cases e; exact ⟨_, (c.glo 9), c.ins 8, c.kit 16⟩
  rw [if_neg h] at e
  by_cases h : y = "Program"
  · subst h; cases e; exact ⟨_, (c.glo 12), c.ins 11, c.kit 17⟩
  rw [if_neg h] at e
  cases e⟩
def tc_int (y : Str) : Option Bool := if y = "Routine" then some false else if y = "Program" then some false else none
theorem isi_int (c : Hd bk fn K mg) : IsiOk K mg ((fun _ => .type "int") K) tbInt tc_int := ⟨tb_ok tbInt_ok, fun y b e => by
  unfold tc_int at e
  by_cases h : y = "Routine"
  · subst h; cases e; exact ⟨_, (c.glo 9), c.ins 8, c.kit 22⟩
  rw [if_neg h] at e
  by_cases h : y = "Program"
  · subst h; cases e; exact ⟨_, (c.glo 12), c.ins 11, c.kit 23⟩
  rw [if_neg h] at e
  cases e⟩
def tc_bool (y : Str) : Option Bool := if y = "Routine" then some false else if y = "Program" then some false else none
theorem isi_bool (c : Hd bk fn K mg) : IsiOk K mg ((fun _ => .type "bool") K) tbBool tc_bool := ⟨tb_ok tbBool_ok, fun y b e => by
  unfold tc_bool at e
  by_cases h : y = "Routine"
  · subst h; cases e; exact ⟨_, (c.glo 9), c.ins 8, c.kit 25⟩
  rw [if_neg h] at e
  by_cases h : y = "Program"
  · subst h; cases e; exact ⟨_, (c.glo 12), c.ins 11, c.kit 26⟩
  rw [if_neg h] at e
  cases e⟩
theorem xi_BadProgram (c : Hd bk fn K mg) : ∃ fd, FnOk P w K mg base (L2.CX P w) 1 (mA "BadProgram" "__init__" K) fd ["self", "at"] (spX1 (gA "BadProgram" K) "at") ∧ Binds K fd ["self", "at"] [] ∧ True := by
  obtain ⟨fd, _, F⟩ := c.fnAt 0 (d := d_BadProgram___init__)
  exact ⟨fd, xinit1 F ⟨rfl, rfl, rfl, by decide +kernel, rfl, by decide +kernel, by decide +kernel⟩ (c.oex 42) (c.noat 43) rfl, F.binds fun _ _ _ _ _ _ us hl => match us, hl with | [_, _], _ => rfl, trivial⟩
theorem fo_listed (c : Hd bk fn K mg) : FldOk K mg "listed" ["Program"] := ⟨fun y hy => by
  simp only [List.mem_cons, List.not_mem_nil, or_false] at hy
  subst hy; exact ⟨_, (c.glo 12), c.cls 46, c.noat 47⟩⟩
theorem xi_BadJump (c : Hd bk fn K mg) : ∃ fd, FnOk P w K mg base (L2.CX P w) 1 (mA "BadJump" "__init__" K) fd ["self", "at"] (spX1 (gA "BadJump" K) "at") ∧ Binds K fd ["self", "at"] [] ∧ True := by
  obtain ⟨fd, _, F⟩ := c.fnAt 1 (d := d_BadJump___init__)
  exact ⟨fd, xinit1 F ⟨rfl, rfl, rfl, by decide +kernel, rfl, by decide +kernel, by decide +kernel⟩ (c.oex 52) (c.noat 53) rfl, F.binds fun _ _ _ _ _ _ us hl => match us, hl with | [_, _], _ => rfl, trivial⟩
theorem xi_TooLarge (c : Hd bk fn K mg) : ∃ fd, FnOk P w K mg base (L2.CX P w) 1 (mA "TooLarge" "__init__" K) fd ["self", "bound"] (spX1 (gA "TooLarge" K) "bound") ∧ Binds K fd ["self", "bound"] [] ∧ True := by
  obtain ⟨fd, _, F⟩ := c.fnAt 2 (d := d_TooLarge___init__)
  exact ⟨fd, xinit1 F ⟨rfl, rfl, rfl, by decide +kernel, rfl, by decide +kernel, by decide +kernel⟩ (c.oex 57) (c.noat 58) rfl, F.binds fun _ _ _ _ _ _ us hl => match us, hl with | [_, _], _ => rfl, trivial⟩
theorem fo_blocks (c : Hd bk fn K mg) : FldOk K mg "blocks" ["Routine"] := ⟨fun y hy => by
  simp only [List.mem_cons, List.not_mem_nil, or_false] at hy
  subst hy; exact ⟨_, (c.glo 9), c.cls 61, c.noat 62⟩⟩
theorem fo_rows (c : Hd bk fn K mg) : FldOk K mg "rows" ["Routine"] := ⟨fun y hy => by
  simp only [List.mem_cons, List.not_mem_nil, or_false] at hy
  subst hy; exact ⟨_, (c.glo 9), c.cls 61, c.noat 64⟩⟩
theorem fo_there (c : Hd bk fn K mg) : FldOk K mg "there" ["Routine"] := ⟨fun y hy => by
  simp only [List.mem_cons, List.not_mem_nil, or_false] at hy
  subst hy; exact ⟨_, (c.glo 9), c.cls 61, c.noat 65⟩⟩
theorem fo_routine (c : Hd bk fn K mg) : FldOk K mg "routine" ["Program"] := ⟨fun y hy => by
  simp only [List.mem_cons, List.not_mem_nil, or_false] at hy
  subst hy; exact ⟨_, (c.glo 12), c.cls 46, c.noat 67⟩⟩
def ct_BadBlocks (y : Str) : Option Bool := if y = "RunError" then some false else if y = "BadBlocks" then some true else if y = "BadJump" then some false else if y = "TooLarge" then some false else if y = "BadProgram" then some false else none
theorem ct_BadBlocks_ok (c : Hd bk fn K mg) : CtOk K mg ct_BadBlocks (.ref (gA "BadBlocks" K)) := ⟨fun y b cls e e2 => by
  unfold ct_BadBlocks at e
  by_cases h : y = "RunError"
  · subst h; cases e; have z := e2.symm.trans (c.glo 70); cases z; exact c.exm 69
  rw [if_neg h] at e
  by_cases h : y = "BadBlocks"
  · subst h; cases e; have z := e2.symm.trans (c.glo 5); cases z; exact c.exm 71
  rw [if_neg h] at e
  by_cases h : y = "BadJump"
  · subst h; cases e; have z := e2.symm.trans (c.glo 55); cases z; exact c.exm 72
  rw [if_neg h] at e
  by_cases h : y = "TooLarge"
  · subst h; cases e; have z := e2.symm.trans (c.glo 60); cases z; exact c.exm 73
  rw [if_neg h] at e
  by_cases h : y = "BadProgram"
  · subst h; cases e; have z := e2.symm.trans (c.glo 45); cases z; exact c.exm 74
  rw [if_neg h] at e
  cases e⟩
def ct_BadProgram (y : Str) : Option Bool := if y = "RunError" then some false else if y = "BadBlocks" then some false else if y = "BadJump" then some false else if y = "TooLarge" then some false else if y = "BadProgram" then some true else none
theorem ct_BadProgram_ok (c : Hd bk fn K mg) : CtOk K mg ct_BadProgram (.ref (gA "BadProgram" K)) := ⟨fun y b cls e e2 => by
  unfold ct_BadProgram at e
  by_cases h : y = "RunError"
  · subst h; cases e; have z := e2.symm.trans (c.glo 70); cases z; exact c.exm 76
  rw [if_neg h] at e
  by_cases h : y = "BadBlocks"
  · subst h; cases e; have z := e2.symm.trans (c.glo 5); cases z; exact c.exm 77
  rw [if_neg h] at e
  by_cases h : y = "BadJump"
  · subst h; cases e; have z := e2.symm.trans (c.glo 55); cases z; exact c.exm 78
  rw [if_neg h] at e
  by_cases h : y = "TooLarge"
  · subst h; cases e; have z := e2.symm.trans (c.glo 60); cases z; exact c.exm 79
  rw [if_neg h] at e
  by_cases h : y = "BadProgram"
  · subst h; cases e; have z := e2.symm.trans (c.glo 45); cases z; exact c.exm 80
  rw [if_neg h] at e
  cases e⟩
def tc_Program (y : Str) : Option Bool := if y = "Routine" then some false else if y = "Program" then some true else none
theorem isi_Program (c : Hd bk fn K mg) : IsiOk K mg ((fun K => .ref (gA "Program" K)) K) tbNo tc_Program := ⟨fun d b e => by
  cases d <;> cases e <;> first | exact ⟨_, rfl, c.kit 86⟩ | exact ⟨_, rfl, c.kit 87⟩ | exact ⟨_, rfl, c.kit 88⟩ | exact ⟨_, rfl, c.kit 89⟩ | exact ⟨_, rfl, c.kit 90⟩ | exact ⟨_, rfl, c.kit 91⟩ | exact ⟨_, rfl, c.kit 92⟩, fun y b e => by
  unfold tc_Program at e
  by_cases h : y = "Routine"
  · subst h; cases e; exact ⟨_, (c.glo 9), c.ins 8, c.kit 84⟩
  rw [if_neg h] at e
  by_cases h : y = "Program"
  · subst h; cases e; exact ⟨_, (c.glo 12), c.ins 11, c.kit 85⟩
  rw [if_neg h] at e
  cases e⟩
theorem ca_Program (c : Hd bk fn K mg) : ClsAt K mg (gA "Program" K) ["Program"] := ⟨fun y hy => by
  rw [List.mem_singleton] at hy; subst hy; exact (c.glo 12)⟩
def eqk_Program : D → Bool
  | .ins y _ => decide (y = "Routine") || decide (y = "Program")
  | .scr _ => false
  | .ktup _ => false
  | _ => true
theorem eo_Program (c : Hd bk fn K mg) : EqOk K mg (gA "Program" K) eqk_Program := ⟨fun d t e h => by
  cases d <;> first | (cases h; done) | (cases h; first | exact c.nf 107 | exact c.nf 108 | exact c.nf 109 | exact c.nf 110 | exact c.nf 111 | exact c.nf 112 | exact c.nf 113),
  fun d e => by cases d <;> first | (exact .inl rfl) | (exact .inr ⟨_, _, rfl⟩) | (cases e; done), fun y gs e => by
  have e : (decide (y = "Routine") || decide (y = "Program")) = true := e
  simp only [Bool.or_eq_true, decide_eq_true_eq] at e
  rcases e with rfl | rfl
  · exact ⟨_, (c.glo 9), c.ins 8, c.nf 114⟩
  · exact ⟨_, (c.glo 12), c.ins 11, c.nf 115⟩⟩
def tc_Routine (y : Str) : Option Bool := if y = "Routine" then some true else if y = "Program" then some false else none
theorem isi_Routine (c : Hd bk fn K mg) : IsiOk K mg ((fun K => .ref (gA "Routine" K)) K) tbNo tc_Routine := ⟨fun d b e => by
  cases d <;> cases e <;> first | exact ⟨_, rfl, c.kit 119⟩ | exact ⟨_, rfl, c.kit 120⟩ | exact ⟨_, rfl, c.kit 121⟩ | exact ⟨_, rfl, c.kit 122⟩ | exact ⟨_, rfl, c.kit 123⟩ | exact ⟨_, rfl, c.kit 124⟩ | exact ⟨_, rfl, c.kit 125⟩, fun y b e => by
  unfold tc_Routine at e
  by_cases h : y = "Routine"
  · subst h; cases e; exact ⟨_, (c.glo 9), c.ins 8, c.kit 117⟩
  rw [if_neg h] at e
  by_cases h : y = "Program"
  · subst h; cases e; exact ⟨_, (c.glo 12), c.ins 11, c.kit 118⟩
  rw [if_neg h] at e
  cases e⟩
theorem ca_Routine (c : Hd bk fn K mg) : ClsAt K mg (gA "Routine" K) ["Routine"] := ⟨fun y hy => by
  rw [List.mem_singleton] at hy; subst hy; exact (c.glo 9)⟩
def eqk_Routine : D → Bool
  | .ins y _ => decide (y = "Routine") || decide (y = "Program")
  | .scr _ => false
  | .ktup _ => false
  | _ => true
theorem eo_Routine (c : Hd bk fn K mg) : EqOk K mg (gA "Routine" K) eqk_Routine := ⟨fun d t e h => by
  cases d <;> first | (cases h; done) | (cases h; first | exact c.nf 127 | exact c.nf 128 | exact c.nf 129 | exact c.nf 130 | exact c.nf 131 | exact c.nf 132 | exact c.nf 133),
  fun d e => by cases d <;> first | (exact .inl rfl) | (exact .inr ⟨_, _, rfl⟩) | (cases e; done), fun y gs e => by
  have e : (decide (y = "Routine") || decide (y = "Program")) = true := e
  simp only [Bool.or_eq_true, decide_eq_true_eq] at e
  rcases e with rfl | rfl
  · exact ⟨_, (c.glo 9), c.ins 8, c.nf 134⟩
  · exact ⟨_, (c.glo 12), c.ins 11, c.nf 135⟩⟩
def m_is_name : List Slot → RF := funM 1
    (retM (andM (isiM tbStr tc_str (varM 0)) (andM (binM eqD (bltM lenD (consA (varM 0) nilA)) (conM (.int 1))) (binM inD (varM 0) (conM (.str "abcdefghijklmnopqrstuvwxyz"))))))
theorem sc_is_name : FnScope ["value"] ["value"] (defScope s_is_name) := ⟨rfl, rfl, rfl, by decide +kernel, rfl, by decide +kernel, by decide +kernel⟩
theorem ok_is_name (c : Hd bk fn K mg) : ∃ fd, FnG P w K mg base (L2.CX P w) 1 (gA "is_name" K) fd ["value"] (spM K mg 1 m_is_name) ∧ Binds K fd ["value"] [] ∧ fdV K (gA "is_name" K) = some fd := by
  obtain ⟨fd, hfd, F⟩ := c.fnAt 3 (d := d_is_name)
  refine ⟨fd, fun_ok (k := 0) F sc_is_name rfl rfl fun cdv A outer s H E B hr => ?_, F.binds fun _ _ _ _ _ _ us hl => match us, hl with | [_], _ => rfl, hfd⟩
  have nd := sc_is_name.nd
  exact (ss_one (s_ret (e_and (e_isB (isi_str c) (e_var 0) (c.free 13) (c.free 18) PyProof.Rows.boot_str (hT := e_ty (c.free 18) PyProof.Rows.boot_str)) (e_and (e_cmp (op_eqD hr.r.units) m_eq (e_blt m_len c_len (c.free 1) PySem.boot_len (a_cons (e_var 0) a_nil)) e_int) (e_one (e_cmp (o_in hr.r (room_u hr.r)) m_in (e_var 0) (e_glob (d := .str "abcdefghijklmnopqrstuvwxyz") (v := .str "abcdefghijklmnopqrstuvwxyz") (by rfl) (c.str 19).choose_spec ⟨_, rfl⟩ (fun _ => .str _))))))))
def m_is_integer : List Slot → RF := funM 1
    (retM (andM (isiM tbInt tc_int (varM 0)) (notM (isiM tbBool tc_bool (varM 0)))))
theorem sc_is_integer : FnScope ["value"] ["value"] (defScope s_is_integer) := ⟨rfl, rfl, rfl, by decide +kernel, rfl, by decide +kernel, by decide +kernel⟩
theorem ok_is_integer (c : Hd bk fn K mg) : ∃ fd, FnG P w K mg base (L2.CX P w) 1 (gA "is_integer" K) fd ["value"] (spM K mg 1 m_is_integer) ∧ Binds K fd ["value"] [] ∧ fdV K (gA "is_integer" K) = some fd := by
  obtain ⟨fd, hfd, F⟩ := c.fnAt 4 (d := d_is_integer)
  refine ⟨fd, fun_ok (k := 0) F sc_is_integer rfl rfl fun cdv A outer s H E B hr => ?_, F.binds fun _ _ _ _ _ _ us hl => match us, hl with | [_], _ => rfl, hfd⟩
  have nd := sc_is_integer.nd
  exact (ss_one (s_ret (e_and (e_isB (isi_int c) (e_var 0) (c.free 13) (c.free 24) PyProof.Rows.boot_int (hT := e_ty (c.free 24) PyProof.Rows.boot_int)) (e_one (e_not (e_isB (isi_bool c) (e_var 0) (c.free 13) (c.free 27) PyProof.Rows.boot_bool (hT := e_ty (c.free 27) PyProof.Rows.boot_bool)))))))
def m_within : List Slot → RF := funM 3
    (retM (andM (callN 1 m_is_integer (consA (varM 0) nilA)) (chainM leD leD (varM 1) (varM 0) (varM 2))))
theorem sc_within : FnScope ["value", "low", "high"] ["value", "low", "high"] (defScope s_within) := ⟨rfl, rfl, rfl, by decide +kernel, rfl, by decide +kernel, by decide +kernel⟩
theorem ok_within (c : Hd bk fn K mg) : ∃ fd, FnG P w K mg base (L2.CX P w) 2 (gA "within" K) fd ["value", "low", "high"] (spM K mg 3 m_within) ∧ Binds K fd ["value", "low", "high"] [] ∧ fdV K (gA "within" K) = some fd := by
  obtain ⟨fd, hfd, F⟩ := c.fnAt 5 (d := d_within)
  refine ⟨fd, fun_ok (k := 1) F sc_within rfl rfl fun cdv A outer s H E B hr => ?_, F.binds fun _ _ _ _ _ _ us hl => match us, hl with | [_, _, _], _ => rfl, hfd⟩
  have nd := sc_within.nd
  exact (ss_one (s_ret (e_and (e_call (ok_is_integer c).choose_spec.1 (hr.mono (by decide)) (c.glo 29) (c.keep 28) (ok_is_integer c).choose_spec.2.1 (takes_of rfl rfl rfl rfl) (a_cons (e_var 0) a_nil)) (e_one (e_chain op_le m_le op_le m_le (e_var 1) (e_var 0) (e_var 2))))))
def m_is_operand : List Slot → RF := funM 1
    (retM (orM (callN 1 m_is_name (consA (varM 0) nilA)) (callN 3 m_within (consA (varM 0) (consA (unM negD (conM (.int 1000000000))) (consA (conM (.int 1000000000)) nilA))))))
theorem sc_is_operand : FnScope ["value"] ["value"] (defScope s_is_operand) := ⟨rfl, rfl, rfl, by decide +kernel, rfl, by decide +kernel, by decide +kernel⟩
theorem ok_is_operand (c : Hd bk fn K mg) : ∃ fd, FnG P w K mg base (L2.CX P w) 3 (gA "is_operand" K) fd ["value"] (spM K mg 1 m_is_operand) ∧ Binds K fd ["value"] [] ∧ fdV K (gA "is_operand" K) = some fd := by
  obtain ⟨fd, hfd, F⟩ := c.fnAt 6 (d := d_is_operand)
  refine ⟨fd, fun_ok (k := 2) F sc_is_operand rfl rfl fun cdv A outer s H E B hr => ?_, F.binds fun _ _ _ _ _ _ us hl => match us, hl with | [_], _ => rfl, hfd⟩
  have nd := sc_is_operand.nd
  exact (ss_one (s_ret (e_or (e_call (ok_is_name c).choose_spec.1 (hr.mono (by decide)) (c.glo 21) (c.keep 20) (ok_is_name c).choose_spec.2.1 (takes_of rfl rfl rfl rfl) (a_cons (e_var 0) a_nil)) (e_one (e_call (ok_within c).choose_spec.1 (hr.mono (by decide)) (c.glo 32) (c.keep 31) (ok_within c).choose_spec.2.1 (takes_of rfl rfl rfl rfl) (a_cons (e_var 0) (a_cons (e_un un_neg m_neg (e_glob (d := .int 1000000000) (v := .int 1000000000) (by rfl) (c.int 30).choose_spec ⟨_, rfl⟩ (fun _ => .int _))) (a_cons (e_glob (d := .int 1000000000) (v := .int 1000000000) (by rfl) (c.int 30).choose_spec ⟨_, rfl⟩ (fun _ => .int _)) a_nil))))))))
def m_is_step : List Slot → RF := funM 1
    (seqM (ifS (orM (notM (isiM tbTuple tc_tuple (varM 0))) (binM neD (bltM lenD (consA (varM 0) nilA)) (conM (.int 4)))) (retM (conM (.bl false)))
    nxM)
    (retM (andM (callN 1 m_is_name (consA (binM ixD (varM 0) (conM (.int 0))) nilA)) (andM (callN 1 m_is_operand (consA (binM ixD (varM 0) (conM (.int 1))) nilA)) (andM (binM inTD (binM ixD (varM 0) (conM (.int 2))) (tupM (consA (conM (.str "+")) (consA (conM (.str "-")) nilA)))) (callN 1 m_is_operand (consA (binM ixD (varM 0) (conM (.int 3))) nilA)))))))
theorem sc_is_step : FnScope ["value"] ["value"] (defScope s_is_step) := ⟨rfl, rfl, rfl, by decide +kernel, rfl, by decide +kernel, by decide +kernel⟩
theorem ok_is_step (c : Hd bk fn K mg) : ∃ fd, FnG P w K mg base (L2.CX P w) 4 (gA "is_step" K) fd ["value"] (spM K mg 1 m_is_step) ∧ Binds K fd ["value"] [] ∧ fdV K (gA "is_step" K) = some fd := by
  obtain ⟨fd, hfd, F⟩ := c.fnAt 7 (d := d_is_step)
  refine ⟨fd, fun_ok (k := 3) F sc_is_step rfl rfl fun cdv A outer s H E B hr => ?_, F.binds fun _ _ _ _ _ _ us hl => match us, hl with | [_], _ => rfl, hfd⟩
  have nd := sc_is_step.nd
  exact (ss_cons (s_if (pt_w (w_or (t_not (t_val (e_isB (isi_tuple c) (e_var 0) (c.free 13) (c.free 14) PyProof.Rows.boot_tuple (hT := e_ty (c.free 14) PyProof.Rows.boot_tuple)))) (w_or1 (t_cmp (op_neD hr.r.units) m_ne (e_blt m_len c_len (c.free 1) PySem.boot_len (a_cons (e_var 0) a_nil)) e_int)))) (ss_one (s_ret e_bl))
      ss_nil)
      (ss_one (s_ret (e_and (e_call (ok_is_name c).choose_spec.1 (hr.mono (by decide)) (c.glo 21) (c.keep 20) (ok_is_name c).choose_spec.2.1 (takes_of rfl rfl rfl rfl) (a_cons (e_ix (o_ix (room_v hr.r)) m_ix (e_var 0) e_int) a_nil)) (e_and (e_call (ok_is_operand c).choose_spec.1 (hr.mono (by decide)) (c.glo 34) (c.keep 33) (ok_is_operand c).choose_spec.2.1 (takes_of rfl rfl rfl rfl) (a_cons (e_ix (o_ix (room_v hr.r)) m_ix (e_var 0) e_int) a_nil)) (e_and (e_cmp (o_inT (room_u hr.r)) m_inT (e_ix (o_ix (room_v hr.r)) m_ix (e_var 0) e_int) (e_tup (a_cons e_str (a_cons e_str a_nil)))) (e_one (e_call (ok_is_operand c).choose_spec.1 (hr.mono (by decide)) (c.glo 34) (c.keep 33) (ok_is_operand c).choose_spec.2.1 (takes_of rfl rfl rfl rfl) (a_cons (e_ix (o_ix (room_v hr.r)) m_ix (e_var 0) e_int) a_nil)))))))))
def m_is_end : List Slot → RF := funM 4
    (seqM (ifS (notM (isiM tbTuple tc_tuple (varM 0))) (retM (conM (.bl false)))
    nxM)
    (seqM (ifS (binM eqD (varM 1) (binM subD (varM 2) (conM (.int 1)))) (retM (binM eqD (varM 0) (tupM (consA (conM (.str "stop")) nilA))))
    nxM)
    (seqM (ifS (binM eqD (bltM lenD (consA (varM 0) nilA)) (conM (.int 2))) (retM (andM (binM eqD (binM ixD (varM 0) (conM (.int 0))) (conM (.str "go"))) (callN 3 m_within (consA (binM ixD (varM 0) (conM (.int 1))) (consA (binM addD (varM 1) (conM (.int 1))) (consA (binM subD (varM 2) (conM (.int 1))) nilA))))))
    nxM)
    (seqM (ifS (orM (binM neD (bltM lenD (consA (varM 0) nilA)) (conM (.int 6))) (orM (binM neD (binM ixD (varM 0) (conM (.int 0))) (conM (.str "if"))) (binM ninTD (binM ixD (varM 0) (conM (.int 2))) (tupM (consA (conM (.str "<")) (consA (conM (.str "==")) nilA)))))) (retM (conM (.bl false)))
    nxM)
    (seqM (ifS (orM (notM (callN 1 m_is_operand (consA (binM ixD (varM 0) (conM (.int 1))) nilA))) (notM (callN 1 m_is_operand (consA (binM ixD (varM 0) (conM (.int 3))) nilA)))) (retM (conM (.bl false)))
    nxM)
    (retM (andM (bltM allD (consA (lcM [3] (seqI (slM (varM 0) (atO (conM (.int 4))) noO)) (tgN 3) (conM (.bl true)) (callN 3 m_within (consA (varM 3) (consA (binM addD (varM 1) (conM (.int 1))) (consA (binM subD (varM 2) (conM (.int 1))) nilA))))) nilA)) (binM neD (binM ixD (varM 0) (conM (.int 4))) (binM ixD (varM 0) (conM (.int 5)))))))))))
theorem sc_is_end : FnScope ["value", "block", "blocks", "target"] ["value", "block", "blocks"] (defScope s_is_end) := ⟨rfl, rfl, rfl, by decide +kernel, rfl, by decide +kernel, by decide +kernel⟩
theorem ok_is_end (c : Hd bk fn K mg) : ∃ fd, FnG P w K mg base (L2.CX P w) 4 (gA "is_end" K) fd ["value", "block", "blocks"] (spM K mg 3 m_is_end) ∧ Binds K fd ["value", "block", "blocks"] [] ∧ fdV K (gA "is_end" K) = some fd := by
  obtain ⟨fd, hfd, F⟩ := c.fnAt 8 (d := d_is_end)
  refine ⟨fd, fun_ok (k := 3) F sc_is_end rfl rfl fun cdv A outer s H E B hr => ?_, F.binds fun _ _ _ _ _ _ us hl => match us, hl with | [_, _, _], _ => rfl, hfd⟩
  have nd := sc_is_end.nd
  exact (ss_cons (s_if (t_not (t_val (e_isB (isi_tuple c) (e_var 0) (c.free 13) (c.free 14) PyProof.Rows.boot_tuple (hT := e_ty (c.free 14) PyProof.Rows.boot_tuple)))) (ss_one (s_ret e_bl))
      ss_nil)
      (ss_cons (s_if (t_cmp (op_eqD hr.r.units) m_eq (e_var 1) (e_bin op_sub m_sub (e_var 2) e_int)) (ss_one (s_ret (e_cmp (op_eqD hr.r.units) m_eq (e_var 0) (e_tup (a_cons e_str a_nil)))))
      ss_nil)
      (ss_cons (s_if (t_cmp (op_eqD hr.r.units) m_eq (e_blt m_len c_len (c.free 1) PySem.boot_len (a_cons (e_var 0) a_nil)) e_int) (ss_one (s_ret (e_and (e_cmp (op_eqD hr.r.units) m_eq (e_ix (o_ix (room_v hr.r)) m_ix (e_var 0) e_int) e_str) (e_one (e_call (ok_within c).choose_spec.1 (hr.mono (by decide)) (c.glo 32) (c.keep 31) (ok_within c).choose_spec.2.1 (takes_of rfl rfl rfl rfl) (a_cons (e_ix (o_ix (room_v hr.r)) m_ix (e_var 0) e_int) (a_cons (e_bin o_add m_add (e_var 1) e_int) (a_cons (e_bin op_sub m_sub (e_var 2) e_int) a_nil))))))))
      ss_nil)
      (ss_cons (s_if (pt_w (w_or (t_cmp (op_neD hr.r.units) m_ne (e_blt m_len c_len (c.free 1) PySem.boot_len (a_cons (e_var 0) a_nil)) e_int) (w_or (t_cmp (op_neD hr.r.units) m_ne (e_ix (o_ix (room_v hr.r)) m_ix (e_var 0) e_int) e_str) (w_or1 (t_cmp (o_ninT (room_u hr.r)) m_ninT (e_ix (o_ix (room_v hr.r)) m_ix (e_var 0) e_int) (e_tup (a_cons e_str (a_cons e_str a_nil)))))))) (ss_one (s_ret e_bl))
      ss_nil)
      (ss_cons (s_if (pt_w (w_or (t_not (t_val (e_call (ok_is_operand c).choose_spec.1 (hr.mono (by decide)) (c.glo 34) (c.keep 33) (ok_is_operand c).choose_spec.2.1 (takes_of rfl rfl rfl rfl) (a_cons (e_ix (o_ix (room_v hr.r)) m_ix (e_var 0) e_int) a_nil)))) (w_or1 (t_not (t_val (e_call (ok_is_operand c).choose_spec.1 (hr.mono (by decide)) (c.glo 34) (c.keep 33) (ok_is_operand c).choose_spec.2.1 (takes_of rfl rfl rfl rfl) (a_cons (e_ix (o_ix (room_v hr.r)) m_ix (e_var 0) e_int) a_nil))))))) (ss_one (s_ret e_bl))
      ss_nil)
      (ss_one (s_ret (e_and (e_blt m_all (cr_all rfl) (c.free 37) PyProof.Rows.boot_all (a_cons (e_lc (ow := [("target", 3)]) rfl nd (i_seq (e_sl (e_var 0) (o_at e_int) o_none)) (blkOk_by (N := ["value", "block", "blocks", "target"]) (sc := (defScope s_is_end)) (by decide +kernel)) (fun _ _ _ _ _ => (g_name 3 nd))  (fun _ _ _ _ _ => (e_call (ok_within c).choose_spec.1 (hr.mono (by decide)) (c.glo 32) (c.keep 31) (ok_within c).choose_spec.2.1 takes0 (a_cons (e_var 3) (a_cons (e_bin o_add m_add (e_var 1) e_int) (a_cons (e_bin op_sub m_sub (e_var 2) e_int) a_nil)))))) a_nil)) (e_one (e_cmp (op_neD hr.r.units) m_ne (e_ix (o_ix (room_v hr.r)) m_ix (e_var 0) e_int) (e_ix (o_ix (room_v hr.r)) m_ix (e_var 0) e_int)))))))))))
def m_is_program_block : List Slot → RF := funM 6
    (seqM (ifS (orM (notM (isiM tbTuple tc_tuple (varM 0))) (binM neD (bltM lenD (consA (varM 0) nilA)) (conM (.int 2)))) (retM (conM (.bl false)))
    nxM)
    (seqM (asgT (tgT [(tgN 3), (tgN 4)]) (varM 0))
    (seqM (ifS (orM (notM (isiM tbTuple tc_tuple (varM 3))) (binM gtD (bltM lenD (consA (varM 3) nilA)) (conM (.int 4)))) (retM (conM (.bl false)))
    nxM)
    (retM (andM (bltM allD (consA (lcM [5] (seqI (varM 3)) (tgN 5) (conM (.bl true)) (callN 1 m_is_step (consA (varM 5) nilA))) nilA)) (callN 3 m_is_end (consA (varM 4) (consA (varM 1) (consA (varM 2) nilA)))))))))
theorem sc_is_program_block : FnScope ["value", "block", "blocks", "steps", "end", "step"] ["value", "block", "blocks"] (defScope s_is_program_block) := ⟨rfl, rfl, rfl, by decide +kernel, rfl, by decide +kernel, by decide +kernel⟩
theorem ok_is_program_block (c : Hd bk fn K mg) : ∃ fd, FnG P w K mg base (L2.CX P w) 5 (gA "is_program_block" K) fd ["value", "block", "blocks"] (spM K mg 3 m_is_program_block) ∧ Binds K fd ["value", "block", "blocks"] [] ∧ fdV K (gA "is_program_block" K) = some fd := by
  obtain ⟨fd, hfd, F⟩ := c.fnAt 9 (d := d_is_program_block)
  refine ⟨fd, fun_ok (k := 4) F sc_is_program_block rfl rfl fun cdv A outer s H E B hr => ?_, F.binds fun _ _ _ _ _ _ us hl => match us, hl with | [_, _, _], _ => rfl, hfd⟩
  have nd := sc_is_program_block.nd
  exact (ss_cons (s_if (pt_w (w_or (t_not (t_val (e_isB (isi_tuple c) (e_var 0) (c.free 13) (c.free 14) PyProof.Rows.boot_tuple (hT := e_ty (c.free 14) PyProof.Rows.boot_tuple)))) (w_or1 (t_cmp (op_neD hr.r.units) m_ne (e_blt m_len c_len (c.free 1) PySem.boot_len (a_cons (e_var 0) a_nil)) e_int)))) (ss_one (s_ret e_bl))
      ss_nil)
      (ss_cons (s_asgT (e_var 0) (g_tup rfl (gs_cons (g_name 3 nd) (gs_cons (g_name 4 nd) gs_nil))))
      (ss_cons (s_if (pt_w (w_or (t_not (t_val (e_isB (isi_tuple c) (e_var 3) (c.free 13) (c.free 14) PyProof.Rows.boot_tuple (hT := e_ty (c.free 14) PyProof.Rows.boot_tuple)))) (w_or1 (t_cmp op_gt m_gt (e_blt m_len c_len (c.free 1) PySem.boot_len (a_cons (e_var 3) a_nil)) (e_glob (d := .int 4) (v := .int 4) (by rfl) (c.int 15).choose_spec ⟨_, rfl⟩ (fun _ => .int _)))))) (ss_one (s_ret e_bl))
      ss_nil)
      (ss_one (s_ret (e_and (e_blt m_all (cr_all rfl) (c.free 37) PyProof.Rows.boot_all (a_cons (e_lc (ow := [("step", 5)]) rfl nd (i_seq (e_var 3)) (blkOk_by (N := ["value", "block", "blocks", "steps", "end", "step"]) (sc := (defScope s_is_program_block)) (by decide +kernel)) (fun _ _ _ _ _ => (g_name 5 nd))  (fun _ _ _ _ _ => (e_call (ok_is_step c).choose_spec.1 (hr.mono (by decide)) (c.glo 36) (c.keep 35) (ok_is_step c).choose_spec.2.1 takes0 (a_cons (e_var 5) a_nil)))) a_nil)) (e_one (e_call (ok_is_end c).choose_spec.1 (hr.mono (by decide)) (c.glo 39) (c.keep 38) (ok_is_end c).choose_spec.2.1 (takes_of rfl rfl rfl rfl) (a_cons (e_var 4) (a_cons (e_var 1) (a_cons (e_var 2) a_nil)))))))))))
def m_targets_of : List Slot → RF := funM 1
    (seqM (ifS (binM eqD (binM ixD (varM 0) (conM (.int 0))) (conM (.str "go"))) (retM (lstM (consA (frzM (binM ixD (varM 0) (conM (.int 1)))) nilA)))
    nxM)
    (retM (iteM (binM eqD (binM ixD (varM 0) (conM (.int 0))) (conM (.str "if"))) (lstM (consA (frzM (binM ixD (varM 0) (conM (.int 4)))) (consA (frzM (binM ixD (varM 0) (conM (.int 5)))) nilA))) (lstM nilA))))
theorem sc_targets_of : FnScope ["end"] ["end"] (defScope s_targets_of) := ⟨rfl, rfl, rfl, by decide +kernel, rfl, by decide +kernel, by decide +kernel⟩
theorem ok_targets_of (c : Hd bk fn K mg) : ∃ fd, FnG P w K mg base (L2.CX P w) 1 (gA "targets_of" K) fd ["end"] (spM K mg 1 m_targets_of) ∧ Binds K fd ["end"] [] ∧ fdV K (gA "targets_of" K) = some fd := by
  obtain ⟨fd, hfd, F⟩ := c.fnAt 10 (d := d_targets_of)
  refine ⟨fd, fun_ok (k := 0) F sc_targets_of rfl rfl fun cdv A outer s H E B hr => ?_, F.binds fun _ _ _ _ _ _ us hl => match us, hl with | [_], _ => rfl, hfd⟩
  have nd := sc_targets_of.nd
  exact (ss_cons (s_if (t_cmp (op_eqD hr.r.units) m_eq (e_ix (o_ix (room_v hr.r)) m_ix (e_var 0) e_int) e_str) (ss_one (s_ret (e_lst (a_cons (e_frz (e_ix (o_ix (room_v hr.r)) m_ix (e_var 0) e_int)) a_nil))))
      ss_nil)
      (ss_one (s_ret (e_ite (t_cmp (op_eqD hr.r.units) m_eq (e_ix (o_ix (room_v hr.r)) m_ix (e_var 0) e_int) e_str) (e_lst (a_cons (e_frz (e_ix (o_ix (room_v hr.r)) m_ix (e_var 0) e_int)) (a_cons (e_frz (e_ix (o_ix (room_v hr.r)) m_ix (e_var 0) e_int)) a_nil))) (e_lst a_nil)))))
def m_is_jump : List Slot → RF := funM 3
    (seqM (ifS (orM (notM (isiM tbTuple tc_tuple (varM 0))) (binM neD (bltM lenD (consA (varM 0) nilA)) (conM (.int 2)))) (retM (conM (.bl false)))
    nxM)
    (retM (andM (bltM allD (consA (lcM [2] (seqI (varM 0)) (tgN 2) (conM (.bl true)) (callN 3 m_within (consA (varM 2) (consA (conM (.int 0)) (consA (binM subD (varM 1) (conM (.int 1))) nilA))))) nilA)) (binM ltD (binM ixD (varM 0) (conM (.int 0))) (binM ixD (varM 0) (conM (.int 1)))))))
theorem sc_is_jump : FnScope ["value", "blocks", "block"] ["value", "blocks"] (defScope s_is_jump) := ⟨rfl, rfl, rfl, by decide +kernel, rfl, by decide +kernel, by decide +kernel⟩
theorem ok_is_jump (c : Hd bk fn K mg) : ∃ fd, FnG P w K mg base (L2.CX P w) 3 (gA "is_jump" K) fd ["value", "blocks"] (spM K mg 2 m_is_jump) ∧ Binds K fd ["value", "blocks"] [] ∧ fdV K (gA "is_jump" K) = some fd := by
  obtain ⟨fd, hfd, F⟩ := c.fnAt 11 (d := d_is_jump)
  refine ⟨fd, fun_ok (k := 2) F sc_is_jump rfl rfl fun cdv A outer s H E B hr => ?_, F.binds fun _ _ _ _ _ _ us hl => match us, hl with | [_, _], _ => rfl, hfd⟩
  have nd := sc_is_jump.nd
  exact (ss_cons (s_if (pt_w (w_or (t_not (t_val (e_isB (isi_tuple c) (e_var 0) (c.free 13) (c.free 14) PyProof.Rows.boot_tuple (hT := e_ty (c.free 14) PyProof.Rows.boot_tuple)))) (w_or1 (t_cmp (op_neD hr.r.units) m_ne (e_blt m_len c_len (c.free 1) PySem.boot_len (a_cons (e_var 0) a_nil)) e_int)))) (ss_one (s_ret e_bl))
      ss_nil)
      (ss_one (s_ret (e_and (e_blt m_all (cr_all rfl) (c.free 37) PyProof.Rows.boot_all (a_cons (e_lc (ow := [("block", 2)]) rfl nd (i_seq (e_var 0)) (blkOk_by (N := ["value", "blocks", "block"]) (sc := (defScope s_is_jump)) (by decide +kernel)) (fun _ _ _ _ _ => (g_name 2 nd))  (fun _ _ _ _ _ => (e_call (ok_within c).choose_spec.1 (hr.mono (by decide)) (c.glo 32) (c.keep 31) (ok_within c).choose_spec.2.1 takes0 (a_cons (e_var 2) (a_cons e_int (a_cons (e_bin op_sub m_sub (e_var 1) e_int) a_nil)))))) a_nil)) (e_one (e_cmp op_lt m_lt (e_ix (o_ix (room_v hr.r)) m_ix (e_var 0) e_int) (e_ix (o_ix (room_v hr.r)) m_ix (e_var 0) e_int)))))))
def m_Routine___init__ : List Slot → RF := funM 6
    (seqM (ifS (notM (callN 3 m_within (consA (varM 1) (consA (conM (.int 2)) (consA (conM (.int 40)) nilA))))) (raise0 "BadBlocks")
    nxM)
    (seqM (asgM 3 (ownM (.dT [])))
    (seqM (forM (enumM (consA (varM 2) nilA)) (tgT [(tgN 4), (tgN 5)])
    (seqM (ifS (orM (notM (callN 2 m_is_jump (consA (varM 5) (consA (varM 1) nilA)))) (binM inD (varM 5) (varM 3))) (raise1 "BadJump" "at" (consA (frzM (varM 4)) nilA))
    nxM)
    (setI (varM 3) (varM 5) (conM (.bl true)))))
    (seqM (ifS (binM gtD (bltM lenD (consA (varM 3) nilA)) (conM (.int 120))) (raise1 "TooLarge" "bound" (consA (frzM (conM (.int 120))) nilA))
    nxM)
    (seqM (setF ["Routine"] "blocks" (varM 0) (varM 1))
    (seqM (setF ["Routine"] "rows" (varM 0) (bltM sortD (consA (varM 3) nilA)))
    (fgtS [5] (setF ["Routine"] "there" (varM 0) (dcM [5] (seqI (fldM ["Routine"] "rows" (varM 0))) (tgN 5) (conM (.bl true)) (frzM (varM 5)) (conM (.bl true)) (.dT []))))))))))
theorem sc_Routine___init__ : FnScope ["self", "blocks", "jumps", "known", "at", "jump"] ["self", "blocks", "jumps"] (defScope s_Routine___init__) := ⟨rfl, rfl, rfl, by decide +kernel, rfl, by decide +kernel, by decide +kernel⟩
theorem ok_Routine___init__ (c : Hd bk fn K mg) : ∃ fd, FnG P w K mg base (L2.CX P w) 4 (mA "Routine" "__init__" K) fd ["self", "blocks", "jumps"] (spM K mg 3 m_Routine___init__) ∧ Binds K fd ["self", "blocks", "jumps"] [] ∧ fdV K (mA "Routine" "__init__" K) = some fd := by
  obtain ⟨fd, hfd, F⟩ := c.fnAt 12 (d := d_Routine___init__)
  refine ⟨fd, fun_ok (k := 3) F sc_Routine___init__ rfl rfl fun cdv A outer s H E B hr => ?_, F.binds fun _ _ _ _ _ _ us hl => match us, hl with | [_, _, _], _ => rfl, hfd⟩
  have nd := sc_Routine___init__.nd
  exact (ss_cons (s_if (t_not (t_val (e_call (ok_within c).choose_spec.1 (hr.mono (by decide)) (c.glo 32) (c.keep 31) (ok_within c).choose_spec.2.1 (takes_of rfl rfl rfl rfl) (a_cons (e_var 1) (a_cons e_int (a_cons (e_glob (d := .int 40) (v := .int 40) (by rfl) (c.int 3).choose_spec ⟨_, rfl⟩ (fun _ => .int _)) a_nil)))))) (ss_one (s_raise0 (takes_of rfl rfl rfl rfl) PySem.F.excBase_ValueError (c.exc 4).1 (c.glo 5) (c.exc 4).2.1 (raises_own (c.exc 4).2.2.1 (c.exc 4).2.2.2)))
      ss_nil)
      (ss_cons (s_set 3 nd e_dT)
      (ss_cons (s_for (passes_of rfl) rfl (i_enum (a_cons (e_var 2) a_nil) (by rfl) (c.free 6)) (g_tup rfl (gs_cons (g_name 4 nd) (gs_cons (g_name 5 nd) gs_nil)))
      (ss_cons (s_if (pt_w (w_or (t_not (t_val (e_call (ok_is_jump c).choose_spec.1 (hr.mono (by decide)) (c.glo 51) (c.keep 50) (ok_is_jump c).choose_spec.2.1 (takes_of rfl rfl rfl rfl) (a_cons (e_var 5) (a_cons (e_var 1) a_nil))))) (w_or1 (t_cmp (o_in hr.r (room_u hr.r)) m_in (e_var 5) (e_var 3))))) (ss_one (s_raise1 (takes_of rfl rfl rfl rfl) (c.oex 52) (c.init 54).1 (c.init 54).2 (xi_BadJump c).choose_spec.1 (hr.r.mono (by decide)) (xi_BadJump c).choose_spec.2.1 (c.glo 55) (a_cons (e_frz (e_var 4)) a_nil)))
      ss_nil)
      (ss_one (s_setI (room_v hr.r) (e_var 3) (e_var 5) e_bl))))
      (ss_cons (s_if (t_cmp op_gt m_gt (e_blt m_len c_len (c.free 1) PySem.boot_len (a_cons (e_var 3) a_nil)) (e_glob (d := .int 120) (v := .int 120) (by rfl) (c.int 56).choose_spec ⟨_, rfl⟩ (fun _ => .int _))) (ss_one (s_raise1 (takes_of rfl rfl rfl rfl) (c.oex 57) (c.init 59).1 (c.init 59).2 (xi_TooLarge c).choose_spec.1 (hr.r.mono (by decide)) (xi_TooLarge c).choose_spec.2.1 (c.glo 60) (a_cons (e_frz (e_glob (d := .int 120) (v := .int 120) (by rfl) (c.int 56).choose_spec ⟨_, rfl⟩ (fun _ => .int _))) a_nil)))
      ss_nil)
      (ss_cons (s_setF (fo_blocks c) (e_var 0) (e_var 1))
      (ss_cons (s_setF (fo_rows c) (e_var 0) (e_blt m_sortT (call_sortT rfl) (c.free 63) PyProof.Rows.boot_sorted (a_cons (e_var 3) a_nil)))
      (ss_one (s_fgt [5] (s_setF (fo_there c) (e_var 0) (e_dcT (ow := [("jump", 5)]) (room_v hr.r) rfl nd (i_seq (e_fld (fo_rows c) (e_var 0))) (blkOk_by (N := ["self", "blocks", "jumps", "known", "at", "jump"]) (sc := (defScope s_Routine___init__)) (by decide +kernel)) (fun _ _ _ _ _ => (g_name 5 nd)) (fun _ _ _ _ _ => (e_frz (e_var 5))) (fun _ _ _ _ _ => e_bl)))))))))))
def m_Program___init__ : List Slot → RF := funM 8
    (seqM (ifS (notM (chainM leD leD (conM (.int 2)) (bltM lenD (consA (varM 1) nilA)) (conM (.int 40)))) (raise0 "BadBlocks")
    nxM)
    (seqM (forM (enumM (consA (varM 1) nilA)) (tgT [(tgN 2), (tgN 3)])
    (ifS (notM (callN 3 m_is_program_block (consA (varM 3) (consA (varM 2) (consA (bltM lenD (consA (varM 1) nilA)) nilA))))) (raise1 "BadProgram" "at" (consA (frzM (varM 2)) nilA))
    nxM))
    (seqM (setF ["Program"] "listed" (varM 0) (bltM listD (consA (varM 1) nilA)))
    (seqM (asgM 4 (lstM nilA))
    (seqM (forM (enumM (consA (fldM ["Program"] "listed" (varM 0)) nilA)) (tgT [(tgN 2), (tgT [(tgN 5), (tgN 6)])])
    (dropM (mutM isLst extG (varM 4) (consA (frzM (lcM [7] (seqI (callN 1 m_targets_of (consA (varM 6) nilA))) (tgN 7) (conM (.bl true)) (tupM (consA (frzM (varM 2)) (consA (frzM (varM 7)) nilA))))) nilA))))
    (setF ["Program"] "routine" (varM 0) (makeN "Routine" 2 m_Routine___init__ (consA (bltM lenD (consA (fldM ["Program"] "listed" (varM 0)) nilA)) (consA (varM 4) nilA)))))))))
theorem sc_Program___init__ : FnScope ["self", "blocks", "at", "block", "jumps", "steps", "end", "target"] ["self", "blocks"] (defScope s_Program___init__) := ⟨rfl, rfl, rfl, by decide +kernel, rfl, by decide +kernel, by decide +kernel⟩
theorem ok_Program___init__ (c : Hd bk fn K mg) : ∃ fd, FnG P w K mg base (L2.CX P w) 6 (mA "Program" "__init__" K) fd ["self", "blocks"] (spM K mg 2 m_Program___init__) ∧ Binds K fd ["self", "blocks"] [] ∧ fdV K (mA "Program" "__init__" K) = some fd := by
  obtain ⟨fd, hfd, F⟩ := c.fnAt 13 (d := d_Program___init__)
  refine ⟨fd, fun_ok (k := 5) F sc_Program___init__ rfl rfl fun cdv A outer s H E B hr => ?_, F.binds fun _ _ _ _ _ _ us hl => match us, hl with | [_, _], _ => rfl, hfd⟩
  have nd := sc_Program___init__.nd
  exact (ss_cons (s_if (t_not (t_chain op_le m_le op_le m_le e_int (e_blt m_len c_len (c.free 1) PySem.boot_len (a_cons (e_var 1) a_nil)) (e_glob (d := .int 40) (v := .int 40) (by rfl) (c.int 3).choose_spec ⟨_, rfl⟩ (fun _ => .int _)))) (ss_one (s_raise0 (takes_of rfl rfl rfl rfl) PySem.F.excBase_ValueError (c.exc 4).1 (c.glo 5) (c.exc 4).2.1 (raises_own (c.exc 4).2.2.1 (c.exc 4).2.2.2)))
      ss_nil)
      (ss_cons (s_for (passes_of rfl) rfl (i_enum (a_cons (e_var 1) a_nil) (by rfl) (c.free 6)) (g_tup rfl (gs_cons (g_name 2 nd) (gs_cons (g_name 3 nd) gs_nil)))
      (ss_one (s_if (t_not (t_val (e_call (ok_is_program_block c).choose_spec.1 (hr.mono (by decide)) (c.glo 41) (c.keep 40) (ok_is_program_block c).choose_spec.2.1 (takes_of rfl rfl rfl rfl) (a_cons (e_var 3) (a_cons (e_var 2) (a_cons (e_blt m_len c_len (c.free 1) PySem.boot_len (a_cons (e_var 1) a_nil)) a_nil)))))) (ss_one (s_raise1 (takes_of rfl rfl rfl rfl) (c.oex 42) (c.init 44).1 (c.init 44).2 (xi_BadProgram c).choose_spec.1 (hr.r.mono (by decide)) (xi_BadProgram c).choose_spec.2.1 (c.glo 45) (a_cons (e_frz (e_var 2)) a_nil)))
      ss_nil)))
      (ss_cons (s_setF (fo_listed c) (e_var 0) (e_bty m_list call_list_of (c.free 2) PyProof.Rows.boot_list (a_cons (e_var 1) a_nil)))
      (ss_cons (s_set 4 nd (e_lst a_nil))
      (ss_cons (s_for (passes_of rfl) rfl (i_enum (a_cons (e_fld (fo_listed c) (e_var 0)) a_nil) (by rfl) (c.free 6)) (g_tup rfl (gs_cons (g_name 2 nd) (gs_cons (g_tup rfl (gs_cons (g_name 5 nd) (gs_cons (g_name 6 nd) gs_nil))) gs_nil)))
      (ss_one (s_expr (e_mut m_ext tyOk_lst PySem.F.plainAttrs_list PySem.F.slot_list_extend PySem.F.type_list_extend mt_extend (e_var 4) (a_cons (e_frz (e_lc (ow := [("target", 7)]) rfl nd (i_seq (e_call (ok_targets_of c).choose_spec.1 (hr.mono (by decide)) (c.glo 49) (c.keep 48) (ok_targets_of c).choose_spec.2.1 (takes_of rfl rfl rfl rfl) (a_cons (e_var 6) a_nil))) (blkOk_by (N := ["self", "blocks", "at", "block", "jumps", "steps", "end", "target"]) (sc := (defScope s_Program___init__)) (by decide +kernel)) (fun _ _ _ _ _ => (g_name 7 nd))  (fun _ _ _ _ _ => (e_tup (a_cons (e_frz (e_var 2)) (a_cons (e_frz (e_var 7)) a_nil)))))) a_nil)))))
      (ss_one (s_setF (fo_routine c) (e_var 0) (e_make (c.mkr 66) (ok_Routine___init__ c).choose_spec.1 (hr.mono (by decide)) (c.glo 9) (ok_Routine___init__ c).choose_spec.2.1 (takes_of rfl rfl rfl rfl) (a_cons (e_blt m_len c_len (c.free 1) PySem.boot_len (a_cons (e_fld (fo_listed c) (e_var 0)) a_nil)) (a_cons (e_var 4) a_nil))))))))))
def m__law_made : List Slot → RF := funM 2
    (tryM (retM (makeN "Program" 1 m_Program___init__ (consA (varM 0) nilA)))
    [⟨ct_BadBlocks, none, fun x => (retM (unM negD (conM (.int 1))))⟩, ⟨ct_BadProgram, some 1, fun x => (retM (xfM 1 "BadProgram" "at" x))⟩])
theorem sc__law_made : FnScope ["_law_blocks", "error"] ["_law_blocks"] (defScope s__law_made) := ⟨rfl, rfl, rfl, by decide +kernel, rfl, by decide +kernel, by decide +kernel⟩
theorem ok__law_made (c : Hd bk fn K mg) : ∃ fd, FnG P w K mg base (L2.CX P w) 8 (gA "_law_made" K) fd ["_law_blocks"] (spM K mg 1 m__law_made) ∧ Binds K fd ["_law_blocks"] [] ∧ fdV K (gA "_law_made" K) = some fd := by
  obtain ⟨fd, hfd, F⟩ := c.fnAt 14 (d := d__law_made)
  refine ⟨fd, fun_ok (k := 7) F sc__law_made rfl rfl fun cdv A outer s H E B hr => ?_, F.binds fun _ _ _ _ _ _ us hl => match us, hl with | [_], _ => rfl, hfd⟩
  have nd := sc__law_made.nd
  exact (ss_one (s_try nd rfl rfl (takes_of rfl rfl rfl rfl) (fun W pn xe tk po => (ss_one (s_ret (e_make (c.mkr 68) (ok_Program___init__ c).choose_spec.1 (hr.mono (by decide)) (c.glo 12) (ok_Program___init__ c).choose_spec.2.1 tk (a_cons (e_var 0) a_nil)))))
      (HdsM.cons (ct := ct_BadBlocks) (h := fun x => (retM (unM negD (conM (.int 1))))) ⟨by rfl, by decide, .inl (by exact (c.glo 5))⟩ (fun a oe cls d pn x B hz hf xf => (ss_one (s_ret (e_un un_neg m_neg e_int)))) (HdsM.as (ct := ct_BadProgram) (h := fun x => (retM (xfM 1 "BadProgram" "at" x))) ⟨by rfl, by decide, .inl (by exact (c.glo 45))⟩ rfl rfl (fun a oe cls d pn x B hz hf xf => (ss_one (s_ret (e_xf (i := 1) (nm := "BadProgram") (c.xf 75) (by exact c.noat 43) (c.glo 45) hz hf xf)))) HdsM.nil))
      (CtsOk.cons (ct_BadBlocks_ok c) (CtsOk.cons (ct_BadProgram_ok c) CtsOk.nil))))
def m__law_is_name : List Slot → RF := funM 1
    (retM (andM (isiM tbStr tc_str (varM 0)) (andM (binM eqD (bltM lenD (consA (varM 0) nilA)) (conM (.int 1))) (binM inD (varM 0) (conM (.str "abcdefghijklmnopqrstuvwxyz"))))))
theorem sc__law_is_name : FnScope ["_law_value"] ["_law_value"] (defScope s__law_is_name) := ⟨rfl, rfl, rfl, by decide +kernel, rfl, by decide +kernel, by decide +kernel⟩
theorem ok__law_is_name (c : Hd bk fn K mg) : ∃ fd, FnG P w K mg base (L2.CX P w) 1 (gA "_law_is_name" K) fd ["_law_value"] (spM K mg 1 m__law_is_name) ∧ Binds K fd ["_law_value"] [] ∧ fdV K (gA "_law_is_name" K) = some fd := by
  obtain ⟨fd, hfd, F⟩ := c.fnAt 15 (d := d__law_is_name)
  refine ⟨fd, fun_ok (k := 0) F sc__law_is_name rfl rfl fun cdv A outer s H E B hr => ?_, F.binds fun _ _ _ _ _ _ us hl => match us, hl with | [_], _ => rfl, hfd⟩
  have nd := sc__law_is_name.nd
  exact (ss_one (s_ret (e_and (e_isB (isi_str c) (e_var 0) (c.free 13) (c.free 18) PyProof.Rows.boot_str (hT := e_ty (c.free 18) PyProof.Rows.boot_str)) (e_and (e_cmp (op_eqD hr.r.units) m_eq (e_blt m_len c_len (c.free 1) PySem.boot_len (a_cons (e_var 0) a_nil)) e_int) (e_one (e_cmp (o_in hr.r (room_u hr.r)) m_in (e_var 0) e_str))))))
def m__law_is_whole : List Slot → RF := funM 3
    (retM (andM (isiM tbInt tc_int (varM 0)) (andM (notM (isiM tbBool tc_bool (varM 0))) (chainM leD leD (varM 1) (varM 0) (varM 2)))))
theorem sc__law_is_whole : FnScope ["_law_value", "_law_low", "_law_high"] ["_law_value", "_law_low", "_law_high"] (defScope s__law_is_whole) := ⟨rfl, rfl, rfl, by decide +kernel, rfl, by decide +kernel, by decide +kernel⟩
theorem ok__law_is_whole (c : Hd bk fn K mg) : ∃ fd, FnG P w K mg base (L2.CX P w) 1 (gA "_law_is_whole" K) fd ["_law_value", "_law_low", "_law_high"] (spM K mg 3 m__law_is_whole) ∧ Binds K fd ["_law_value", "_law_low", "_law_high"] [] ∧ fdV K (gA "_law_is_whole" K) = some fd := by
  obtain ⟨fd, hfd, F⟩ := c.fnAt 16 (d := d__law_is_whole)
  refine ⟨fd, fun_ok (k := 0) F sc__law_is_whole rfl rfl fun cdv A outer s H E B hr => ?_, F.binds fun _ _ _ _ _ _ us hl => match us, hl with | [_, _, _], _ => rfl, hfd⟩
  have nd := sc__law_is_whole.nd
  exact (ss_one (s_ret (e_and (e_isB (isi_int c) (e_var 0) (c.free 13) (c.free 24) PyProof.Rows.boot_int (hT := e_ty (c.free 24) PyProof.Rows.boot_int)) (e_and (e_not (e_isB (isi_bool c) (e_var 0) (c.free 13) (c.free 27) PyProof.Rows.boot_bool (hT := e_ty (c.free 27) PyProof.Rows.boot_bool))) (e_one (e_chain op_le m_le op_le m_le (e_var 1) (e_var 0) (e_var 2)))))))
def m__law_is_operand : List Slot → RF := funM 1
    (retM (orM (callN 1 m__law_is_name (consA (varM 0) nilA)) (callN 3 m__law_is_whole (consA (varM 0) (consA (unM negD (binM powD (conM (.int 10)) (conM (.int 9)))) (consA (binM powD (conM (.int 10)) (conM (.int 9))) nilA))))))
theorem sc__law_is_operand : FnScope ["_law_value"] ["_law_value"] (defScope s__law_is_operand) := ⟨rfl, rfl, rfl, by decide +kernel, rfl, by decide +kernel, by decide +kernel⟩
theorem ok__law_is_operand (c : Hd bk fn K mg) : ∃ fd, FnG P w K mg base (L2.CX P w) 2 (gA "_law_is_operand" K) fd ["_law_value"] (spM K mg 1 m__law_is_operand) ∧ Binds K fd ["_law_value"] [] ∧ fdV K (gA "_law_is_operand" K) = some fd := by
  obtain ⟨fd, hfd, F⟩ := c.fnAt 17 (d := d__law_is_operand)
  refine ⟨fd, fun_ok (k := 1) F sc__law_is_operand rfl rfl fun cdv A outer s H E B hr => ?_, F.binds fun _ _ _ _ _ _ us hl => match us, hl with | [_], _ => rfl, hfd⟩
  have nd := sc__law_is_operand.nd
  exact (ss_one (s_ret (e_or (e_call (ok__law_is_name c).choose_spec.1 (hr.mono (by decide)) (c.glo 94) (c.keep 93) (ok__law_is_name c).choose_spec.2.1 (takes_of rfl rfl rfl rfl) (a_cons (e_var 0) a_nil)) (e_one (e_call (ok__law_is_whole c).choose_spec.1 (hr.mono (by decide)) (c.glo 96) (c.keep 95) (ok__law_is_whole c).choose_spec.2.1 (takes_of rfl rfl rfl rfl) (a_cons (e_var 0) (a_cons (e_un un_neg m_neg (e_bin op_pow m_pow e_int e_int)) (a_cons (e_bin op_pow m_pow e_int e_int) a_nil))))))))
def m__law_is_line : List Slot → RF := funM 1
    (seqM (ifS (orM (notM (isiM tbTuple tc_tuple (varM 0))) (orM (binM neD (bltM lenD (consA (varM 0) nilA)) (conM (.int 4))) (binM ninD (binM ixD (varM 0) (conM (.int 2))) (lstM (consA (conM (.str "+")) (consA (conM (.str "-")) nilA)))))) (retM (conM (.bl false)))
    nxM)
    (retM (andM (callN 1 m__law_is_name (consA (binM ixD (varM 0) (conM (.int 0))) nilA)) (andM (callN 1 m__law_is_operand (consA (binM ixD (varM 0) (conM (.int 1))) nilA)) (callN 1 m__law_is_operand (consA (binM ixD (varM 0) (conM (.int 3))) nilA))))))
theorem sc__law_is_line : FnScope ["_law_value"] ["_law_value"] (defScope s__law_is_line) := ⟨rfl, rfl, rfl, by decide +kernel, rfl, by decide +kernel, by decide +kernel⟩
theorem ok__law_is_line (c : Hd bk fn K mg) : ∃ fd, FnG P w K mg base (L2.CX P w) 3 (gA "_law_is_line" K) fd ["_law_value"] (spM K mg 1 m__law_is_line) ∧ Binds K fd ["_law_value"] [] ∧ fdV K (gA "_law_is_line" K) = some fd := by
  obtain ⟨fd, hfd, F⟩ := c.fnAt 18 (d := d__law_is_line)
  refine ⟨fd, fun_ok (k := 2) F sc__law_is_line rfl rfl fun cdv A outer s H E B hr => ?_, F.binds fun _ _ _ _ _ _ us hl => match us, hl with | [_], _ => rfl, hfd⟩
  have nd := sc__law_is_line.nd
  exact (ss_cons (s_if (pt_w (w_or (t_not (t_val (e_isB (isi_tuple c) (e_var 0) (c.free 13) (c.free 14) PyProof.Rows.boot_tuple (hT := e_ty (c.free 14) PyProof.Rows.boot_tuple)))) (w_or (t_cmp (op_neD hr.r.units) m_ne (e_blt m_len c_len (c.free 1) PySem.boot_len (a_cons (e_var 0) a_nil)) e_int) (w_or1 (t_cmp (o_nin hr.r (room_u hr.r)) m_nin (e_ix (o_ix (room_v hr.r)) m_ix (e_var 0) e_int) (e_lst (a_cons e_str (a_cons e_str a_nil)))))))) (ss_one (s_ret e_bl))
      ss_nil)
      (ss_one (s_ret (e_and (e_call (ok__law_is_name c).choose_spec.1 (hr.mono (by decide)) (c.glo 94) (c.keep 93) (ok__law_is_name c).choose_spec.2.1 (takes_of rfl rfl rfl rfl) (a_cons (e_ix (o_ix (room_v hr.r)) m_ix (e_var 0) e_int) a_nil)) (e_and (e_call (ok__law_is_operand c).choose_spec.1 (hr.mono (by decide)) (c.glo 98) (c.keep 97) (ok__law_is_operand c).choose_spec.2.1 (takes_of rfl rfl rfl rfl) (a_cons (e_ix (o_ix (room_v hr.r)) m_ix (e_var 0) e_int) a_nil)) (e_one (e_call (ok__law_is_operand c).choose_spec.1 (hr.mono (by decide)) (c.glo 98) (c.keep 97) (ok__law_is_operand c).choose_spec.2.1 (takes_of rfl rfl rfl rfl) (a_cons (e_ix (o_ix (room_v hr.r)) m_ix (e_var 0) e_int) a_nil))))))))
def m__law_is_end : List Slot → RF := funM 3
    (seqM (ifS (orM (notM (isiM tbTuple tc_tuple (varM 0))) (binM eqD (varM 1) (binM subD (varM 2) (conM (.int 1))))) (retM (binM eqD (bltM reprD (consA (varM 0) nilA)) (bltM reprD (consA (tupM (consA (conM (.str "stop")) nilA)) nilA))))
    nxM)
    (seqM (ifS (binM eqD (bltM lenD (consA (varM 0) nilA)) (conM (.int 2))) (retM (andM (binM eqD (binM ixD (varM 0) (conM (.int 0))) (conM (.str "go"))) (callN 3 m__law_is_whole (consA (binM ixD (varM 0) (conM (.int 1))) (consA (binM addD (varM 1) (conM (.int 1))) (consA (binM subD (varM 2) (conM (.int 1))) nilA))))))
    nxM)
    (seqM (ifS (orM (binM neD (bltM lenD (consA (varM 0) nilA)) (conM (.int 6))) (orM (binM neD (binM ixD (varM 0) (conM (.int 0))) (conM (.str "if"))) (orM (binM ninD (binM ixD (varM 0) (conM (.int 2))) (lstM (consA (conM (.str "<")) (consA (conM (.str "==")) nilA)))) (binM eqD (binM ixD (varM 0) (conM (.int 4))) (binM ixD (varM 0) (conM (.int 5))))))) (retM (conM (.bl false)))
    nxM)
    (seqM (ifS (orM (notM (callN 1 m__law_is_operand (consA (binM ixD (varM 0) (conM (.int 1))) nilA))) (notM (callN 1 m__law_is_operand (consA (binM ixD (varM 0) (conM (.int 3))) nilA)))) (retM (conM (.bl false)))
    nxM)
    (retM (andM (callN 3 m__law_is_whole (consA (binM ixD (varM 0) (conM (.int 4))) (consA (binM addD (varM 1) (conM (.int 1))) (consA (binM subD (varM 2) (conM (.int 1))) nilA)))) (callN 3 m__law_is_whole (consA (binM ixD (varM 0) (conM (.int 5))) (consA (binM addD (varM 1) (conM (.int 1))) (consA (binM subD (varM 2) (conM (.int 1))) nilA))))))))))
theorem sc__law_is_end : FnScope ["_law_value", "_law_u", "_law_n"] ["_law_value", "_law_u", "_law_n"] (defScope s__law_is_end) := ⟨rfl, rfl, rfl, by decide +kernel, rfl, by decide +kernel, by decide +kernel⟩
theorem ok__law_is_end (c : Hd bk fn K mg) : ∃ fd, FnG P w K mg base (L2.CX P w) 3 (gA "_law_is_end" K) fd ["_law_value", "_law_u", "_law_n"] (spM K mg 3 m__law_is_end) ∧ Binds K fd ["_law_value", "_law_u", "_law_n"] [] ∧ fdV K (gA "_law_is_end" K) = some fd := by
  obtain ⟨fd, hfd, F⟩ := c.fnAt 19 (d := d__law_is_end)
  refine ⟨fd, fun_ok (k := 2) F sc__law_is_end rfl rfl fun cdv A outer s H E B hr => ?_, F.binds fun _ _ _ _ _ _ us hl => match us, hl with | [_, _, _], _ => rfl, hfd⟩
  have nd := sc__law_is_end.nd
  exact (ss_cons (s_if (pt_w (w_or (t_not (t_val (e_isB (isi_tuple c) (e_var 0) (c.free 13) (c.free 14) PyProof.Rows.boot_tuple (hT := e_ty (c.free 14) PyProof.Rows.boot_tuple)))) (w_or1 (t_cmp (op_eqD hr.r.units) m_eq (e_var 1) (e_bin op_sub m_sub (e_var 2) e_int))))) (ss_one (s_ret (e_cmp (op_eqD hr.r.units) m_eq (e_blt m_repr (c_repr hr.g (room_u hr.r)) (c.free 83) PyProof.Rows.boot_repr (a_cons (e_var 0) a_nil)) (e_blt m_repr (c_repr hr.g (room_u hr.r)) (c.free 83) PyProof.Rows.boot_repr (a_cons (e_tup (a_cons e_str a_nil)) a_nil)))))
      ss_nil)
      (ss_cons (s_if (t_cmp (op_eqD hr.r.units) m_eq (e_blt m_len c_len (c.free 1) PySem.boot_len (a_cons (e_var 0) a_nil)) e_int) (ss_one (s_ret (e_and (e_cmp (op_eqD hr.r.units) m_eq (e_ix (o_ix (room_v hr.r)) m_ix (e_var 0) e_int) e_str) (e_one (e_call (ok__law_is_whole c).choose_spec.1 (hr.mono (by decide)) (c.glo 96) (c.keep 95) (ok__law_is_whole c).choose_spec.2.1 (takes_of rfl rfl rfl rfl) (a_cons (e_ix (o_ix (room_v hr.r)) m_ix (e_var 0) e_int) (a_cons (e_bin o_add m_add (e_var 1) e_int) (a_cons (e_bin op_sub m_sub (e_var 2) e_int) a_nil))))))))
      ss_nil)
      (ss_cons (s_if (pt_w (w_or (t_cmp (op_neD hr.r.units) m_ne (e_blt m_len c_len (c.free 1) PySem.boot_len (a_cons (e_var 0) a_nil)) e_int) (w_or (t_cmp (op_neD hr.r.units) m_ne (e_ix (o_ix (room_v hr.r)) m_ix (e_var 0) e_int) e_str) (w_or (t_cmp (o_nin hr.r (room_u hr.r)) m_nin (e_ix (o_ix (room_v hr.r)) m_ix (e_var 0) e_int) (e_lst (a_cons e_str (a_cons e_str a_nil)))) (w_or1 (t_cmp (op_eqD hr.r.units) m_eq (e_ix (o_ix (room_v hr.r)) m_ix (e_var 0) e_int) (e_ix (o_ix (room_v hr.r)) m_ix (e_var 0) e_int))))))) (ss_one (s_ret e_bl))
      ss_nil)
      (ss_cons (s_if (pt_w (w_or (t_not (t_val (e_call (ok__law_is_operand c).choose_spec.1 (hr.mono (by decide)) (c.glo 98) (c.keep 97) (ok__law_is_operand c).choose_spec.2.1 (takes_of rfl rfl rfl rfl) (a_cons (e_ix (o_ix (room_v hr.r)) m_ix (e_var 0) e_int) a_nil)))) (w_or1 (t_not (t_val (e_call (ok__law_is_operand c).choose_spec.1 (hr.mono (by decide)) (c.glo 98) (c.keep 97) (ok__law_is_operand c).choose_spec.2.1 (takes_of rfl rfl rfl rfl) (a_cons (e_ix (o_ix (room_v hr.r)) m_ix (e_var 0) e_int) a_nil))))))) (ss_one (s_ret e_bl))
      ss_nil)
      (ss_one (s_ret (e_and (e_call (ok__law_is_whole c).choose_spec.1 (hr.mono (by decide)) (c.glo 96) (c.keep 95) (ok__law_is_whole c).choose_spec.2.1 (takes_of rfl rfl rfl rfl) (a_cons (e_ix (o_ix (room_v hr.r)) m_ix (e_var 0) e_int) (a_cons (e_bin o_add m_add (e_var 1) e_int) (a_cons (e_bin op_sub m_sub (e_var 2) e_int) a_nil)))) (e_one (e_call (ok__law_is_whole c).choose_spec.1 (hr.mono (by decide)) (c.glo 96) (c.keep 95) (ok__law_is_whole c).choose_spec.2.1 (takes_of rfl rfl rfl rfl) (a_cons (e_ix (o_ix (room_v hr.r)) m_ix (e_var 0) e_int) (a_cons (e_bin o_add m_add (e_var 1) e_int) (a_cons (e_bin op_sub m_sub (e_var 2) e_int) a_nil))))))))))))
def m__law_is_block : List Slot → RF := funM 5
    (seqM (ifS (orM (notM (isiM tbTuple tc_tuple (varM 0))) (orM (binM neD (bltM lenD (consA (varM 0) nilA)) (conM (.int 2))) (notM (isiM tbTuple tc_tuple (binM ixD (varM 0) (conM (.int 0))))))) (retM (conM (.bl false)))
    nxM)
    (seqM (asgM 3 (lcM [4] (seqI (binM ixD (varM 0) (conM (.int 0)))) (tgN 4) (notM (callN 1 m__law_is_line (consA (varM 4) nilA))) (varM 4)))
    (retM (andM (binM leD (bltM lenD (consA (binM ixD (varM 0) (conM (.int 0))) nilA)) (conM (.int 4))) (andM (binM eqD (varM 3) (lstM nilA)) (callN 3 m__law_is_end (consA (binM ixD (varM 0) (conM (.int 1))) (consA (varM 1) (consA (varM 2) nilA)))))))))
theorem sc__law_is_block : FnScope ["_law_value", "_law_u", "_law_n", "_law_bad", "_law_line"] ["_law_value", "_law_u", "_law_n"] (defScope s__law_is_block) := ⟨rfl, rfl, rfl, by decide +kernel, rfl, by decide +kernel, by decide +kernel⟩
theorem ok__law_is_block (c : Hd bk fn K mg) : ∃ fd, FnG P w K mg base (L2.CX P w) 4 (gA "_law_is_block" K) fd ["_law_value", "_law_u", "_law_n"] (spM K mg 3 m__law_is_block) ∧ Binds K fd ["_law_value", "_law_u", "_law_n"] [] ∧ fdV K (gA "_law_is_block" K) = some fd := by
  obtain ⟨fd, hfd, F⟩ := c.fnAt 20 (d := d__law_is_block)
  refine ⟨fd, fun_ok (k := 3) F sc__law_is_block rfl rfl fun cdv A outer s H E B hr => ?_, F.binds fun _ _ _ _ _ _ us hl => match us, hl with | [_, _, _], _ => rfl, hfd⟩
  have nd := sc__law_is_block.nd
  exact (ss_cons (s_if (pt_w (w_or (t_not (t_val (e_isB (isi_tuple c) (e_var 0) (c.free 13) (c.free 14) PyProof.Rows.boot_tuple (hT := e_ty (c.free 14) PyProof.Rows.boot_tuple)))) (w_or (t_cmp (op_neD hr.r.units) m_ne (e_blt m_len c_len (c.free 1) PySem.boot_len (a_cons (e_var 0) a_nil)) e_int) (w_or1 (t_not (t_val (e_isB (isi_tuple c) (e_ix (o_ix (room_v hr.r)) m_ix (e_var 0) e_int) (c.free 13) (c.free 14) PyProof.Rows.boot_tuple (hT := e_ty (c.free 14) PyProof.Rows.boot_tuple)))))))) (ss_one (s_ret e_bl))
      ss_nil)
      (ss_cons (s_setLcI (i := 3) (ow := [("_law_line", 4)]) rfl nd (i_seq (e_ix (o_ix (room_v hr.r)) m_ix (e_var 0) e_int)) (blkOk_by (N := ["_law_value", "_law_u", "_law_n", "_law_bad", "_law_line"]) (sc := (defScope s__law_is_block)) (by decide +kernel)) (fun _ _ _ _ _ => (g_name 4 nd)) (fun _ _ _ _ _ => (t_not (t_val (e_call (ok__law_is_line c).choose_spec.1 (hr.mono (by decide)) (c.glo 100) (c.keep 99) (ok__law_is_line c).choose_spec.2.1 takes0 (a_cons (e_var 4) a_nil))))) (fun _ _ _ _ _ => (e_var 4)))
      (ss_one (s_ret (e_and (e_cmp op_le m_le (e_blt m_len c_len (c.free 1) PySem.boot_len (a_cons (e_ix (o_ix (room_v hr.r)) m_ix (e_var 0) e_int) a_nil)) e_int) (e_and (e_cmp (op_eqD hr.r.units) m_eq (e_var 3) (e_lst a_nil)) (e_one (e_call (ok__law_is_end c).choose_spec.1 (hr.mono (by decide)) (c.glo 102) (c.keep 101) (ok__law_is_end c).choose_spec.2.1 (takes_of rfl rfl rfl rfl) (a_cons (e_ix (o_ix (room_v hr.r)) m_ix (e_var 0) e_int) (a_cons (e_var 1) (a_cons (e_var 2) a_nil)))))))))))
def m_Program_code : List Slot → RF := funM 1
    (retM (bltM listD (consA (fldM ["Program"] "listed" (varM 0)) nilA)))
theorem sc_Program_code : FnScope ["self"] ["self"] (defScope s_Program_code) := ⟨rfl, rfl, rfl, by decide +kernel, rfl, by decide +kernel, by decide +kernel⟩
theorem ok_Program_code (c : Hd bk fn K mg) : ∃ fd, FnG P w K mg base (L2.CX P w) 1 (pA "Program" "code" K) fd ["self"] (spM K mg 1 m_Program_code) ∧ Binds K fd ["self"] [] ∧ fdV K (pA "Program" "code" K) = some fd := by
  obtain ⟨fd, hfd, F⟩ := c.fnAt 21 (d := d_Program_code)
  refine ⟨fd, fun_ok (k := 0) F sc_Program_code rfl rfl fun cdv A outer s H E B hr => ?_, F.binds fun _ _ _ _ _ _ us hl => match us, hl with | [_], _ => rfl, hfd⟩
  have nd := sc_Program_code.nd
  exact (ss_one (s_ret (e_bty m_list call_list_of (c.free 2) PyProof.Rows.boot_list (a_cons (e_fld (fo_listed c) (e_var 0)) a_nil))))
def m_Program___eq__ : List Slot → RF := funM 2
    (retM (andM (isiM tbNo tc_Program (varM 1)) (binM eqD (fldM ["Program"] "listed" (varM 0)) (fldM ["Program"] "listed" (varM 1)))))
theorem sc_Program___eq__ : FnScope ["self", "other"] ["self", "other"] (defScope s_Program___eq__) := ⟨rfl, rfl, rfl, by decide +kernel, rfl, by decide +kernel, by decide +kernel⟩
theorem ok_Program___eq__ (c : Hd bk fn K mg) : ∃ fd, FnG P w K mg base (L2.CX P w) 1 (mA "Program" "__eq__" K) fd ["self", "other"] (spM K mg 2 m_Program___eq__) ∧ Binds K fd ["self", "other"] [] ∧ fdV K (mA "Program" "__eq__" K) = some fd := by
  obtain ⟨fd, hfd, F⟩ := c.fnAt 22 (d := d_Program___eq__)
  refine ⟨fd, fun_ok (k := 0) F sc_Program___eq__ rfl rfl fun cdv A outer s H E B hr => ?_, F.binds fun _ _ _ _ _ _ us hl => match us, hl with | [_, _], _ => rfl, hfd⟩
  have nd := sc_Program___eq__.nd
  exact (ss_one (s_ret (e_and (e_isO (isi_Program c) (e_var 1) (c.free 13) (hT := pe_glob (by rfl) (c.glo 12) (show RelV (V.ref (gA "Program" _)) (Value.ref (gA "Program" _)) from rfl))) (e_one (e_cmp (op_eqD hr.r.units) m_eq (e_fld (fo_listed c) (e_var 0)) (e_fld (fo_listed c) (e_var 1)))))))
def m_Routine___eq__ : List Slot → RF := funM 2
    (retM (andM (isiM tbNo tc_Routine (varM 1)) (andM (binM eqD (fldM ["Routine"] "blocks" (varM 0)) (fldM ["Routine"] "blocks" (varM 1))) (binM eqD (fldM ["Routine"] "rows" (varM 0)) (fldM ["Routine"] "rows" (varM 1))))))
theorem sc_Routine___eq__ : FnScope ["self", "other"] ["self", "other"] (defScope s_Routine___eq__) := ⟨rfl, rfl, rfl, by decide +kernel, rfl, by decide +kernel, by decide +kernel⟩
theorem ok_Routine___eq__ (c : Hd bk fn K mg) : ∃ fd, FnG P w K mg base (L2.CX P w) 1 (mA "Routine" "__eq__" K) fd ["self", "other"] (spM K mg 2 m_Routine___eq__) ∧ Binds K fd ["self", "other"] [] ∧ fdV K (mA "Routine" "__eq__" K) = some fd := by
  obtain ⟨fd, hfd, F⟩ := c.fnAt 23 (d := d_Routine___eq__)
  refine ⟨fd, fun_ok (k := 0) F sc_Routine___eq__ rfl rfl fun cdv A outer s H E B hr => ?_, F.binds fun _ _ _ _ _ _ us hl => match us, hl with | [_, _], _ => rfl, hfd⟩
  have nd := sc_Routine___eq__.nd
  exact (ss_one (s_ret (e_and (e_isO (isi_Routine c) (e_var 1) (c.free 13) (hT := pe_glob (by rfl) (c.glo 9) (show RelV (V.ref (gA "Routine" _)) (Value.ref (gA "Routine" _)) from rfl))) (e_and (e_cmp (op_eqD hr.r.units) m_eq (e_fld (fo_blocks c) (e_var 0)) (e_fld (fo_blocks c) (e_var 1))) (e_one (e_cmp (op_eqD hr.r.units) m_eq (e_fld (fo_rows c) (e_var 0)) (e_fld (fo_rows c) (e_var 1))))))))
def m__law_told_right : List Slot → RF := funM 10
    (seqM (asg2 1 2 (consA (bltM lenD (consA (varM 0) nilA)) (consA (bltM listD (consA (varM 0) nilA)) nilA)))
    (seqM (asgM 3 (callN 1 m__law_made (consA (varM 2) nilA)))
    (seqM (ifS (binM neD (bltM reprD (consA (varM 2) nilA)) (bltM reprD (consA (varM 0) nilA))) (retM (conM (.bl false)))
    nxM)
    (seqM (ifS (notM (chainM leD leD (conM (.int 2)) (varM 1) (conM (.int 40)))) (retM (andM (binM eqD (varM 3) (unM negD (conM (.int 1)))) (notM (isiM tbNo tc_Program (varM 3)))))
    nxM)
    (seqM (fgtS [6] (asgM 4 (lcM [6] (rng1 (consA (varM 1) nilA)) (tgN 6) (notM (callN 3 m__law_is_block (consA (binM ixD (varM 0) (varM 6)) (consA (varM 6) (consA (varM 1) nilA))))) (varM 6))))
    (seqM (ifS (binM neD (varM 4) (lstM nilA)) (retM (andM (notM (isiM tbNo tc_Program (varM 3))) (binM eqD (varM 3) (binM ixD (varM 4) (conM (.int 0))))))
    nxM)
    (seqM (ifS (orM (notM (isiM tbNo tc_Program (varM 3))) (binM neD (bltM reprD (consA (propL ["Program"] m_Program_code (varM 3)) nilA)) (bltM reprD (consA (varM 0) nilA)))) (retM (conM (.bl false)))
    nxM)
    (seqM (ifS (eqO ["Program"] m_Program___eq__ (fun t => !t) eqk_Program (varM 3) (makeN "Program" 1 m_Program___init__ (consA (varM 0) nilA))) (retM (conM (.bl false)))
    nxM)
    (seqM (asgM 5 (lstM nilA))
    (seqM (forM (rng1 (consA (varM 1) nilA)) (tgN 6)
    (seqM (asgM 7 (binM ixD (binM ixD (varM 0) (varM 6)) (conM (.int 1))))
    (seqM (asgM 8 (iteM (binM eqD (binM ixD (varM 7) (conM (.int 0))) (conM (.str "go"))) (lstM (consA (frzM (binM ixD (varM 7) (conM (.int 1)))) nilA)) (bltM listD (consA (slM (varM 7) (atO (conM (.int 4))) noO) nilA))))
    (asgM 5 (binM addD (varM 5) (lcM [9] (rng1 (consA (varM 1) nilA)) (tgN 9) (binM inD (varM 9) (varM 8)) (tupM (consA (frzM (varM 6)) (consA (frzM (varM 9)) nilA)))))))))
    (retM (eqO ["Routine"] m_Routine___eq__ id eqk_Routine (fldM ["Program"] "routine" (varM 3)) (makeN "Routine" 2 m_Routine___init__ (consA (varM 1) (consA (varM 5) nilA)))))))))))))))
theorem sc__law_told_right : FnScope ["_law_blocks", "_law_n", "_law_handed", "_law_told", "_law_bad", "_law_jumps", "_law_u", "_law_end", "_law_gone", "_law_v"] ["_law_blocks"] (defScope s__law_told_right) := ⟨rfl, rfl, rfl, by decide +kernel, rfl, by decide +kernel, by decide +kernel⟩
theorem ok__law_told_right (c : Hd bk fn K mg) : ∃ fd, FnG P w K mg base (L2.CX P w) 9 (gA "_law_told_right" K) fd ["_law_blocks"] (spM K mg 1 m__law_told_right) ∧ Binds K fd ["_law_blocks"] [] ∧ fdV K (gA "_law_told_right" K) = some fd := by
  obtain ⟨fd, hfd, F⟩ := c.fnAt 24 (d := d__law_told_right)
  refine ⟨fd, fun_ok (k := 8) F sc__law_told_right rfl rfl fun cdv A outer s H E B hr => ?_, F.binds fun _ _ _ _ _ _ us hl => match us, hl with | [_], _ => rfl, hfd⟩
  have nd := sc__law_told_right.nd
  exact (ss_cons (s_asg2T 1 2 rfl nd (a_cons (e_blt m_len c_len (c.free 1) PySem.boot_len (a_cons (e_var 0) a_nil)) (a_cons (e_bty m_list call_list_of (c.free 2) PyProof.Rows.boot_list (a_cons (e_var 0) a_nil)) a_nil)))
      (ss_cons (s_set 3 nd (e_call (ok__law_made c).choose_spec.1 (hr.mono (by decide)) (c.glo 82) (c.keep 81) (ok__law_made c).choose_spec.2.1 (takes_of rfl rfl rfl rfl) (a_cons (e_var 2) a_nil)))
      (ss_cons (s_if (t_cmp (op_neD hr.r.units) m_ne (e_blt m_repr (c_repr hr.g (room_u hr.r)) (c.free 83) PyProof.Rows.boot_repr (a_cons (e_var 2) a_nil)) (e_blt m_repr (c_repr hr.g (room_u hr.r)) (c.free 83) PyProof.Rows.boot_repr (a_cons (e_var 0) a_nil))) (ss_one (s_ret e_bl))
      ss_nil)
      (ss_cons (s_if (t_not (t_chain op_le m_le op_le m_le e_int (e_var 1) e_int)) (ss_one (s_ret (e_and (e_cmp (op_eqD hr.r.units) m_eq (e_var 3) (e_un un_neg m_neg e_int)) (e_one (e_not (e_isO (isi_Program c) (e_var 3) (c.free 13) (hT := pe_glob (by rfl) (c.glo 12) (show RelV (V.ref (gA "Program" _)) (Value.ref (gA "Program" _)) from rfl))))))))
      ss_nil)
      (ss_cons (s_fgt [6] (s_setLcI (i := 4) (ow := [("_law_u", 6)]) rfl nd (i_range1 (a_cons (e_var 1) a_nil) (by rfl) (c.free 0)) (blkOk_by (N := ["_law_blocks", "_law_n", "_law_handed", "_law_told", "_law_bad", "_law_jumps", "_law_u", "_law_end", "_law_gone", "_law_v"]) (sc := (defScope s__law_told_right)) (by decide +kernel)) (fun _ _ _ _ _ => (g_name 6 nd)) (fun _ _ _ _ _ => (t_not (t_val (e_call (ok__law_is_block c).choose_spec.1 (hr.mono (by decide)) (c.glo 104) (c.keep 103) (ok__law_is_block c).choose_spec.2.1 takes0 (a_cons (e_ix (o_ix (room_v hr.r)) m_ix (e_var 0) (e_var 6)) (a_cons (e_var 6) (a_cons (e_var 1) a_nil))))))) (fun _ _ _ _ _ => (e_var 6))))
      (ss_cons (s_if (t_cmp (op_neD hr.r.units) m_ne (e_var 4) (e_lst a_nil)) (ss_one (s_ret (e_and (e_not (e_isO (isi_Program c) (e_var 3) (c.free 13) (hT := pe_glob (by rfl) (c.glo 12) (show RelV (V.ref (gA "Program" _)) (Value.ref (gA "Program" _)) from rfl)))) (e_one (e_cmp (op_eqD hr.r.units) m_eq (e_var 3) (e_ix (o_ix (room_v hr.r)) m_ix (e_var 4) e_int))))))
      ss_nil)
      (ss_cons (s_if (pt_w (w_or (t_not (t_val (e_isO (isi_Program c) (e_var 3) (c.free 13) (hT := pe_glob (by rfl) (c.glo 12) (show RelV (V.ref (gA "Program" _)) (Value.ref (gA "Program" _)) from rfl))))) (w_or1 (t_cmp (op_neD hr.r.units) m_ne (e_blt m_repr (c_repr hr.g (room_u hr.r)) (c.free 83) PyProof.Rows.boot_repr (a_cons (e_prop (e_var 3) (c.cls 46) (c.prop 105) (ca_Program c).h (ok_Program_code c).choose_spec.1 (hr.mono (by decide)) (ok_Program_code c).choose_spec.2.1) a_nil)) (e_blt m_repr (c_repr hr.g (room_u hr.r)) (c.free 83) PyProof.Rows.boot_repr (a_cons (e_var 0) a_nil)))))) (ss_one (s_ret e_bl))
      ss_nil)
      (ss_cons (s_if (t_neO (c.meth 106) (c.ne 116).1 (c.ne 116).2 (ca_Program c) (eo_Program c) (ok_Program___eq__ c).choose_spec.1 (hr.mono (by decide)) (ok_Program___eq__ c).choose_spec.2.1 (e_var 3) (e_make (c.mkr 68) (ok_Program___init__ c).choose_spec.1 (hr.mono (by decide)) (c.glo 12) (ok_Program___init__ c).choose_spec.2.1 (takes_of rfl rfl rfl rfl) (a_cons (e_var 0) a_nil))) (ss_one (s_ret e_bl))
      ss_nil)
      (ss_cons (s_set 5 nd (e_lst a_nil))
      (ss_cons (s_for (passes_of rfl) rfl (i_range1 (a_cons (e_var 1) a_nil) (by rfl) (c.free 0)) (g_name 6 nd)
      (ss_cons (s_set 7 nd (e_ix (o_ix (room_v hr.r)) m_ix (e_ix (o_ix (room_v hr.r)) m_ix (e_var 0) (e_var 6)) e_int))
      (ss_cons (s_set 8 nd (e_ite (t_cmp (op_eqD hr.r.units) m_eq (e_ix (o_ix (room_v hr.r)) m_ix (e_var 7) e_int) e_str) (e_lst (a_cons (e_frz (e_ix (o_ix (room_v hr.r)) m_ix (e_var 7) e_int)) a_nil)) (e_bty m_list call_list_of (c.free 2) PyProof.Rows.boot_list (a_cons (e_sl (e_var 7) (o_at e_int) o_none) a_nil))))
      (ss_one (s_set 5 nd (e_bin o_add m_add (e_var 5) (e_lcI (ow := [("_law_v", 9)]) rfl nd (i_range1 (a_cons (e_var 1) a_nil) (by rfl) (c.free 0)) (blkOk_by (N := ["_law_blocks", "_law_n", "_law_handed", "_law_told", "_law_bad", "_law_jumps", "_law_u", "_law_end", "_law_gone", "_law_v"]) (sc := (defScope s__law_told_right)) (by decide +kernel)) (fun _ _ _ _ _ => (g_name 9 nd)) (fun _ _ _ _ _ => (t_cmp (o_in hr.r (room_u hr.r)) m_in (e_var 9) (e_var 8))) (fun _ _ _ _ _ => (e_tup (a_cons (e_frz (e_var 6)) (a_cons (e_frz (e_var 9)) a_nil)))))))))))
      (ss_one (s_ret (e_eqO (c.meth 126) (ca_Routine c) (eo_Routine c) (ok_Routine___eq__ c).choose_spec.1 (hr.mono (by decide)) (ok_Routine___eq__ c).choose_spec.2.1 (e_fld (fo_routine c) (e_var 3)) (e_make (c.mkr 66) (ok_Routine___init__ c).choose_spec.1 (hr.mono (by decide)) (c.glo 9) (ok_Routine___init__ c).choose_spec.2.1 (takes_of rfl rfl rfl rfl) (a_cons (e_var 1) (a_cons (e_var 5) a_nil))))))))))))))))
def m__law_feed : List Slot → RF := funM 5
    (seqM (asgM 2 (iteM (binM ltD (varM 1) (bltM lenD (consA (varM 0) nilA))) (binM ixD (varM 0) (varM 1)) (binM addD (binM mulD (conM (.int 61)) (varM 1)) (conM (.int 17)))))
    (seqM (asgM 3 (bltM maxD (consA (conM (.int 0)) (consA (binM subD (bltM absD (consA (varM 2) nilA)) (binM powD (conM (.int 10)) (conM (.int 18)))) nilA))))
    (seqM (asgM 4 (binM modD (bltM intD (consA (binM addD (binM addD (binM mulD (varM 2) (conM (.int 1181783497276652981))) (binM mulD (conM (.int 104729)) (varM 1))) (conM (.int 2862933555777941757))) nilA)) (conM (.int 2305843009213693951))))
    (retM (lstM (consA (frzM (varM 3)) (consA (frzM (varM 4)) nilA)))))))
theorem sc__law_feed : FnScope ["_law_script", "_law_k", "_law_cell", "_law_digits", "_law_state"] ["_law_script", "_law_k"] (defScope s__law_feed) := ⟨rfl, rfl, rfl, by decide +kernel, rfl, by decide +kernel, by decide +kernel⟩
theorem ok__law_feed (c : Hd bk fn K mg) : ∃ fd, FnG P w K mg base (L2.CX P w) 1 (gA "_law_feed" K) fd ["_law_script", "_law_k"] (spM K mg 2 m__law_feed) ∧ Binds K fd ["_law_script", "_law_k"] [] ∧ fdV K (gA "_law_feed" K) = some fd := by
  obtain ⟨fd, hfd, F⟩ := c.fnAt 25 (d := d__law_feed)
  refine ⟨fd, fun_ok (k := 0) F sc__law_feed rfl rfl fun cdv A outer s H E B hr => ?_, F.binds fun _ _ _ _ _ _ us hl => match us, hl with | [_, _], _ => rfl, hfd⟩
  have nd := sc__law_feed.nd
  exact (ss_cons (s_set 2 nd (e_ite (t_cmp op_lt m_lt (e_var 1) (e_blt m_len c_len (c.free 1) PySem.boot_len (a_cons (e_var 0) a_nil))) (e_ix (o_ix (room_v hr.r)) m_ix (e_var 0) (e_var 1)) (e_bin o_add m_add (e_bin o_mul m_mul e_int (e_var 1)) e_int)))
      (ss_cons (s_set 3 nd (e_blt m_max (call_max2 rfl) (c.free 139) PyProof.Rows.boot_max (a_cons e_int (a_cons (e_bin op_sub m_sub (e_blt m_abs call_abs (c.free 140) PyProof.Rows.boot_abs (a_cons (e_var 2) a_nil)) (e_bin op_pow m_pow e_int e_int)) a_nil))))
      (ss_cons (s_set 4 nd (e_bin op_mod m_mod (e_bty m_int call_int1 (c.free 24) PyProof.Rows.boot_int (a_cons (e_bin o_add m_add (e_bin o_add m_add (e_bin o_mul m_mul (e_var 2) e_int) (e_bin o_mul m_mul e_int (e_var 1))) e_int) a_nil)) e_int))
      (ss_one (s_ret (e_lst (a_cons (e_frz (e_var 3)) (a_cons (e_frz (e_var 4)) a_nil))))))))
def m__law_take : List Slot → RF := funM 3
    (seqM (ifS (binM gtD (binM ixD (varM 0) (conM (.int 0))) (conM (.int 0))) (seqM (asgM 2 (binM modD (bltM intD (consA (binM ixD (varM 0) (conM (.int 0))) nilA)) (varM 1)))
    (seqM (setI (varM 0) (conM (.int 0)) (binM fdivD (binM ixD (varM 0) (conM (.int 0))) (varM 1)))
    (retM (varM 2))))
    nxM)
    (seqM (setI (varM 0) (conM (.int 1)) (binM modD (bltM intD (consA (binM addD (binM mulD (binM ixD (varM 0) (conM (.int 1))) (conM (.int 1181783497276652981))) (conM (.int 2862933555777941757))) nilA)) (conM (.int 2305843009213693951))))
    (retM (binM modD (bltM intD (consA (binM fdivD (binM ixD (varM 0) (conM (.int 1))) (conM (.int 65536))) nilA)) (varM 1)))))
theorem sc__law_take : FnScope ["_law_feed_here", "_law_many", "_law_digit"] ["_law_feed_here", "_law_many"] (defScope s__law_take) := ⟨rfl, rfl, rfl, by decide +kernel, rfl, by decide +kernel, by decide +kernel⟩
theorem ok__law_take (c : Hd bk fn K mg) : ∃ fd, FnG P w K mg base (L2.CX P w) 1 (gA "_law_take" K) fd ["_law_feed_here", "_law_many"] (spM K mg 2 m__law_take) ∧ Binds K fd ["_law_feed_here", "_law_many"] [] ∧ fdV K (gA "_law_take" K) = some fd := by
  obtain ⟨fd, hfd, F⟩ := c.fnAt 26 (d := d__law_take)
  refine ⟨fd, fun_ok (k := 0) F sc__law_take rfl rfl fun cdv A outer s H E B hr => ?_, F.binds fun _ _ _ _ _ _ us hl => match us, hl with | [_, _], _ => rfl, hfd⟩
  have nd := sc__law_take.nd
  exact (ss_cons (s_if (t_cmp op_gt m_gt (e_ix (o_ix (room_v hr.r)) m_ix (e_var 0) e_int) e_int) (ss_cons (s_set 2 nd (e_bin op_mod m_mod (e_bty m_int call_int1 (c.free 24) PyProof.Rows.boot_int (a_cons (e_ix (o_ix (room_v hr.r)) m_ix (e_var 0) e_int) a_nil)) (e_var 1)))
      (ss_cons (s_setI (room_v hr.r) (e_var 0) e_int (e_bin op_fdivW m_fdiv (e_ix (o_ix (room_v hr.r)) m_ix (e_var 0) e_int) (e_var 1)))
      (ss_one (s_ret (e_var 2)))))
      ss_nil)
      (ss_cons (s_setI (room_v hr.r) (e_var 0) e_int (e_bin op_mod m_mod (e_bty m_int call_int1 (c.free 24) PyProof.Rows.boot_int (a_cons (e_bin o_add m_add (e_bin o_mul m_mul (e_ix (o_ix (room_v hr.r)) m_ix (e_var 0) e_int) e_int) e_int) a_nil)) e_int))
      (ss_one (s_ret (e_bin op_mod m_mod (e_bty m_int call_int1 (c.free 24) PyProof.Rows.boot_int (a_cons (e_bin op_fdivW m_fdiv (e_ix (o_ix (room_v hr.r)) m_ix (e_var 0) e_int) e_int) a_nil)) (e_var 1))))))
def m__law_pick : List Slot → RF := funM 2
    (retM (binM ixD (varM 1) (callN 2 m__law_take (consA (varM 0) (consA (bltM lenD (consA (varM 1) nilA)) nilA)))))
theorem sc__law_pick : FnScope ["_law_feed_here", "_law_some"] ["_law_feed_here", "_law_some"] (defScope s__law_pick) := ⟨rfl, rfl, rfl, by decide +kernel, rfl, by decide +kernel, by decide +kernel⟩
theorem ok__law_pick (c : Hd bk fn K mg) : ∃ fd, FnG P w K mg base (L2.CX P w) 2 (gA "_law_pick" K) fd ["_law_feed_here", "_law_some"] (spM K mg 2 m__law_pick) ∧ Binds K fd ["_law_feed_here", "_law_some"] [] ∧ fdV K (gA "_law_pick" K) = some fd := by
  obtain ⟨fd, hfd, F⟩ := c.fnAt 27 (d := d__law_pick)
  refine ⟨fd, fun_ok (k := 1) F sc__law_pick rfl rfl fun cdv A outer s H E B hr => ?_, F.binds fun _ _ _ _ _ _ us hl => match us, hl with | [_, _], _ => rfl, hfd⟩
  have nd := sc__law_pick.nd
  exact (ss_one (s_ret (e_ix (o_ix (room_v hr.r)) m_ix (e_var 1) (e_call (ok__law_take c).choose_spec.1 (hr.mono (by decide)) (c.glo 144) (c.keep 143) (ok__law_take c).choose_spec.2.1 (takes_of rfl rfl rfl rfl) (a_cons (e_var 0) (a_cons (e_blt m_len c_len (c.free 1) PySem.boot_len (a_cons (e_var 1) a_nil)) a_nil))))))
def m__law_operand : List Slot → RF := funM 2
    (seqM (asgM 1 (binM subD (binM powD (conM (.int 10)) (conM (.int 9))) (binM mulD (binM mulD (conM (.int 2)) (binM powD (conM (.int 10)) (conM (.int 9)))) (callN 2 m__law_take (consA (varM 0) (consA (conM (.int 2)) nilA))))))
    (retM (callN 2 m__law_pick (consA (varM 0) (consA (lstM (consA (conM (.str "a")) (consA (conM (.str "b")) (consA (conM (.str "c")) (consA (conM (.str "z")) (consA (binM subD (callN 2 m__law_take (consA (varM 0) (consA (conM (.int 7)) nilA))) (conM (.int 3))) (consA (binM subD (callN 2 m__law_take (consA (varM 0) (consA (conM (.int 7)) nilA))) (conM (.int 3))) (consA (frzM (varM 1)) nilA)))))))) nilA)))))
theorem sc__law_operand : FnScope ["_law_feed_here", "_law_great"] ["_law_feed_here"] (defScope s__law_operand) := ⟨rfl, rfl, rfl, by decide +kernel, rfl, by decide +kernel, by decide +kernel⟩
theorem ok__law_operand (c : Hd bk fn K mg) : ∃ fd, FnG P w K mg base (L2.CX P w) 3 (gA "_law_operand" K) fd ["_law_feed_here"] (spM K mg 1 m__law_operand) ∧ Binds K fd ["_law_feed_here"] [] ∧ fdV K (gA "_law_operand" K) = some fd := by
  obtain ⟨fd, hfd, F⟩ := c.fnAt 28 (d := d__law_operand)
  refine ⟨fd, fun_ok (k := 2) F sc__law_operand rfl rfl fun cdv A outer s H E B hr => ?_, F.binds fun _ _ _ _ _ _ us hl => match us, hl with | [_], _ => rfl, hfd⟩
  have nd := sc__law_operand.nd
  exact (ss_cons (s_set 1 nd (e_bin op_sub m_sub (e_bin op_pow m_pow e_int e_int) (e_bin o_mul m_mul (e_bin o_mul m_mul e_int (e_bin op_pow m_pow e_int e_int)) (e_call (ok__law_take c).choose_spec.1 (hr.mono (by decide)) (c.glo 144) (c.keep 143) (ok__law_take c).choose_spec.2.1 (takes_of rfl rfl rfl rfl) (a_cons (e_var 0) (a_cons e_int a_nil))))))
      (ss_one (s_ret (e_call (ok__law_pick c).choose_spec.1 (hr.mono (by decide)) (c.glo 146) (c.keep 145) (ok__law_pick c).choose_spec.2.1 (takes_of rfl rfl rfl rfl) (a_cons (e_var 0) (a_cons (e_lst (a_cons e_str (a_cons e_str (a_cons e_str (a_cons e_str (a_cons (e_bin op_sub m_sub (e_call (ok__law_take c).choose_spec.1 (hr.mono (by decide)) (c.glo 144) (c.keep 143) (ok__law_take c).choose_spec.2.1 (takes_of rfl rfl rfl rfl) (a_cons (e_var 0) (a_cons e_int a_nil))) e_int) (a_cons (e_bin op_sub m_sub (e_call (ok__law_take c).choose_spec.1 (hr.mono (by decide)) (c.glo 144) (c.keep 143) (ok__law_take c).choose_spec.2.1 (takes_of rfl rfl rfl rfl) (a_cons (e_var 0) (a_cons e_int a_nil))) e_int) (a_cons (e_frz (e_var 1)) a_nil)))))))) a_nil))))))
def m__law_lines : List Slot → RF := funM 5
    (seqM (asgM 1 (lstM nilA))
    (seqM (forM (rng1 (consA (callN 2 m__law_take (consA (varM 0) (consA (conM (.int 5)) nilA))) nilA)) (tgN 2)
    (seqM (asg2 3 4 (consA (callN 2 m__law_pick (consA (varM 0) (consA (lstM (consA (conM (.str "a")) (consA (conM (.str "b")) (consA (conM (.str "c")) (consA (conM (.str "z")) nilA))))) nilA))) (consA (callN 2 m__law_pick (consA (varM 0) (consA (lstM (consA (conM (.str "+")) (consA (conM (.str "-")) nilA))) nilA))) nilA)))
    (dropM (mutM isLst appG (varM 1) (consA (tupM (consA (frzM (varM 3)) (consA (frzM (callN 1 m__law_operand (consA (varM 0) nilA))) (consA (frzM (varM 4)) (consA (frzM (callN 1 m__law_operand (consA (varM 0) nilA))) nilA))))) nilA)))))
    (retM (bltM tupleD (consA (varM 1) nilA)))))
theorem sc__law_lines : FnScope ["_law_feed_here", "_law_found", "_law_turn", "_law_name", "_law_sign"] ["_law_feed_here"] (defScope s__law_lines) := ⟨rfl, rfl, rfl, by decide +kernel, rfl, by decide +kernel, by decide +kernel⟩
theorem ok__law_lines (c : Hd bk fn K mg) : ∃ fd, FnG P w K mg base (L2.CX P w) 4 (gA "_law_lines" K) fd ["_law_feed_here"] (spM K mg 1 m__law_lines) ∧ Binds K fd ["_law_feed_here"] [] ∧ fdV K (gA "_law_lines" K) = some fd := by
  obtain ⟨fd, hfd, F⟩ := c.fnAt 29 (d := d__law_lines)
  refine ⟨fd, fun_ok (k := 3) F sc__law_lines rfl rfl fun cdv A outer s H E B hr => ?_, F.binds fun _ _ _ _ _ _ us hl => match us, hl with | [_], _ => rfl, hfd⟩
  have nd := sc__law_lines.nd
  exact (ss_cons (s_set 1 nd (e_lst a_nil))
      (ss_cons (s_for (passes_of rfl) rfl (i_range1 (a_cons (e_call (ok__law_take c).choose_spec.1 (hr.mono (by decide)) (c.glo 144) (c.keep 143) (ok__law_take c).choose_spec.2.1 (takes_of rfl rfl rfl rfl) (a_cons (e_var 0) (a_cons e_int a_nil))) a_nil) (by rfl) (c.free 0)) (g_name 2 nd)
      (ss_cons (s_asg2 3 4 rfl nd (a_cons (e_call (ok__law_pick c).choose_spec.1 (hr.mono (by decide)) (c.glo 146) (c.keep 145) (ok__law_pick c).choose_spec.2.1 (takes_of rfl rfl rfl rfl) (a_cons (e_var 0) (a_cons (e_lst (a_cons e_str (a_cons e_str (a_cons e_str (a_cons e_str a_nil))))) a_nil))) (a_cons (e_call (ok__law_pick c).choose_spec.1 (hr.mono (by decide)) (c.glo 146) (c.keep 145) (ok__law_pick c).choose_spec.2.1 (takes_of rfl rfl rfl rfl) (a_cons (e_var 0) (a_cons (e_lst (a_cons e_str (a_cons e_str a_nil))) a_nil))) a_nil)))
      (ss_one (s_expr (e_mut m_app tyOk_lst PySem.F.plainAttrs_list PySem.F.slot_list_append PySem.F.type_list_append mt_append (e_var 1) (a_cons (e_tup (a_cons (e_frz (e_var 3)) (a_cons (e_frz (e_call (ok__law_operand c).choose_spec.1 (hr.mono (by decide)) (c.glo 148) (c.keep 147) (ok__law_operand c).choose_spec.2.1 (takes_of rfl rfl rfl rfl) (a_cons (e_var 0) a_nil))) (a_cons (e_frz (e_var 4)) (a_cons (e_frz (e_call (ok__law_operand c).choose_spec.1 (hr.mono (by decide)) (c.glo 148) (c.keep 147) (ok__law_operand c).choose_spec.2.1 (takes_of rfl rfl rfl rfl) (a_cons (e_var 0) a_nil))) a_nil))))) a_nil))))))
      (ss_one (s_ret (e_bty m_tuple call_tuple_of (c.free 14) PyProof.Rows.boot_tuple (a_cons (e_var 1) a_nil))))))
def m__law_code : List Slot → RF := funM 9
    (seqM (asgM 2 (lstM nilA))
    (seqM (forM (rng1 (consA (binM subD (varM 1) (conM (.int 1))) nilA)) (tgN 3)
    (seqM (asgM 4 (callN 1 m__law_lines (consA (varM 0) nilA)))
    (seqM (asgM 5 (binM addD (binM addD (varM 3) (conM (.int 1))) (callN 2 m__law_take (consA (varM 0) (consA (binM subD (binM subD (varM 1) (conM (.int 1))) (varM 3)) nilA)))))
    (seqM (asgM 6 (binM addD (binM addD (varM 3) (conM (.int 1))) (callN 2 m__law_take (consA (varM 0) (consA (binM subD (binM subD (varM 1) (conM (.int 1))) (varM 3)) nilA)))))
    (seqM (asgM 7 (tupM (consA (conM (.str "go")) (consA (frzM (varM 5)) nilA))))
    (seqM (ifS (andM (binM neD (varM 5) (varM 6)) (binM gtD (callN 2 m__law_take (consA (varM 0) (consA (conM (.int 5)) nilA))) (conM (.int 0)))) (seqM (asgM 8 (callN 2 m__law_pick (consA (varM 0) (consA (lstM (consA (conM (.str "<")) (consA (conM (.str "<")) (consA (conM (.str "==")) nilA)))) nilA))))
    (asgM 7 (tupM (consA (conM (.str "if")) (consA (frzM (callN 1 m__law_operand (consA (varM 0) nilA))) (consA (frzM (varM 8)) (consA (frzM (callN 1 m__law_operand (consA (varM 0) nilA))) (consA (frzM (varM 5)) (consA (frzM (varM 6)) nilA)))))))))
    nxM)
    (dropM (mutM isLst appG (varM 2) (consA (tupM (consA (frzM (varM 4)) (consA (frzM (varM 7)) nilA))) nilA)))))))))
    (retM (binM addD (varM 2) (lstM (consA (tupM (consA (frzM (callN 1 m__law_lines (consA (varM 0) nilA))) (consA (tupM (consA (conM (.str "stop")) nilA)) nilA))) nilA))))))
theorem sc__law_code : FnScope ["_law_feed_here", "_law_n", "_law_found", "_law_u", "_law_lines_here", "_law_v", "_law_w", "_law_end", "_law_test"] ["_law_feed_here", "_law_n"] (defScope s__law_code) := ⟨rfl, rfl, rfl, by decide +kernel, rfl, by decide +kernel, by decide +kernel⟩
theorem ok__law_code (c : Hd bk fn K mg) : ∃ fd, FnG P w K mg base (L2.CX P w) 5 (gA "_law_code" K) fd ["_law_feed_here", "_law_n"] (spM K mg 2 m__law_code) ∧ Binds K fd ["_law_feed_here", "_law_n"] [] ∧ fdV K (gA "_law_code" K) = some fd := by
  obtain ⟨fd, hfd, F⟩ := c.fnAt 30 (d := d__law_code)
  refine ⟨fd, fun_ok (k := 4) F sc__law_code rfl rfl fun cdv A outer s H E B hr => ?_, F.binds fun _ _ _ _ _ _ us hl => match us, hl with | [_, _], _ => rfl, hfd⟩
  have nd := sc__law_code.nd
  exact (ss_cons (s_set 2 nd (e_lst a_nil))
      (ss_cons (s_for (passes_of rfl) rfl (i_range1 (a_cons (e_bin op_sub m_sub (e_var 1) e_int) a_nil) (by rfl) (c.free 0)) (g_name 3 nd)
      (ss_cons (s_set 4 nd (e_call (ok__law_lines c).choose_spec.1 (hr.mono (by decide)) (c.glo 150) (c.keep 149) (ok__law_lines c).choose_spec.2.1 (takes_of rfl rfl rfl rfl) (a_cons (e_var 0) a_nil)))
      (ss_cons (s_set 5 nd (e_bin o_add m_add (e_bin o_add m_add (e_var 3) e_int) (e_call (ok__law_take c).choose_spec.1 (hr.mono (by decide)) (c.glo 144) (c.keep 143) (ok__law_take c).choose_spec.2.1 (takes_of rfl rfl rfl rfl) (a_cons (e_var 0) (a_cons (e_bin op_sub m_sub (e_bin op_sub m_sub (e_var 1) e_int) (e_var 3)) a_nil)))))
      (ss_cons (s_set 6 nd (e_bin o_add m_add (e_bin o_add m_add (e_var 3) e_int) (e_call (ok__law_take c).choose_spec.1 (hr.mono (by decide)) (c.glo 144) (c.keep 143) (ok__law_take c).choose_spec.2.1 (takes_of rfl rfl rfl rfl) (a_cons (e_var 0) (a_cons (e_bin op_sub m_sub (e_bin op_sub m_sub (e_var 1) e_int) (e_var 3)) a_nil)))))
      (ss_cons (s_set 7 nd (e_tup (a_cons e_str (a_cons (e_frz (e_var 5)) a_nil))))
      (ss_cons (s_if (pt_w (w_and (t_cmp (op_neD hr.r.units) m_ne (e_var 5) (e_var 6)) (w_and1 (t_cmp op_gt m_gt (e_call (ok__law_take c).choose_spec.1 (hr.mono (by decide)) (c.glo 144) (c.keep 143) (ok__law_take c).choose_spec.2.1 (takes_of rfl rfl rfl rfl) (a_cons (e_var 0) (a_cons e_int a_nil))) e_int)))) (ss_cons (s_set 8 nd (e_call (ok__law_pick c).choose_spec.1 (hr.mono (by decide)) (c.glo 146) (c.keep 145) (ok__law_pick c).choose_spec.2.1 (takes_of rfl rfl rfl rfl) (a_cons (e_var 0) (a_cons (e_lst (a_cons e_str (a_cons e_str (a_cons e_str a_nil)))) a_nil))))
      (ss_one (s_set 7 nd (e_tup (a_cons e_str (a_cons (e_frz (e_call (ok__law_operand c).choose_spec.1 (hr.mono (by decide)) (c.glo 148) (c.keep 147) (ok__law_operand c).choose_spec.2.1 (takes_of rfl rfl rfl rfl) (a_cons (e_var 0) a_nil))) (a_cons (e_frz (e_var 8)) (a_cons (e_frz (e_call (ok__law_operand c).choose_spec.1 (hr.mono (by decide)) (c.glo 148) (c.keep 147) (ok__law_operand c).choose_spec.2.1 (takes_of rfl rfl rfl rfl) (a_cons (e_var 0) a_nil))) (a_cons (e_frz (e_var 5)) (a_cons (e_frz (e_var 6)) a_nil))))))))))
      ss_nil)
      (ss_one (s_expr (e_mut m_app tyOk_lst PySem.F.plainAttrs_list PySem.F.slot_list_append PySem.F.type_list_append mt_append (e_var 2) (a_cons (e_tup (a_cons (e_frz (e_var 4)) (a_cons (e_frz (e_var 7)) a_nil))) a_nil))))))))))
      (ss_one (s_ret (e_bin o_add m_add (e_var 2) (e_lst (a_cons (e_tup (a_cons (e_frz (e_call (ok__law_lines c).choose_spec.1 (hr.mono (by decide)) (c.glo 150) (c.keep 149) (ok__law_lines c).choose_spec.2.1 (takes_of rfl rfl rfl rfl) (a_cons (e_var 0) a_nil))) (a_cons (e_tup (a_cons e_str a_nil)) a_nil))) a_nil)))))))
def m__law_odd_line : List Slot → RF := funM 2
    (seqM (asgM 1 (lstM (consA (tupM (consA (conM (.str "a")) (consA (conM (.int 1)) (consA (conM (.str "+")) (consA (conM (.int 1)) nilA))))) (consA (frzM (lstM (consA (conM (.str "a")) (consA (conM (.int 1)) (consA (conM (.str "+")) (consA (conM (.int 1)) nilA)))))) (consA (tupM (consA (conM (.str "a")) (consA (conM (.int 1)) (consA (conM (.str "+")) nilA)))) (consA (tupM (consA (conM (.str "a")) (consA (conM (.int 1)) (consA (conM (.str "*")) (consA (conM (.int 1)) nilA))))) (consA (tupM (consA (conM (.str "A")) (consA (conM (.int 1)) (consA (conM (.str "+")) (consA (conM (.int 1)) nilA))))) (consA (tupM (consA (conM (.str "ab")) (consA (conM (.int 1)) (consA (conM (.str "+")) (consA (conM (.int 1)) nilA))))) nilA))))))))
    (seqM (asgM 1 (binM addD (varM 1) (lstM (consA (tupM (consA (conM (.str "")) (consA (conM (.int 1)) (consA (conM (.str "+")) (consA (conM (.int 1)) nilA))))) (consA (tupM (consA (conM (.int 1)) (consA (conM (.int 1)) (consA (conM (.str "+")) (consA (conM (.int 1)) nilA))))) (consA (tupM (consA (conM (.str "a")) (consA (conM (.bl true)) (consA (conM (.str "+")) (consA (conM (.int 1)) nilA))))) (consA (tupM (consA (conM (.str "a")) (consA (frzM (binM addD (binM powD (conM (.int 10)) (conM (.int 9))) (conM (.int 1)))) (consA (conM (.str "+")) (consA (conM (.int 1)) nilA))))) (consA (conM .non) (consA (conM (.str "a")) (consA (tupM nilA) nilA))))))))))
    (seqM (asgM 1 (binM addD (varM 1) (lstM (consA (tupM (consA (conM (.str "a")) (consA (conM (.int 1)) (consA (conM (.str "+")) (consA (binM subD (unM negD (binM powD (conM (.int 10)) (conM (.int 9)))) (conM (.int 1))) nilA))))) (consA (tupM (consA (conM (.str "a")) (consA (conM .non) (consA (conM (.str "+")) (consA (conM (.int 1)) nilA))))) (consA (tupM (consA (conM (.str "a")) (consA (conM (.int 1)) (consA (conM (.str "+")) (consA (frzM (lstM (consA (conM (.int 1)) nilA))) nilA))))) (consA (tupM (consA (conM (.str "a")) (consA (conM (.str "B")) (consA (conM (.str "+")) (consA (conM (.int 1)) nilA))))) nilA)))))))
    (seqM (asgM 1 (binM addD (varM 1) (lstM (consA (tupM (consA (conM (.str "z")) (consA (binM powD (conM (.int 10)) (conM (.int 9))) (consA (conM (.str "-")) (consA (unM negD (binM powD (conM (.int 10)) (conM (.int 9)))) nilA))))) (consA (tupM (consA (conM (.str "a")) (consA (conM (.str "b")) (consA (conM (.str "-")) (consA (conM (.str "a")) nilA))))) nilA)))))
    (seqM (asgM 1 (binM addD (varM 1) (lstM (consA (tupM (consA (conM (.str "a")) (consA (conM (.int 1)) (consA (conM (.str "+-")) (consA (conM (.int 1)) nilA))))) (consA (tupM (consA (conM (.str "a")) (consA (conM (.int 1)) (consA (conM .non) (consA (conM (.int 1)) nilA))))) (consA (tupM (consA (conM (.str "a")) (consA (conM (.int 1)) (consA (frzM (lstM (consA (conM (.str "+")) nilA))) (consA (conM (.int 1)) nilA))))) (consA (tupM (consA (conM (.str "a")) (consA (conM (.int 1)) (consA (conM (.str "+")) (consA (conM (.int 1)) (consA (conM (.int 0)) nilA)))))) (consA (tupM (consA (conM (.str "a")) (consA (conM (.str "bc")) (consA (conM (.str "+")) (consA (conM (.int 1)) nilA))))) nilA))))))))
    (seqM (asgM 1 (binM addD (varM 1) (lstM (consA (tupM (consA (conM (.str "1")) (consA (conM (.int 1)) (consA (conM (.str "+")) (consA (conM (.int 1)) nilA))))) (consA (tupM (consA (conM (.str "_")) (consA (conM (.int 1)) (consA (conM (.str "+")) (consA (conM (.int 1)) nilA))))) (consA (tupM (consA (conM (.str " ")) (consA (conM (.int 1)) (consA (conM (.str "+")) (consA (conM (.int 1)) nilA))))) (consA (tupM (consA (conM (.str "a")) (consA (conM (.str "1")) (consA (conM (.str "+")) (consA (conM (.int 1)) nilA))))) (consA (tupM (consA (conM (.str "a")) (consA (conM (.int 1)) (consA (conM (.str "+")) (consA (conM (.str "B")) nilA))))) nilA))))))))
    (seqM (asgM 1 (binM addD (varM 1) (lstM (consA (tupM (consA (conM (.str "a")) (consA (conM (.int 1)) (consA (conM (.str "+")) (consA (conM (.bl true)) nilA))))) (consA (tupM (consA (conM (.str "a")) (consA (conM (.int 1)) (consA (conM (.str "+")) (consA (conM .non) nilA))))) (consA (tupM (consA (conM (.str "a")) (consA (conM (.int 1)) (consA (conM (.str "+")) (consA (conM (.str "ab")) nilA))))) (consA (tupM (consA (conM (.str "a")) (consA (conM (.int 1)) (consA (conM (.int 0)) (consA (conM (.int 1)) nilA))))) (consA (tupM (consA (conM (.str "s")) (consA (conM (.str "t")) (consA (conM (.str "-")) (consA (conM (.str "u")) nilA))))) nilA))))))))
    (retM (callN 2 m__law_pick (consA (varM 0) (consA (binM addD (varM 1) (lstM (consA (tupM (consA (conM (.str "a")) (consA (conM (.int 1)) (consA (conM (.str "")) (consA (conM (.int 1)) nilA))))) (consA (tupM (consA (conM (.str "a")) (consA (conM (.str "")) (consA (conM (.str "+")) (consA (conM (.int 1)) nilA))))) nilA)))) nilA)))))))))))
theorem sc__law_odd_line : FnScope ["_law_feed_here", "_law_some"] ["_law_feed_here"] (defScope s__law_odd_line) := ⟨rfl, rfl, rfl, by decide +kernel, rfl, by decide +kernel, by decide +kernel⟩
theorem ok__law_odd_line (c : Hd bk fn K mg) : ∃ fd, FnG P w K mg base (L2.CX P w) 3 (gA "_law_odd_line" K) fd ["_law_feed_here"] (spM K mg 1 m__law_odd_line) ∧ Binds K fd ["_law_feed_here"] [] ∧ fdV K (gA "_law_odd_line" K) = some fd := by
  obtain ⟨fd, hfd, F⟩ := c.fnAt 31 (d := d__law_odd_line)
  refine ⟨fd, fun_ok (k := 2) F sc__law_odd_line rfl rfl fun cdv A outer s H E B hr => ?_, F.binds fun _ _ _ _ _ _ us hl => match us, hl with | [_], _ => rfl, hfd⟩
  have nd := sc__law_odd_line.nd
  exact (ss_cons (s_set 1 nd (e_lst (a_cons (e_tup (a_cons e_str (a_cons e_int (a_cons e_str (a_cons e_int a_nil))))) (a_cons (e_frz (e_lst (a_cons e_str (a_cons e_int (a_cons e_str (a_cons e_int a_nil)))))) (a_cons (e_tup (a_cons e_str (a_cons e_int (a_cons e_str a_nil)))) (a_cons (e_tup (a_cons e_str (a_cons e_int (a_cons e_str (a_cons e_int a_nil))))) (a_cons (e_tup (a_cons e_str (a_cons e_int (a_cons e_str (a_cons e_int a_nil))))) (a_cons (e_tup (a_cons e_str (a_cons e_int (a_cons e_str (a_cons e_int a_nil))))) a_nil))))))))
      (ss_cons (s_set 1 nd (e_bin o_add m_add (e_var 1) (e_lst (a_cons (e_tup (a_cons e_str (a_cons e_int (a_cons e_str (a_cons e_int a_nil))))) (a_cons (e_tup (a_cons e_int (a_cons e_int (a_cons e_str (a_cons e_int a_nil))))) (a_cons (e_tup (a_cons e_str (a_cons e_bl (a_cons e_str (a_cons e_int a_nil))))) (a_cons (e_tup (a_cons e_str (a_cons (e_frz (e_bin o_add m_add (e_bin op_pow m_pow e_int e_int) e_int)) (a_cons e_str (a_cons e_int a_nil))))) (a_cons e_non (a_cons e_str (a_cons (e_tup a_nil) a_nil))))))))))
      (ss_cons (s_set 1 nd (e_bin o_add m_add (e_var 1) (e_lst (a_cons (e_tup (a_cons e_str (a_cons e_int (a_cons e_str (a_cons (e_bin op_sub m_sub (e_un un_neg m_neg (e_bin op_pow m_pow e_int e_int)) e_int) a_nil))))) (a_cons (e_tup (a_cons e_str (a_cons e_non (a_cons e_str (a_cons e_int a_nil))))) (a_cons (e_tup (a_cons e_str (a_cons e_int (a_cons e_str (a_cons (e_frz (e_lst (a_cons e_int a_nil))) a_nil))))) (a_cons (e_tup (a_cons e_str (a_cons e_str (a_cons e_str (a_cons e_int a_nil))))) a_nil)))))))
      (ss_cons (s_set 1 nd (e_bin o_add m_add (e_var 1) (e_lst (a_cons (e_tup (a_cons e_str (a_cons (e_bin op_pow m_pow e_int e_int) (a_cons e_str (a_cons (e_un un_neg m_neg (e_bin op_pow m_pow e_int e_int)) a_nil))))) (a_cons (e_tup (a_cons e_str (a_cons e_str (a_cons e_str (a_cons e_str a_nil))))) a_nil)))))
      (ss_cons (s_set 1 nd (e_bin o_add m_add (e_var 1) (e_lst (a_cons (e_tup (a_cons e_str (a_cons e_int (a_cons e_str (a_cons e_int a_nil))))) (a_cons (e_tup (a_cons e_str (a_cons e_int (a_cons e_non (a_cons e_int a_nil))))) (a_cons (e_tup (a_cons e_str (a_cons e_int (a_cons (e_frz (e_lst (a_cons e_str a_nil))) (a_cons e_int a_nil))))) (a_cons (e_tup (a_cons e_str (a_cons e_int (a_cons e_str (a_cons e_int (a_cons e_int a_nil)))))) (a_cons (e_tup (a_cons e_str (a_cons e_str (a_cons e_str (a_cons e_int a_nil))))) a_nil))))))))
      (ss_cons (s_set 1 nd (e_bin o_add m_add (e_var 1) (e_lst (a_cons (e_tup (a_cons e_str (a_cons e_int (a_cons e_str (a_cons e_int a_nil))))) (a_cons (e_tup (a_cons e_str (a_cons e_int (a_cons e_str (a_cons e_int a_nil))))) (a_cons (e_tup (a_cons e_str (a_cons e_int (a_cons e_str (a_cons e_int a_nil))))) (a_cons (e_tup (a_cons e_str (a_cons e_str (a_cons e_str (a_cons e_int a_nil))))) (a_cons (e_tup (a_cons e_str (a_cons e_int (a_cons e_str (a_cons e_str a_nil))))) a_nil))))))))
      (ss_cons (s_set 1 nd (e_bin o_add m_add (e_var 1) (e_lst (a_cons (e_tup (a_cons e_str (a_cons e_int (a_cons e_str (a_cons e_bl a_nil))))) (a_cons (e_tup (a_cons e_str (a_cons e_int (a_cons e_str (a_cons e_non a_nil))))) (a_cons (e_tup (a_cons e_str (a_cons e_int (a_cons e_str (a_cons e_str a_nil))))) (a_cons (e_tup (a_cons e_str (a_cons e_int (a_cons e_int (a_cons e_int a_nil))))) (a_cons (e_tup (a_cons e_str (a_cons e_str (a_cons e_str (a_cons e_str a_nil))))) a_nil))))))))
      (ss_one (s_ret (e_call (ok__law_pick c).choose_spec.1 (hr.mono (by decide)) (c.glo 146) (c.keep 145) (ok__law_pick c).choose_spec.2.1 (takes_of rfl rfl rfl rfl) (a_cons (e_var 0) (a_cons (e_bin o_add m_add (e_var 1) (e_lst (a_cons (e_tup (a_cons e_str (a_cons e_int (a_cons e_str (a_cons e_int a_nil))))) (a_cons (e_tup (a_cons e_str (a_cons e_str (a_cons e_str (a_cons e_int a_nil))))) a_nil)))) a_nil))))))))))))
def m__law_odd_end : List Slot → RF := funM 8
    (seqM (asgM 3 (binM subD (varM 2) (conM (.int 1))))
    (seqM (asgM 4 (lstM (consA (tupM (consA (conM (.str "stop")) nilA)) (consA (tupM (consA (conM (.str "go")) nilA)) (consA (tupM (consA (conM (.str "go")) (consA (frzM (varM 1)) nilA))) (consA (tupM (consA (conM (.str "go")) (consA (frzM (binM addD (varM 1) (conM (.int 1)))) nilA))) (consA (tupM (consA (conM (.str "go")) (consA (frzM (varM 2)) nilA))) (consA (tupM (consA (conM (.str "go")) (consA (conM (.bl true)) nilA))) (consA (conM .non) (consA (tupM nilA) nilA))))))))))
    (seqM (asgM 4 (binM addD (varM 4) (lstM (consA (tupM (consA (conM (.str "go")) (consA (frzM (binM addD (varM 1) (conM (.int 1)))) (consA (conM (.int 0)) nilA)))) (consA (frzM (lstM (consA (conM (.str "go")) (consA (frzM (binM addD (varM 1) (conM (.int 1)))) nilA)))) (consA (tupM (consA (conM (.str "jump")) (consA (frzM (binM addD (varM 1) (conM (.int 1)))) nilA))) (consA (conM (.str "stop")) (consA (frzM (lstM (consA (conM (.str "stop")) nilA))) (consA (tupM (consA (conM (.str "stop")) (consA (conM (.int 0)) nilA))) nilA)))))))))
    (seqM (asgM 4 (binM addD (varM 4) (lstM (consA (tupM (consA (conM (.str "if")) (consA (conM (.str "a")) (consA (conM (.str "<")) (consA (conM (.int 0)) (consA (frzM (binM addD (varM 1) (conM (.int 1)))) (consA (frzM (binM addD (varM 1) (conM (.int 1)))) nilA))))))) (consA (tupM (consA (conM (.str "if")) (consA (conM (.str "a")) (consA (conM (.str "<")) (consA (conM (.int 0)) (consA (frzM (binM addD (varM 1) (conM (.int 1)))) (consA (frzM (varM 3)) nilA))))))) nilA)))))
    (seqM (asgM 4 (binM addD (varM 4) (lstM (consA (tupM (consA (conM (.str "if")) (consA (conM (.str "a")) (consA (conM (.str ">")) (consA (conM (.int 0)) (consA (frzM (binM addD (varM 1) (conM (.int 1)))) (consA (frzM (varM 3)) nilA))))))) (consA (tupM (consA (conM (.str "if")) (consA (conM (.str "a")) (consA (conM (.str "==")) (consA (conM .non) (consA (frzM (binM addD (varM 1) (conM (.int 1)))) (consA (frzM (varM 3)) nilA))))))) nilA)))))
    (seqM (asgM 4 (binM addD (varM 4) (lstM (consA (tupM (consA (conM (.str "if")) (consA (conM (.str "a")) (consA (conM (.str "<")) (consA (conM (.int 0)) (consA (frzM (varM 3)) (consA (frzM (varM 1)) nilA))))))) (consA (tupM (consA (conM (.str "if")) (consA (conM (.str "a")) (consA (conM (.str "<")) (consA (conM (.int 0)) (consA (frzM (varM 3)) nilA)))))) nilA)))))
    (seqM (asgM 4 (binM addD (varM 4) (lstM (consA (tupM (consA (conM (.str "if")) (consA (conM (.bl true)) (consA (conM (.str "<")) (consA (conM (.int 0)) (consA (frzM (binM addD (varM 1) (conM (.int 1)))) (consA (frzM (varM 3)) nilA))))))) nilA))))
    (seqM (asgM 4 (binM addD (varM 4) (lstM (consA (tupM (consA (conM (.str "if")) (consA (conM (.str "a")) (consA (conM (.str "==")) (consA (binM powD (conM (.int 10)) (conM (.int 9))) (consA (frzM (varM 3)) (consA (frzM (binM addD (varM 1) (conM (.int 1)))) nilA))))))) (consA (tupM (consA (conM (.str "go")) (consA (frzM (varM 3)) nilA))) nilA)))))
    (seqM (asgM 5 (callN 2 m__law_pick (consA (varM 0) (consA (lstM (consA (conM .non) (consA (conM (.bl true)) (consA (conM (.str "")) (consA (conM (.str "B")) (consA (conM (.str "ab")) (consA (frzM (lstM (consA (conM (.int 0)) nilA))) (consA (tupM (consA (conM (.int 0)) nilA)) (consA (frzM (binM addD (binM powD (conM (.int 10)) (conM (.int 9))) (conM (.int 1)))) (consA (binM subD (unM negD (binM powD (conM (.int 10)) (conM (.int 9)))) (conM (.int 1))) (consA (conM (.str "_")) nilA))))))))))) nilA))))
    (seqM (asgM 4 (binM addD (varM 4) (lstM (consA (tupM (consA (conM (.str "if")) (consA (frzM (varM 5)) (consA (conM (.str "<")) (consA (conM (.int 0)) (consA (frzM (binM addD (varM 1) (conM (.int 1)))) (consA (frzM (varM 3)) nilA))))))) (consA (tupM (consA (conM (.str "if")) (consA (conM (.str "a")) (consA (conM (.str "<")) (consA (frzM (varM 5)) (consA (frzM (binM addD (varM 1) (conM (.int 1)))) (consA (frzM (varM 3)) nilA))))))) nilA)))))
    (seqM (asgM 4 (binM addD (varM 4) (lstM (consA (tupM (consA (conM (.str "if")) (consA (frzM (varM 5)) (consA (conM (.str "==")) (consA (conM (.int 0)) (consA (frzM (varM 3)) (consA (frzM (binM addD (varM 1) (conM (.int 1)))) nilA))))))) nilA))))
    (seqM (asgM 6 (callN 2 m__law_pick (consA (varM 0) (consA (lstM (consA (conM (.str "<=")) (consA (conM (.str "=")) (consA (conM (.str "")) (consA (conM (.str "!=")) (consA (conM .non) (consA (conM (.int 0)) (consA (frzM (lstM (consA (conM (.str "<")) nilA))) (consA (conM (.str "<<")) nilA))))))))) nilA))))
    (seqM (asgM 4 (binM addD (varM 4) (lstM (consA (tupM (consA (conM (.str "if")) (consA (conM (.str "a")) (consA (frzM (varM 6)) (consA (conM (.int 0)) (consA (frzM (binM addD (varM 1) (conM (.int 1)))) (consA (frzM (varM 3)) nilA))))))) (consA (tupM (consA (conM (.str "if")) (consA (conM (.str "a")) (consA (conM (.str "<")) (consA (conM (.int 0)) (consA (frzM (binM addD (varM 1) (conM (.int 1)))) (consA (frzM (varM 3)) (consA (frzM (varM 3)) nilA)))))))) nilA)))))
    (seqM (asgM 7 (callN 2 m__law_pick (consA (varM 0) (consA (lstM (consA (conM (.str "go")) (consA (conM (.str "iff")) (consA (conM .non) (consA (conM (.str "unless")) (consA (conM (.str "stop")) nilA)))))) nilA))))
    (seqM (asgM 4 (binM addD (varM 4) (lstM (consA (tupM (consA (frzM (varM 7)) (consA (conM (.str "a")) (consA (conM (.str "<")) (consA (conM (.int 0)) (consA (frzM (binM addD (varM 1) (conM (.int 1)))) (consA (frzM (varM 3)) nilA))))))) (consA (tupM (consA (conM (.str "if")) (consA (conM (.str "a")) (consA (conM (.str "<")) (consA (conM (.int 0)) (consA (frzM (varM 1)) (consA (frzM (varM 3)) nilA))))))) (consA (tupM (consA (conM (.str "if")) (consA (conM (.str "a")) (consA (conM (.str "<")) (consA (conM (.int 0)) (consA (frzM (varM 2)) (consA (frzM (binM addD (varM 1) (conM (.int 1)))) nilA))))))) nilA))))))
    (seqM (asgM 4 (binM addD (varM 4) (lstM (consA (tupM (consA (conM (.str "if")) (consA (conM (.str "a")) (consA (conM (.str "<")) (consA (conM (.int 0)) (consA (frzM (binM addD (varM 1) (conM (.int 1)))) (consA (frzM (varM 2)) nilA))))))) (consA (tupM (consA (conM (.str "if")) (consA (conM (.str "a")) (consA (conM (.str "==")) (consA (conM (.int 0)) (consA (conM .non) (consA (frzM (varM 3)) nilA))))))) (consA (tupM (consA (conM (.str "if")) (consA (conM (.str "a")) (consA (conM (.str "<")) (consA (conM (.int 0)) (consA (conM (.bl true)) (consA (frzM (varM 3)) nilA))))))) nilA))))))
    (seqM (asgM 4 (binM addD (varM 4) (lstM (consA (tupM (consA (conM (.str "if")) (consA (conM (.str "a")) (consA (conM (.str "<")) (consA (conM (.int 0)) (consA (frzM (varM 3)) (consA (conM (.str "1")) nilA))))))) (consA (tupM (consA (conM (.str "go")) (consA (conM .non) nilA))) (consA (tupM (consA (conM (.str "go")) (consA (conM (.str "1")) nilA))) (consA (tupM (consA (conM (.str "if")) (consA (conM (.str "a")) (consA (conM (.str "<")) (consA (conM (.int 0)) (consA (conM (.int 0)) (consA (frzM (varM 3)) nilA))))))) nilA)))))))
    (retM (callN 2 m__law_pick (consA (varM 0) (consA (binM addD (varM 4) (lstM (consA (tupM (consA (conM (.str "if")) (consA (conM (.str "aa")) (consA (conM (.str "<")) (consA (conM (.int 0)) (consA (frzM (binM addD (varM 1) (conM (.int 1)))) (consA (frzM (varM 3)) nilA))))))) nilA))) nilA)))))))))))))))))))))
theorem sc__law_odd_end : FnScope ["_law_feed_here", "_law_u", "_law_n", "_law_last", "_law_some", "_law_odd_here", "_law_test", "_law_word"] ["_law_feed_here", "_law_u", "_law_n"] (defScope s__law_odd_end) := ⟨rfl, rfl, rfl, by decide +kernel, rfl, by decide +kernel, by decide +kernel⟩
theorem ok__law_odd_end (c : Hd bk fn K mg) : ∃ fd, FnG P w K mg base (L2.CX P w) 3 (gA "_law_odd_end" K) fd ["_law_feed_here", "_law_u", "_law_n"] (spM K mg 3 m__law_odd_end) ∧ Binds K fd ["_law_feed_here", "_law_u", "_law_n"] [] ∧ fdV K (gA "_law_odd_end" K) = some fd := by
  obtain ⟨fd, hfd, F⟩ := c.fnAt 32 (d := d__law_odd_end)
  refine ⟨fd, fun_ok (k := 2) F sc__law_odd_end rfl rfl fun cdv A outer s H E B hr => ?_, F.binds fun _ _ _ _ _ _ us hl => match us, hl with | [_, _, _], _ => rfl, hfd⟩
  have nd := sc__law_odd_end.nd
  exact (ss_cons (s_set 3 nd (e_bin op_sub m_sub (e_var 2) e_int))
      (ss_cons (s_set 4 nd (e_lst (a_cons (e_tup (a_cons e_str a_nil)) (a_cons (e_tup (a_cons e_str a_nil)) (a_cons (e_tup (a_cons e_str (a_cons (e_frz (e_var 1)) a_nil))) (a_cons (e_tup (a_cons e_str (a_cons (e_frz (e_bin o_add m_add (e_var 1) e_int)) a_nil))) (a_cons (e_tup (a_cons e_str (a_cons (e_frz (e_var 2)) a_nil))) (a_cons (e_tup (a_cons e_str (a_cons e_bl a_nil))) (a_cons e_non (a_cons (e_tup a_nil) a_nil))))))))))
      (ss_cons (s_set 4 nd (e_bin o_add m_add (e_var 4) (e_lst (a_cons (e_tup (a_cons e_str (a_cons (e_frz (e_bin o_add m_add (e_var 1) e_int)) (a_cons e_int a_nil)))) (a_cons (e_frz (e_lst (a_cons e_str (a_cons (e_frz (e_bin o_add m_add (e_var 1) e_int)) a_nil)))) (a_cons (e_tup (a_cons e_str (a_cons (e_frz (e_bin o_add m_add (e_var 1) e_int)) a_nil))) (a_cons e_str (a_cons (e_frz (e_lst (a_cons e_str a_nil))) (a_cons (e_tup (a_cons e_str (a_cons e_int a_nil))) a_nil)))))))))
      (ss_cons (s_set 4 nd (e_bin o_add m_add (e_var 4) (e_lst (a_cons (e_tup (a_cons e_str (a_cons e_str (a_cons e_str (a_cons e_int (a_cons (e_frz (e_bin o_add m_add (e_var 1) e_int)) (a_cons (e_frz (e_bin o_add m_add (e_var 1) e_int)) a_nil))))))) (a_cons (e_tup (a_cons e_str (a_cons e_str (a_cons e_str (a_cons e_int (a_cons (e_frz (e_bin o_add m_add (e_var 1) e_int)) (a_cons (e_frz (e_var 3)) a_nil))))))) a_nil)))))
      (ss_cons (s_set 4 nd (e_bin o_add m_add (e_var 4) (e_lst (a_cons (e_tup (a_cons e_str (a_cons e_str (a_cons e_str (a_cons e_int (a_cons (e_frz (e_bin o_add m_add (e_var 1) e_int)) (a_cons (e_frz (e_var 3)) a_nil))))))) (a_cons (e_tup (a_cons e_str (a_cons e_str (a_cons e_str (a_cons e_non (a_cons (e_frz (e_bin o_add m_add (e_var 1) e_int)) (a_cons (e_frz (e_var 3)) a_nil))))))) a_nil)))))
      (ss_cons (s_set 4 nd (e_bin o_add m_add (e_var 4) (e_lst (a_cons (e_tup (a_cons e_str (a_cons e_str (a_cons e_str (a_cons e_int (a_cons (e_frz (e_var 3)) (a_cons (e_frz (e_var 1)) a_nil))))))) (a_cons (e_tup (a_cons e_str (a_cons e_str (a_cons e_str (a_cons e_int (a_cons (e_frz (e_var 3)) a_nil)))))) a_nil)))))
      (ss_cons (s_set 4 nd (e_bin o_add m_add (e_var 4) (e_lst (a_cons (e_tup (a_cons e_str (a_cons e_bl (a_cons e_str (a_cons e_int (a_cons (e_frz (e_bin o_add m_add (e_var 1) e_int)) (a_cons (e_frz (e_var 3)) a_nil))))))) a_nil))))
      (ss_cons (s_set 4 nd (e_bin o_add m_add (e_var 4) (e_lst (a_cons (e_tup (a_cons e_str (a_cons e_str (a_cons e_str (a_cons (e_bin op_pow m_pow e_int e_int) (a_cons (e_frz (e_var 3)) (a_cons (e_frz (e_bin o_add m_add (e_var 1) e_int)) a_nil))))))) (a_cons (e_tup (a_cons e_str (a_cons (e_frz (e_var 3)) a_nil))) a_nil)))))
      (ss_cons (s_set 5 nd (e_call (ok__law_pick c).choose_spec.1 (hr.mono (by decide)) (c.glo 146) (c.keep 145) (ok__law_pick c).choose_spec.2.1 (takes_of rfl rfl rfl rfl) (a_cons (e_var 0) (a_cons (e_lst (a_cons e_non (a_cons e_bl (a_cons e_str (a_cons e_str (a_cons e_str (a_cons (e_frz (e_lst (a_cons e_int a_nil))) (a_cons (e_tup (a_cons e_int a_nil)) (a_cons (e_frz (e_bin o_add m_add (e_bin op_pow m_pow e_int e_int) e_int)) (a_cons (e_bin op_sub m_sub (e_un un_neg m_neg (e_bin op_pow m_pow e_int e_int)) e_int) (a_cons e_str a_nil))))))))))) a_nil))))
      (ss_cons (s_set 4 nd (e_bin o_add m_add (e_var 4) (e_lst (a_cons (e_tup (a_cons e_str (a_cons (e_frz (e_var 5)) (a_cons e_str (a_cons e_int (a_cons (e_frz (e_bin o_add m_add (e_var 1) e_int)) (a_cons (e_frz (e_var 3)) a_nil))))))) (a_cons (e_tup (a_cons e_str (a_cons e_str (a_cons e_str (a_cons (e_frz (e_var 5)) (a_cons (e_frz (e_bin o_add m_add (e_var 1) e_int)) (a_cons (e_frz (e_var 3)) a_nil))))))) a_nil)))))
      (ss_cons (s_set 4 nd (e_bin o_add m_add (e_var 4) (e_lst (a_cons (e_tup (a_cons e_str (a_cons (e_frz (e_var 5)) (a_cons e_str (a_cons e_int (a_cons (e_frz (e_var 3)) (a_cons (e_frz (e_bin o_add m_add (e_var 1) e_int)) a_nil))))))) a_nil))))
      (ss_cons (s_set 6 nd (e_call (ok__law_pick c).choose_spec.1 (hr.mono (by decide)) (c.glo 146) (c.keep 145) (ok__law_pick c).choose_spec.2.1 (takes_of rfl rfl rfl rfl) (a_cons (e_var 0) (a_cons (e_lst (a_cons e_str (a_cons e_str (a_cons e_str (a_cons e_str (a_cons e_non (a_cons e_int (a_cons (e_frz (e_lst (a_cons e_str a_nil))) (a_cons e_str a_nil))))))))) a_nil))))
      (ss_cons (s_set 4 nd (e_bin o_add m_add (e_var 4) (e_lst (a_cons (e_tup (a_cons e_str (a_cons e_str (a_cons (e_frz (e_var 6)) (a_cons e_int (a_cons (e_frz (e_bin o_add m_add (e_var 1) e_int)) (a_cons (e_frz (e_var 3)) a_nil))))))) (a_cons (e_tup (a_cons e_str (a_cons e_str (a_cons e_str (a_cons e_int (a_cons (e_frz (e_bin o_add m_add (e_var 1) e_int)) (a_cons (e_frz (e_var 3)) (a_cons (e_frz (e_var 3)) a_nil)))))))) a_nil)))))
      (ss_cons (s_set 7 nd (e_call (ok__law_pick c).choose_spec.1 (hr.mono (by decide)) (c.glo 146) (c.keep 145) (ok__law_pick c).choose_spec.2.1 (takes_of rfl rfl rfl rfl) (a_cons (e_var 0) (a_cons (e_lst (a_cons e_str (a_cons e_str (a_cons e_non (a_cons e_str (a_cons e_str a_nil)))))) a_nil))))
      (ss_cons (s_set 4 nd (e_bin o_add m_add (e_var 4) (e_lst (a_cons (e_tup (a_cons (e_frz (e_var 7)) (a_cons e_str (a_cons e_str (a_cons e_int (a_cons (e_frz (e_bin o_add m_add (e_var 1) e_int)) (a_cons (e_frz (e_var 3)) a_nil))))))) (a_cons (e_tup (a_cons e_str (a_cons e_str (a_cons e_str (a_cons e_int (a_cons (e_frz (e_var 1)) (a_cons (e_frz (e_var 3)) a_nil))))))) (a_cons (e_tup (a_cons e_str (a_cons e_str (a_cons e_str (a_cons e_int (a_cons (e_frz (e_var 2)) (a_cons (e_frz (e_bin o_add m_add (e_var 1) e_int)) a_nil))))))) a_nil))))))
      (ss_cons (s_set 4 nd (e_bin o_add m_add (e_var 4) (e_lst (a_cons (e_tup (a_cons e_str (a_cons e_str (a_cons e_str (a_cons e_int (a_cons (e_frz (e_bin o_add m_add (e_var 1) e_int)) (a_cons (e_frz (e_var 2)) a_nil))))))) (a_cons (e_tup (a_cons e_str (a_cons e_str (a_cons e_str (a_cons e_int (a_cons e_non (a_cons (e_frz (e_var 3)) a_nil))))))) (a_cons (e_tup (a_cons e_str (a_cons e_str (a_cons e_str (a_cons e_int (a_cons e_bl (a_cons (e_frz (e_var 3)) a_nil))))))) a_nil))))))
      (ss_cons (s_set 4 nd (e_bin o_add m_add (e_var 4) (e_lst (a_cons (e_tup (a_cons e_str (a_cons e_str (a_cons e_str (a_cons e_int (a_cons (e_frz (e_var 3)) (a_cons e_str a_nil))))))) (a_cons (e_tup (a_cons e_str (a_cons e_non a_nil))) (a_cons (e_tup (a_cons e_str (a_cons e_str a_nil))) (a_cons (e_tup (a_cons e_str (a_cons e_str (a_cons e_str (a_cons e_int (a_cons e_int (a_cons (e_frz (e_var 3)) a_nil))))))) a_nil)))))))
      (ss_one (s_ret (e_call (ok__law_pick c).choose_spec.1 (hr.mono (by decide)) (c.glo 146) (c.keep 145) (ok__law_pick c).choose_spec.2.1 (takes_of rfl rfl rfl rfl) (a_cons (e_var 0) (a_cons (e_bin o_add m_add (e_var 4) (e_lst (a_cons (e_tup (a_cons e_str (a_cons e_str (a_cons e_str (a_cons e_int (a_cons (e_frz (e_bin o_add m_add (e_var 1) e_int)) (a_cons (e_frz (e_var 3)) a_nil))))))) a_nil))) a_nil))))))))))))))))))))))
def m__law_odd : List Slot → RF := funM 9
    (seqM (asgT (tgT [(tgN 4), (tgN 5)]) (varM 1))
    (seqM (asgM 6 (callN 2 m__law_take (consA (varM 0) (consA (conM (.int 6)) nilA))))
    (seqM (ifS (binM eqD (varM 6) (conM (.int 0))) (seqM (asgM 7 (lstM (consA (conM .non) (consA (conM (.int 0)) (consA (tupM nilA) (consA (tupM (consA (frzM (varM 4)) nilA)) (consA (tupM (consA (frzM (varM 4)) (consA (frzM (varM 5)) (consA (conM (.int 0)) nilA)))) (consA (frzM (lstM (consA (frzM (varM 4)) (consA (frzM (varM 5)) nilA)))) (consA (conM (.str "go")) nilA)))))))))
    (seqM (asgM 7 (binM addD (varM 7) (lstM (consA (tupM (consA (frzM (bltM listD (consA (varM 4) nilA))) (consA (frzM (varM 5)) nilA))) (consA (tupM (consA (conM .non) (consA (frzM (varM 5)) nilA))) (consA (tupM (consA (frzM (varM 5)) (consA (frzM (varM 4)) nilA))) (consA (tupM (consA (tupM (consA (conM (.str "a")) (consA (conM (.int 1)) (consA (conM (.str "+")) (consA (conM (.int 1)) nilA))))) (consA (frzM (varM 5)) nilA))) nilA)))))))
    (retM (callN 2 m__law_pick (consA (varM 0) (consA (binM addD (varM 7) (lstM (consA (tupM (consA (frzM (varM 4)) (consA (frzM (bltM listD (consA (varM 5) nilA))) nilA))) (consA (tupM (consA (frzM (varM 4)) (consA (conM .non) nilA))) nilA)))) nilA))))))
    nxM)
    (seqM (ifS (binM eqD (varM 6) (conM (.int 1))) (seqM (asgM 8 (callN 2 m__law_take (consA (varM 0) (consA (bltM minD (consA (conM (.int 4)) (consA (binM addD (bltM lenD (consA (varM 4) nilA)) (conM (.int 1))) nilA))) nilA))))
    (retM (tupM (consA (frzM (binM addD (binM addD (slM (varM 4) noO (atO (varM 8))) (tupM (consA (frzM (callN 1 m__law_odd_line (consA (varM 0) nilA))) nilA))) (slM (varM 4) (atO (varM 8)) (atO (conM (.int 3)))))) (consA (frzM (varM 5)) nilA)))))
    nxM)
    (seqM (ifS (binM eqD (varM 6) (conM (.int 2))) (retM (tupM (consA (binM mulTD (tupM (consA (tupM (consA (conM (.str "a")) (consA (conM (.int 1)) (consA (conM (.str "+")) (consA (conM (.int 1)) nilA))))) nilA)) (binM addD (conM (.int 3)) (callN 2 m__law_take (consA (varM 0) (consA (conM (.int 3)) nilA))))) (consA (frzM (varM 5)) nilA))))
    nxM)
    (retM (tupM (consA (frzM (varM 4)) (consA (frzM (callN 3 m__law_odd_end (consA (varM 0) (consA (varM 2) (consA (varM 3) nilA))))) nilA)))))))))
theorem sc__law_odd : FnScope ["_law_feed_here", "_law_block", "_law_u", "_law_n", "_law_lines_here", "_law_end", "_law_case", "_law_some", "_law_at"] ["_law_feed_here", "_law_block", "_law_u", "_law_n"] (defScope s__law_odd) := ⟨rfl, rfl, rfl, by decide +kernel, rfl, by decide +kernel, by decide +kernel⟩
theorem ok__law_odd (c : Hd bk fn K mg) : ∃ fd, FnG P w K mg base (L2.CX P w) 4 (gA "_law_odd" K) fd ["_law_feed_here", "_law_block", "_law_u", "_law_n"] (spM K mg 4 m__law_odd) ∧ Binds K fd ["_law_feed_here", "_law_block", "_law_u", "_law_n"] [] ∧ fdV K (gA "_law_odd" K) = some fd := by
  obtain ⟨fd, hfd, F⟩ := c.fnAt 33 (d := d__law_odd)
  refine ⟨fd, fun_ok (k := 3) F sc__law_odd rfl rfl fun cdv A outer s H E B hr => ?_, F.binds fun _ _ _ _ _ _ us hl => match us, hl with | [_, _, _, _], _ => rfl, hfd⟩
  have nd := sc__law_odd.nd
  exact (ss_cons (s_asgT (e_var 1) (g_tup rfl (gs_cons (g_name 4 nd) (gs_cons (g_name 5 nd) gs_nil))))
      (ss_cons (s_set 6 nd (e_call (ok__law_take c).choose_spec.1 (hr.mono (by decide)) (c.glo 144) (c.keep 143) (ok__law_take c).choose_spec.2.1 (takes_of rfl rfl rfl rfl) (a_cons (e_var 0) (a_cons e_int a_nil))))
      (ss_cons (s_if (t_cmp (op_eqD hr.r.units) m_eq (e_var 6) e_int) (ss_cons (s_set 7 nd (e_lst (a_cons e_non (a_cons e_int (a_cons (e_tup a_nil) (a_cons (e_tup (a_cons (e_frz (e_var 4)) a_nil)) (a_cons (e_tup (a_cons (e_frz (e_var 4)) (a_cons (e_frz (e_var 5)) (a_cons e_int a_nil)))) (a_cons (e_frz (e_lst (a_cons (e_frz (e_var 4)) (a_cons (e_frz (e_var 5)) a_nil)))) (a_cons e_str a_nil)))))))))
      (ss_cons (s_set 7 nd (e_bin o_add m_add (e_var 7) (e_lst (a_cons (e_tup (a_cons (e_frz (e_bty m_list call_list_of (c.free 2) PyProof.Rows.boot_list (a_cons (e_var 4) a_nil))) (a_cons (e_frz (e_var 5)) a_nil))) (a_cons (e_tup (a_cons e_non (a_cons (e_frz (e_var 5)) a_nil))) (a_cons (e_tup (a_cons (e_frz (e_var 5)) (a_cons (e_frz (e_var 4)) a_nil))) (a_cons (e_tup (a_cons (e_tup (a_cons e_str (a_cons e_int (a_cons e_str (a_cons e_int a_nil))))) (a_cons (e_frz (e_var 5)) a_nil))) a_nil)))))))
      (ss_one (s_ret (e_call (ok__law_pick c).choose_spec.1 (hr.mono (by decide)) (c.glo 146) (c.keep 145) (ok__law_pick c).choose_spec.2.1 (takes_of rfl rfl rfl rfl) (a_cons (e_var 0) (a_cons (e_bin o_add m_add (e_var 7) (e_lst (a_cons (e_tup (a_cons (e_frz (e_var 4)) (a_cons (e_frz (e_bty m_list call_list_of (c.free 2) PyProof.Rows.boot_list (a_cons (e_var 5) a_nil))) a_nil))) (a_cons (e_tup (a_cons (e_frz (e_var 4)) (a_cons e_non a_nil))) a_nil)))) a_nil)))))))
      ss_nil)
      (ss_cons (s_if (t_cmp (op_eqD hr.r.units) m_eq (e_var 6) e_int) (ss_cons (s_set 8 nd (e_call (ok__law_take c).choose_spec.1 (hr.mono (by decide)) (c.glo 144) (c.keep 143) (ok__law_take c).choose_spec.2.1 (takes_of rfl rfl rfl rfl) (a_cons (e_var 0) (a_cons (e_blt m_min (call_min2 rfl) (c.free 136) PyProof.Rows.boot_min (a_cons e_int (a_cons (e_bin o_add m_add (e_blt m_len c_len (c.free 1) PySem.boot_len (a_cons (e_var 4) a_nil)) e_int) a_nil))) a_nil))))
      (ss_one (s_ret (e_tup (a_cons (e_frz (e_bin o_add m_add (e_bin o_add m_add (e_sl (e_var 4) o_none (o_at (e_var 8))) (e_tup (a_cons (e_frz (e_call (ok__law_odd_line c).choose_spec.1 (hr.mono (by decide)) (c.glo 154) (c.keep 153) (ok__law_odd_line c).choose_spec.2.1 (takes_of rfl rfl rfl rfl) (a_cons (e_var 0) a_nil))) a_nil))) (e_sl (e_var 4) (o_at (e_var 8)) (o_at e_int)))) (a_cons (e_frz (e_var 5)) a_nil))))))
      ss_nil)
      (ss_cons (s_if (t_cmp (op_eqD hr.r.units) m_eq (e_var 6) e_int) (ss_one (s_ret (e_tup (a_cons (e_bin op_repT m_mulT (e_tup (a_cons (e_tup (a_cons e_str (a_cons e_int (a_cons e_str (a_cons e_int a_nil))))) a_nil)) (e_bin o_add m_add e_int (e_call (ok__law_take c).choose_spec.1 (hr.mono (by decide)) (c.glo 144) (c.keep 143) (ok__law_take c).choose_spec.2.1 (takes_of rfl rfl rfl rfl) (a_cons (e_var 0) (a_cons e_int a_nil))))) (a_cons (e_frz (e_var 5)) a_nil)))))
      ss_nil)
      (ss_one (s_ret (e_tup (a_cons (e_frz (e_var 4)) (a_cons (e_frz (e_call (ok__law_odd_end c).choose_spec.1 (hr.mono (by decide)) (c.glo 156) (c.keep 155) (ok__law_odd_end c).choose_spec.2.1 (takes_of rfl rfl rfl rfl) (a_cons (e_var 0) (a_cons (e_var 2) (a_cons (e_var 3) a_nil))))) a_nil))))))))))
def m_law : List Slot → RF := funM 15
    (seqM (forM (seqI (tupM (consA (conM (.int 0)) (consA (conM (.int 1)) (consA (conM (.int 2)) (consA (conM (.int 40)) (consA (conM (.int 41)) nilA))))))) (tgN 1)
    (seqM (fgtS [11] (asgM 2 (lcM [11] (rng1 (consA (binM subD (varM 1) (conM (.int 1))) nilA)) (tgN 11) (conM (.bl true)) (tupM (consA (tupM nilA) (consA (tupM (consA (conM (.str "go")) (consA (frzM (binM addD (varM 11) (conM (.int 1)))) nilA))) nilA))))))
    (seqM (ifS (notM (callN 1 m__law_told_right (consA (binM addD (varM 2) (binM mulD (lstM (consA (tupM (consA (tupM nilA) (consA (tupM (consA (conM (.str "stop")) nilA)) nilA))) nilA)) (bltM minD (consA (conM (.int 1)) (consA (varM 1) nilA))))) nilA))) (retM (conM (.bl false)))
    nxM)
    (ifS (andM (binM neD (varM 1) (conM (.int 2))) (notM (callN 1 m__law_told_right (consA (binM addD (varM 2) (binM mulD (lstM (consA (conM .non) nilA)) (bltM minD (consA (conM (.int 1)) (consA (varM 1) nilA))))) nilA)))) (retM (conM (.bl false)))
    nxM))))
    (seqM (forM (rng1 (consA (bltM maxD (consA (conM (.int 1)) (consA (bltM minD (consA (conM (.int 3)) (consA (bltM lenD (consA (varM 0) nilA)) nilA))) nilA))) nilA)) (tgN 3)
    (seqM (asgM 4 (callN 2 m__law_feed (consA (varM 0) (consA (varM 3) nilA))))
    (seqM (asgM 5 (binM addD (conM (.int 2)) (callN 2 m__law_take (consA (varM 4) (consA (conM (.int 7)) nilA)))))
    (seqM (asgM 6 (callN 2 m__law_code (consA (varM 4) (consA (varM 5) nilA))))
    (seqM (asgM 7 (bltM listD (consA (varM 6) nilA)))
    (seqM (asgM 8 (makeN "Program" 1 m_Program___init__ (consA (varM 7) nilA)))
    (seqM (dropM (mutM isLst appG (varM 7) (consA (conM .non) nilA)))
    (seqM (asgM 9 (propL ["Program"] m_Program_code (varM 8)))
    (seqM (dropM (mutM isLst appG (varM 9) (consA (conM .non) nilA)))
    (seqM (ifS (orM (notM (callN 1 m__law_told_right (consA (varM 6) nilA))) (orM (binM neD (bltM reprD (consA (propL ["Program"] m_Program_code (varM 8)) nilA)) (bltM reprD (consA (varM 6) nilA))) (eqO ["Program"] m_Program___eq__ id eqk_Program (varM 8) (varM 6)))) (retM (conM (.bl false)))
    nxM)
    (forM (rng1 (consA (conM (.int 8)) nilA)) (tgN 10)
    (seqM (asg3 11 12 13 (consA (callN 2 m__law_take (consA (varM 4) (consA (varM 5) nilA))) (consA (callN 2 m__law_take (consA (varM 4) (consA (varM 5) nilA))) (consA (bltM listD (consA (varM 6) nilA)) nilA))))
    (seqM (setI (varM 13) (varM 11) (callN 4 m__law_odd (consA (varM 4) (consA (binM ixD (varM 6) (varM 11)) (consA (varM 11) (consA (varM 5) nilA))))))
    (seqM (ifS (binM eqD (callN 2 m__law_take (consA (varM 4) (consA (conM (.int 3)) nilA))) (conM (.int 0))) (setI (varM 13) (varM 12) (callN 4 m__law_odd (consA (varM 4) (consA (binM ixD (varM 6) (varM 12)) (consA (varM 12) (consA (varM 5) nilA))))))
    nxM)
    (seqM (ifS (notM (callN 1 m__law_told_right (consA (varM 13) nilA))) (retM (conM (.bl false)))
    nxM)
    (seqM (asgM 14 (callN 1 m__law_made (consA (bltM listD (consA (varM 13) nilA)) nilA)))
    (ifS (andM (isiM tbNo tc_Program (varM 14)) (binM neD (eqO ["Program"] m_Program___eq__ id eqk_Program (varM 14) (varM 8)) (binM eqD (bltM reprD (consA (varM 13) nilA)) (bltM reprD (consA (varM 6) nilA))))) (retM (conM (.bl false)))
    nxM)))))))))))))))))
    (retM (conM (.bl true)))))
theorem sc_law : FnScope ["_law_script", "_law_many", "_law_blocks", "_law_k", "_law_feed_here", "_law_n", "_law_code_here", "_law_handed", "_law_program", "_law_told", "_law_turn", "_law_u", "_law_w", "_law_other", "_law_made_here"] ["_law_script"] (defScope s_law) := ⟨rfl, rfl, rfl, by decide +kernel, rfl, by decide +kernel, by decide +kernel⟩
theorem ok_law (c : Hd bk fn K mg) : ∃ fd, FnG P w K mg base (L2.CX P w) 10 (gA "law" K) fd ["_law_script"] (spM K mg 1 m_law) ∧ Binds K fd ["_law_script"] [] ∧ fdV K (gA "law" K) = some fd := by
  obtain ⟨fd, hfd, F⟩ := c.fnAt 34 (d := d_law)
  refine ⟨fd, fun_ok (k := 9) F sc_law rfl rfl fun cdv A outer s H E B hr => ?_, F.binds fun _ _ _ _ _ _ us hl => match us, hl with | [_], _ => rfl, hfd⟩
  have nd := sc_law.nd
  exact (ss_cons (s_for (passes_of rfl) rfl (i_seq (e_tup (a_cons e_int (a_cons e_int (a_cons e_int (a_cons e_int (a_cons e_int a_nil))))))) (g_name 1 nd)
      (ss_cons (s_fgt [11] (s_setLc (i := 2) (ow := [("_law_u", 11)]) rfl nd (i_range1 (a_cons (e_bin op_sub m_sub (e_var 1) e_int) a_nil) (by rfl) (c.free 0)) (blkOk_by (N := ["_law_script", "_law_many", "_law_blocks", "_law_k", "_law_feed_here", "_law_n", "_law_code_here", "_law_handed", "_law_program", "_law_told", "_law_turn", "_law_u", "_law_w", "_law_other", "_law_made_here"]) (sc := (defScope s_law)) (by decide +kernel)) (fun _ _ _ _ _ => (g_name 11 nd))  (fun _ _ _ _ _ => (e_tup (a_cons (e_tup a_nil) (a_cons (e_tup (a_cons e_str (a_cons (e_frz (e_bin o_add m_add (e_var 11) e_int)) a_nil))) a_nil))))))
      (ss_cons (s_if (t_not (t_val (e_call (ok__law_told_right c).choose_spec.1 (hr.mono (by decide)) (c.glo 138) (c.keep 137) (ok__law_told_right c).choose_spec.2.1 (takes_of rfl rfl rfl rfl) (a_cons (e_bin o_add m_add (e_var 2) (e_bin o_mul m_mul (e_lst (a_cons (e_tup (a_cons (e_tup a_nil) (a_cons (e_tup (a_cons e_str a_nil)) a_nil))) a_nil)) (e_blt m_min (call_min2 rfl) (c.free 136) PyProof.Rows.boot_min (a_cons e_int (a_cons (e_var 1) a_nil))))) a_nil)))) (ss_one (s_ret e_bl))
      ss_nil)
      (ss_one (s_if (pt_w (w_and (t_cmp (op_neD hr.r.units) m_ne (e_var 1) e_int) (w_and1 (t_not (t_val (e_call (ok__law_told_right c).choose_spec.1 (hr.mono (by decide)) (c.glo 138) (c.keep 137) (ok__law_told_right c).choose_spec.2.1 (takes_of rfl rfl rfl rfl) (a_cons (e_bin o_add m_add (e_var 2) (e_bin o_mul m_mul (e_lst (a_cons e_non a_nil)) (e_blt m_min (call_min2 rfl) (c.free 136) PyProof.Rows.boot_min (a_cons e_int (a_cons (e_var 1) a_nil))))) a_nil))))))) (ss_one (s_ret e_bl))
      ss_nil)))))
      (ss_cons (s_for (passes_of rfl) rfl (i_range1 (a_cons (e_blt m_max (call_max2 rfl) (c.free 139) PyProof.Rows.boot_max (a_cons e_int (a_cons (e_blt m_min (call_min2 rfl) (c.free 136) PyProof.Rows.boot_min (a_cons e_int (a_cons (e_blt m_len c_len (c.free 1) PySem.boot_len (a_cons (e_var 0) a_nil)) a_nil))) a_nil))) a_nil) (by rfl) (c.free 0)) (g_name 3 nd)
      (ss_cons (s_set 4 nd (e_call (ok__law_feed c).choose_spec.1 (hr.mono (by decide)) (c.glo 142) (c.keep 141) (ok__law_feed c).choose_spec.2.1 (takes_of rfl rfl rfl rfl) (a_cons (e_var 0) (a_cons (e_var 3) a_nil))))
      (ss_cons (s_set 5 nd (e_bin o_add m_add e_int (e_call (ok__law_take c).choose_spec.1 (hr.mono (by decide)) (c.glo 144) (c.keep 143) (ok__law_take c).choose_spec.2.1 (takes_of rfl rfl rfl rfl) (a_cons (e_var 4) (a_cons e_int a_nil)))))
      (ss_cons (s_set 6 nd (e_call (ok__law_code c).choose_spec.1 (hr.mono (by decide)) (c.glo 152) (c.keep 151) (ok__law_code c).choose_spec.2.1 (takes_of rfl rfl rfl rfl) (a_cons (e_var 4) (a_cons (e_var 5) a_nil))))
      (ss_cons (s_set 7 nd (e_bty m_list call_list_of (c.free 2) PyProof.Rows.boot_list (a_cons (e_var 6) a_nil)))
      (ss_cons (s_set 8 nd (e_make (c.mkr 68) (ok_Program___init__ c).choose_spec.1 (hr.mono (by decide)) (c.glo 12) (ok_Program___init__ c).choose_spec.2.1 (takes_of rfl rfl rfl rfl) (a_cons (e_var 7) a_nil)))
      (ss_cons (s_expr (e_mut m_app tyOk_lst PySem.F.plainAttrs_list PySem.F.slot_list_append PySem.F.type_list_append mt_append (e_var 7) (a_cons e_non a_nil)))
      (ss_cons (s_set 9 nd (e_prop (e_var 8) (c.cls 46) (c.prop 105) (ca_Program c).h (ok_Program_code c).choose_spec.1 (hr.mono (by decide)) (ok_Program_code c).choose_spec.2.1))
      (ss_cons (s_expr (e_mut m_app tyOk_lst PySem.F.plainAttrs_list PySem.F.slot_list_append PySem.F.type_list_append mt_append (e_var 9) (a_cons e_non a_nil)))
      (ss_cons (s_if (pt_w (w_or (t_not (t_val (e_call (ok__law_told_right c).choose_spec.1 (hr.mono (by decide)) (c.glo 138) (c.keep 137) (ok__law_told_right c).choose_spec.2.1 (takes_of rfl rfl rfl rfl) (a_cons (e_var 6) a_nil)))) (w_or (t_cmp (op_neD hr.r.units) m_ne (e_blt m_repr (c_repr hr.g (room_u hr.r)) (c.free 83) PyProof.Rows.boot_repr (a_cons (e_prop (e_var 8) (c.cls 46) (c.prop 105) (ca_Program c).h (ok_Program_code c).choose_spec.1 (hr.mono (by decide)) (ok_Program_code c).choose_spec.2.1) a_nil)) (e_blt m_repr (c_repr hr.g (room_u hr.r)) (c.free 83) PyProof.Rows.boot_repr (a_cons (e_var 6) a_nil))) (w_or1 (t_eqO (c.meth 106) (ca_Program c) (eo_Program c) (ok_Program___eq__ c).choose_spec.1 (hr.mono (by decide)) (ok_Program___eq__ c).choose_spec.2.1 (e_var 8) (e_var 6)))))) (ss_one (s_ret e_bl))
      ss_nil)
      (ss_one (s_for (passes_of rfl) rfl (i_range1 (a_cons e_int a_nil) (by rfl) (c.free 0)) (g_name 10 nd)
      (ss_cons (s_asg3 11 12 13 rfl nd (a_cons (e_call (ok__law_take c).choose_spec.1 (hr.mono (by decide)) (c.glo 144) (c.keep 143) (ok__law_take c).choose_spec.2.1 (takes_of rfl rfl rfl rfl) (a_cons (e_var 4) (a_cons (e_var 5) a_nil))) (a_cons (e_call (ok__law_take c).choose_spec.1 (hr.mono (by decide)) (c.glo 144) (c.keep 143) (ok__law_take c).choose_spec.2.1 (takes_of rfl rfl rfl rfl) (a_cons (e_var 4) (a_cons (e_var 5) a_nil))) (a_cons (e_bty m_list call_list_of (c.free 2) PyProof.Rows.boot_list (a_cons (e_var 6) a_nil)) a_nil))))
      (ss_cons (s_setI (room_v hr.r) (e_var 13) (e_var 11) (e_call (ok__law_odd c).choose_spec.1 (hr.mono (by decide)) (c.glo 158) (c.keep 157) (ok__law_odd c).choose_spec.2.1 (takes_of rfl rfl rfl rfl) (a_cons (e_var 4) (a_cons (e_ix (o_ix (room_v hr.r)) m_ix (e_var 6) (e_var 11)) (a_cons (e_var 11) (a_cons (e_var 5) a_nil))))))
      (ss_cons (s_if (t_cmp (op_eqD hr.r.units) m_eq (e_call (ok__law_take c).choose_spec.1 (hr.mono (by decide)) (c.glo 144) (c.keep 143) (ok__law_take c).choose_spec.2.1 (takes_of rfl rfl rfl rfl) (a_cons (e_var 4) (a_cons e_int a_nil))) e_int) (ss_one (s_setI (room_v hr.r) (e_var 13) (e_var 12) (e_call (ok__law_odd c).choose_spec.1 (hr.mono (by decide)) (c.glo 158) (c.keep 157) (ok__law_odd c).choose_spec.2.1 (takes_of rfl rfl rfl rfl) (a_cons (e_var 4) (a_cons (e_ix (o_ix (room_v hr.r)) m_ix (e_var 6) (e_var 12)) (a_cons (e_var 12) (a_cons (e_var 5) a_nil)))))))
      ss_nil)
      (ss_cons (s_if (t_not (t_val (e_call (ok__law_told_right c).choose_spec.1 (hr.mono (by decide)) (c.glo 138) (c.keep 137) (ok__law_told_right c).choose_spec.2.1 (takes_of rfl rfl rfl rfl) (a_cons (e_var 13) a_nil)))) (ss_one (s_ret e_bl))
      ss_nil)
      (ss_cons (s_set 14 nd (e_call (ok__law_made c).choose_spec.1 (hr.mono (by decide)) (c.glo 82) (c.keep 81) (ok__law_made c).choose_spec.2.1 (takes_of rfl rfl rfl rfl) (a_cons (e_bty m_list call_list_of (c.free 2) PyProof.Rows.boot_list (a_cons (e_var 13) a_nil)) a_nil)))
      (ss_one (s_if (pt_w (w_and (t_val (e_isO (isi_Program c) (e_var 14) (c.free 13) (hT := pe_glob (by rfl) (c.glo 12) (show RelV (V.ref (gA "Program" _)) (Value.ref (gA "Program" _)) from rfl)))) (w_and1 (t_cmp (op_neD hr.r.units) m_ne (e_eqO (c.meth 106) (ca_Program c) (eo_Program c) (ok_Program___eq__ c).choose_spec.1 (hr.mono (by decide)) (ok_Program___eq__ c).choose_spec.2.1 (e_var 14) (e_var 8)) (e_cmp (op_eqD hr.r.units) m_eq (e_blt m_repr (c_repr hr.g (room_u hr.r)) (c.free 83) PyProof.Rows.boot_repr (a_cons (e_var 13) a_nil)) (e_blt m_repr (c_repr hr.g (room_u hr.r)) (c.free 83) PyProof.Rows.boot_repr (a_cons (e_var 6) a_nil))))))) (ss_one (s_ret e_bl))
      ss_nil)))))))))))))))))))
      (ss_one (s_ret e_bl))))
theorem law_fd (c : Hd bk fn K mg) : ∃ fd, (∀ base : Heap, FnG P w K mg base (L2.CX P w) 10 (gA "law" K) fd ["_law_script"] (spM K mg 1 m_law)) ∧ ∀ (s : Shared) (u : Value), BindsTo s fd ⟨[u], []⟩ [("_law_script", u)] := by
  obtain ⟨fd, hfd, F⟩ := c.fnAt 34 (d := d_law)
  refine ⟨fd, fun base => ?_, fun s u => ?_⟩
  · obtain ⟨fd2, h1, _, h2⟩ := ok_law (P := P) (w := w) (base := base) c
    have e : some fd2 = some fd := h2.symm.trans hfd
    cases e
    exact h1
  · obtain ⟨oc, od, kV, doc, pm, an, cdv, ct, osl, rfl, lk, hcd⟩ := F.ex
    exact .of_eq rfl
end
/-! ### the head -/
abbrev Rw : PySem.W.OpenRow := PySem.W.OpenLaw.row PySem.Challenge.rw_runledger_k52_what_is_a_program
def hk : PySem.W.Hook := hookV 7 bk fn
def ob (s : PySem.W.SharedT) : AlV := obsVG 7 bk fn (HandSHeadRun.getT s)
theorem ob_eq (s : PySem.W.SharedT) : ob s = hk.obs s.abs := obsVG_eq (HandSHeadRun.getT_eq s)
def loose : List Str := [("_wall" : Str), ("is_integer" : Str), ("within" : Str), ("is_jump" : Str), ("is_name" : Str), ("is_operand" : Str), ("is_step" : Str), ("is_end" : Str), ("is_program_block" : Str), ("targets_of" : Str), ("_law_feed" : Str), ("_law_take" : Str), ("_law_pick" : Str), ("_law_operand" : Str), ("_law_lines" : Str), ("_law_code" : Str), ("_law_is_name" : Str), ("_law_is_whole" : Str), ("_law_is_operand" : Str), ("_law_is_line" : Str), ("_law_is_end" : Str), ("_law_is_block" : Str), ("_law_odd_line" : Str), ("_law_odd_end" : Str), ("_law_odd" : Str), ("_law_made" : Str), ("_law_told_right" : Str), ("RunError" : Str), ("BadBlocks" : Str), ("BadJump" : Str), ("TooLarge" : Str), ("BadProgram" : Str), ("Routine" : Str), ("Program" : Str), ("MOST_BLOCKS" : Str), ("MOST_JUMPS" : Str), ("NAMES" : Str), ("MOST_STEPS" : Str), ("MOST_NUMBER" : Str)]
theorem run (w : World) : HandSHeadRun.RunEq Rw (PySem.W.view Rw.prog [43]) hk ob 6000 loose w := by
  intro os
  kernel_rfl
end VM
open PySem PySem.W PySem.Calls PyProof.Rows
theorem VM.holds_of (hpure : ∀ ns : List Int, ns.length ≤ 63 → ∃ ps, VM.m_law [.dat (.scr ns)] = .ok (.dat (.bl true)) ps) : PySem.Challenge.rw_runledger_k52_what_is_a_program.Holds := by
  w_on; o_law
  refine HandSHeadRun.head_any (r := OpenLaw.row PySem.Challenge.rw_runledger_k52_what_is_a_program) (q := view (OpenLaw.row PySem.Challenge.rw_runledger_k52_what_is_a_program).prog [43]) (H := VM.hk) (ob := VM.ob) (M := 6000) (loose := VM.loose) (d := HandSHeadRun.topDef (OpenLaw.row PySem.Challenge.rw_runledger_k52_what_is_a_program).prog 43) (kwd := []) VM.ob_eq
    (by kernel_rfl) (fun s => by kernel_rfl) VM.run (by kernel_rfl) (by kernel_rfl) (by kernel_rfl) (by rfl) (by first | assumption | decide +kernel) (by decide +kernel) ⟨rfl, rfl, rfl, rfl, rfl, by decide +kernel⟩ ?hw ?hc
  case hw => w_witness2
  case hc =>
    refine VM.walk_ofG (l := PySem.Challenge.rw_runledger_k52_what_is_a_program) (n := 63) (k := 10) (x := "_law_script") (CX := L2.CX PySem.Challenge.pw_runledger_k52_what_is_a_program) rfl (by decide) (by kernel_rfl) ⟨⟨rfl, by decide, by decide⟩, rfl⟩ ?F ?C
    case C => exact fun w H s e s' z => VM.noCX z
    intro w mg fa h Y G hmg0
    obtain ⟨K, KX, c⟩ := Y
    have hc : VM.Hd VM.bk VM.fn K mg := ⟨c, h, KX, G⟩
    have hmg : mg ("law" : PySem.Str) = some (.ref fa) := by
      have e : (HandSHeadRun.topDef (OpenLaw.row PySem.Challenge.rw_runledger_k52_what_is_a_program).prog 43).name = ("law" : PySem.Str) := by kernel_rfl
      rw [← e]
      exact hmg0
    have e := hmg.symm.trans (hc.glo 159)
    cases e
    obtain ⟨fd, F, hF⟩ := VM.law_fd (w := w) hc
    refine ⟨K, fd, _, KX, fun s u => ?_, fun H a ns hl _ hS => VM.law_sp hS (hpure ns hl), fun base _ _ => F base⟩
    exact hF s u

set_option Elab.async false
set_option linter.all false
set_option maxRecDepth 100000
namespace VM
open PySem PySem.Spec L2
/-! ### mirrors are reckoned -/
section
variable {x : Exn} {ls ls' : LS} {k : Slot} {d : D} {i j : Nat}
@[simp] theorem Rb_ok {f : Slot → LS → R} : (R.ok k ls).bind f = f k ls := rfl
@[simp] theorem Rb_err {f : Slot → LS → R} : (R.err x ls).bind f = .err x ls := rfl
@[simp] theorem Rb_stk {f : Slot → LS → R} : R.stk.bind f = .stk := rfl
@[simp] theorem RbA_ok {f : Slot → LS → RA} : (R.ok k ls).bindA f = f k ls := rfl
@[simp] theorem RbA_err {f : Slot → LS → RA} : (R.err x ls).bindA f = .err x ls := rfl
@[simp] theorem RbS_ok {f : Slot → LS → S} : (R.ok k ls).bindS f = f k ls := rfl
@[simp] theorem RbS_err {f : Slot → LS → S} : (R.err x ls).bindS f = .err x ls := rfl
@[simp] theorem RAb_ok {as : List Slot} {f : List Slot → LS → R} : (RA.ok as ls).bind f = f as ls := rfl
@[simp] theorem RAb_err {f : List Slot → LS → R} : (RA.err x ls).bind f = .err x ls := rfl
@[simp] theorem Sb_nx {f : LS → S} : (S.nx ls).bind f = f ls := rfl
@[simp] theorem Sb_ret {f : LS → S} : (S.ret k ls).bind f = .ret k ls := rfl
@[simp] theorem Sb_brk {f : LS → S} : (S.brk ls).bind f = .brk ls := rfl
@[simp] theorem Sb_cnt {f : LS → S} : (S.cnt ls).bind f = .cnt ls := rfl
@[simp] theorem Sb_err {f : LS → S} : (S.err x ls).bind f = .err x ls := rfl
@[simp] theorem RIb_ok {items : List D} {g : Gd} {f : List D → Gd → LS → S} : (RI.ok items g ls).bind f = f items g ls := rfl
@[simp] theorem varM_ap : varM i ls = match ls[i]? with
  | some (.dat d) => .ok (.dat d) ls
  | some (.pdt d) => .ok (.dat d) ls
  | some (.own _) => .ok (.ali i) ls
  | some (.par _) => .ok (.ali i) ls
  | some (.tre _) => .ok (.ali i) ls
  | some (.ptr _) => .ok (.ali i) ls
  | _ => .stk := rfl
@[simp] theorem conM_ap : conM d ls = .ok (.dat d) ls := rfl
@[simp] theorem ownM_ap : ownM d ls = .ok (.own d) ls := rfl
@[simp] theorem look_dat : look ls (.dat d) = some d := rfl
@[simp] theorem look_own : look ls (.own d) = some d := rfl
@[simp] theorem look_ali : look ls (.ali i) = match ls[i]? with
    | some (.dat d) => some d
    | some (.pdt d) => some d
    | some (.own d) => some d
    | some (.par d) => some d
    | _ => none := rfl
@[simp] theorem binM_ap {g : D → D → Option Slot} {a b : M} : binM g a b ls = (a ls).bind fun k1 ls => (b ls).bind fun k2 ls => lift2 g k1 k2 ls := rfl
@[simp] theorem lift2_ap {g : D → D → Option Slot} {k1 k2 : Slot} : lift2 g k1 k2 ls = match look ls k1, look ls k2 with
  | some x, some y => (match g x y with
    | some k => .ok k ls
    | none => .stk)
  | _, _ => .stk := rfl
@[simp] theorem unM_ap {g : D → Option Slot} {a : M} : unM g a ls = (a ls).bind fun k ls => lift1 g k ls := rfl
@[simp] theorem lift1_ap {g : D → Option Slot} {k1 : Slot} : lift1 g k1 ls = match look ls k1 with
  | some x => (match g x with
    | some k => .ok k ls
    | none => .stk)
  | none => .stk := rfl
@[simp] theorem notM_ap {a : M} : notM a ls = (a ls).bind fun k ls => match k with
  | .dat (.bl b) => .ok (.dat (.bl (!b))) ls
  | _ => .stk := rfl
@[simp] theorem andM_ap {a b : M} : andM a b ls = (a ls).bind fun k ls => match k with
  | .dat (.bl true) => b ls
  | .dat (.bl false) => .ok (.dat (.bl false)) ls
  | _ => .stk := rfl
@[simp] theorem orM_ap {a b : M} : orM a b ls = (a ls).bind fun k ls => match k with
  | .dat (.bl true) => .ok (.dat (.bl true)) ls
  | .dat (.bl false) => b ls
  | _ => .stk := rfl
@[simp] theorem iteM_ap {c a b : M} : iteM c a b ls = (c ls).bind fun k ls => match k with
  | .dat (.bl true) => a ls
  | .dat (.bl false) => b ls
  | _ => .stk := rfl
@[simp] theorem chainM_ap {g g' : D → D → Option Slot} {a b c : M} : chainM g g' a b c ls = (a ls).bind fun k1 ls => (b ls).bind fun k2 ls => match lift2 g k1 k2 ls with
  | .ok (.dat (.bl true)) ls => (c ls).bind fun k3 ls => lift2 g' k2 k3 ls
  | .ok (.dat (.bl false)) ls => .ok (.dat (.bl false)) ls
  | _ => .stk := rfl
@[simp] theorem nilA_ap : nilA ls = .ok [] ls := rfl
@[simp] theorem consA_ap {m : M} {r : AM} : consA m r ls = (m ls).bindA fun k ls => match r ls with
  | .ok as ls => .ok (k :: as) ls
  | .err x ls => .err x ls
  | .stk => .stk := rfl
@[simp] theorem frzM_ap {m : M} : frzM m ls = (m ls).bind fun k ls => match freezeK k ls with
  | some (d, ls) => .ok (.dat d) ls
  | none => .stk := rfl
@[simp] theorem freezeK_dat : freezeK (.dat d) ls = some (d, ls) := rfl
@[simp] theorem freezeK_own : freezeK (.own d) ls = some (d, ls) := rfl
@[simp] theorem freezeK_ali : freezeK (.ali j) ls = match ls[j]? with
    | some (.own d) => some (d, ls.set j (.dat d))
    | some (.par d) => some (d, ls.set j (.pdt d))
    | some (.dat d) => some (d, ls)
    | some (.pdt d) => some (d, ls)
    | some (.tre t) => some (t.er, ls.set j (.dat t.er))
    | some (.ptr t) => some (t.er, ls.set j (.pdt t.er))
    | _ => none := rfl
@[simp] theorem dats_nil : dats [] = some [] := rfl
@[simp] theorem dats_cons {r : List Slot} : dats (.dat d :: r) = (dats r).map (d :: ·) := rfl
@[simp] theorem tupM_ap {am : AM} : tupM am ls = (am ls).bind fun as ls => match dats as with
  | some ds => if ds.length ≤ 1000 then .ok (.dat (.tup ds)) ls else .stk
  | none => .stk := rfl
@[simp] theorem lstM_ap {am : AM} : lstM am ls = (am ls).bind fun as ls => match dats as with
  | some ds => if ds.length ≤ 1000 then .ok (.own (.lst ds)) ls else .stk
  | none => .stk := rfl
@[simp] theorem nxM_ap : nxM ls = .nx ls := rfl
@[simp] theorem brkM_ap : brkM ls = .brk ls := rfl
@[simp] theorem cntM_ap : cntM ls = .cnt ls := rfl
@[simp] theorem seqM_ap {a b : SM} : seqM a b ls = (a ls).bind b := rfl
@[simp] theorem dropM_ap {m : M} : dropM m ls = (m ls).bindS fun _ ls => .nx ls := rfl
@[simp] theorem retM_ap {m : M} : retM m ls = (m ls).bindS fun k ls => .ret k ls := rfl
@[simp] theorem ifS_ap {c : M} {a b : SM} : ifS c a b ls = (c ls).bindS fun k ls => match k with
  | .dat (.bl true) => a ls
  | .dat (.bl false) => b ls
  | _ => .stk := rfl
@[simp] theorem asgM_ap {m : M} : asgM i m ls = (m ls).bindS fun k ls => asgK i k ls := rfl
@[simp] theorem asgK_dat : asgK i (.dat d) ls = .nx (ls.set i (.dat d)) := rfl
@[simp] theorem asgK_own : asgK i (.own d) ls = .nx (ls.set i (.own d)) := rfl
@[simp] theorem asgK_tre {t : T} : asgK i (.tre t) ls = .nx (ls.set i (.tre t)) := rfl
@[simp] theorem asgK_ali : asgK i (.ali j) ls = match freezeK (.ali j) ls with
    | some (d, ls) => .nx (ls.set i (.dat d))
    | none => .stk := rfl
@[simp] theorem asgT_ap {t : TgM} {m : M} : asgT t m ls = (m ls).bindS fun k ls => match freezeK k ls with
  | some (d, ls) => (match t d ls with
    | some ls => .nx ls
    | none => .stk)
  | none => .stk := rfl
@[simp] theorem asg2_ap {am : AM} : asg2 i j am ls = match am ls with
  | .ok [.dat d, .dat d'] ls => .nx ((ls.set i (.dat d)).set j (.dat d'))
  | .ok [.own d, .dat d'] ls => .nx ((ls.set i (.own d)).set j (.dat d'))
  | .ok [.dat d, .own d'] ls => .nx ((ls.set i (.dat d)).set j (.own d'))
  | .ok [.own d, .own d'] ls => .nx ((ls.set i (.own d)).set j (.own d'))
  | .err x ls => .err x ls
  | _ => .stk := rfl
@[simp] theorem tgN_ap : tgN i d ls = some (ls.set i (.dat d)) := rfl
@[simp] theorem tgs_nil : tgs [] [] ls = some ls := rfl
@[simp] theorem tgs_cons {t : TgM} {ts : List TgM} {ds : List D} : tgs (t :: ts) (d :: ds) ls = match t d ls with
    | some ls' => tgs ts ds ls'
    | none => none := rfl
@[simp] theorem tgT_tup {ts : List TgM} {ds : List D} : tgT ts (.tup ds) ls = if ds.length = ts.length then tgs ts ds ls else none := rfl
@[simp] theorem tgL_lst {ts : List TgM} {ds : List D} : tgL ts (.lst ds) ls = if ds.length = ts.length then tgs ts ds ls else none := rfl
/-! calls -/
@[simp] theorem callN_ap {n : Nat} {f : List Slot → RF} {am : AM} : callN n f am ls = (am ls).bind fun as ls => if as.length = n then callK f as ls else .stk := rfl
@[simp] theorem callQ_ap {n : Nat} {f : List Slot → RF} {am : AM} : callQ n f am ls = (am ls).bind fun as ls => if as.length = n then (match callK f as ls with
  | .ok k ls => .ok k ls
  | _ => .stk) else .stk := rfl
@[simp] theorem alis_nil : alis [] = [] := rfl
@[simp] theorem alis_ali {r : List Slot} : alis (.ali i :: r) = i :: alis r := rfl
@[simp] theorem alis_dat {r : List Slot} : alis (.dat d :: r) = alis r := rfl
@[simp] theorem alis_own {r : List Slot} : alis (.own d :: r) = alis r := rfl
@[simp] theorem hand1_dat : hand1 ls (.dat d) = some (.dat d) := rfl
@[simp] theorem hand1_own : hand1 ls (.own d) = some (.par d) := rfl
@[simp] theorem hand1_ali : hand1 ls (.ali i) = match ls[i]? with
    | some (.own d) => some (.par d)
    | some (.par d) => some (.par d)
    | some (.dat d) => some (.dat d)
    | some (.pdt d) => some (.dat d)
    | _ => none := rfl
@[simp] theorem hands_nil : hands ls [] = some [] := rfl
@[simp] theorem hands_cons {as : List Slot} : hands ls (k :: as) = match hand1 ls k, hands ls as with
    | some p, some ps => some (p :: ps)
    | _, _ => none := rfl
@[simp] theorem back1_op {a b : D} : back1 (.own a) (.par b) = some (some (.own b)) := rfl
@[simp] theorem back1_od {a b : D} : back1 (.own a) (.dat b) = some (some (.dat b)) := rfl
@[simp] theorem back1_pp {a b : D} : back1 (.par a) (.par b) = some (some (.par b)) := rfl
@[simp] theorem back1_pd {a b : D} : back1 (.par a) (.dat b) = some (some (.pdt b)) := rfl
@[simp] theorem back1_dd {a b : D} : back1 (.dat a) (.dat b) = some none := rfl
@[simp] theorem back1_qd {a b : D} : back1 (.pdt a) (.dat b) = some none := rfl
@[simp] theorem backs_nil : backs [] [] ls = some ls := rfl
@[simp] theorem backs_ali {as ps : List Slot} {p : Slot} : backs (.ali i :: as) (p :: ps) ls = match ls[i]? with
    | some s => (match back1 s p with
      | some (some s') => backs as ps (ls.set i s')
      | some none => backs as ps ls
      | none => none)
    | none => none := rfl
@[simp] theorem backs_dd {as ps : List Slot} {a b : D} : backs (.dat a :: as) (.dat b :: ps) ls = backs as ps ls := rfl
@[simp] theorem backs_od {as ps : List Slot} {a b : D} : backs (.own a :: as) (.dat b :: ps) ls = backs as ps ls := rfl
@[simp] theorem backs_op {as ps : List Slot} {a b : D} : backs (.own a :: as) (.par b :: ps) ls = backs as ps ls := rfl
@[simp] theorem callK_ap {f : List Slot → RF} {as : List Slot} : callK f as ls = if (alis as).Nodup then (match hands ls as with
  | some ps => (match f ps with
    | .ok k ps' => (match backs as ps' ls with
      | some ls' => if k.res = true then .ok k ls' else .stk
      | none => .stk)
    | .err x ps' => (match backs as ps' ls with
      | some ls' => .err x ls'
      | none => .stk)
    | .stk => .stk)
  | none => .stk) else .stk := rfl
@[simp] theorem res_dat : Slot.res (.dat d) = true := rfl
@[simp] theorem res_own : Slot.res (.own d) = true := rfl
@[simp] theorem settle_dat : settle (.dat d) ls = some (.dat d, ls) := rfl
@[simp] theorem settle_own : settle (.own d) ls = some (.own d, ls) := rfl
@[simp] theorem settle_ali : settle (.ali j) ls = match ls[j]? with
    | some (.own d) => some (.own d, ls.set j .emp)
    | some (.par d) => some (.dat d, ls.set j (.pdt d))
    | some (.dat d) => some (.dat d, ls)
    | some (.pdt d) => some (.dat d, ls)
    | some (.tre t) => some (.dat t.er, ls.set j (.dat t.er))
    | _ => none := rfl
@[simp] theorem outs_nil : outs [] ls = some [] := by cases ls <;> rfl
@[simp] theorem outs_dat {ps : List Slot} {s : Slot} : outs (.dat d :: ps) (s :: ls) = (outs ps ls).map (.dat d :: ·) := rfl
@[simp] theorem outs_pp {ps : List Slot} {a b : D} : outs (.par a :: ps) (.par b :: ls) = (outs ps ls).map (.par b :: ·) := rfl
@[simp] theorem outs_pd {ps : List Slot} {a b : D} : outs (.par a :: ps) (.pdt b :: ls) = (outs ps ls).map (.dat b :: ·) := rfl
@[simp] theorem finF_ret {ps : List Slot} : finF ps (.ret k ls) = match settle k ls with
    | some (k', ls') => (match outs ps ls' with
      | some ps' => .ok k' ps'
      | none => .stk)
    | none => .stk := rfl
@[simp] theorem finF_nx {ps : List Slot} : finF ps (.nx ls) = match outs ps ls with
    | some ps' => .ok (.dat .non) ps'
    | none => .stk := rfl
@[simp] theorem finF_err {ps : List Slot} : finF ps (.err x ls) = match outs ps ls with
    | some ps' => .err x ps'
    | none => .stk := rfl
theorem funM_ap {n : Nat} {b : SM} {ps : List Slot} : funM n b ps = finF ps (b (startLS n ps)) := rfl
@[simp] theorem startLS_ap {n : Nat} {ps : List Slot} : startLS n ps = ps ++ List.replicate (n - ps.length) .emp := rfl
/-! operators -/
@[simp] theorem addD_i {a b : Int} : addD (.int a) (.int b) = some (.dat (.int (a + b))) := rfl
@[simp] theorem addD_l {a b : List D} : addD (.lst a) (.lst b) = if a.length + b.length ≤ 1000000 then some (.own (.lst (a ++ b))) else none := rfl
@[simp] theorem subD_i {a b : Int} : subD (.int a) (.int b) = some (.dat (.int (a - b))) := rfl
@[simp] theorem negD_i {a : Int} : negD (.int a) = some (.dat (.int (-a))) := rfl
@[simp] theorem ltD_i {a b : Int} : ltD (.int a) (.int b) = some (.dat (.bl (decide (a < b)))) := rfl
@[simp] theorem leD_i {a b : Int} : leD (.int a) (.int b) = some (.dat (.bl (decide (a ≤ b)))) := rfl
@[simp] theorem gtD_i {a b : Int} : gtD (.int a) (.int b) = some (.dat (.bl (decide (b < a)))) := rfl
@[simp] theorem geD_i {a b : Int} : geD (.int a) (.int b) = some (.dat (.bl (decide (b ≤ a)))) := rfl
@[simp] theorem mulD_i {a b : Int} : mulD (.int a) (.int b) = if ((-(2 ^ 64) < a ∧ a < 2 ^ 64) ∨ (-(2 ^ 64) < b ∧ b < 2 ^ 64)) ∨ a.natAbs.log2 + b.natAbs.log2 < 1000000 then some (.dat (.int (a * b))) else none := rfl
@[simp] theorem modD_i {a b : Int} : modD (.int a) (.int b) = if 0 < b then some (.dat (.int (a % b))) else none := rfl
theorem fdivD_i {a b : Int} (h : 0 < b) (h2 : b < 2 ^ 64) : fdivD (.int a) (.int b) = some (.dat (.int (a / b))) := by
  have : b.natAbs.log2 < 9000 := by
    have h3 : b.natAbs < 2 ^ 64 := by omega
    have := Nat.log2_lt (n := b.natAbs) (k := 64) (by omega)
    omega
  show (if _ then _ else _) = _
  rw [if_pos ⟨h, this⟩]
@[simp] theorem powD_i {a b : Int} : powD (.int a) (.int b) = if 0 ≤ b ∧ b ≤ 1000 ∧ a.natAbs < 1000 then some (.dat (.int (a ^ b.toNat))) else none := rfl
@[simp] theorem isnD_n : isnD .non .non = some (.dat (.bl true)) := rfl
@[simp] theorem looks_nil : looks ls [] = some [] := rfl
@[simp] theorem looks_cons {r : List Slot} : looks ls (k :: r) = match look ls k, looks ls r with
    | some d, some ds => some (d :: ds)
    | _, _ => none := rfl
@[simp] theorem bltM_ap {g : List D → Option Slot} {am : AM} : bltM g am ls = (am ls).bind fun as ls => match looks ls as with
  | some ds => (match g ds with
    | some k => .ok k ls
    | none => .stk)
  | none => .stk := rfl
@[simp] theorem absD_i {a : Int} : absD [.int a] = some (.dat (.int (if a < 0 then -a else a))) := rfl
@[simp] theorem intD_i {a : Int} : intD [.int a] = some (.dat (.int a)) := rfl
@[simp] theorem maxD_i {a b : Int} : maxD [.int a, .int b] = some (.dat (.int (if b > a then b else a))) := rfl
@[simp] theorem minD_i {a b : Int} : minD [.int a, .int b] = some (.dat (.int (if b < a then b else a))) := rfl
@[simp] theorem lenD_l {ds : List D} : lenD [.lst ds] = some (.dat (.int ds.length)) := rfl
@[simp] theorem lenD_t {ds : List D} : lenD [.tup ds] = some (.dat (.int ds.length)) := rfl
@[simp] theorem lenD_s {ds : List Int} : lenD [.scr ds] = some (.dat (.int ds.length)) := rfl
@[simp] theorem lenD_dT {ds : List (List Key × D)} : lenD [.dT ds] = some (.dat (.int ds.length)) := rfl
@[simp] theorem listD_l {ds : List D} : listD [.lst ds] = some (.own (.lst ds)) := rfl
@[simp] theorem tupleD_l {ds : List D} : tupleD [.lst ds] = some (.dat (.tup ds)) := rfl
@[simp] theorem isiM_ap {tb : D → Option Bool} {tc : Str → Option Bool} {om : M} : isiM tb tc om ls = (om ls).bind fun k ls => match look ls k with
  | some d => (match isiD tb tc d with
    | some b => .ok (.dat (.bl b)) ls
    | none => .stk)
  | none => .stk := rfl
@[simp] theorem fldM_ap {xs : List Str} {f : Str} {om : M} : fldM xs f om ls = (om ls).bind fun k ls => match look ls k with
  | some (.ins y gs) => if y ∈ xs then (match gs.lookup f with
    | some d => .ok (.dat d) ls
    | none => .stk) else .stk
  | _ => .stk := rfl
@[simp] theorem chg_ap {g : D → Option D} : chg i g ls = match ls[i]? with
  | some (.own d) => (g d).map fun d' => ls.set i (.own d')
  | some (.par d) => (g d).map fun d' => ls.set i (.par d')
  | _ => none := rfl
@[simp] theorem setF_ap {xs : List Str} {f : Str} {om vm : M} : setF xs f om vm ls = (frzM vm ls).bindS fun k ls => match k with
  | .dat d => (om ls).bindS fun ko ls => (match ko with
    | .ali i => (match chg i (fldG xs f d) ls with
      | some ls => .nx ls
      | none => .stk)
    | _ => .stk)
  | _ => .stk := rfl
@[simp] theorem setI_ap {om im vm : M} : setI om im vm ls = (frzM vm ls).bindS fun kv ls => match kv with
  | .dat d => (om ls).bindS fun ko ls => (im ls).bindS fun ki ls => (match ko, look ls ki with
    | .ali j, some i => (match chg j (fun x => setD x i d) ls with
      | some ls => .nx ls
      | none => .stk)
    | _, _ => .stk)
  | _ => .stk := rfl
@[simp] theorem mutM_ap {ty : D → Bool} {g : D → List D → Option (D × D)} {om : M} {am : AM} : mutM ty g om am ls = (om ls).bind fun ko ls => match ko with
  | .ali i => if tyAt ls i ty = true then
      ((am ls).bind fun as ls => match dats as, ls[i]? with
      | some ds, some (.own d) => (match g d ds with
        | some (d', r) => .ok (.dat r) (ls.set i (.own d'))
        | none => .stk)
      | some ds, some (.par d) => (match g d ds with
        | some (d', r) => .ok (.dat r) (ls.set i (.par d'))
        | none => .stk)
      | _, _ => .stk) else .stk
  | _ => .stk := rfl
@[simp] theorem tyAt_ap {ty : D → Bool} : tyAt ls i ty = match ls[i]? with
  | some (.own d) => ty d
  | some (.par d) => ty d
  | _ => false := rfl
@[simp] theorem isLst_l {ds : List D} : isLst (.lst ds) = true := rfl
@[simp] theorem appG_l {xs : List D} : appG (.lst xs) [d] = if xs.length < 1000000 then some (.lst (xs ++ [d]), .non) else none := rfl
@[simp] theorem fgtS_ap {own : List Nat} {s : SM} : fgtS own s ls = s (wipeL ls own) := rfl
@[simp] theorem wipeL_nil : wipeL ls [] = ls := rfl
@[simp] theorem wipeL_cons {vs : List Nat} : wipeL ls (i :: vs) = (wipeL ls vs).set i .emp := rfl
@[simp] theorem empAt_nil : empAt ls [] = true := rfl
@[simp] theorem empAt_cons {vs : List Nat} : empAt ls (i :: vs) = ((match ls[i]? with
  | some .emp => true
  | none => true
  | _ => false) && empAt ls vs) := rfl
@[simp] theorem raise0_ap {c : Str} : raise0 c ls = .err ⟨c, []⟩ ls := rfl
@[simp] theorem raise1_ap {c f : Str} {am : AM} : raise1 c f am ls = match am ls with
  | .ok as ls => (match as with
    | [.dat d] => .err ⟨c, [(f, d)]⟩ ls
    | _ => .stk)
  | .err x ls => .err x ls
  | .stk => .stk := rfl
@[simp] theorem tryM_ap {b : SM} {cl : List Cl} : tryM b cl ls = match b ls with
  | .err x ls => catchL cl x ls
  | r => r := rfl
@[simp] theorem xfM_ap {nm f : Str} : xfM i nm f x ls = match ls[i]? with
  | some (.ali 0) => if x.name = nm then (match x.fs.lookup f with
    | some d => .ok (.dat d) ls
    | none => .stk) else .stk
  | _ => .stk := rfl
@[simp] theorem forM_ap {src : IM} {tg : TgM} {body : SM} : forM src tg body ls = (src ls).bind fun items g ls => forL g tg body items ls := rfl
@[simp] theorem forL_nil {tg : TgM} {body : SM} : forL none tg body [] ls = .nx ls := rfl
theorem forL_cons {tg : TgM} {body : SM} {ds : List D} : forL none tg body (d :: ds) ls = match tg d ls with
    | some ls1 => (match body ls1 with
      | .nx ls2 => forL none tg body ds ls2
      | .cnt ls2 => forL none tg body ds ls2
      | .brk ls2 => .nx ls2
      | .ret k ls2 => .ret k ls2
      | .err x ls2 => .err x ls2
      | .stk => .stk)
    | none => .stk := rfl
@[simp] theorem live_dat : live (.dat d) ls = none := rfl
@[simp] theorem live_own : live (.own d) ls = none := rfl
@[simp] theorem live_ali : live (.ali j) ls = match ls[j]? with
    | some (.par (.lst ds)) => some (j, ds)
    | _ => none := rfl
@[simp] theorem seqI_ap {m : M} : seqI m ls = match m ls with
  | .ok k ls => (match live k ls with
    | some (j, ds) => .ok ds (some (j, .lst ds)) ls
    | none => (match freezeK k ls with
      | some (d, ls) => (match itemsD d with
        | some ds => .ok ds none ls
        | none => .stk)
      | none => .stk))
  | .err x ls => .err x ls
  | .stk => .stk := rfl
@[simp] theorem itemsD_l {ds : List D} : itemsD (.lst ds) = some ds := rfl
@[simp] theorem itemsD_t {ds : List D} : itemsD (.tup ds) = some ds := rfl
@[simp] theorem enumM_ap {am : AM} : enumM am ls = match am ls with
  | .ok as ls => (match as with
    | [k] => (match live k ls with
      | some (j, ds) => .ok (enumD ds) (some (j, .lst ds)) ls
      | none => (match freezeK k ls with
        | some (.lst ds, ls) => .ok (enumD ds) none ls
        | _ => .stk))
    | _ => .stk)
  | .err x ls => .err x ls
  | .stk => .stk := rfl
@[simp] theorem rng1_ap {am : AM} : rng1 am ls = match am ls with
  | .ok as ls => (match as with
    | [.dat (.int j)] => if inR j then .ok (rangeD 0 j.toNat) none ls else .stk
    | _ => .stk)
  | .err x ls => .err x ls
  | .stk => .stk := rfl
@[simp] theorem rng2_ap {am : AM} : rng2 am ls = match am ls with
  | .ok as ls => (match as with
    | [.dat (.int i), .dat (.int j)] => if inR i && inR j then .ok (rangeD i (j - i).toNat) none ls else .stk
    | _ => .stk)
  | .err x ls => .err x ls
  | .stk => .stk := rfl
theorem inR_of {j : Int} (h1 : -1000000 ≤ j) (h2 : j ≤ 1000000) : inR j = true := by
  unfold inR; exact decide_eq_true (by omega)
@[simp] theorem lcM_ap {own : List Nat} {src : IM} {tg : TgM} {t e : M} : lcM own src tg t e ls = match src ls with
  | .ok items g ls => if empAt ls own then lcL own g tg t e items ls [] else .stk
  | .err x ls => .err x ls
  | .stk => .stk := rfl
@[simp] theorem lcL_nil {own : List Nat} {tg : TgM} {t e : M} {acc : List D} : lcL own none tg t e [] ls acc = .ok (.own (.lst acc)) ls := rfl
theorem lcL_cons {own : List Nat} {tg : TgM} {t e : M} {ds acc : List D} : lcL own none tg t e (d :: ds) ls acc = match tg d ls with
    | some ls1 => (match t ls1 with
      | .ok (.dat (.bl true)) ls2 => (match e ls2 with
        | .ok k ls3 => (match freezeK k ls3 with
          | some (y, ls4) => if acc.length < 1000000 then lcL own none tg t e ds (wipeL ls4 own) (acc ++ [y]) else .stk
          | none => .stk)
        | _ => .stk)
      | .ok (.dat (.bl false)) ls2 => lcL own none tg t e ds (wipeL ls2 own) acc
      | _ => .stk)
    | none => .stk := rfl
@[simp] theorem dcM_ap {own : List Nat} {src : IM} {tg : TgM} {t mk mv : M} {d0 : D} : dcM own src tg t mk mv d0 ls = match src ls with
  | .ok items g ls => if empAt ls own then dcL own g tg t mk mv items ls d0 else .stk
  | .err x ls => .err x ls
  | .stk => .stk := rfl
@[simp] theorem methL_ap {m : Str} {xs : List Str} {n : Nat} {f : List Slot → RF} {o : M} {am : AM} : methL m xs n f o am ls = (o ls).bind fun k ls => match look ls k with
  | some (.ins y gs) => if y ∈ xs ∧ gs.lookup m = none then (am ls).bind fun as ls => (if as.length = n then callK f (k :: as) ls else .stk) else .stk
  | _ => .stk := rfl
@[simp] theorem propL_ap {xs : List Str} {f : List Slot → RF} {o : M} : propL xs f o ls = (o ls).bind fun k ls => match look ls k with
  | some (.ins y _) => if y ∈ xs then (match callK f [k] ls with
    | .ok k ls => .ok k ls
    | _ => .stk) else .stk
  | _ => .stk := rfl
@[simp] theorem makeN_ap {c : Str} {n : Nat} {f : List Slot → RF} {am : AM} : makeN c n f am ls = (am ls).bind fun as ls => if as.length = n then makeK c f as ls else .stk := rfl
@[simp] theorem makeK_ap {c : Str} {f : List Slot → RF} {as : List Slot} : makeK c f as ls = if (alis as).Nodup then (match hands ls as with
  | some ps => (match f (.par (.ins c []) :: ps) with
    | .ok (.dat .non) (.par d :: ps') => (match backs as ps' ls with
      | some ls' => .ok (.own d) ls'
      | none => .stk)
    | .ok (.dat .non) (.dat d :: ps') => (match backs as ps' ls with
      | some ls' => .ok (.dat d) ls'
      | none => .stk)
    | .err x (.par _ :: ps') => (match backs as ps' ls with
      | some ls' => .err x ls'
      | none => .stk)
    | .err x (.dat _ :: ps') => (match backs as ps' ls with
      | some ls' => .err x ls'
      | none => .stk)
    | _ => .stk)
  | none => .stk) else .stk := rfl
@[simp] theorem inO_ap {xs : List Str} {f : List Slot → RF} {g : Bool → Bool} {a b : M} : inO xs f g a b ls = (a ls).bind fun k1 ls => (b ls).bind fun k2 ls => match look ls k2 with
  | some (.ins y _) => if y ∈ xs then (match callK f [k2, k1] ls with
    | .ok (.dat (.bl t)) ls => .ok (.dat (.bl (g t))) ls
    | _ => .stk) else .stk
  | _ => .stk := rfl
@[simp] theorem eqO_ap {xs : List Str} {f : List Slot → RF} {g : Bool → Bool} {ok : D → Bool} {a b : M} : eqO xs f g ok a b ls = (a ls).bind fun k1 ls => (b ls).bind fun k2 ls => match look ls k1, look ls k2 with
  | some (.ins y _), some d => if y ∈ xs ∧ ok d = true then (match callK f [k1, k2] ls with
    | .ok (.dat (.bl t)) ls => .ok (.dat (.bl (g t))) ls
    | _ => .stk) else .stk
  | _, _ => .stk := rfl
@[simp] theorem lenO_ap {xs : List Str} {f : List Slot → RF} {a : AM} : lenO xs f a ls = (a ls).bind fun ks ls => match ks with
  | [k] => (match look ls k with
    | some (.ins y _) => if y ∈ xs then (match callK f [k] ls with
      | .ok (.dat (.int n)) ls => if 0 ≤ n ∧ n < 2 ^ 63 then .ok (.dat (.int n)) ls else .stk
      | _ => .stk) else .stk
    | _ => .stk)
  | _ => .stk := rfl
end
end VM

set_option Elab.async false
set_option linter.all false
set_option maxRecDepth 100000
namespace VM
open PySem PySem.Spec L2
/-! ### written texts -/
@[simp] theorem str_inj {a b : String} : (Str.ofString a = Str.ofString b) ↔ a = b := by
  constructor
  · intro h
    rw [Str.ofString_eq_toList, Str.ofString_eq_toList] at h
    injection h with h
    have h2 : a.toList.map Char.toNat = b.toList.map Char.toNat := by simpa using h
    have inj : ∀ {x y : List Char}, x.map Char.toNat = y.map Char.toNat → x = y := fun {x} => by
      induction x with
      | nil => intro y h; cases y <;> simp_all
      | cons c x ih =>
        intro y h
        cases y with
        | nil => simp at h
        | cons d y =>
          simp at h
          rw [ih (by simpa using h.2)]
          congr 1
          exact Char.ext (UInt32.toNat_inj.mp h.1)
    exact String.toList_inj.mp (inj h2)
  · intro h; rw [h]
@[simp] theorem str_beq {a b : String} : (Str.ofString a == Str.ofString b) = decide (a = b) := by
  by_cases h : a = b
  · subst h; simp
  · simp [h]
/-! ### pairs of ints, lists of them, as data -/
abbrev JJ := Int × Int
def pyJ (p : JJ) : PyData := .tuple [.int p.1, .int p.2]
def JL (js : List JJ) : D := .lst (js.map tupP)
theorem toPy_J (p : JJ) : toPy (tupP p) = some (pyJ p) := by simp [tupP, toPy, toPys, pyJ]
theorem toPys_J : ∀ (js : List JJ), toPys (js.map tupP) = some (js.map pyJ)
  | [] => by simp [toPys]
  | p :: js => by simp [toPys, toPy_J, toPys_J js]
theorem eqv_J (p q : JJ) : PyData.eqv (pyJ p) (pyJ q) = decide (p = q) := by
  obtain ⟨a, b⟩ := p; obtain ⟨c, d⟩ := q
  simp [pyJ, PyData.eqv, PyData.eqvAll, Prod.ext_iff, Bool.decide_and, Bool.beq_eq_decide_eq, decide_eq_decide]
theorem eqvs_J : ∀ (a b : List JJ), PyData.eqvAll (a.map pyJ) (b.map pyJ) = decide (a = b)
  | [], [] => by simp [PyData.eqvAll]
  | [], _ :: _ => by simp [PyData.eqvAll]
  | _ :: _, [] => by simp [PyData.eqvAll]
  | p :: a, q :: b => by simp [PyData.eqvAll, eqv_J, eqvs_J a b, Bool.decide_and]
theorem lay_J (p : JJ) : (pyJ p).canLay0 = true := by simp [pyJ, PyData.canLay0, PyData.canLayAll0]
theorem lays_J : ∀ (js : List JJ), PyData.canLayAll0 (js.map pyJ) = true
  | [] => by simp [PyData.canLayAll0]
  | p :: js => by simp [PyData.canLayAll0, lay_J, lays_J js]
theorem dep_J (p : JJ) : (pyJ p).depth = 1 := by simp [pyJ, PyData.depth, PyData.depthAll]
theorem deps_J : ∀ (js : List JJ), PyData.depthAll (js.map pyJ) ≤ 1
  | [] => by simp [PyData.depthAll]
  | p :: js => by
    have := deps_J js
    simp [PyData.depthAll, dep_J]
    omega
theorem sh_J (p : JJ) : SeqAt.shaped (pyJ p) = true := by simp [SeqAt.shaped, lay_J, dep_J]
theorem shs_J (js : List JJ) : SeqAt.shaped (.list (js.map pyJ)) = true := by
  have := deps_J js
  simp [SeqAt.shaped, PyData.canLay0, lays_J, PyData.depth]
  omega
@[simp] theorem eqP_J (p q : JJ) : eqP (tupP p) (tupP q) = some (decide (p = q)) := by simp [eqP, toPy_J, sh_J, eqv_J]
@[simp] theorem eqP_JL (a b : List JJ) : eqP (JL a) (JL b) = some (decide (a = b)) := by
  simp [eqP, JL, toPy, toPys_J, shs_J, PyData.eqv, eqvs_J]
@[simp] theorem eqP_i (a b : Int) : eqP (.int a) (.int b) = some (decide (a = b)) := by
  simp [eqP, toPy, SeqAt.shaped, PyData.canLay0, PyData.depth, PyData.eqv, Bool.beq_eq_decide_eq]
@[simp] theorem eqP_b (a b : Bool) : eqP (.bl a) (.bl b) = some (a == b) := by
  simp [eqP, toPy, SeqAt.shaped, PyData.canLay0, PyData.depth, PyData.eqv]
@[simp] theorem eqD_ap (x y : D) : eqD x y = (eqP x y).map fun b => .dat (.bl b) := rfl
@[simp] theorem neD_ap (x y : D) : neD x y = (eqP x y).map fun b => .dat (.bl (!b)) := rfl
@[simp] theorem inD_ap (x y : D) : inD x y = (inP x y).map fun b => .dat (.bl b) := rfl
@[simp] theorem ninD_ap (x y : D) : ninD x y = (inP x y).map fun b => .dat (.bl (!b)) := rfl
theorem any_J (p : JJ) : ∀ (js : List JJ), ((js.map pyJ).any fun z => PyData.eqv z (pyJ p)) = decide (p ∈ js)
  | [] => by simp
  | q :: js => by
    rw [List.map_cons, List.any_cons, any_J p js, eqv_J]
    by_cases h : p = q
    · subst h; simp
    · simp [h, Ne.symm h]
@[simp] theorem inP_JL (p : JJ) (js : List JJ) : inP (tupP p) (JL js) = some (decide (p ∈ js)) := by
  simp only [inP, JL, toPy_J, toPys_J, sh_J, shs_J, and_self, if_true, any_J]
@[simp] theorem ixD_l {ds : List D} {i : Int} : ixD (.lst ds) (.int i) = (atI ds i).map .dat := rfl
@[simp] theorem ixD_t {ds : List D} {i : Int} : ixD (.tup ds) (.int i) = (atI ds i).map .dat := rfl
@[simp] theorem ixD_s {ns : List Int} {i : Int} : ixD (.scr ns) (.int i) = (atI ns i).map fun n => .dat (.int n) := rfl
@[simp] theorem setD_l {xs : List D} {i : Int} {v : D} : setD (.lst xs) (.int i) v = (ixN xs.length i).map fun j => .lst (xs.set j v) := rfl
@[simp] theorem atI_0 {α : Type} {x : α} {xs : List α} : atI (x :: xs) 0 = some x := atI_nat (j := 0) rfl
@[simp] theorem atI_1 {α : Type} {x y : α} {xs : List α} : atI (x :: y :: xs) 1 = some y := atI_nat (j := 1) rfl
@[simp] theorem ixN_0 {n : Nat} : ixN (n + 1) 0 = some 0 := by simp [ixN]
@[simp] theorem ixN_1 {n : Nat} : ixN (n + 1 + 1) 1 = some 1 := by
  simp [ixN]; omega
@[simp] theorem ixD_J0 (p : JJ) : ixD (tupP p) (.int 0) = some (.dat (.int p.1)) := by simp [tupP]
@[simp] theorem ixD_J1 (p : JJ) : ixD (tupP p) (.int 1) = some (.dat (.int p.2)) := by simp [tupP]
/-! ### comprehensions without effect -/
theorem set_emp {ls : LS} {i : Nat} (h : ls[i]? = some .emp) {k : Slot} : (ls.set i k).set i .emp = ls := by
  obtain ⟨h1, h2⟩ := List.getElem?_eq_some_iff.mp h
  rw [List.set_set]
  apply List.ext_getElem?
  intro j
  by_cases hj : j = i
  · subst hj; rw [List.getElem?_set_self h1, h]
  · rw [List.getElem?_set_ne (Ne.symm hj)]
theorem lcL_pure {i : Nat} {ls : LS} {t e : M} (p : D → Bool) (g : D → D) (hi : ls[i]? = some .emp) : ∀ (ds acc : List D),
    (∀ d ∈ ds, t (ls.set i (.dat d)) = .ok (.dat (.bl (p d))) (ls.set i (.dat d))) →
    (∀ d ∈ ds, p d = true → ∃ k, e (ls.set i (.dat d)) = .ok k (ls.set i (.dat d)) ∧ freezeK k (ls.set i (.dat d)) = some (g d, ls.set i (.dat d))) →
    acc.length + ds.length ≤ 1000000 → lcL [i] none (tgN i) t e ds ls acc = .ok (.own (.lst (acc ++ (ds.filter p).map g))) ls
  | [], acc, _, _, _ => by simp
  | d :: ds, acc, h1, h2, h3 => by
    rw [lcL_cons]
    simp only [tgN_ap]
    rw [h1 d List.mem_cons_self]
    simp at h3
    cases hp : p d with
    | false =>
      simp only [wipeL_cons, wipeL_nil, set_emp hi]
      rw [lcL_pure p g hi ds acc (fun d hd => h1 d (List.mem_cons_of_mem _ hd)) (fun d hd => h2 d (List.mem_cons_of_mem _ hd)) (by omega)]
      simp [hp]
    | true =>
      obtain ⟨k, h4, h5⟩ := h2 d List.mem_cons_self hp
      simp only [h4, h5, wipeL_cons, wipeL_nil, set_emp hi]
      rw [if_pos (by omega), lcL_pure p g hi ds (acc ++ [g d]) (fun d hd => h1 d (List.mem_cons_of_mem _ hd)) (fun d hd => h2 d (List.mem_cons_of_mem _ hd)) (by simp; omega)]
      simp [hp]
theorem lcL_map {i : Nat} {ls : LS} {e : M} (g : D → D) (hi : ls[i]? = some .emp) (ds : List D)
    (h2 : ∀ d ∈ ds, ∃ k, e (ls.set i (.dat d)) = .ok k (ls.set i (.dat d)) ∧ freezeK k (ls.set i (.dat d)) = some (g d, ls.set i (.dat d))) (h3 : ds.length ≤ 1000000) :
    lcL [i] none (tgN i) (conM (.bl true)) e ds ls [] = .ok (.own (.lst (ds.map g))) ls := by
  have := lcL_pure (t := conM (.bl true)) (e := e) (fun _ => true) g hi ds [] (fun d _ => rfl) (fun d hd _ => h2 d hd) (by simpa using h3)
  rw [List.filter_eq_self.mpr (fun _ _ => rfl)] at this
  simpa using this
theorem rangeD_len (lo : Int) (n : Nat) : (rangeD lo n).length = n := by simp [rangeD]
theorem rangeD_map (lo : Int) (n : Nat) : rangeD lo n = ((List.range n).map fun i => lo + (i : Nat)).map D.int := by simp [rangeD]
@[simp] theorem itemsD_JL {js : List JJ} : itemsD (JL js) = some (js.map tupP) := rfl
@[simp] theorem addD_JL {a b : List JJ} : addD (JL a) (JL b) = if a.length + b.length ≤ 1000000 then some (.own (JL (a ++ b))) else none := by simp [JL]
@[simp] theorem lenD_JL {a : List JJ} : lenD [JL a] = some (.dat (.int a.length)) := by simp [JL]
@[simp] theorem listD_JL {a : List JJ} : listD [JL a] = some (.own (JL a)) := by simp [JL]
@[simp] theorem isLst_JL {a : List JJ} : isLst (JL a) = true := rfl
@[simp] theorem appG_JL {a : List JJ} {p : JJ} : appG (JL a) [tupP p] = if a.length < 1000000 then some (JL (a ++ [p]), .non) else none := by simp [JL]
theorem live_JL {ls : LS} {j : Nat} {js : List JJ} (h : ls[j]? = some (.par (JL js))) : live (.ali j) ls = some (j, js.map tupP) := by simp [h, JL]
theorem tup2 (a b : Int) : D.tup [.int a, .int b] = tupP (a, b) := rfl
theorem JL_nil : D.lst [] = JL [] := rfl
theorem insG_JL {a : List JJ} {i : Int} {p : JJ} (h : a.length < 1000000) (h1 : 0 ≤ i) (h2 : i < 2 ^ 60) : insG (JL a) [.int i, tupP p] = some (JL (a.take i.toNat ++ [p] ++ a.drop i.toNat), .non) := by
  simp only [insG, JL, List.length_map]
  rw [if_pos ⟨h, h1, by omega⟩]
  simp
end VM

set_option Elab.async false
set_option linter.all false
set_option maxRecDepth 100000
set_option maxHeartbeats 1000000
namespace VM
open PySem PySem.Spec L2
/-! ### what is shown tells the data -/
def goodCp (c : Nat) : Bool := decide (c ≠ 39) && (Builtin.Str.reprChar 39 c == [c])
def goodS (s : Str) : Bool := s.cps.toList.all goodCp
mutual
def pgd : PyData → Bool
  | .none => true
  | .bool _ => true
  | .int _ => true
  | .str s => goodS s
  | .list xs => pgds xs
  | .tuple xs => pgds xs
  | .dict _ => false
def pgds : List PyData → Bool
  | [] => true
  | x :: xs => pgd x && pgds xs
end
def cl (s : Str) : List Nat := s.cps.toList
theorem cl_app (a b : Str) : cl (a ++ b) = cl a ++ cl b := by simp [cl, Str.cps_append]
theorem cl_inj {a b : Str} (h : cl a = cl b) : a = b := by
  cases a; cases b
  simp [cl] at h
  rw [h]
theorem cl_of (s : String) : cl (Str.ofString s) = s.toList.map Char.toNat := by
  rw [Str.ofString_eq_toList]; simp [cl]
/-! texts of strs -/
theorem fold_good : ∀ (l : List Nat) (acc : Array Nat), l.all goodCp = true → l.foldl (fun out c => out ++ (Builtin.Str.reprChar 39 c).toArray) acc = acc ++ l.toArray
  | [], acc, _ => by simp
  | c :: l, acc, h => by
    simp [goodCp] at h
    rw [List.foldl_cons, fold_good l _ (by simpa [goodCp] using h.2), h.1.2]
    simp
theorem cl_repr {s : Str} (h : goodS s = true) : cl (reprText s) = 39 :: (cl s ++ [39]) := by
  have h' : s.cps.toList.all goodCp = true := h
  have hq : reprQuote s = 39 := by
    have : s.cps.contains 39 = false := by
      rw [← Array.contains_toList]
      apply Bool.eq_false_iff.mpr
      intro z
      have := List.all_eq_true.mp h' 39 (List.contains_iff_mem.mp z)
      simp [goodCp] at this
    unfold reprQuote; rw [this]; rfl
  simp only [reprText, hq, cl]
  rw [← Array.foldl_toList, fold_good _ _ h']
  simp
/-! texts of ints -/
def dg (n : Nat) : List Nat := (Nat.toDigits 10 n).map Char.toNat
theorem dg_mem {n c : Nat} (h : c ∈ dg n) : 48 ≤ c ∧ c ≤ 57 := by
  obtain ⟨x, hx, rfl⟩ := List.mem_map.mp h
  have := Nat.isDigit_of_mem_toDigits (by decide) (by decide) hx
  simp [Char.isDigit] at this
  have a := UInt32.le_iff_toNat_le.mp this.1
  have b := UInt32.le_iff_toNat_le.mp this.2
  exact ⟨a, b⟩
theorem dg_ne (n : Nat) : dg n ≠ [] := by simp [dg, Nat.toDigits_ne_nil]
theorem dg_inj {a b : Nat} (h : dg a = dg b) : a = b := by
  have : Nat.toDigits 10 a = Nat.toDigits 10 b := by
    refine (List.map_inj_right fun x y z => ?_).mp h
    exact Char.ext (UInt32.toNat_inj.mp z)
  rw [← Nat.ofDigitChars_ten_toDigits (n := a), this, Nat.ofDigitChars_ten_toDigits]
theorem cl_int (i : Int) : cl (Str.ofString (toString i)) = if i < 0 then 45 :: dg i.natAbs else dg i.natAbs := by
  rw [cl_of, Int.toString_eq_repr, Int.repr_eq_if]
  by_cases h : 0 ≤ i
  · obtain ⟨n, rfl⟩ := Int.eq_ofNat_of_zero_le h
    simp [dg, show ¬ ((n : Int) < 0) by omega]
  · have e : (-i).toNat = i.natAbs := by omega
    simp [h, show i < 0 by omega, dg, e]
theorem run_of {p : Nat → Bool} : ∀ {a b r s : List Nat}, (∀ c ∈ a, p c = true) → (∀ c ∈ b, p c = true) → (∀ c, r.head? = some c → p c = false) → (∀ c, s.head? = some c → p c = false) → a ++ r = b ++ s → a = b ∧ r = s
  | [], [], r, s, _, _, _, _, h => ⟨rfl, h⟩
  | [], y :: b, r, s, _, h2, h3, _, h => by
    simp at h; subst h
    have := h3 y rfl
    rw [h2 y List.mem_cons_self] at this; cases this
  | x :: a, [], r, s, h1, _, _, h4, h => by
    simp at h; subst h
    have := h4 x rfl
    rw [h1 x List.mem_cons_self] at this; cases this
  | x :: a, y :: b, r, s, h1, h2, h3, h4, h => by
    simp at h
    obtain ⟨e1, e2⟩ := run_of (fun c hc => h1 c (List.mem_cons_of_mem _ hc)) (fun c hc => h2 c (List.mem_cons_of_mem _ hc)) h3 h4 h.2
    exact ⟨by rw [h.1, e1], e2⟩
/-! what stands behind -/
def tmL (r : List Nat) : Prop := ∀ c, r.head? = some c → c = 44 ∨ c = 93 ∨ c = 41
theorem tm_nil : tmL [] := fun c h => by cases h
def sl (a : PyData) : List Nat := cl a.shown
def jl (xs : List PyData) : List Nat := cl (Str.join ", " (PyData.shownAll xs))
theorem sl_none : sl .none = [78, 111, 110, 101] := by simp only [sl, PyData.shown_none]; decide +kernel
theorem sl_bool (b : Bool) : sl (.bool b) = if b then [84, 114, 117, 101] else [70, 97, 108, 115, 101] := by
  cases b <;> simp only [sl, PyData.shown_bool] <;> decide +kernel
theorem sl_int (i : Int) : sl (.int i) = if i < 0 then 45 :: dg i.natAbs else dg i.natAbs := by simp only [sl, PyData.shown_int]; exact cl_int i
theorem sl_str {s : Str} (h : goodS s = true) : sl (.str s) = 39 :: (cl s ++ [39]) := by simp only [sl, PyData.shown_str]; exact cl_repr h
theorem sl_list (xs : List PyData) : sl (.list xs) = 91 :: (jl xs ++ [93]) := by
  simp only [sl, jl, PyData.shown_list, cl_app]
  rw [show cl ("[" : String) = [91] by decide +kernel, show cl ("]" : String) = [93] by decide +kernel]
  simp
theorem sl_tuple (xs : List PyData) : sl (.tuple xs) = 40 :: (jl xs ++ (if xs.length = 1 then [44, 41] else [41])) := by
  simp only [sl, jl, PyData.shown_tuple, cl_app]
  rw [show cl ("(" : String) = [40] by decide +kernel]
  by_cases h : xs.length = 1
  · simp [h, show cl (",)" : String) = [44, 41] by decide +kernel]
  · simp [h, show cl (")" : String) = [41] by decide +kernel]
theorem jl_nil : jl [] = [] := by simp only [jl, PyData.shownAll_nil]; rfl
theorem jl_one (x : PyData) : jl [x] = sl x := by simp only [jl, PyData.shownAll_cons, PyData.shownAll_nil]; rfl
theorem jl_cons (x y : PyData) (xs : List PyData) : jl (x :: y :: xs) = sl x ++ 44 :: 32 :: jl (y :: xs) := by
  simp only [jl, PyData.shownAll_cons]
  show cl (PyData.shown x ++ ((", " : String) : Str) ++ Str.join ", " (PyData.shown y :: PyData.shownAll xs)) = _
  rw [cl_app, cl_app, show cl (", " : String) = [44, 32] by decide +kernel]
  simp [sl]
/-- the first sign -/
def fst : PyData → Nat → Prop
  | .none, c => c = 78
  | .bool b, c => c = if b then 84 else 70
  | .int i, c => if i < 0 then c = 45 else 48 ≤ c ∧ c ≤ 57
  | .str _, c => c = 39
  | .list _, c => c = 91
  | .tuple _, c => c = 40
  | .dict _, _ => False
theorem sl_fst : ∀ {a : PyData}, pgd a = true → ∃ c r, sl a = c :: r ∧ fst a c
  | .none, _ => ⟨_, _, sl_none, rfl⟩
  | .bool b, _ => by cases b <;> exact ⟨_, _, sl_bool _, rfl⟩
  | .int i, _ => by
    by_cases h : i < 0
    · exact ⟨45, dg i.natAbs, by rw [sl_int, if_pos h], by simp [fst, h]⟩
    · obtain ⟨c, r, e⟩ := List.exists_cons_of_ne_nil (dg_ne i.natAbs)
      exact ⟨c, r, by rw [sl_int, if_neg h, e], by simp only [fst, if_neg h]; exact dg_mem (n := i.natAbs) (by rw [e]; exact List.mem_cons_self)⟩
  | .str s, h => ⟨_, _, sl_str (by simpa [pgd] using h), rfl⟩
  | .list xs, _ => ⟨_, _, sl_list xs, rfl⟩
  | .tuple xs, _ => ⟨_, _, sl_tuple xs, rfl⟩
  | .dict _, h => by simp [pgd] at h
def clL (r : List Nat) : Prop := (∃ r', r = 93 :: r') ∨ (∃ r', r = 41 :: r') ∨ (∃ r', r = 44 :: 41 :: r')
theorem clL_tm {r : List Nat} (h : clL r) : tmL r := by
  intro c hc
  rcases h with ⟨r', rfl⟩ | ⟨r', rfl⟩ | ⟨r', rfl⟩ <;> simp at hc <;> simp [← hc]
theorem fst_no {a : PyData} {c : Nat} (h : fst a c) : c ≠ 44 ∧ c ≠ 93 ∧ c ≠ 41 := by
  cases a <;> simp only [fst] at h <;> (try split at h) <;> (first | exact h.elim | omega)
mutual
theorem sl_inj : ∀ (a b : PyData) {r s : List Nat}, pgd a = true → pgd b = true → tmL r → tmL s → sl a ++ r = sl b ++ s → a = b ∧ r = s
  | a, b, r, s, ha, hb, hr, hs, h => by
    obtain ⟨c, r1, e1, f1⟩ := sl_fst ha
    obtain ⟨d, r2, e2, f2⟩ := sl_fst hb
    have hcd : c = d := by rw [e1, e2] at h; simpa using (List.cons.inj h).1
    subst hcd
    match a, b, ha, hb, f1, f2, h with
    | .none, .none, _, _, _, _, h => exact ⟨rfl, List.append_cancel_left h⟩
    | .bool x, .bool y, _, _, f1, f2, h =>
      have : x = y := by cases x <;> cases y <;> simp [fst] at f1 f2 <;> first | rfl | omega
      subst this
      exact ⟨rfl, List.append_cancel_left h⟩
    | .int i, .int j, _, _, f1, f2, h =>
      have dig : ∀ n, ∀ c ∈ dg n, (decide (48 ≤ c ∧ c ≤ 57)) = true := fun n c hc => decide_eq_true (dg_mem hc)
      have ter : ∀ {r : List Nat}, tmL r → ∀ c, r.head? = some c → (decide (48 ≤ c ∧ c ≤ 57)) = false := fun hr c hc => by
        rcases hr c hc with rfl | rfl | rfl <;> decide
      rw [sl_int, sl_int] at h
      by_cases hi : i < 0
      · by_cases hj : j < 0
        · rw [if_pos hi, if_pos hj] at h
          simp only [List.cons_append, List.cons.injEq, true_and] at h
          obtain ⟨z1, z2⟩ := run_of (dig _) (dig _) (ter hr) (ter hs) h
          have := dg_inj z1
          exact ⟨by congr 1; omega, z2⟩
        · simp [fst, hi, hj] at f1 f2; omega
      · by_cases hj : j < 0
        · simp [fst, hi, hj] at f1 f2; omega
        · rw [if_neg hi, if_neg hj] at h
          obtain ⟨z1, z2⟩ := run_of (dig _) (dig _) (ter hr) (ter hs) h
          have := dg_inj z1
          exact ⟨by congr 1; omega, z2⟩
    | .str x, .str y, ha, hb, _, _, h =>
      have ga : goodS x = true := by simpa [pgd] using ha
      have gb : goodS y = true := by simpa [pgd] using hb
      rw [sl_str ga, sl_str gb] at h
      simp only [List.cons_append, List.cons.injEq, true_and, List.append_assoc, List.nil_append] at h
      have q : ∀ {x : Str}, goodS x = true → ∀ c ∈ cl x, (decide (c ≠ 39)) = true := fun {x} g c hc => by
        have := List.all_eq_true.mp (show x.cps.toList.all goodCp = true from g) c hc
        simp [goodCp] at this
        simp [this.1]
      obtain ⟨z1, z2⟩ := run_of (p := fun c => decide (c ≠ 39)) (q ga) (q gb) (fun c hc => by simp at hc; simp [← hc]) (fun c hc => by simp at hc; simp [← hc]) h
      exact ⟨by rw [cl_inj z1], (List.cons.inj z2).2⟩
    | .list xs, .list ys, ha, hb, _, _, h =>
      rw [sl_list, sl_list] at h
      simp only [List.cons_append, List.cons.injEq, true_and, List.append_assoc, List.nil_append] at h
      obtain ⟨z1, z2⟩ := jl_inj xs ys (by simpa [pgd] using ha) (by simpa [pgd] using hb) (.inl ⟨_, rfl⟩) (.inl ⟨_, rfl⟩) h
      exact ⟨by rw [z1], (List.cons.inj z2).2⟩
    | .tuple xs, .tuple ys, ha, hb, _, _, h =>
      rw [sl_tuple, sl_tuple] at h
      simp only [List.cons_append, List.cons.injEq, true_and, List.append_assoc] at h
      have cz : ∀ (xs : List PyData) (r : List Nat), clL ((if xs.length = 1 then [44, 41] else [41]) ++ r) := fun xs r => by
        split
        · exact .inr (.inr ⟨_, rfl⟩)
        · exact .inr (.inl ⟨_, rfl⟩)
      obtain ⟨z1, z2⟩ := jl_inj xs ys (by simpa [pgd] using ha) (by simpa [pgd] using hb) (cz _ _) (cz _ _) h
      subst z1
      exact ⟨rfl, List.append_cancel_left z2⟩
    | .none, .bool y, _, _, f1, f2, _ | .none, .int y, _, _, f1, f2, _ | .none, .str y, _, _, f1, f2, _ | .none, .list y, _, _, f1, f2, _ | .none, .tuple y, _, _, f1, f2, _
    | .bool y, .none, _, _, f1, f2, _ | .bool _, .int y, _, _, f1, f2, _ | .bool _, .str y, _, _, f1, f2, _ | .bool _, .list y, _, _, f1, f2, _ | .bool _, .tuple y, _, _, f1, f2, _
    | .int y, .none, _, _, f1, f2, _ | .int _, .bool y, _, _, f1, f2, _ | .int _, .str y, _, _, f1, f2, _ | .int _, .list y, _, _, f1, f2, _ | .int _, .tuple y, _, _, f1, f2, _
    | .str y, .none, _, _, f1, f2, _ | .str _, .bool y, _, _, f1, f2, _ | .str _, .int y, _, _, f1, f2, _ | .str _, .list y, _, _, f1, f2, _ | .str _, .tuple y, _, _, f1, f2, _
    | .list y, .none, _, _, f1, f2, _ | .list _, .bool y, _, _, f1, f2, _ | .list _, .int y, _, _, f1, f2, _ | .list _, .str y, _, _, f1, f2, _ | .list _, .tuple y, _, _, f1, f2, _
    | .tuple y, .none, _, _, f1, f2, _ | .tuple _, .bool y, _, _, f1, f2, _ | .tuple _, .int y, _, _, f1, f2, _ | .tuple _, .str y, _, _, f1, f2, _ | .tuple _, .list y, _, _, f1, f2, _ =>
      exfalso
      simp only [fst] at f1 f2
      (repeat (split at f1)) <;> (repeat (split at f2)) <;> omega
    | .dict _, _, ha, _, _, _, _ => simp [pgd] at ha
    | _, .dict _, _, hb, _, _, _ => simp [pgd] at hb
theorem jl_inj : ∀ (xs ys : List PyData) {r s : List Nat}, pgds xs = true → pgds ys = true → clL r → clL s → jl xs ++ r = jl ys ++ s → xs = ys ∧ r = s
  | [], [], r, s, _, _, _, _, h => ⟨rfl, by simpa [jl_nil] using h⟩
  | [], y :: ys, r, s, _, hb, hr, _, h => by
    exfalso
    simp [pgds] at hb
    obtain ⟨c, r1, e1, f1⟩ := sl_fst hb.1
    obtain ⟨n1, n2, n3⟩ := fst_no f1
    have : ∃ r2, r = c :: r2 := by
      cases ys with
      | nil => rw [jl_nil, jl_one, e1] at h; exact ⟨_, by simpa using h⟩
      | cons z zs => rw [jl_nil, jl_cons, e1] at h; exact ⟨_, by simpa using h⟩
    obtain ⟨r2, rfl⟩ := this
    rcases hr with ⟨r', z⟩ | ⟨r', z⟩ | ⟨r', z⟩ <;> injection z with z _ <;> omega
  | x :: xs, [], r, s, ha, _, _, hs, h => by
    exfalso
    simp [pgds] at ha
    obtain ⟨c, r1, e1, f1⟩ := sl_fst ha.1
    obtain ⟨n1, n2, n3⟩ := fst_no f1
    have : ∃ r2, s = c :: r2 := by
      cases xs with
      | nil => rw [jl_nil, jl_one, e1] at h; exact ⟨_, by simpa using h.symm⟩
      | cons z zs => rw [jl_nil, jl_cons, e1] at h; exact ⟨_, by simpa using h.symm⟩
    obtain ⟨r2, rfl⟩ := this
    rcases hs with ⟨r', z⟩ | ⟨r', z⟩ | ⟨r', z⟩ <;> injection z with z _ <;> omega
  | [x], [y], r, s, ha, hb, hr, hs, h => by
    simp [pgds] at ha hb
    rw [jl_one, jl_one] at h
    obtain ⟨z1, z2⟩ := sl_inj x y ha hb (clL_tm hr) (clL_tm hs) h
    exact ⟨by rw [z1], z2⟩
  | [x], y :: z :: ys, r, s, ha, hb, hr, hs, h => by
    exfalso
    simp [pgds] at ha hb
    rw [jl_one, jl_cons, List.append_assoc] at h
    obtain ⟨_, z2⟩ := sl_inj x y ha hb.1 (clL_tm hr) (fun c hc => by simp at hc; simp [← hc]) h
    rw [z2] at hr
    rcases hr with ⟨r', w⟩ | ⟨r', w⟩ | ⟨r', w⟩ <;> simp at w
  | x :: z :: xs, [y], r, s, ha, hb, hr, hs, h => by
    exfalso
    simp [pgds] at ha hb
    rw [jl_one, jl_cons, List.append_assoc] at h
    obtain ⟨_, z2⟩ := sl_inj x y ha.1 hb (fun c hc => by simp at hc; simp [← hc]) (clL_tm hs) h
    rw [← z2] at hs
    rcases hs with ⟨r', w⟩ | ⟨r', w⟩ | ⟨r', w⟩ <;> simp at w
  | x :: x' :: xs, y :: y' :: ys, r, s, ha, hb, hr, hs, h => by
    rw [pgds, Bool.and_eq_true] at ha hb
    rw [jl_cons, jl_cons, List.append_assoc, List.append_assoc] at h
    obtain ⟨z1, z2⟩ := sl_inj x y ha.1 hb.1 (fun c hc => by simp at hc; simp [← hc]) (fun c hc => by simp at hc; simp [← hc]) h
    simp only [List.cons_append, List.cons.injEq, true_and] at z2
    obtain ⟨z3, z4⟩ := jl_inj (x' :: xs) (y' :: ys) ha.2 hb.2 hr hs z2
    exact ⟨by rw [z1, z3], z4⟩
end
theorem shown_inj {a b : PyData} (ha : pgd a = true) (hb : pgd b = true) (h : a.shown = b.shown) : a = b :=
  (sl_inj a b (r := []) (s := []) ha hb tm_nil tm_nil (by simp [sl, h])).1
end VM

set_option Elab.async false
set_option linter.all false
set_option maxRecDepth 100000
set_option maxHeartbeats 1000000
namespace VM
open PySem PySem.Spec L2
/-! ### plain data: good ones -/
mutual
def py : D → PyData
  | .non => .none
  | .bl b => .bool b
  | .int i => .int i
  | .str s => .str s
  | .lst ds => .list (pys ds)
  | .tup ds => .tuple (pys ds)
  | _ => .none
def pys : List D → List PyData
  | [] => []
  | d :: ds => py d :: pys ds
end
mutual
def D.gd : D → Bool
  | .non => true
  | .bl _ => true
  | .int i => decide (i.natAbs < 2 ^ 200)
  | .str s => goodS s && PyData.strOk s && decide (s.length ≤ 1000)
  | .lst ds => D.gds ds
  | .tup ds => D.gds ds
  | _ => false
def D.gds : List D → Bool
  | [] => true
  | d :: ds => D.gd d && D.gds ds
end
mutual
def D.dp : D → Nat
  | .lst ds => D.dps ds + 1
  | .tup ds => D.dps ds + 1
  | _ => 0
def D.dps : List D → Nat
  | [] => 0
  | d :: ds => max (D.dp d) (D.dps ds)
end
mutual
def D.wt : D → Nat
  | .non => 4
  | .bl _ => 5
  | .int _ => 64
  | .str s => s.length + 2
  | .lst ds => D.wts ds + 3
  | .tup ds => D.wts ds + 3
  | _ => 0
def D.wts : List D → Nat
  | [] => 0
  | d :: ds => D.wt d + 2 + D.wts ds
end
theorem pys_map : ∀ ds : List D, pys ds = ds.map py
  | [] => rfl
  | d :: ds => by simp [pys, pys_map ds]
theorem gds_iff : ∀ {ds : List D}, D.gds ds = true ↔ ∀ d ∈ ds, d.gd = true
  | [] => by simp [D.gds]
  | d :: ds => by simp [D.gds, gds_iff (ds := ds)]
theorem dps_le {n : Nat} : ∀ {ds : List D}, D.dps ds ≤ n ↔ ∀ d ∈ ds, d.dp ≤ n
  | [] => by simp [D.dps]
  | d :: ds => by simp [D.dps, dps_le (ds := ds), Nat.max_le]
theorem wts_app : ∀ (a b : List D), D.wts (a ++ b) = D.wts a + D.wts b
  | [], b => by simp [D.wts]
  | d :: a, b => by simp [D.wts, wts_app a b]; omega
theorem wts_le {w : Nat} : ∀ {ds : List D}, (∀ d ∈ ds, d.wt ≤ w) → D.wts ds ≤ (w + 2) * ds.length
  | [], _ => by simp [D.wts]
  | d :: ds, h => by
    have := wts_le (ds := ds) fun x hx => h x (List.mem_cons_of_mem _ hx)
    have := h d List.mem_cons_self
    simp only [D.wts, List.length_cons, Nat.mul_succ]
    omega
mutual
theorem toPy_gd : ∀ {d : D}, d.gd = true → toPy d = some (py d)
  | .non, _ => by simp [toPy, py]
  | .bl _, _ => by simp [toPy, py]
  | .int _, _ => by simp [toPy, py]
  | .str _, _ => by simp [toPy, py]
  | .lst ds, h => by simp [toPy, py, toPys_gd (ds := ds) (by simpa [D.gd] using h)]
  | .tup ds, h => by simp [toPy, py, toPys_gd (ds := ds) (by simpa [D.gd] using h)]
  | .dK _, h => by simp [D.gd] at h
  | .dT _, h => by simp [D.gd] at h
  | .ins _ _, h => by simp [D.gd] at h
  | .scr _, h => by simp [D.gd] at h
  | .ktup _, h => by simp [D.gd] at h
theorem toPys_gd : ∀ {ds : List D}, D.gds ds = true → toPys ds = some (pys ds)
  | [], _ => by simp [toPys, pys]
  | d :: ds, h => by
    simp [D.gds] at h
    simp [toPys, pys, toPy_gd h.1, toPys_gd h.2]
end
mutual
theorem pgd_py : ∀ {d : D}, d.gd = true → pgd (py d) = true
  | .non, _ => by simp [pgd, py]
  | .bl _, _ => by simp [pgd, py]
  | .int _, _ => by simp [pgd, py]
  | .str _, h => by simp [D.gd] at h; simp [pgd, py, h]
  | .lst ds, h => by simp [pgd, py, pgds_py (ds := ds) (by simpa [D.gd] using h)]
  | .tup ds, h => by simp [pgd, py, pgds_py (ds := ds) (by simpa [D.gd] using h)]
  | .dK _, h => by simp [D.gd] at h
  | .dT _, h => by simp [D.gd] at h
  | .ins _ _, h => by simp [D.gd] at h
  | .scr _, h => by simp [D.gd] at h
  | .ktup _, h => by simp [D.gd] at h
theorem pgds_py : ∀ {ds : List D}, D.gds ds = true → pgds (pys ds) = true
  | [], _ => by simp [pgds, pys]
  | d :: ds, h => by
    simp [D.gds] at h
    simp [pgds, pys, pgd_py h.1, pgds_py h.2]
end
mutual
theorem lay_py : ∀ {d : D}, d.gd = true → (py d).canLay0 = true
  | .non, _ => by simp [PyData.canLay0, py]
  | .bl _, _ => by simp [PyData.canLay0, py]
  | .int _, _ => by simp [PyData.canLay0, py]
  | .str _, h => by simp [D.gd] at h; simp [PyData.canLay0, py, h]
  | .lst ds, h => by simp [PyData.canLay0, py, lays_py (ds := ds) (by simpa [D.gd] using h)]
  | .tup ds, h => by simp [PyData.canLay0, py, lays_py (ds := ds) (by simpa [D.gd] using h)]
  | .dK _, h => by simp [D.gd] at h
  | .dT _, h => by simp [D.gd] at h
  | .ins _ _, h => by simp [D.gd] at h
  | .scr _, h => by simp [D.gd] at h
  | .ktup _, h => by simp [D.gd] at h
theorem lays_py : ∀ {ds : List D}, D.gds ds = true → PyData.canLayAll0 (pys ds) = true
  | [], _ => by simp [PyData.canLayAll0, pys]
  | d :: ds, h => by
    simp [D.gds] at h
    simp [PyData.canLayAll0, pys, lay_py h.1, lays_py h.2]
end
mutual
theorem dep_py : ∀ {d : D}, d.gd = true → (py d).depth = d.dp
  | .non, _ => by simp [PyData.depth, py, D.dp]
  | .bl _, _ => by simp [PyData.depth, py, D.dp]
  | .int _, _ => by simp [PyData.depth, py, D.dp]
  | .str _, h => by simp [PyData.depth, py, D.dp]
  | .lst ds, h => by simp [PyData.depth, py, D.dp, deps_py (ds := ds) (by simpa [D.gd] using h)]
  | .tup ds, h => by simp [PyData.depth, py, D.dp, deps_py (ds := ds) (by simpa [D.gd] using h)]
  | .dK _, h => by simp [D.gd] at h
  | .dT _, h => by simp [D.gd] at h
  | .ins _ _, h => by simp [D.gd] at h
  | .scr _, h => by simp [D.gd] at h
  | .ktup _, h => by simp [D.gd] at h
theorem deps_py : ∀ {ds : List D}, D.gds ds = true → PyData.depthAll (pys ds) = D.dps ds
  | [], _ => by simp [PyData.depthAll, pys, D.dps]
  | d :: ds, h => by
    simp [D.gds] at h
    simp [PyData.depthAll, pys, D.dps, dep_py h.1, deps_py h.2]
end
theorem log_lt {n : Nat} (h : n < 2 ^ 200) : n.log2 < 1920 := by
  by_cases z : n = 0
  · subst z; decide
  · have := (Nat.log2_lt z).mpr h
    omega
mutual
theorem show_py : ∀ {d : D}, d.gd = true → (py d).showable = true ∧ (py d).hasDict = false
  | .non, _ => by simp [PyData.showable, PyData.hasDict, py]
  | .bl _, _ => by simp [PyData.showable, PyData.hasDict, py]
  | .int i, h => by
    simp only [D.gd, decide_eq_true_eq] at h
    simp [PyData.showable, PyData.hasDict, py, log_lt h]
  | .str _, h => by simp [PyData.showable, PyData.hasDict, py]
  | .lst ds, h => by simp [PyData.showable, PyData.hasDict, py, shows_py (ds := ds) (by simpa [D.gd] using h)]
  | .tup ds, h => by simp [PyData.showable, PyData.hasDict, py, shows_py (ds := ds) (by simpa [D.gd] using h)]
  | .dK _, h => by simp [D.gd] at h
  | .dT _, h => by simp [D.gd] at h
  | .ins _ _, h => by simp [D.gd] at h
  | .scr _, h => by simp [D.gd] at h
  | .ktup _, h => by simp [D.gd] at h
theorem shows_py : ∀ {ds : List D}, D.gds ds = true → PyData.showableAll (pys ds) = true ∧ PyData.hasDictAll (pys ds) = false
  | [], _ => by simp [PyData.showableAll, PyData.hasDictAll, pys]
  | d :: ds, h => by
    simp [D.gds] at h
    simp [PyData.showableAll, PyData.hasDictAll, pys, show_py h.1, shows_py h.2]
end
/-! lengths of what is shown -/
theorem len_cl (s : Str) : s.length = (cl s).length := by simp [Str.length, cl]
theorem dg_len {n : Nat} (h : n < 2 ^ 200) : (dg n).length ≤ 61 := by
  rw [dg, List.length_map, Nat.length_toDigits_le_iff (by decide) (by decide)]
  exact Nat.lt_of_lt_of_le h (by decide)
mutual
theorem sl_len : ∀ {d : D}, d.gd = true → (sl (py d)).length ≤ d.wt
  | .non, _ => by simp [py, sl_none, D.wt]
  | .bl b, _ => by cases b <;> simp [py, sl_bool, D.wt]
  | .int i, h => by
    simp only [D.gd, decide_eq_true_eq] at h
    have := dg_len h
    simp only [py, sl_int, D.wt]
    split
    · simp; omega
    · omega
  | .str s, h => by
    simp [D.gd] at h
    simp [py, sl_str h.1.1, D.wt, len_cl]
  | .lst ds, h => by
    have := jl_len (ds := ds) (by simpa [D.gd] using h)
    simp [py, sl_list, D.wt]
    omega
  | .tup ds, h => by
    have := jl_len (ds := ds) (by simpa [D.gd] using h)
    simp only [py, sl_tuple, D.wt, List.length_cons, List.length_append]
    split <;> simp <;> omega
  | .dK _, h => by simp [D.gd] at h
  | .dT _, h => by simp [D.gd] at h
  | .ins _ _, h => by simp [D.gd] at h
  | .scr _, h => by simp [D.gd] at h
  | .ktup _, h => by simp [D.gd] at h
theorem jl_len : ∀ {ds : List D}, D.gds ds = true → (jl (pys ds)).length ≤ D.wts ds
  | [], _ => by simp [pys, jl_nil]
  | [d], h => by
    simp [D.gds] at h
    have := sl_len h
    simp [pys, jl_one, D.wts]
    omega
  | d :: e :: ds, h => by
    rw [D.gds, Bool.and_eq_true] at h
    have h1 := sl_len h.1
    have h2 := jl_len (ds := e :: ds) h.2
    rw [pys, pys, jl_cons]
    rw [pys] at h2
    rw [D.wts]
    simp
    omega
end
theorem shown_len {d : D} (h : d.gd = true) : (py d).shown.length ≤ d.wt := by
  rw [len_cl]; exact sl_len h
mutual
theorem py_inj : ∀ {a b : D}, a.gd = true → b.gd = true → py a = py b → a = b
  | a, b, ha, hb, h => by
    cases a <;> cases b <;> first
      | (simp [D.gd] at ha; done)
      | (simp [D.gd] at hb; done)
      | rfl
      | (simp [py] at h; done)
      | (simp only [py, PyData.bool.injEq, PyData.int.injEq, PyData.str.injEq] at h; rw [h])
      | (rename_i xs ys; simp only [py, PyData.list.injEq, PyData.tuple.injEq] at h; rw [pys_inj (a := xs) (b := ys) (by simpa [D.gd] using ha) (by simpa [D.gd] using hb) h])
theorem pys_inj : ∀ {a b : List D}, D.gds a = true → D.gds b = true → pys a = pys b → a = b
  | [], [], _, _, _ => rfl
  | [], _ :: _, _, _, h => by simp [pys] at h
  | _ :: _, [], _, _, h => by simp [pys] at h
  | x :: a, y :: b, ha, hb, h => by
    simp [D.gds] at ha hb
    simp [pys] at h
    rw [py_inj ha.1 hb.1 h.1, pys_inj ha.2 hb.2 h.2]
end
def shD (d : D) : Str := (py d).shown
theorem shD_inj {a b : D} (ha : a.gd = true) (hb : b.gd = true) : shD a = shD b ↔ a = b :=
  ⟨fun h => py_inj ha hb (shown_inj (pgd_py ha) (pgd_py hb) h), fun h => by rw [h]⟩
theorem reprD_gd {d : D} (h : d.gd = true) (hw : d.wt ≤ 1000000) (hd : d.dp ≤ 50) : reprD [d] = some (.dat (.str (shD d))) := by
  have a := show_py h
  have b := shown_len h
  have c := dep_py h
  simp only [reprD, toPy_gd h, Option.bind_some, reprP]
  rw [if_pos ⟨a.1, a.2, by omega, by omega⟩]
  rfl
/-! equality -/
theorem shaped_py {d : D} (h : d.gd = true) (hd : d.dp ≤ 60) : SeqAt.shaped (py d) = true := by
  simp [SeqAt.shaped, lay_py h, dep_py h]; omega
theorem eqP_gd {a b : D} (ha : a.gd = true) (hb : b.gd = true) (da : a.dp ≤ 60) (db : b.dp ≤ 60) : eqP a b = some (PyData.eqv (py a) (py b)) := by
  simp [eqP, toPy_gd ha, toPy_gd hb, shaped_py ha da, shaped_py hb db]
mutual
def pnb : PyData → Bool
  | .bool _ => false
  | .list xs => pnbs xs
  | .tuple xs => pnbs xs
  | .dict _ => false
  | _ => true
def pnbs : List PyData → Bool
  | [] => true
  | x :: xs => pnb x && pnbs xs
end
mutual
theorem eqv_nb : ∀ (a b : PyData), pnb a = true → pnb b = true → (PyData.eqv a b = true ↔ a = b)
  | a, b, ha, hb => by
    cases a <;> cases b <;> first
      | (simp [pnb] at ha; done)
      | (simp [pnb] at hb; done)
      | (simp [PyData.eqv]; done)
      | (rename_i xs ys; simp only [PyData.eqv, PyData.list.injEq, PyData.tuple.injEq]; exact eqvs_nb xs ys (by simpa [pnb] using ha) (by simpa [pnb] using hb))
theorem eqvs_nb : ∀ (a b : List PyData), pnbs a = true → pnbs b = true → (PyData.eqvAll a b = true ↔ a = b)
  | [], [], _, _ => by simp [PyData.eqvAll]
  | [], _ :: _, _, _ => by simp [PyData.eqvAll]
  | _ :: _, [], _, _ => by simp [PyData.eqvAll]
  | x :: a, y :: b, ha, hb => by
    simp [pnbs] at ha hb
    simp [PyData.eqvAll, eqv_nb x y ha.1 hb.1, eqvs_nb a b ha.2 hb.2]
end
mutual
theorem eqv_self : ∀ (a : PyData), pgd a = true → PyData.eqv a a = true
  | .none, _ => by simp [PyData.eqv]
  | .bool _, _ => by simp [PyData.eqv]
  | .int _, _ => by simp [PyData.eqv]
  | .str _, _ => by simp [PyData.eqv]
  | .list xs, h => by simp only [PyData.eqv]; exact eqvs_self xs (by simpa [pgd] using h)
  | .tuple xs, h => by simp only [PyData.eqv]; exact eqvs_self xs (by simpa [pgd] using h)
  | .dict _, h => by simp [pgd] at h
theorem eqvs_self : ∀ (a : List PyData), pgds a = true → PyData.eqvAll a a = true
  | [], _ => by simp [PyData.eqvAll]
  | x :: xs, h => by
    simp [pgds] at h
    simp [PyData.eqvAll, eqv_self x h.1, eqvs_self xs h.2]
end
theorem eqP_self {a : D} (ha : a.gd = true) (da : a.dp ≤ 60) : eqP a a = some true := by
  rw [eqP_gd ha ha da da, eqv_self _ (pgd_py ha)]
/-- equal to a text -/
def isS (w : Str) : D → Bool
  | .str s => s == w
  | _ => false
theorem eqv_strR (w : Str) {d : D} (h : d.gd = true) : PyData.eqv (py d) (.str w) = isS w d := by
  cases d <;> first | (simp [D.gd] at h; done) | simp [py, PyData.eqv, isS]
theorem eqv_strL (w : Str) {d : D} (h : d.gd = true) : PyData.eqv (.str w) (py d) = isS w d := by
  cases d <;> first | (simp [D.gd] at h; done) | (simp [py, PyData.eqv, isS]; done) | (simp [py, PyData.eqv, isS, Bool.beq_comm])
theorem eqP_strR {w : Str} (hw : (D.str w).gd = true) {d : D} (h : d.gd = true) (hd : d.dp ≤ 60) : eqP d (.str w) = some (isS w d) := by
  rw [eqP_gd h hw hd (by simp [D.dp])]
  congr 1
  simpa [py] using eqv_strR w h
/-! what a plain value is: gd → pl -/
end VM

set_option linter.all false
set_option maxRecDepth 100000
set_option maxHeartbeats 1000000
namespace VM
open PySem PySem.Spec L2
def JOk (B : Int) (js : List JJ) : Prop := js.Nodup ∧ ∀ p ∈ js, 0 ≤ p.1 ∧ p.1 < p.2 ∧ p.2 ≤ B - 1

/-! ### plain data -/
mutual
def D.pl : D → Bool
  | .non => true
  | .bl _ => true
  | .int _ => true
  | .str _ => true
  | .lst ds => D.pls ds
  | .tup ds => D.pls ds
  | _ => false
def D.pls : List D → Bool
  | [] => true
  | d :: ds => D.pl d && D.pls ds
end
def whF (lo hi : Int) : D → Bool
  | .int i => decide (lo ≤ i) && decide (i ≤ hi)
  | _ => false
theorem integer_ok {d : D} (h : d.pl = true) : m_is_integer [.dat d] = .ok (.dat (.bl (match d with | .int _ => true | _ => false))) [.dat d] := by
  cases d <;> first | (simp [m_is_integer, funM_ap, isiD, tbInt, tbBool]; done) | (simp [D.pl] at h; done)
theorem within_ok {d : D} (h : d.pl = true) (lo hi : Int) : m_within [.dat d, .dat (.int lo), .dat (.int hi)] = .ok (.dat (.bl (whF lo hi d))) [.dat d, .dat (.int lo), .dat (.int hi)] := by
  have e := integer_ok h
  cases d with
  | int i =>
    by_cases h1 : lo ≤ i
    · simp [m_within, funM_ap, e, whF, h1]
    · simp [m_within, funM_ap, e, whF, h1]
  | _ => simp [m_within, funM_ap, e, whF]
def isJ (B : Int) : D → Bool
  | .tup [.int u, .int v] => decide (0 ≤ u) && decide (u ≤ B - 1) && decide (0 ≤ v) && decide (v ≤ B - 1) && decide (u < v)
  | _ => false
theorem isJ_J {B : Int} {p : JJ} : isJ B (tupP p) = (decide (0 ≤ p.1) && decide (p.1 ≤ B - 1) && decide (0 ≤ p.2) && decide (p.2 ≤ B - 1) && decide (p.1 < p.2)) := rfl
def toJ : D → JJ
  | .tup [.int u, .int v] => (u, v)
  | _ => (0, 0)
@[simp] theorem toJ_J (p : JJ) : toJ (tupP p) = p := rfl
theorem isJ_tup {B : Int} {d : D} (h : isJ B d = true) : d = tupP (toJ d) := by
  unfold isJ at h
  split at h
  · rfl
  · cases h
theorem isJ_of {B : Int} {p : JJ} (h : 0 ≤ p.1 ∧ p.1 < p.2 ∧ p.2 ≤ B - 1) : isJ B (tupP p) = true := by
  rw [isJ_J]
  simp
  omega
theorem isJ_bd {B : Int} {p : JJ} (h : isJ B (tupP p) = true) : 0 ≤ p.1 ∧ p.1 < p.2 ∧ p.2 ≤ B - 1 := by
  rw [isJ_J] at h
  simp at h
  omega
theorem isJ_two (B : Int) (x y : D) : isJ B (.tup [x, y]) = (whF 0 (B - 1) x && (whF 0 (B - 1) y && (match x, y with | .int u, .int v => decide (u < v) | _, _ => false))) := by
  cases x <;> first | (simp [isJ, whF]; done) | (cases y <;> simp [isJ, whF, Bool.and_assoc])
theorem is_jump_ok {d : D} (h : d.pl = true) (B : Int) : m_is_jump [.dat d, .dat (.int B)] = .ok (.dat (.bl (isJ B d))) [.dat d, .dat (.int B)] := by
  cases d with
  | tup ds =>
    match ds, h with
    | [], _ => simp [m_is_jump, funM_ap, isiD, tbTuple, isJ]
    | [_], _ => simp [m_is_jump, funM_ap, isiD, tbTuple, isJ]
    | [x, y], h =>
      simp [D.pl, D.pls] at h
      have e1 := within_ok h.1 0 (B - 1)
      have e2 := within_ok h.2 0 (B - 1)
      rw [isJ_two]
      cases hx : whF 0 (B - 1) x with
      | false =>
        simp [m_is_jump, funM_ap, isiD, tbTuple, lcL_cons, e1, e2, hx, allD, blsD]
      | true =>
        cases hy : whF 0 (B - 1) y with
        | false => simp [m_is_jump, funM_ap, isiD, tbTuple, lcL_cons, e1, e2, hx, hy, allD, blsD]
        | true =>
          cases x <;> first | (simp [whF] at hx; done) | skip
          cases y <;> first | (simp [whF] at hy; done) | skip
          simp [m_is_jump, funM_ap, isiD, tbTuple, lcL_cons, e1, e2, hx, hy, allD, blsD]
    | x :: y :: z :: r, h =>
      have : ¬ ((r.length : Int) + 1 + 1 + 1 = 2) := by omega
      simp [m_is_jump, funM_ap, isiD, tbTuple, isJ, this]
  | _ => first | (simp [m_is_jump, funM_ap, isiD, tbTuple, isJ]; done) | (simp [D.pl] at h; done)
/-! ### dicts keyed by pairs -/
def kn (js : List JJ) : D := .dT (js.map fun p => (pk p, D.bl true))
theorem keyT_J (p : JJ) : keyT (tupP p) = some (pk p) := by simp [tupP, keyT, keysK, keyK, pk]
theorem pk_inj {p q : JJ} : pk p = pk q ↔ p = q := by
  obtain ⟨a, b⟩ := p; obtain ⟨c, d⟩ := q
  simp [pk]
@[simp] theorem inP_kn (p : JJ) (js : List JJ) : inP (tupP p) (kn js) = some (decide (p ∈ js)) := by
  simp only [inP, kn, keyT_J]
  congr 1
  induction js with
  | nil => simp [getG]
  | cons q js ih =>
    simp only [getG, List.map_cons, List.find?_cons, pk_inj] at ih ⊢
    by_cases h : q = p
    · subst h; simp
    · simp [h, Ne.symm h] at ih ⊢
      exact ih
theorem putG_kn {p : JJ} {js : List JJ} (h : p ∉ js) : putG (js.map fun p => (pk p, D.bl true)) (pk p) (D.bl true) = (js ++ [p]).map fun p => (pk p, D.bl true) := by
  unfold putG
  rw [if_neg]
  · simp
  · simp only [List.any_map, List.any_eq_true, Function.comp, decide_eq_true_eq, pk_inj]
    rintro ⟨q, hq, rfl⟩
    exact h hq
theorem setD_kn {p : JJ} {js : List JJ} (h : p ∉ js) (hl : js.length < 1000000) : setD (kn js) (tupP p) (.bl true) = some (kn (js ++ [p])) := by
  simp only [setD, kn, keyT_J, List.length_map, if_pos hl, Option.map_some, putG_kn h]
theorem prs_kn (js : List JJ) : prs ((js.map fun p => (pk p, D.bl true)).map (·.1)) = some js := by
  induction js with
  | nil => rfl
  | cons q js ih =>
    obtain ⟨a, b⟩ := q
    simp [pk, prs] at ih ⊢
    rw [ih]
@[simp] theorem sortD_kn (js : List JJ) : sortD [kn js] = some (.own (JL (sortP js))) := by
  simp only [sortD, kn, prs_kn, Option.map_some, JL]
@[simp] theorem lenD_kn {js : List JJ} : lenD [kn js] = some (.dat (.int js.length)) := by simp [kn]

/-- the place of the first bad or repeated element, behind some pairs -/
def badAt (B : Int) : Nat → List JJ → List D → Option Nat
  | _, _, [] => none
  | n, js, d :: ds => if isJ B d = true ∧ toJ d ∉ js then badAt B (n + 1) (js ++ [toJ d]) ds else some n
def allJ (js : List JJ) (ds : List D) : List JJ := js ++ ds.map toJ
theorem badAt_none {B : Int} : ∀ {n : Nat} {js : List JJ} {ds : List D}, badAt B n js ds = none → js.Nodup → (allJ js ds).Nodup ∧ ds = (ds.map toJ).map tupP ∧ ∀ d ∈ ds, isJ B d = true
  | n, js, [], h, hn => ⟨by simpa [allJ] using hn, rfl, by simp⟩
  | n, js, d :: ds, h, hn => by
    unfold badAt at h
    split at h
    · rename_i c
      obtain ⟨a, b, e⟩ := badAt_none h (List.nodup_append.mpr ⟨hn, by simp, fun x hx y hy => by simp at hy; subst hy; exact fun z => c.2 (z ▸ hx)⟩)
      refine ⟨by simpa [allJ] using a, ?_, ?_⟩
      · rw [List.map_cons, List.map_cons, ← isJ_tup c.1, ← b]
      · intro x hx
        rcases List.mem_cons.mp hx with z | z
        · subst z; exact c.1
        · exact e x z
    · cases h
theorem badAt_good {B : Int} : ∀ {n : Nat} {js ks : List JJ}, (js ++ ks).Nodup → (∀ p ∈ ks, isJ B (tupP p) = true) → badAt B n js (ks.map tupP) = none
  | n, js, [], _, _ => rfl
  | n, js, p :: ks, h, hk => by
    have hn : p ∉ js := fun z => (List.nodup_append.mp h).2.2 p z p List.mem_cons_self rfl
    rw [List.map_cons, badAt, if_pos ⟨hk p List.mem_cons_self, by simpa using hn⟩, toJ_J]
    exact badAt_good (by simpa using h) fun q hq => hk q (List.mem_cons_of_mem _ hq)
def enumF : Nat → List D → List D
  | _, [] => []
  | n, d :: ds => .tup [.int (n : Nat), d] :: enumF (n + 1) ds
theorem enumD_F : ∀ (n : Nat) (ds : List D), (ds.mapIdx fun i d => D.tup [.int ((n + i : Nat) : Int), d]) = enumF n ds
  | n, [] => rfl
  | n, d :: ds => by
    rw [List.mapIdx_cons, enumF, ← enumD_F (n + 1) ds]
    simp [Nat.add_assoc, Nat.add_comm 1]
theorem enumD_0 (ds : List D) : enumD ds = enumF 0 ds := by
  have := enumD_F 0 ds
  simpa [enumD] using this
theorem forL_consG {g : Gd} {tg : TgM} {body : SM} {d : D} {ds : List D} {ls : LS} (hg : gOk g ls = true) : forL g tg body (d :: ds) ls = match tg d ls with
    | some ls1 => (match body ls1 with
      | .nx ls2 => forL g tg body ds ls2
      | .cnt ls2 => forL g tg body ds ls2
      | .brk ls2 => .nx ls2
      | .ret k ls2 => .ret k ls2
      | .err x ls2 => .err x ls2
      | .stk => .stk)
    | none => .stk := by
  simp only [forL, hg, if_true] <;> rfl
theorem forL_nilG {g : Gd} {tg : TgM} {body : SM} {ls : LS} (hg : gOk g ls = true) : forL g tg body [] ls = .nx ls := by simp only [forL, hg, if_true]
theorem gOk_get {j : Nat} {d : D} {ls : LS} (h : ls[j]? = some (.par d)) : gOk (some (j, d)) ls = true := by
  unfold gOk
  simp only [h, D.beq_refl]
def iLS (B : Int) (c : Slot) (js : List JJ) (a b : Slot) : LS := [.par (.ins "Routine" []), .dat (.int B), c, .own (kn js), a, b]
/-- how the list is handed -/
def Hl (c : Slot) (gd : Gd) (ds : List D) : Prop := (c = .par (.lst ds) ∧ gd = some (2, .lst ds)) ∨ (c = .dat (.lst ds) ∧ gd = none)
theorem Hl.ok {c : Slot} {gd : Gd} {ds : List D} (h : Hl c gd ds) {B : Int} {js : List JJ} {a b : Slot} : gOk gd (iLS B c js a b) = true := by
  rcases h with ⟨rfl, rfl⟩ | ⟨rfl, rfl⟩
  · exact gOk_get rfl
  · rfl
abbrev iBody : SM := (seqM (ifS (orM (notM (callN 2 m_is_jump (consA (varM 5) (consA (varM 1) nilA)))) (binM inD (varM 5) (varM 3))) (raise1 "BadJump" "at" (consA (frzM (varM 4)) nilA))
    nxM)
    (setI (varM 3) (varM 5) (conM (.bl true))))
theorem init_loop {B : Int} {ds0 : List D} {c : Slot} {gd : Gd} (hc0 : Hl c gd ds0) : ∀ (ds : List D) (n : Nat) (js : List JJ) (a b : Slot), D.pls ds = true → js.length + ds.length ≤ 100000 →
    (∃ a' b', forL gd (tgT [(tgN 4), (tgN 5)]) iBody (enumF n ds) (iLS B c js a b) = match badAt B n js ds with
      | none => .nx (iLS B c (allJ js ds) a' b')
      | some m => .err ⟨"BadJump", [("at", .int (m : Nat))]⟩ (iLS B c (js ++ (ds.take (m - n)).map toJ) a' b')) ∧ ∀ m, badAt B n js ds = some m → n ≤ m
  | [], n, js, a, b, _, _ => ⟨⟨a, b, by rw [enumF, forL_nilG hc0.ok]; simp [badAt, allJ]⟩, fun m h => by cases h⟩
  | d :: ds, n, js, a, b, hp, hl => by
    simp [D.pls] at hp
    simp at hl
    have e1 := is_jump_ok hp.1 B
    have hg : gOk gd (iLS B c js a b) = true := hc0.ok
    rw [enumF, forL_consG hg]
    by_cases hc : isJ B d = true ∧ toJ d ∉ js
    · have hd := isJ_tup hc.1
      obtain ⟨⟨a', b', e⟩, hm⟩ := init_loop (B := B) hc0 ds (n + 1) (js ++ [toJ d]) (.dat (.int (n : Nat))) (.dat d) hp.2 (by simp; omega)
      refine ⟨⟨a', b', ?_⟩, fun m h => ?_⟩
      · rw [badAt, if_pos hc]
        have e2 : inP d (kn js) = some (decide (toJ d ∈ js)) := by
          have := inP_kn (toJ d) js
          rwa [← hd] at this
        have e3 : setD (kn js) d (.bl true) = some (kn (js ++ [toJ d])) := by
          have := setD_kn (p := toJ d) hc.2 (by omega)
          rwa [← hd] at this
        simp only [iLS] at e ⊢
        simp [e1, hc.1, e2, hc.2, e3, e]
        cases hb : badAt B (n + 1) (js ++ [toJ d]) ds with
        | none => simp [allJ]
        | some m =>
          have := hm m hb
          simp
          have e4 : m - n = (m - (n + 1)) + 1 := by omega
          rw [e4, List.take_succ_cons]
      · rw [badAt, if_pos hc] at h
        have := hm m h
        omega
    · refine ⟨⟨.dat (.int (n : Nat)), .dat d, ?_⟩, fun m h => by rw [badAt, if_neg hc] at h; cases h; exact Nat.le_refl _⟩
      rw [badAt, if_neg hc]
      simp only [iLS]
      cases hj : isJ B d with
      | false => simp [e1, hj]
      | true =>
        have hd := isJ_tup hj
        have hin : toJ d ∈ js := by
          refine Classical.byContradiction fun z => hc ⟨hj, z⟩
        have e2 : inP d (kn js) = some (decide (toJ d ∈ js)) := by
          have := inP_kn (toJ d) js
          rwa [← hd] at this
        simp [e1, hj, e2, hin]
/-! ### the dict of the rows -/
theorem dcL_consN {own : List Nat} {tg : TgM} {t mk mv : M} {d : D} {ds : List D} {ls : LS} {acc : D} : dcL own none tg t mk mv (d :: ds) ls acc = match tg d ls with
    | some ls1 => (match t ls1 with
      | .ok (.dat (.bl true)) ls2 => (match mk ls2 with
        | .ok (.dat kd) ls3 => (match mv ls3 with
          | .ok kv ls4 => (match freezeK kv ls4 with
            | some (vd, ls5) => (match putD acc kd vd with
              | some acc' => dcL own none tg t mk mv ds (wipeL ls5 own) acc'
              | none => .stk)
            | none => .stk)
          | _ => .stk)
        | _ => .stk)
      | .ok (.dat (.bl false)) ls2 => dcL own none tg t mk mv ds (wipeL ls2 own) acc
      | _ => .stk)
    | none => .stk := rfl
theorem dc_loop {ls : LS} (hi : ls[5]? = some .emp) : ∀ (ks js : List JJ), (js ++ ks).Nodup → js.length + ks.length ≤ 100000 →
    dcL [5] none (tgN 5) (conM (.bl true)) (frzM (varM 5)) (conM (.bl true)) (ks.map tupP) ls (kn js) = .ok (.own (kn (js ++ ks))) ls
  | [], js, _, _ => by simp [dcL, gOk]
  | p :: ks, js, h, hl => by
    simp at hl
    have hn : p ∉ js := fun z => (List.nodup_append.mp h).2.2 p z p List.mem_cons_self rfl
    have h5 : 5 < ls.length := (List.getElem?_eq_some_iff.mp hi).1
    have e3 : putD (kn js) (tupP p) (.bl true) = some (kn (js ++ [p])) := by
      simp only [putD, kn, keyT_J, List.length_map]
      rw [if_pos (show js.length < 1000000 by omega)]
      simp [putG_kn hn]
    rw [List.map_cons, dcL_consN]
    simp [h5, e3, set_emp hi, dc_loop hi ks (js ++ [p]) (by simpa using h) (by simp; omega)]
def Rt (B : Int) (js : List JJ) : D := .ins "Routine" [("blocks", .int B), ("rows", JL (sortP js)), ("there", kn (sortP js))]
theorem sortP_len (js : List JJ) : (sortP js).length = js.length := (sortP_perm js).length_eq
/-- what comes of the making -/
def initR (b : D) (c : Slot) (ds : List D) : RF := if whF 2 40 b = true then (match b with
  | .int B => (match badAt B 0 [] ds with
    | some m => .err ⟨"BadJump", [("at", .int (m : Nat))]⟩ [.par (.ins "Routine" []), .dat b, c]
    | none => if 120 < ds.length then .err ⟨"TooLarge", [("bound", .int 120)]⟩ [.par (.ins "Routine" []), .dat b, c] else .ok (.dat .non) [.par (Rt B (ds.map toJ)), .dat b, c])
  | _ => .stk) else .err ⟨"BadBlocks", []⟩ [.par (.ins "Routine" []), .dat b, c]
theorem init_ok {b : D} {ds : List D} (hb : b.pl = true) (hd : D.pls ds = true) (hl : ds.length ≤ 100000) : m_Routine___init__ [.par (.ins "Routine" []), .dat b, .par (.lst ds)] = initR b (.par (.lst ds)) ds := by
  have e1 := within_ok hb 2 40
  unfold initR
  cases hw : whF 2 40 b with
  | false => simp [m_Routine___init__, funM_ap, e1, hw]
  | true =>
    cases b with
    | int B =>
      obtain ⟨⟨a', b', e2⟩, _⟩ := init_loop (B := B) (ds0 := ds) (c := .par (.lst ds)) (gd := some (2, .lst ds)) (.inl ⟨rfl, rfl⟩) ds 0 [] .emp .emp hd (by simpa using hl)
      simp only [iLS] at e2
      have k0 : D.dT [] = kn [] := rfl
      cases hbad : badAt B 0 [] ds with
      | some m =>
        simp only [hbad] at e2
        simp [m_Routine___init__, funM_ap, e1, hw, enumD_0, k0]
        simp at e2
        rw [e2]
        simp [hbad]
      | none =>
        simp only [hbad] at e2
        have hnd := (badAt_none hbad (by simp)).1
        simp [allJ] at hnd e2
        by_cases hlen : 120 < ds.length
        · have : (120 : Int) < (ds.length : Int) := by omega
          simp [m_Routine___init__, funM_ap, e1, hw, enumD_0, k0]
          rw [e2]
          simp [hlen, this, hbad]
        · have : ¬ (120 : Int) < (ds.length : Int) := by omega
          have nds : (sortP (ds.map toJ)).Nodup := (sortP_perm _).nodup_iff.mpr hnd
          have e5 := dc_loop (ls := [.par (.ins "Routine" [("blocks", .int B), ("rows", JL (sortP (ds.map toJ)))]), .dat (.int B), .par (.lst ds), .own (kn (ds.map toJ)), a', .emp]) rfl (sortP (ds.map toJ)) [] (by simpa using nds) (by simp [sortP_len]; omega)
          simp at e5
          simp [m_Routine___init__, funM_ap, e1, hw, enumD_0, k0]
          rw [e2]
          simp [hlen, this, hbad, fldG, putFD, List.lookup]
          rw [e5]
          simp [fldG, putFD, Rt]
    | _ => simp [whF] at hw
theorem init_okD {b : D} {ds : List D} (hb : b.pl = true) (hd : D.pls ds = true) (hl : ds.length ≤ 100000) : m_Routine___init__ [.par (.ins "Routine" []), .dat b, .dat (.lst ds)] = initR b (.dat (.lst ds)) ds := by
  have e1 := within_ok hb 2 40
  unfold initR
  cases hw : whF 2 40 b with
  | false => simp [m_Routine___init__, funM_ap, e1, hw]
  | true =>
    cases b with
    | int B =>
      obtain ⟨⟨a', b', e2⟩, _⟩ := init_loop (B := B) (ds0 := ds) (c := .dat (.lst ds)) (gd := none) (.inr ⟨rfl, rfl⟩) ds 0 [] .emp .emp hd (by simpa using hl)
      simp only [iLS] at e2
      have k0 : D.dT [] = kn [] := rfl
      cases hbad : badAt B 0 [] ds with
      | some m =>
        simp only [hbad] at e2
        simp [m_Routine___init__, funM_ap, e1, hw, enumD_0, k0]
        simp at e2
        rw [e2]
        simp [hbad]
      | none =>
        simp only [hbad] at e2
        have hnd := (badAt_none hbad (by simp)).1
        simp [allJ] at hnd e2
        by_cases hlen : 120 < ds.length
        · have : (120 : Int) < (ds.length : Int) := by omega
          simp [m_Routine___init__, funM_ap, e1, hw, enumD_0, k0]
          rw [e2]
          simp [hlen, this, hbad]
        · have : ¬ (120 : Int) < (ds.length : Int) := by omega
          have nds : (sortP (ds.map toJ)).Nodup := (sortP_perm _).nodup_iff.mpr hnd
          have e5 := dc_loop (ls := [.par (.ins "Routine" [("blocks", .int B), ("rows", JL (sortP (ds.map toJ)))]), .dat (.int B), .dat (.lst ds), .own (kn (ds.map toJ)), a', .emp]) rfl (sortP (ds.map toJ)) [] (by simpa using nds) (by simp [sortP_len]; omega)
          simp at e5
          simp [m_Routine___init__, funM_ap, e1, hw, enumD_0, k0]
          rw [e2]
          simp [hlen, this, hbad, fldG, putFD, List.lookup]
          rw [e5]
          simp [fldG, putFD, Rt]
    | _ => simp [whF] at hw
end VM

set_option linter.all false
set_option maxRecDepth 100000
set_option maxHeartbeats 1000000
namespace VM
open PySem PySem.Spec L2
mutual
theorem gd_pl : ∀ {d : D}, d.gd = true → d.pl = true
  | .non, _ => rfl
  | .bl _, _ => rfl
  | .int _, _ => rfl
  | .str _, _ => rfl
  | .lst ds, h => by simp [D.pl, gds_pls (ds := ds) (by simpa [D.gd] using h)]
  | .tup ds, h => by simp [D.pl, gds_pls (ds := ds) (by simpa [D.gd] using h)]
  | .dK _, h => by simp [D.gd] at h
  | .dT _, h => by simp [D.gd] at h
  | .ins _ _, h => by simp [D.gd] at h
  | .scr _, h => by simp [D.gd] at h
  | .ktup _, h => by simp [D.gd] at h
theorem gds_pls : ∀ {ds : List D}, D.gds ds = true → D.pls ds = true
  | [], _ => rfl
  | d :: ds, h => by
    simp [D.gds] at h
    simp [D.pls, gd_pl h.1, gds_pls h.2]
end
/-- values with little depth -/
def Gv (d : D) : Prop := d.gd = true ∧ d.dp ≤ 20
theorem Gv.t {ds : List D} (h : Gv (.tup ds)) : ∀ d ∈ ds, Gv d := fun d hd => by
  have h1 := h.1; have h2 := h.2
  simp [D.gd] at h1
  simp [D.dp] at h2
  exact ⟨gds_iff.mp h1 d hd, Nat.le_trans (dps_le.mp (Nat.le_refl _) d hd) (by omega)⟩
def nmB : D → Bool
  | .str s => decide (s.length = 1) && !(Builtin.Str.occurrences "abcdefghijklmnopqrstuvwxyz" s 0 (Str.length "abcdefghijklmnopqrstuvwxyz") 1).isEmpty
  | _ => false
theorem name_ok {d : D} (h : d.gd = true) : m_is_name [.dat d] = .ok (.dat (.bl (nmB d))) [.dat d] := by
  cases d with
  | str s =>
    simp [D.gd] at h
    have hl : s.length ≤ lim := Nat.le_trans h.2 (by decide)
    by_cases h1 : s.length = 1
    · have h2 : 1 ≤ lim := by decide
      simp [m_is_name, funM_ap, isiD, tbStr, lenD, hl, h1, nmB, inP, h2]
    · have : ¬ ((s.length : Int) = 1) := by omega
      simp [m_is_name, funM_ap, isiD, tbStr, lenD, hl, h1, nmB, this]
  | _ => first | (simp [m_is_name, funM_ap, isiD, tbStr, nmB]; done) | (simp [D.gd] at h; done)
theorem lname_ok {d : D} (h : d.gd = true) : m__law_is_name [.dat d] = .ok (.dat (.bl (nmB d))) [.dat d] := name_ok h
theorem lwhole_ok {d : D} (h : d.gd = true) (lo hi : Int) : m__law_is_whole [.dat d, .dat (.int lo), .dat (.int hi)] = .ok (.dat (.bl (whF lo hi d))) [.dat d, .dat (.int lo), .dat (.int hi)] := by
  cases d with
  | int i =>
    by_cases h1 : lo ≤ i
    · simp [m__law_is_whole, funM_ap, whF, h1, isiD, tbInt, tbBool]
    · simp [m__law_is_whole, funM_ap, whF, h1, isiD, tbInt, tbBool]
  | _ => first | (simp [m__law_is_whole, funM_ap, whF, isiD, tbInt, tbBool]; done) | (simp [D.gd] at h; done)
def opB (d : D) : Bool := nmB d || whF (-1000000000) 1000000000 d
theorem operand_ok {d : D} (h : d.gd = true) : m_is_operand [.dat d] = .ok (.dat (.bl (opB d))) [.dat d] := by
  have e1 := name_ok h
  have e2 := within_ok (gd_pl h) (-1000000000) 1000000000
  cases hn : nmB d <;> simp [m_is_operand, funM_ap, e1, e2, hn, opB]
theorem loperand_ok {d : D} (h : d.gd = true) : m__law_is_operand [.dat d] = .ok (.dat (.bl (opB d))) [.dat d] := by
  have e1 := lname_ok h
  have e2 := lwhole_ok h (-1000000000) 1000000000
  cases hn : nmB d <;> simp [m__law_is_operand, funM_ap, e1, e2, hn, opB]
/-! x in ("a", "b"), x in ["a", "b"] -/
theorem inTP_2 {a b : Str} (ha : (D.str a).gd = true) (hb : (D.str b).gd = true) {d : D} (h : Gv d) : inTP d (.tup [.str a, .str b]) = some (isS a d || isS b d) := by
  have h1 : toPys [D.str a, .str b] = some (pys [D.str a, .str b]) := toPys_gd (by simp [D.gds, ha, hb])
  have h2 : SeqAt.shaped (.tuple (pys [D.str a, .str b])) = true := shaped_py (d := .tup [.str a, .str b]) (by simp [D.gd, D.gds] at ha hb ⊢; simp [ha, hb]) (by simp [D.dp, D.dps])
  simp only [inTP, toPy_gd h.1, h1, shaped_py h.1 (Nat.le_trans h.2 (by decide)), h2, and_self, if_true]
  simp [pys, py, eqv_strL _ h.1]
theorem inP_2 {a b : Str} (ha : (D.str a).gd = true) (hb : (D.str b).gd = true) {d : D} (h : Gv d) : inP d (.lst [.str a, .str b]) = some (isS a d || isS b d) := by
  have h1 : toPys [D.str a, .str b] = some (pys [D.str a, .str b]) := toPys_gd (by simp [D.gds, ha, hb])
  have h2 : SeqAt.shaped (.list (pys [D.str a, .str b])) = true := shaped_py (d := .lst [.str a, .str b]) (by simp [D.gd, D.gds] at ha hb ⊢; simp [ha, hb]) (by simp [D.dp, D.dps])
  simp only [inP, toPy_gd h.1, h1, shaped_py h.1 (Nat.le_trans h.2 (by decide)), h2, and_self, if_true]
  simp [pys, py, eqv_strL _ h.1]
theorem inTD_ap (x y : D) : inTD x y = (inTP x y).map fun b => .dat (.bl b) := rfl
theorem ninTD_ap (x y : D) : ninTD x y = (inTP x y).map fun b => .dat (.bl (!b)) := rfl
theorem atI_2 {α : Type} {x y z : α} {xs : List α} : atI (x :: y :: z :: xs) 2 = some z := atI_nat (j := 2) rfl
theorem atI_3 {α : Type} {x y z w : α} {xs : List α} : atI (x :: y :: z :: w :: xs) 3 = some w := atI_nat (j := 3) rfl
theorem atI_4 {α : Type} {x y z w v : α} {xs : List α} : atI (x :: y :: z :: w :: v :: xs) 4 = some v := atI_nat (j := 4) rfl
theorem atI_5 {α : Type} {x y z w v u : α} {xs : List α} : atI (x :: y :: z :: w :: v :: u :: xs) 5 = some u := atI_nat (j := 5) rfl
theorem g_plus : (D.str "+").gd = true := by decide +kernel
theorem g_minus : (D.str "-").gd = true := by decide +kernel
theorem g_lt : (D.str "<").gd = true := by decide +kernel
theorem g_eq : (D.str "==").gd = true := by decide +kernel
theorem g_go : (D.str "go").gd = true := by decide +kernel
theorem g_if : (D.str "if").gd = true := by decide +kernel
theorem g_stop : (D.str "stop").gd = true := by decide +kernel
/-! lines -/
def lnB : D → Bool
  | .tup [a, b, c, e] => nmB a && (opB b && ((isS "+" c || isS "-" c) && opB e))
  | _ => false
theorem len4 {ds : List D} (h : ds.length = 4) : ∃ a b c e, ds = [a, b, c, e] := by
  match ds, h with
  | [a, b, c, e], _ => exact ⟨a, b, c, e, rfl⟩
theorem lnB_not {ds : List D} (h : ds.length ≠ 4) : lnB (.tup ds) = false := by
  unfold lnB
  split
  · rename_i e; cases e; simp at h
  · rfl
theorem step_ok {d : D} (h : Gv d) : m_is_step [.dat d] = .ok (.dat (.bl (lnB d))) [.dat d] := by
  cases d with
  | tup ds =>
    by_cases hl : ds.length = 4
    · obtain ⟨a, b, c, e, rfl⟩ := len4 hl
      have g := h.t
      have e1 := name_ok (g a (by simp)).1
      have e2 := operand_ok (g b (by simp)).1
      have e3 := inTP_2 g_plus g_minus (g c (by simp))
      have e4 := operand_ok (g e (by simp)).1
      simp only [lnB]
      cases h1 : nmB a <;> cases h2 : opB b <;> cases h3 : (isS "+" c || isS "-" c) <;>
        simp [m_is_step, funM_ap, isiD, tbTuple, e1, e2, e3, e4, inTD_ap, atI_2, atI_3, h1, h2, h3]
    · have : ¬ ((ds.length : Int) = 4) := by omega
      rw [lnB_not hl]
      simp [m_is_step, funM_ap, isiD, tbTuple, this]
  | _ => first | (simp [m_is_step, funM_ap, isiD, tbTuple, lnB]; done) | (have := h.1; simp [D.gd] at this; done)
theorem line_ok {d : D} (h : Gv d) : m__law_is_line [.dat d] = .ok (.dat (.bl (lnB d))) [.dat d] := by
  cases d with
  | tup ds =>
    by_cases hl : ds.length = 4
    · obtain ⟨a, b, c, e, rfl⟩ := len4 hl
      have g := h.t
      have e1 := lname_ok (g a (by simp)).1
      have e2 := loperand_ok (g b (by simp)).1
      have e3 := inP_2 g_plus g_minus (g c (by simp))
      have e4 := loperand_ok (g e (by simp)).1
      simp only [lnB]
      cases h1 : nmB a <;> cases h2 : opB b <;> cases h3 : (isS "+" c || isS "-" c) <;>
        simp [m__law_is_line, funM_ap, isiD, tbTuple, e1, e2, e3, e4, atI_2, atI_3, h1, h2, h3]
    · have : ¬ ((ds.length : Int) = 4) := by omega
      rw [lnB_not hl]
      simp [m__law_is_line, funM_ap, isiD, tbTuple, this]
  | _ => first | (simp [m__law_is_line, funM_ap, isiD, tbTuple, lnB]; done) | (have := h.1; simp [D.gd] at this; done)
/-! ends -/
def stB : D → Bool
  | .tup [a] => isS "stop" a
  | _ => false
def dif : D → D → Bool
  | .int i, .int j => decide (i ≠ j)
  | _, _ => true
def enB : D → Int → Int → Bool
  | .tup ds, u, n => if u = n - 1 then stB (.tup ds) else
      match ds with
      | [a, t] => isS "go" a && whF (u + 1) (n - 1) t
      | [a, b, c, e, t, t'] => isS "if" a && ((isS "<" c || isS "==" c) && (opB b && (opB e && (whF (u + 1) (n - 1) t && (whF (u + 1) (n - 1) t' && dif t t')))))
      | _ => false
  | _, _, _ => false
theorem eqP_stop {d : D} (h : Gv d) : eqP d (.tup [.str "stop"]) = some (stB d) := by
  rw [eqP_gd h.1 (by decide +kernel) (Nat.le_trans h.2 (by decide)) (by decide)]
  congr 1
  cases d with
  | tup ds =>
    match ds with
    | [] => simp [py, pys, PyData.eqv, PyData.eqvAll, stB]
    | [a] => simp [py, pys, PyData.eqv, PyData.eqvAll, stB, eqv_strR "stop" (h.t a (by simp)).1]
    | a :: b :: r => simp [py, pys, PyData.eqv, PyData.eqvAll, stB]
  | _ => first | (have := h.1; simp [D.gd] at this; done) | simp [py, pys, PyData.eqv, stB]
theorem stB_iff {d : D} : stB d = true ↔ d = .tup [.str "stop"] := by
  unfold stB
  split
  · rename_i a
    unfold isS
    split
    · simp
    · rename_i h
      simp
      intro z; exact h _ z
  · rename_i h
    simp
    intro z; exact h _ z
theorem rep_stop {d : D} (h : Gv d) : (shD d == shD (.tup [.str "stop"])) = stB d := by
  have hs : (D.tup [.str "stop"]).gd = true := by decide +kernel
  have := shD_inj h.1 hs
  rw [← stB_iff] at this
  cases hb : stB d with
  | true => simp [this.mpr hb]
  | false =>
    have : ¬ shD d = shD (.tup [.str "stop"]) := fun z => by rw [this.mp z] at hb; cases hb
    simp [this]
theorem whF_int {lo hi : Int} {d : D} (h : whF lo hi d = true) : ∃ i, d = .int i := by
  cases d <;> first | exact ⟨_, rfl⟩ | cases h
theorem len6 {ds : List D} (h : ds.length = 6) : ∃ a b c e t t', ds = [a, b, c, e, t, t'] := by
  match ds, h with
  | [a, b, c, e, t, t'], _ => exact ⟨a, b, c, e, t, t', rfl⟩
theorem len2 {ds : List D} (h : ds.length = 2) : ∃ a b, ds = [a, b] := by
  match ds, h with
  | [a, b], _ => exact ⟨a, b, rfl⟩
theorem enB_not {ds : List D} {u n : Int} (hu : u ≠ n - 1) (h2 : ds.length ≠ 2) (h6 : ds.length ≠ 6) : enB (.tup ds) u n = false := by
  simp only [enB]
  rw [if_neg hu]
  split
  · simp at h2
  · simp at h6
  · rfl
end VM

set_option linter.all false
set_option maxRecDepth 100000
set_option maxHeartbeats 1000000
namespace VM
open PySem PySem.Spec L2
theorem eqP_S {w : Str} (hw : (D.str w).gd = true) {d : D} (h : Gv d) : eqP d (.str w) = some (isS w d) := eqP_strR hw h.1 (Nat.le_trans h.2 (by decide))
theorem whF_dif {lo hi : Int} {t t' : D} (h : whF lo hi t = true) (h' : whF lo hi t' = true) : PyData.eqv (py t) (py t') = !dif t t' := by
  obtain ⟨i, rfl⟩ := whF_int h
  obtain ⟨j, rfl⟩ := whF_int h'
  simp [py, PyData.eqv, dif, Bool.beq_eq_decide_eq]
theorem eqP_G {a b : D} (ha : Gv a) (hb : Gv b) : eqP a b = some (PyData.eqv (py a) (py b)) := eqP_gd ha.1 hb.1 (Nat.le_trans ha.2 (by decide)) (Nat.le_trans hb.2 (by decide))
theorem slD_4 {a b c e t t' : D} : slD (.tup [a, b, c, e, t, t']) (some 4) none = some (.dat (.tup [t, t'])) := by
  rfl
theorem is_end_ok {d : D} (h : Gv d) (u n : Int) : m_is_end [.dat d, .dat (.int u), .dat (.int n)] = .ok (.dat (.bl (enB d u n))) [.dat d, .dat (.int u), .dat (.int n)] := by
  cases d with
  | tup ds =>
    have e0 := eqP_stop h
    by_cases hu : u = n - 1
    · simp only [enB, if_pos hu]
      simp [m_is_end, funM_ap, isiD, tbTuple, hu, e0]
    · by_cases h2 : ds.length = 2
      · obtain ⟨a, t, rfl⟩ := len2 h2
        have g := h.t
        have e1 := eqP_S g_go (g a (by simp))
        have e2 := within_ok (gd_pl (g t (by simp)).1) (u + 1) (n - 1)
        simp only [enB, if_neg hu]
        cases hA : isS "go" a <;> simp [m_is_end, funM_ap, isiD, tbTuple, hu, e1, hA, e2]
      · by_cases h6 : ds.length = 6
        · obtain ⟨a, b, c, e, t, t', rfl⟩ := len6 h6
          have g := h.t
          have e1 := eqP_S g_if (g a (by simp))
          have e2 := inTP_2 g_lt g_eq (g c (by simp))
          have e3 := operand_ok (g b (by simp)).1
          have e4 := operand_ok (g e (by simp)).1
          have e5 := within_ok (gd_pl (g t (by simp)).1) (u + 1) (n - 1)
          have e6 := within_ok (gd_pl (g t' (by simp)).1) (u + 1) (n - 1)
          have e7 := eqP_G (g t (by simp)) (g t' (by simp))
          simp only [enB, if_neg hu]
          cases hA : isS "if" a with
          | false => simp [m_is_end, funM_ap, isiD, tbTuple, hu, e1, hA]
          | true =>
            cases hC : (isS "<" c || isS "==" c) with
            | false => simp [m_is_end, funM_ap, isiD, tbTuple, hu, e1, hA, e2, hC, ninTD_ap, atI_2]
            | true =>
              cases hB : opB b with
              | false => simp [m_is_end, funM_ap, isiD, tbTuple, hu, e1, hA, e2, hC, ninTD_ap, atI_2, e3, hB]
              | true =>
                cases hE : opB e with
                | false => simp [m_is_end, funM_ap, isiD, tbTuple, hu, e1, hA, e2, hC, ninTD_ap, atI_2, atI_3, e3, hB, e4, hE]
                | true =>
                  cases hT : whF (u + 1) (n - 1) t with
                  | false => simp [m_is_end, funM_ap, isiD, tbTuple, hu, e1, hA, e2, hC, ninTD_ap, atI_2, atI_3, e3, hB, e4, hE, slM, atO, noO, slD_4, lcL_cons, e5, hT, e6, allD, blsD]
                  | true =>
                    cases hT' : whF (u + 1) (n - 1) t' with
                    | false => simp [m_is_end, funM_ap, isiD, tbTuple, hu, e1, hA, e2, hC, ninTD_ap, atI_2, atI_3, e3, hB, e4, hE, slM, atO, noO, slD_4, lcL_cons, e5, hT, e6, hT', allD, blsD]
                    | true =>
                      have e8 := whF_dif hT hT'
                      simp [m_is_end, funM_ap, isiD, tbTuple, hu, e1, hA, e2, hC, ninTD_ap, atI_2, atI_3, e3, hB, e4, hE, slM, atO, noO, slD_4, lcL_cons, e5, hT, e6, hT', allD, blsD, atI_4, atI_5, e7, e8]
        · have i2 : ¬ ((ds.length : Int) = 2) := by omega
          have i6 : ¬ ((ds.length : Int) = 6) := by omega
          rw [enB_not hu h2 h6]
          simp [m_is_end, funM_ap, isiD, tbTuple, hu, i2, i6]
  | _ => first | (simp [m_is_end, funM_ap, isiD, tbTuple, enB]; done) | (have := h.1; simp [D.gd] at this; done)
theorem enB_nt {d : D} {u n : Int} (h : ∀ ds, d ≠ .tup ds) : enB d u n = false := by
  cases d with
  | tup ds => exact absurd rfl (h ds)
  | _ => rfl
theorem eqP_str (a b : Str) (ha : PyData.strOk a = true) (hb : PyData.strOk b = true) : eqP (.str a) (.str b) = some (a == b) := by
  simp [eqP, toPy, SeqAt.shaped, PyData.canLay0, PyData.depth, ha, hb, PyData.eqv]
/-- what is shown may be compared -/
theorem ok_cl (s : Str) : PyData.strOk s = (cl s).all (· < 0x110000) := by simp [PyData.strOk, cl]
theorem ok_app (a b : Str) : PyData.strOk (a ++ b) = (PyData.strOk a && PyData.strOk b) := by simp [ok_cl, cl_app]
theorem cl_ok {s : Str} (h : ∀ c ∈ cl s, c < 0x110000) : PyData.strOk s = true := by rw [ok_cl]; simpa using h
mutual
theorem sl_ok : ∀ {d : D}, d.gd = true → ∀ c ∈ sl (py d), c < 0x110000
  | .non, _, c, hc => by simp [py, sl_none] at hc; omega
  | .bl b, _, c, hc => by cases b <;> simp [py, sl_bool] at hc <;> omega
  | .int i, _, c, hc => by
    simp only [py, sl_int] at hc
    split at hc
    · rcases List.mem_cons.mp hc with rfl | z
      · decide
      · have := dg_mem z; omega
    · have := dg_mem hc; omega
  | .str s, h, c, hc => by
    simp [D.gd] at h
    simp [py, sl_str h.1.1] at hc
    have := h.1.2
    rw [ok_cl] at this
    rcases hc with rfl | z | rfl
    · decide
    · have := List.all_eq_true.mp this c z; simpa using this
    · decide
  | .lst ds, h, c, hc => by
    simp [py, sl_list] at hc
    rcases hc with rfl | z | rfl
    · decide
    · exact jl_ok (ds := ds) (by simpa [D.gd] using h) c z
    · decide
  | .tup ds, h, c, hc => by
    simp only [py, sl_tuple] at hc
    rcases List.mem_cons.mp hc with rfl | z
    · decide
    · rcases List.mem_append.mp z with z | z
      · exact jl_ok (ds := ds) (by simpa [D.gd] using h) c z
      · split at z <;> simp at z <;> omega
  | .dK _, h, _, _ => by simp [D.gd] at h
  | .dT _, h, _, _ => by simp [D.gd] at h
  | .ins _ _, h, _, _ => by simp [D.gd] at h
  | .scr _, h, _, _ => by simp [D.gd] at h
  | .ktup _, h, _, _ => by simp [D.gd] at h
theorem jl_ok : ∀ {ds : List D}, D.gds ds = true → ∀ c ∈ jl (pys ds), c < 0x110000
  | [], _, c, hc => by simp [pys, jl_nil] at hc
  | [d], h, c, hc => by
    simp [D.gds] at h
    simp [pys, jl_one] at hc
    exact sl_ok h c hc
  | d :: e :: ds, h, c, hc => by
    rw [D.gds, Bool.and_eq_true] at h
    rw [pys, pys, jl_cons] at hc
    rcases List.mem_append.mp hc with z | z
    · exact sl_ok h.1 c z
    · rcases List.mem_cons.mp z with rfl | z
      · decide
      · rcases List.mem_cons.mp z with rfl | z
        · decide
        · exact jl_ok (ds := e :: ds) h.2 c (by rw [pys]; exact z)
end
theorem shD_ok {d : D} (h : d.gd = true) : PyData.strOk (shD d) = true := cl_ok (sl_ok h)
theorem eqP_sh {a b : D} (ha : a.gd = true) (hb : b.gd = true) : eqP (.str (shD a)) (.str (shD b)) = some (shD a == shD b) := eqP_str _ _ (shD_ok ha) (shD_ok hb)
theorem lis_end_ok {d : D} (h : Gv d) (hw : d.wt ≤ 100000) (u n : Int) : m__law_is_end [.dat d, .dat (.int u), .dat (.int n)] = .ok (.dat (.bl (enB d u n))) [.dat d, .dat (.int u), .dat (.int n)] := by
  have hs : (D.tup [.str "stop"]).gd = true := by decide +kernel
  have r1 := reprD_gd h.1 (by omega) (Nat.le_trans h.2 (by decide))
  have r2 := reprD_gd hs (by decide +kernel) (by decide)
  have r3 := eqP_sh h.1 hs
  rw [rep_stop h] at r3
  cases d with
  | tup ds =>
    by_cases hu : u = n - 1
    · simp only [enB, if_pos hu]
      simp [m__law_is_end, funM_ap, isiD, tbTuple, hu, r1, r2, r3]
    · by_cases h2 : ds.length = 2
      · obtain ⟨a, t, rfl⟩ := len2 h2
        have g := h.t
        have e1 := eqP_S g_go (g a (by simp))
        have e2 := lwhole_ok (g t (by simp)).1 (u + 1) (n - 1)
        simp only [enB, if_neg hu]
        cases hA : isS "go" a <;> simp [m__law_is_end, funM_ap, isiD, tbTuple, hu, e1, hA, e2]
      · by_cases h6 : ds.length = 6
        · obtain ⟨a, b, c, e, t, t', rfl⟩ := len6 h6
          have g := h.t
          have e1 := eqP_S g_if (g a (by simp))
          have e2 := inP_2 g_lt g_eq (g c (by simp))
          have e3 := loperand_ok (g b (by simp)).1
          have e4 := loperand_ok (g e (by simp)).1
          have e5 := lwhole_ok (g t (by simp)).1 (u + 1) (n - 1)
          have e6 := lwhole_ok (g t' (by simp)).1 (u + 1) (n - 1)
          have e7 := eqP_G (g t (by simp)) (g t' (by simp))
          simp only [enB, if_neg hu]
          cases hA : isS "if" a with
          | false => simp [m__law_is_end, funM_ap, isiD, tbTuple, hu, e1, hA]
          | true =>
            cases hC : (isS "<" c || isS "==" c) with
            | false => simp [m__law_is_end, funM_ap, isiD, tbTuple, hu, e1, hA, e2, hC, atI_2]
            | true =>
              cases hQ : PyData.eqv (py t) (py t') with
              | true =>
                have : (whF (u + 1) (n - 1) t && (whF (u + 1) (n - 1) t' && dif t t')) = false := by
                  cases hT : whF (u + 1) (n - 1) t with
                  | false => rfl
                  | true =>
                    cases hT' : whF (u + 1) (n - 1) t' with
                    | false => rfl
                    | true =>
                      have := whF_dif hT hT'
                      rw [hQ] at this
                      cases hd : dif t t' <;> simp [hd] at this ⊢
                rw [this]
                simp [m__law_is_end, funM_ap, isiD, tbTuple, hu, e1, hA, e2, hC, atI_2, atI_4, atI_5, e7, hQ]
              | false =>
                cases hB : opB b with
                | false => simp [m__law_is_end, funM_ap, isiD, tbTuple, hu, e1, hA, e2, hC, atI_2, atI_4, atI_5, e7, hQ, e3, hB]
                | true =>
                  cases hE : opB e with
                  | false => simp [m__law_is_end, funM_ap, isiD, tbTuple, hu, e1, hA, e2, hC, atI_2, atI_4, atI_5, e7, hQ, atI_3, e3, hB, e4, hE]
                  | true =>
                    cases hT : whF (u + 1) (n - 1) t with
                    | false => simp [m__law_is_end, funM_ap, isiD, tbTuple, hu, e1, hA, e2, hC, atI_2, atI_4, atI_5, e7, hQ, atI_3, e3, hB, e4, hE, e5, hT]
                    | true =>
                      cases hT' : whF (u + 1) (n - 1) t' with
                      | false => simp [m__law_is_end, funM_ap, isiD, tbTuple, hu, e1, hA, e2, hC, atI_2, atI_4, atI_5, e7, hQ, atI_3, e3, hB, e4, hE, e5, hT, e6, hT']
                      | true =>
                        have e8 := whF_dif hT hT'
                        rw [hQ] at e8
                        have e9 : dif t t' = true := by cases hd : dif t t' <;> simp [hd] at e8 ⊢
                        simp [m__law_is_end, funM_ap, isiD, tbTuple, hu, e1, hA, e2, hC, atI_2, atI_4, atI_5, e7, hQ, atI_3, e3, hB, e4, hE, e5, hT, e6, hT', e9]
        · have i2 : ¬ ((ds.length : Int) = 2) := by omega
          have i6 : ¬ ((ds.length : Int) = 6) := by omega
          rw [enB_not hu h2 h6]
          simp [m__law_is_end, funM_ap, isiD, tbTuple, hu, i2, i6]
  | _ =>
    first
    | (have := h.1; simp [D.gd] at this; done)
    | (simp only [stB] at r3
       simp [m__law_is_end, funM_ap, isiD, tbTuple, r1, r2, r3, enB])
end VM

set_option linter.all false
set_option maxRecDepth 100000
set_option maxHeartbeats 1000000
namespace VM
open PySem PySem.Spec L2
def Bk (d : D) : Prop := Gv d ∧ d.wt ≤ 20000
def blB (d : D) (u n : Int) : Bool := match d with
  | .tup [.tup ls, e] => decide (ls.length ≤ 4) && (ls.all lnB && enB e u n)
  | _ => false
theorem wts_len : ∀ ds : List D, ds.length ≤ D.wts ds
  | [] => by simp [D.wts]
  | d :: ds => by
    have := wts_len ds
    simp [D.wts]; omega
theorem wt_mem {d : D} : ∀ {ds : List D}, d ∈ ds → d.wt ≤ D.wts ds
  | x :: ds, h => by
    rcases List.mem_cons.mp h with rfl | z
    · simp [D.wts]; omega
    · have := wt_mem z
      simp [D.wts]; omega
theorem blsD_map (f : D → Bool) : ∀ ds : List D, blsD (ds.map fun d => .bl (f d)) = some (ds.map f)
  | [] => rfl
  | d :: ds => by simp [blsD, blsD_map f ds]
theorem blB_not {ds : List D} {u n : Int} (h : ds.length ≠ 2) : blB (.tup ds) u n = false := by
  unfold blB
  split
  · rename_i e; cases e; simp at h
  · rfl
theorem block_ok {d : D} (h : Bk d) (u n : Int) : m_is_program_block [.dat d, .dat (.int u), .dat (.int n)] = .ok (.dat (.bl (blB d u n))) [.dat d, .dat (.int u), .dat (.int n)] := by
  obtain ⟨h, hw⟩ := h
  cases d with
  | tup ds =>
    by_cases h2 : ds.length = 2
    · obtain ⟨a, e, rfl⟩ := len2 h2
      have g := h.t
      have e1 := is_end_ok (g e (by simp)) u n
      have ga := g a (by simp)
      cases a with
      | tup ls =>
        simp only [blB]
        simp [D.wt, D.wts] at hw
        have hll := wts_len ls
        by_cases h4 : ls.length ≤ 4
        · have i4 : ¬ (4 : Int) < (ls.length : Int) := by omega
          have key := lcL_map (i := 5) (ls := [.dat (.tup [.tup ls, e]), .dat (.int u), .dat (.int n), .dat (.tup ls), .dat e, .emp]) (e := callN 1 m_is_step (consA (varM 5) nilA))
            (fun d => .bl (lnB d)) rfl ls (fun d hd => by
              have := step_ok (ga.t d hd)
              exact ⟨_, by simp [this], freezeK_dat⟩) (by omega)
          cases hA : ls.all lnB with
          | false =>
            have hA' : (ls.map lnB).all id = false := by simpa using hA
            simp only [m_is_program_block, funM_ap]
            simp [isiD, tbTuple, i4]
            rw [key]
            simp [allD, blsD_map, hA', h4]
          | true =>
            have hA' : (ls.map lnB).all id = true := by simpa using hA
            simp only [m_is_program_block, funM_ap]
            simp [isiD, tbTuple, i4]
            rw [key]
            simp [allD, blsD_map, hA', h4, e1]
        · have i4 : (4 : Int) < (ls.length : Int) := by omega
          simp [m_is_program_block, funM_ap, isiD, tbTuple, i4, h4]
      | _ => first | (have := ga.1; simp [D.gd] at this; done) | simp [m_is_program_block, funM_ap, isiD, tbTuple, blB]
    · have i2 : ¬ ((ds.length : Int) = 2) := by omega
      rw [blB_not h2]
      simp [m_is_program_block, funM_ap, isiD, tbTuple, i2]
  | _ => first | (have := h.1; simp [D.gd] at this; done) | simp [m_is_program_block, funM_ap, isiD, tbTuple, blB]
theorem Gv_filter {ls : List D} (h : Gv (.tup ls)) (p : D → Bool) : Gv (.lst (ls.filter p)) := by
  refine ⟨?_, ?_⟩
  · simp only [D.gd]; exact gds_iff.mpr fun d hd => (h.t d (List.mem_filter.mp hd).1).1
  · have := h.2
    simp only [D.dp] at this ⊢
    have : D.dps (ls.filter p) ≤ D.dps ls := dps_le.mpr fun d hd => dps_le.mp (Nat.le_refl _) d (List.mem_filter.mp hd).1
    omega
theorem eqP_nil {ds : List D} (h : Gv (.lst ds)) : eqP (.lst ds) (.lst []) = some ds.isEmpty := by
  rw [eqP_gd h.1 (by decide) (Nat.le_trans h.2 (by decide)) (by decide)]
  cases ds <;> simp [py, pys, PyData.eqv, PyData.eqvAll]
theorem lblock_ok {d : D} (h : Bk d) (u n : Int) : m__law_is_block [.dat d, .dat (.int u), .dat (.int n)] = .ok (.dat (.bl (blB d u n))) [.dat d, .dat (.int u), .dat (.int n)] := by
  obtain ⟨h, hw⟩ := h
  cases d with
  | tup ds =>
    by_cases h2 : ds.length = 2
    · obtain ⟨a, e, rfl⟩ := len2 h2
      have g := h.t
      simp [D.wt, D.wts] at hw
      have e1 := lis_end_ok (g e (by simp)) (by omega) u n
      have ga := g a (by simp)
      cases a with
      | tup ls =>
        simp only [blB]
        simp [D.wt] at hw
        have hll := wts_len ls
        have key := lcL_pure (i := 4) (ls := [.dat (.tup [.tup ls, e]), .dat (.int u), .dat (.int n), .emp, .emp]) (t := notM (callN 1 m__law_is_line (consA (varM 4) nilA))) (e := varM 4)
          (fun d => !lnB d) id rfl ls [] (fun d hd => by
            have := line_ok (ga.t d hd)
            simp [this]) (fun d hd _ => ⟨_, by simp, freezeK_dat⟩) (by simp; omega)
        simp only [List.map_id, List.nil_append] at key
        have e2 := eqP_nil (Gv_filter ga fun d => !lnB d)
        have e3 : (ls.filter fun d => !lnB d).isEmpty = ls.all lnB := by
          rw [Bool.eq_iff_iff]
          simp
        rw [e3] at e2
        have q1 : m__law_is_block [.dat (.tup [.tup ls, e]), .dat (.int u), .dat (.int n)] = finF [.dat (.tup [.tup ls, e]), .dat (.int u), .dat (.int n)] ((retM (andM (binM leD (bltM lenD (consA (binM ixD (varM 0) (conM (.int 0))) nilA)) (conM (.int 4))) (andM (binM eqD (varM 3) (lstM nilA)) (callN 3 m__law_is_end (consA (binM ixD (varM 0) (conM (.int 1))) (consA (varM 1) (consA (varM 2) nilA))))))) [.dat (.tup [.tup ls, e]), .dat (.int u), .dat (.int n), .own (.lst (ls.filter fun d => !lnB d)), .emp]) := by
          simp only [m__law_is_block, funM_ap]
          simp [isiD, tbTuple]
          rw [key]
          simp
        rw [q1]
        by_cases h4 : ls.length ≤ 4
        · have i4 : ((ls.length : Int) ≤ 4) := by omega
          cases hA : ls.all lnB <;> simp [i4, e2, hA, e1, h4]
        · have i4 : ¬ ((ls.length : Int) ≤ 4) := by omega
          simp [i4, h4]
      | _ => first | (have := ga.1; simp [D.gd] at this; done) | simp [m__law_is_block, funM_ap, isiD, tbTuple, blB]
    · have i2 : ¬ ((ds.length : Int) = 2) := by omega
      rw [blB_not h2]
      simp [m__law_is_block, funM_ap, isiD, tbTuple, i2]
  | _ => first | (have := h.1; simp [D.gd] at this; done) | simp [m__law_is_block, funM_ap, isiD, tbTuple, blB]
end VM

set_option linter.all false
set_option maxRecDepth 100000
set_option maxHeartbeats 1000000
namespace VM
open PySem PySem.Spec L2
/-- the place of the first bad block -/
def fbad (n : Int) : Nat → List D → Option Nat
  | _, [] => none
  | u, d :: ds => if blB d (u : Int) n = true then fbad n (u + 1) ds else some u
def pLS (bs : List D) (a b c d e f : Slot) : LS := [.par (.ins "Program" []), .par (.lst bs), a, b, c, d, e, f]
abbrev pBody : SM := (ifS (notM (callN 3 m_is_program_block (consA (varM 3) (consA (varM 2) (consA (bltM lenD (consA (varM 1) nilA)) nilA))))) (raise1 "BadProgram" "at" (consA (frzM (varM 2)) nilA))
    nxM)
theorem gOk_p {bs : List D} {a b c d e f : Slot} : gOk (some (1, .lst bs)) (pLS bs a b c d e f) = true := gOk_get rfl
theorem pr_loop {bs : List D} {c : Slot} : ∀ (ds : List D) (u : Nat) (a b : Slot), (∀ d ∈ ds, Bk d) →
    ∃ a' b', forL (some (1, .lst bs)) (tgT [(tgN 2), (tgN 3)]) pBody (enumF u ds) (pLS bs a b c .emp .emp .emp) = match fbad bs.length u ds with
      | none => .nx (pLS bs a' b' c .emp .emp .emp)
      | some m => .err ⟨"BadProgram", [("at", .int (m : Nat))]⟩ (pLS bs a' b' c .emp .emp .emp)
  | [], u, a, b, _ => ⟨a, b, by rw [enumF, forL_nilG gOk_p]; rfl⟩
  | d :: ds, u, a, b, h => by
    have e1 := block_ok (h d List.mem_cons_self) (u : Int) bs.length
    rw [enumF, forL_consG gOk_p]
    cases hb : blB d (u : Int) bs.length with
    | true =>
      obtain ⟨a', b', e⟩ := pr_loop (bs := bs) (c := c) ds (u + 1) (.dat (.int (u : Nat))) (.dat d) fun x hx => h x (List.mem_cons_of_mem _ hx)
      refine ⟨a', b', ?_⟩
      rw [fbad, if_pos hb, ← e]
      simp only [pLS]
      simp [e1, hb]
    | false =>
      refine ⟨.dat (.int (u : Nat)), .dat d, ?_⟩
      rw [fbad, if_neg (by rw [hb]; decide)]
      simp only [pLS]
      simp [e1, hb]
/-! targets -/
def tgE : D → List Int
  | .tup [_, .int t] => [t]
  | .tup [_, _, _, _, .int t, .int t'] => [t, t']
  | _ => []
def tgB : D → List Int
  | .tup [_, e] => tgE e
  | _ => []
def jmps : Nat → List D → List JJ
  | _, [] => []
  | u, d :: ds => (tgB d).map (fun v => ((u : Int), v)) ++ jmps (u + 1) ds
inductive EndK (u n : Int) : D → Prop
  | stop : u = n - 1 → EndK u n (.tup [.str "stop"])
  | go (t : Int) : u ≠ n - 1 → u + 1 ≤ t → t ≤ n - 1 → EndK u n (.tup [.str "go", .int t])
  | cif (b c e : D) (t t' : Int) : u ≠ n - 1 → u + 1 ≤ t → t ≤ n - 1 → u + 1 ≤ t' → t' ≤ n - 1 → t ≠ t' → EndK u n (.tup [.str "if", b, c, e, .int t, .int t'])
theorem isS_eq {w : Str} {d : D} (h : isS w d = true) : d = .str w := by
  cases d <;> simp [isS] at h
  rw [h]
theorem endK {d : D} {u n : Int} (h : enB d u n = true) : EndK u n d := by
  cases d with
  | tup ds =>
    by_cases hu : u = n - 1
    · simp only [enB, if_pos hu] at h
      rw [stB_iff] at h
      rw [h]
      exact .stop hu
    · by_cases h2 : ds.length = 2
      · obtain ⟨a, t, rfl⟩ := len2 h2
        simp only [enB, if_neg hu, Bool.and_eq_true] at h
        obtain ⟨i, rfl⟩ := whF_int h.2
        rw [isS_eq h.1]
        have := h.2
        simp [whF] at this
        exact .go i hu this.1 this.2
      · by_cases h6 : ds.length = 6
        · obtain ⟨a, b, c, e, t, t', rfl⟩ := len6 h6
          simp only [enB, if_neg hu, Bool.and_eq_true] at h
          obtain ⟨i, rfl⟩ := whF_int h.2.2.2.2.1
          obtain ⟨j, rfl⟩ := whF_int h.2.2.2.2.2.1
          rw [isS_eq h.1]
          have h1 := h.2.2.2.2.1
          have h2 := h.2.2.2.2.2.1
          have h3 := h.2.2.2.2.2.2
          simp [whF] at h1 h2
          simp [dif] at h3
          exact .cif b c e i j hu h1.1 h1.2 h2.1 h2.2 h3
        · rw [enB_not hu h2 h6] at h; cases h
  | _ => cases h
theorem blB_shape {d : D} {u n : Int} (h : blB d u n = true) : ∃ ls e, d = .tup [.tup ls, e] ∧ EndK u n e := by
  unfold blB at h
  split at h
  · rename_i ls e
    simp only [Bool.and_eq_true] at h
    exact ⟨ls, e, rfl, endK h.2.2⟩
  · cases h
theorem IL_l (a : List Int) : D.lst (a.map D.int) = D.lst (a.map D.int) := rfl
theorem targets_ok {e : D} {u n : Int} (h : EndK u n e) (hg : Gv e) : m_targets_of [.dat e] = .ok (.own (.lst ((tgE e).map .int))) [.dat e] := by
  have s1 : isS "go" (.str "stop") = false := by decide +kernel
  have s2 : isS "if" (.str "stop") = false := by decide +kernel
  have s3 : isS "go" (.str "go") = true := by decide +kernel
  have s4 : isS "go" (.str "if") = false := by decide +kernel
  have s5 : isS "if" (.str "if") = true := by decide +kernel
  cases h with
  | stop hu =>
    have e1 := eqP_S g_go (hg.t _ (List.mem_singleton_self _))
    have e2 := eqP_S g_if (hg.t _ (List.mem_singleton_self _))
    rw [s1] at e1; rw [s2] at e2
    simp [m_targets_of, funM_ap, e1, e2, tgE]
  | go t =>
    have e1 := eqP_S g_go (hg.t _ List.mem_cons_self)
    rw [s3] at e1
    simp [m_targets_of, funM_ap, e1, tgE]
  | cif b c e t t' =>
    have e1 := eqP_S g_go (hg.t _ List.mem_cons_self)
    have e2 := eqP_S g_if (hg.t _ List.mem_cons_self)
    rw [s4] at e1; rw [s5] at e2
    simp [m_targets_of, funM_ap, e1, e2, tgE, atI_4, atI_5]
def qLS (o : D) (bs : List D) (js : List JJ) (a b c d : Slot) : LS := [.par o, .par (.lst bs), a, b, .own (JL js), c, d, .emp]
theorem extG_JL {a b : List JJ} (h : a.length + b.length ≤ 100000) : extG (JL a) [JL b] = some (JL (a ++ b), .non) := by
  simp only [extG, JL, List.length_map]
  rw [if_pos (by omega)]
  simp
abbrev jBody : SM := (dropM (mutM isLst extG (varM 4) (consA (frzM (lcM [7] (seqI (callN 1 m_targets_of (consA (varM 6) nilA))) (tgN 7) (conM (.bl true)) (tupM (consA (frzM (varM 2)) (consA (frzM (varM 7)) nilA))))) nilA)))
theorem fbad_ge {n : Int} : ∀ {u : Nat} {ds : List D} {m : Nat}, fbad n u ds = some m → u ≤ m
  | u, [], m, h => by cases h
  | u, d :: ds, m, h => by
    unfold fbad at h
    split at h
    · have := fbad_ge h; omega
    · cases h; exact Nat.le_refl _
theorem fbad_cons {n : Int} {u : Nat} {d : D} {ds : List D} (h : fbad n u (d :: ds) = none) : blB d (u : Int) n = true ∧ fbad n (u + 1) ds = none := by
  unfold fbad at h
  split at h
  · rename_i z; exact ⟨z, h⟩
  · cases h
theorem tgE_len {u n : Int} {e : D} (h : EndK u n e) : (tgE e).length ≤ 2 := by cases h <;> simp [tgE]
theorem jl_loop {o : D} {bs : List D} {n : Int} : ∀ (ds : List D) (u : Nat) (js : List JJ) (a b c d : Slot), (∀ d ∈ ds, Bk d) → fbad n u ds = none → js.length + 2 * ds.length ≤ 100000 →
    ∃ a' b' c' d', forL none (tgT [(tgN 2), (tgT [(tgN 5), (tgN 6)])]) jBody (enumF u ds) (qLS o bs js a b c d) = .nx (qLS o bs (js ++ jmps u ds) a' b' c' d')
  | [], u, js, a, b, c, d, _, _, _ => ⟨a, b, c, d, by simp [enumF, jmps]⟩
  | x :: ds, u, js, a, b, c, d, h, hf, hl => by
    obtain ⟨hb, hf'⟩ := fbad_cons hf
    obtain ⟨ls, e, rfl, hk⟩ := blB_shape hb
    have hx := h _ List.mem_cons_self
    have e1 := targets_ok hk (hx.1.t e (by simp))
    have hlen := tgE_len hk
    simp at hl
    have key := lcL_map (i := 7) (ls := [.par o, .par (.lst bs), .dat (.int (u : Int)), b, .own (JL js), .dat (.tup ls), .dat e, .emp]) (e := tupM (consA (frzM (varM 2)) (consA (frzM (varM 7)) nilA)))
      (fun d => match d with
        | .int v => tupP ((u : Int), v)
        | _ => .non) rfl ((tgE e).map .int) (fun d hd => by
          obtain ⟨v, _, rfl⟩ := List.mem_map.mp hd
          refine ⟨_, ?_, freezeK_dat⟩
          simp [tupP]) (by simp; omega)
    have e2 : ((tgE e).map D.int).map (fun d => match d with
        | .int v => tupP ((u : Int), v)
        | _ => .non) = ((tgE e).map fun v => ((u : Int), v)).map tupP := by simp
    rw [e2] at key
    obtain ⟨a', b', c', d', e3⟩ := jl_loop (o := o) (bs := bs) (n := n) ds (u + 1) (js ++ (tgE e).map fun v => ((u : Int), v)) (.dat (.int (u : Int))) b (.dat (.tup ls)) (.dat e) (fun y hy => h y (List.mem_cons_of_mem _ hy)) hf' (by simp; omega)
    refine ⟨a', b', c', d', ?_⟩
    rw [enumF, forL_cons]
    have e4 := extG_JL (a := js) (b := (tgE e).map fun v => ((u : Int), v)) (by simp; omega)
    rw [jmps, tgB, ← List.append_assoc, ← e3]
    have key' : lcL [7] none (tgN 7) (conM (.bl true)) (tupM (consA (frzM (varM 2)) (consA (frzM (varM 7)) nilA))) ((tgE e).map .int) [.par o, .par (.lst bs), .dat (.int (u : Int)), b, .own (JL js), .dat (.tup ls), .dat e, .emp] [] = .ok (.own (JL ((tgE e).map fun v => ((u : Int), v)))) [.par o, .par (.lst bs), .dat (.int (u : Int)), b, .own (JL js), .dat (.tup ls), .dat e, .emp] := key
    simp only [qLS]
    simp [e1]
    rw [key']
    simp [e4]
end VM

set_option linter.all false
set_option maxRecDepth 100000
set_option maxHeartbeats 1000000
namespace VM
open PySem PySem.Spec L2
theorem tgE_ok {u n : Int} {e : D} (h : EndK u n e) : (tgE e).Nodup ∧ ∀ t ∈ tgE e, u < t ∧ t ≤ n - 1 := by
  cases h with
  | stop hu => simp [tgE]
  | go t h1 h2 h3 => simp [tgE]; omega
  | cif b c e t t' h1 h2 h3 h4 h5 h6 =>
    simp [tgE]
    exact ⟨h6, by omega, by omega⟩
theorem jmps_ok {n : Int} : ∀ {ds : List D} {u : Nat}, fbad n u ds = none → (jmps u ds).Nodup ∧ ∀ p ∈ jmps u ds, (u : Int) ≤ p.1 ∧ p.1 < p.2 ∧ p.2 ≤ n - 1
  | [], u, _ => by simp [jmps]
  | d :: ds, u, h => by
    obtain ⟨hb, hf⟩ := fbad_cons h
    obtain ⟨ls, e, rfl, hk⟩ := blB_shape hb
    obtain ⟨a, b⟩ := tgE_ok hk
    obtain ⟨c, f⟩ := jmps_ok hf
    refine ⟨List.nodup_append.mpr ⟨?_, c, ?_⟩, ?_⟩
    · rw [tgB]
      rw [List.nodup_iff_pairwise_ne, List.pairwise_map]
      refine (List.nodup_iff_pairwise_ne.mp a).imp fun hne z => hne ?_
      simpa using z
    · intro x hx y hy z
      subst z
      obtain ⟨v, _, rfl⟩ := List.mem_map.mp hx
      have := (f _ hy).1
      simp at this
      omega
    · intro p hp
      rcases List.mem_append.mp hp with z | z
      · obtain ⟨v, hv, rfl⟩ := List.mem_map.mp z
        have := b v hv
        simp; omega
      · have := f p z
        simp at this
        omega
theorem jmps_len {n : Int} : ∀ {ds : List D} {u : Nat}, fbad n u ds = none → (jmps u ds).length ≤ 2 * ds.length
  | [], u, _ => by simp [jmps]
  | d :: ds, u, h => by
    obtain ⟨hb, hf⟩ := fbad_cons h
    obtain ⟨ls, e, rfl, hk⟩ := blB_shape hb
    have a := tgE_len hk
    have b := jmps_len hf
    simp [jmps, tgB]; omega
theorem pls_J : ∀ js : List JJ, D.pls (js.map tupP) = true
  | [] => rfl
  | p :: js => by simp [D.pls, D.pl, tupP, pls_J js]
theorem toJ_map (js : List JJ) : (js.map tupP).map toJ = js := by
  rw [List.map_map]
  have : (toJ ∘ tupP) = id := by funext p; rfl
  rw [this, List.map_id]
/-- a routine is made of fit jumps -/
theorem rt_ok {n : Int} {js : List JJ} (h2 : 2 ≤ n) (h40 : n ≤ 40) (hn : js.Nodup) (hj : ∀ p ∈ js, 0 ≤ p.1 ∧ p.1 < p.2 ∧ p.2 ≤ n - 1) (hl : js.length ≤ 120) :
    m_Routine___init__ [.par (.ins "Routine" []), .dat (.int n), .par (JL js)] = .ok (.dat .non) [.par (Rt n js), .dat (.int n), .par (JL js)] := by
  have := init_ok (b := .int n) (ds := js.map tupP) rfl (pls_J js) (by simp; omega)
  rw [show JL js = .lst (js.map tupP) from rfl, this]
  have hb : badAt n 0 [] (js.map tupP) = none := badAt_good (by simpa using hn) fun p hp => isJ_of (hj p hp)
  have hw : whF 2 40 (.int n) = true := by simp [whF]; omega
  rw [initR, if_pos hw]
  simp only [hb]
  rw [if_neg (by simp; omega), toJ_map]
def Pg (bs : List D) : D := .ins "Program" [("listed", .lst bs), ("routine", Rt bs.length (jmps 0 bs))]
def prR (bs : List D) : RF := if 2 ≤ bs.length ∧ bs.length ≤ 40 then (match fbad bs.length 0 bs with
    | some m => .err ⟨"BadProgram", [("at", .int (m : Nat))]⟩ [.par (.ins "Program" []), .par (.lst bs)]
    | none => .ok (.dat .non) [.par (Pg bs), .par (.lst bs)]) else .err ⟨"BadBlocks", []⟩ [.par (.ins "Program" []), .par (.lst bs)]
theorem prog_ok {bs : List D} (h : ∀ d ∈ bs, Bk d) : m_Program___init__ [.par (.ins "Program" []), .par (.lst bs)] = prR bs := by
  unfold prR
  by_cases hr : 2 ≤ bs.length ∧ bs.length ≤ 40
  · rw [if_pos hr]
    have i1 : (2 : Int) ≤ (bs.length : Int) := by omega
    have i2 : (bs.length : Int) ≤ 40 := by omega
    obtain ⟨a', b', e1⟩ := pr_loop (bs := bs) (c := .emp) bs 0 .emp .emp h
    simp only [pLS] at e1
    cases hf : fbad bs.length 0 bs with
    | some m =>
      simp only [hf] at e1
      simp [m_Program___init__, funM_ap, i1, i2, enumD_0]
      rw [e1]
      simp
    | none =>
      simp only [hf] at e1
      obtain ⟨a2, b2, c2, d2, e2⟩ := jl_loop (o := .ins "Program" [("listed", .lst bs)]) (bs := bs) (n := bs.length) bs 0 [] a' b' .emp .emp h hf (by simp; omega)
      simp only [qLS, List.nil_append] at e2
      obtain ⟨jn, jo⟩ := jmps_ok hf
      have jl := jmps_len hf
      have e3 := rt_ok (n := bs.length) i1 i2 jn (fun p hp => by have := jo p hp; simp at this; omega) (by omega)
      simp [m_Program___init__, funM_ap, i1, i2, enumD_0]
      rw [e1]
      simp [fldG, putFD, List.lookup, enumD_0]
      rw [JL_nil, e2]
      simp [List.lookup, e3, fldG, putFD, Pg]
  · rw [if_neg hr]
    by_cases i1 : (2 : Int) ≤ (bs.length : Int)
    · have i2 : ¬ (bs.length : Int) ≤ 40 := by omega
      simp [m_Program___init__, funM_ap, i1, i2]
    · simp [m_Program___init__, funM_ap, i1]
def mdR (bs : List D) : RF := if 2 ≤ bs.length ∧ bs.length ≤ 40 then (match fbad bs.length 0 bs with
    | some m => .ok (.dat (.int (m : Nat))) [.par (.lst bs)]
    | none => .ok (.own (Pg bs)) [.par (.lst bs)]) else .ok (.dat (.int (-1))) [.par (.lst bs)]
theorem made_ok {bs : List D} (h : ∀ d ∈ bs, Bk d) : m__law_made [.par (.lst bs)] = mdR bs := by
  have e := prog_ok h
  unfold prR at e
  unfold mdR
  have c1 : ct_BadBlocks "BadBlocks" = some true := by decide +kernel
  have c2 : ct_BadBlocks "BadProgram" = some false := by decide +kernel
  have c3 : ct_BadProgram "BadProgram" = some true := by decide +kernel
  by_cases hr : 2 ≤ bs.length ∧ bs.length ≤ 40
  · rw [if_pos hr] at e ⊢
    cases hf : fbad bs.length 0 bs with
    | some m =>
      simp only [hf] at e
      simp [m__law_made, funM_ap, e, catchL, c1, c2, c3, List.lookup, unAs]
    | none =>
      simp only [hf] at e
      simp [m__law_made, funM_ap, e]
  · rw [if_neg hr] at e ⊢
    simp [m__law_made, funM_ap, e, catchL, c1]
end VM

set_option linter.all false
set_option maxRecDepth 100000
set_option maxHeartbeats 1000000
namespace VM
open PySem PySem.Spec L2
def tr1 : SM := (asg2 1 2 (consA (bltM lenD (consA (varM 0) nilA)) (consA (bltM listD (consA (varM 0) nilA)) nilA)))
def tr2 : SM := (asgM 3 (callN 1 m__law_made (consA (varM 2) nilA)))
def tr3 : SM := (ifS (binM neD (bltM reprD (consA (varM 2) nilA)) (bltM reprD (consA (varM 0) nilA))) (retM (conM (.bl false)))
    nxM)
def tr4 : SM := (ifS (notM (chainM leD leD (conM (.int 2)) (varM 1) (conM (.int 40)))) (retM (andM (binM eqD (varM 3) (unM negD (conM (.int 1)))) (notM (isiM tbNo tc_Program (varM 3)))))
    nxM)
def tr5 : SM := (fgtS [6] (asgM 4 (lcM [6] (rng1 (consA (varM 1) nilA)) (tgN 6) (notM (callN 3 m__law_is_block (consA (binM ixD (varM 0) (varM 6)) (consA (varM 6) (consA (varM 1) nilA))))) (varM 6))))
def tr6 : SM := (ifS (binM neD (varM 4) (lstM nilA)) (retM (andM (notM (isiM tbNo tc_Program (varM 3))) (binM eqD (varM 3) (binM ixD (varM 4) (conM (.int 0))))))
    nxM)
def tr7 : SM := (ifS (orM (notM (isiM tbNo tc_Program (varM 3))) (binM neD (bltM reprD (consA (propL ["Program"] m_Program_code (varM 3)) nilA)) (bltM reprD (consA (varM 0) nilA)))) (retM (conM (.bl false)))
    nxM)
def tr8 : SM := (ifS (eqO ["Program"] m_Program___eq__ (fun t => !t) eqk_Program (varM 3) (makeN "Program" 1 m_Program___init__ (consA (varM 0) nilA))) (retM (conM (.bl false)))
    nxM)
def tr9 : SM := (asgM 5 (lstM nilA))
def tr10_1 : SM := (asgM 7 (binM ixD (binM ixD (varM 0) (varM 6)) (conM (.int 1))))
def tr10_2 : SM := (asgM 8 (iteM (binM eqD (binM ixD (varM 7) (conM (.int 0))) (conM (.str "go"))) (lstM (consA (frzM (binM ixD (varM 7) (conM (.int 1)))) nilA)) (bltM listD (consA (slM (varM 7) (atO (conM (.int 4))) noO) nilA))))
def tr10_3 : SM := (asgM 5 (binM addD (varM 5) (lcM [9] (rng1 (consA (varM 1) nilA)) (tgN 9) (binM inD (varM 9) (varM 8)) (tupM (consA (frzM (varM 6)) (consA (frzM (varM 9)) nilA))))))
def tr10 : SM := (forM (rng1 (consA (varM 1) nilA)) (tgN 6) (seqM tr10_1 (seqM tr10_2 tr10_3)))
def tr11 : SM := (retM (eqO ["Routine"] m_Routine___eq__ id eqk_Routine (fldM ["Program"] "routine" (varM 3)) (makeN "Routine" 2 m_Routine___init__ (consA (varM 1) (consA (varM 5) nilA)))))
theorem tr_split : m__law_told_right = funM 10 (seqM tr1 (seqM tr2 (seqM tr3 (seqM tr4 (seqM tr5 (seqM tr6 (seqM tr7 (seqM tr8 (seqM tr9 (seqM tr10 tr11)))))))))) := rfl
/-- lists of blocks -/
def Bs (bs : List D) : Prop := (∀ d ∈ bs, Bk d) ∧ bs.length ≤ 45
theorem Bs.gd {bs : List D} (h : Bs bs) : (D.lst bs).gd = true := by simp only [D.gd]; exact gds_iff.mpr fun d hd => (h.1 d hd).1.1
theorem Bs.dp {bs : List D} (h : Bs bs) : (D.lst bs).dp ≤ 21 := by
  have : D.dps bs ≤ 20 := dps_le.mpr fun d hd => (h.1 d hd).1.2
  simp only [D.dp]; omega
theorem Bs.wt {bs : List D} (h : Bs bs) : (D.lst bs).wt ≤ 1000000 := by
  have := wts_le (w := 20000) fun d hd => (h.1 d hd).2
  have h2 := h.2
  simp only [D.wt]
  omega
theorem Bs.rep {bs : List D} (h : Bs bs) : reprD [.lst bs] = some (.dat (.str (shD (.lst bs)))) := reprD_gd h.gd h.wt (Nat.le_trans h.dp (by decide))
theorem Bs.reps {bs : List D} (h : Bs bs) : eqP (.str (shD (.lst bs))) (.str (shD (.lst bs))) = some true := by rw [eqP_sh h.gd h.gd]; simp
theorem Bs.self {bs : List D} (h : Bs bs) : eqP (.lst bs) (.lst bs) = some true := eqP_self h.gd (Nat.le_trans h.dp (by decide))
def badL (n : Int) : Nat → List D → List Int
  | _, [] => []
  | u, d :: ds => if blB d (u : Int) n = true then badL n (u + 1) ds else (u : Int) :: badL n (u + 1) ds
theorem badL_fbad {n : Int} : ∀ {u : Nat} {ds : List D}, (badL n u ds).head? = (fbad n u ds).map fun m => (m : Int)
  | u, [] => rfl
  | u, d :: ds => by
    unfold badL fbad
    split
    · exact badL_fbad
    · rfl
theorem rangeD_succ (lo : Int) (k : Nat) : rangeD lo (k + 1) = .int lo :: rangeD (lo + 1) k := by
  unfold rangeD
  rw [List.range_succ_eq_map, List.map_cons, List.map_map]
  simp
  intro a _
  omega
theorem rangeD_0 (lo : Int) : rangeD lo 0 = [] := rfl
def tLS (bs : List D) (told bad jumps u e g v : Slot) : LS := [.par (.lst bs), .dat (.int bs.length), .own (.lst bs), told, bad, jumps, u, e, g, v]
theorem bad_loop {bs : List D} (h : Bs bs) {told : Slot} : ∀ (ds : List D) (u : Nat) (acc : List D), bs.drop u = ds → acc.length + ds.length ≤ 1000 →
    lcL [6] none (tgN 6) (notM (callN 3 m__law_is_block (consA (binM ixD (varM 0) (varM 6)) (consA (varM 6) (consA (varM 1) nilA))))) (varM 6) (rangeD u ds.length) (tLS bs told .emp .emp .emp .emp .emp .emp) acc =
      .ok (.own (.lst (acc ++ (badL bs.length u ds).map .int))) (tLS bs told .emp .emp .emp .emp .emp .emp)
  | [], u, acc, _, _ => by simp [rangeD_0, badL]
  | d :: ds, u, acc, hd, hl => by
    have hu : u < bs.length := by
      refine Nat.lt_of_not_le fun z => ?_
      rw [List.drop_eq_nil_of_le z] at hd; cases hd
    have hd' : bs.drop (u + 1) = ds := by rw [← List.drop_drop, hd]; rfl
    have hm : bs[u]? = some d := by
      have : (bs.drop u)[0]? = some d := by rw [hd]; rfl
      simpa using this
    have hx : d ∈ bs := List.mem_of_getElem? hm
    have e1 := lblock_ok (h.1 d hx) (u : Int) bs.length
    have e2 : atI bs (u : Int) = some d := atI_nat hm
    simp at hl
    rw [List.length_cons, rangeD_succ, lcL_cons]
    cases hb : blB d (u : Int) bs.length with
    | true =>
      have := bad_loop h (told := told) ds (u + 1) acc hd' (by omega)
      rw [badL, if_pos hb, ← this]
      simp only [tLS]
      simp [e1, e2, hb]
    | false =>
      have := bad_loop h (told := told) ds (u + 1) (acc ++ [.int u]) hd' (by simp; omega)
      rw [badL, if_neg (by rw [hb]; decide)]
      simp only [tLS] at this ⊢
      simp [e1, e2, hb]
      rw [if_pos (by omega)]
      simpa using this
theorem tr1_ok {bs : List D} : tr1 [.par (.lst bs), .emp, .emp, .emp, .emp, .emp, .emp, .emp, .emp, .emp] = .nx (tLS bs .emp .emp .emp .emp .emp .emp .emp) := by
  simp [tr1, tLS]
def tdS (bs : List D) : Slot := if 2 ≤ bs.length ∧ bs.length ≤ 40 then (match fbad bs.length 0 bs with
    | some m => .dat (.int (m : Nat))
    | none => .own (Pg bs)) else .dat (.int (-1))
theorem tr2_ok {bs : List D} (h : Bs bs) : tr2 (tLS bs .emp .emp .emp .emp .emp .emp .emp) = .nx (tLS bs (tdS bs) .emp .emp .emp .emp .emp .emp) := by
  have e := made_ok h.1
  unfold mdR at e
  unfold tdS
  by_cases hr : 2 ≤ bs.length ∧ bs.length ≤ 40
  · rw [if_pos hr] at e ⊢
    cases hf : fbad bs.length 0 bs with
    | some m =>
      simp only [hf] at e
      simp [tr2, tLS, e]
    | none =>
      simp only [hf] at e
      simp [tr2, tLS, e]
  · rw [if_neg hr] at e ⊢
    simp [tr2, tLS, e]
theorem tr3_ok {bs : List D} (h : Bs bs) {t : Slot} : tr3 (tLS bs t .emp .emp .emp .emp .emp .emp) = .nx (tLS bs t .emp .emp .emp .emp .emp .emp) := by
  simp [tr3, tLS, h.rep, h.reps]
theorem tr5_r {bs : List D} (h : Bs bs) {t : Slot} : rng1 (consA (varM 1) nilA) (tLS bs t .emp .emp .emp .emp .emp .emp) = .ok (rangeD 0 bs.length) none (tLS bs t .emp .emp .emp .emp .emp .emp) := by
  have r : inR (bs.length : Int) = true := inR_of (by omega) (by have := h.2; omega)
  have e : rng1 (consA (varM 1) nilA) (tLS bs t .emp .emp .emp .emp .emp .emp) = if inR (bs.length : Int) = true then .ok (rangeD 0 (bs.length : Int).toNat) none (tLS bs t .emp .emp .emp .emp .emp .emp) else .stk := rfl
  rw [e, if_pos r, Int.toNat_natCast]
theorem lcM_of {own : List Nat} {src : IM} {tg : TgM} {t e : M} {ls ls1 : LS} {items : List D} {r : R} (h : src ls = .ok items none ls1) (m : empAt ls1 own = true) (k : lcL own none tg t e items ls1 [] = r) : lcM own src tg t e ls = r := by
  simp only [lcM_ap, h, m, if_true, k]
theorem asgM_of {i : Nat} {m : M} {k : Slot} {ls ls1 : LS} {r : S} (h : m ls = .ok k ls1) (h2 : asgK i k ls1 = r) : asgM i m ls = r := by
  simp only [asgM_ap, h, RbS_ok, h2]
theorem fgtS_of {own : List Nat} {s : SM} {ls ls1 : LS} {r : S} (h : wipeL ls own = ls1) (h2 : s ls1 = r) : fgtS own s ls = r := by
  simp only [fgtS_ap, h, h2]
theorem tr5_ok {bs : List D} (h : Bs bs) {t : Slot} : tr5 (tLS bs t .emp .emp .emp .emp .emp .emp) = .nx (tLS bs t (.own (.lst ((badL bs.length 0 bs).map .int))) .emp .emp .emp .emp .emp) := by
  have key := bad_loop h (told := t) bs 0 [] rfl (by have := h.2; simp; omega)
  unfold tr5
  refine fgtS_of (ls1 := tLS bs t .emp .emp .emp .emp .emp .emp) rfl ?_
  refine asgM_of (lcM_of (tr5_r h) rfl key) ?_
  rfl
theorem toPys_ints (l : List Int) : toPys (l.map .int) = some (l.map .int) := by
  induction l with
  | nil => rfl
  | cons a l ih => simp [toPys, toPy, ih]
theorem lays_ints (l : List Int) : PyData.canLayAll0 (l.map .int) = true := by
  induction l with
  | nil => rfl
  | cons a l ih => simp [PyData.canLayAll0, PyData.canLay0, ih]
theorem deps_ints (l : List Int) : PyData.depthAll (l.map .int) = 0 := by
  induction l with
  | nil => rfl
  | cons a l ih => simp [PyData.depthAll, PyData.depth, ih]
theorem sh_ints (l : List Int) : SeqAt.shaped (.list (l.map .int)) = true := by
  simp [SeqAt.shaped, PyData.canLay0, lays_ints, PyData.depth, deps_ints]
theorem eqP_ints0 (l : List Int) : eqP (.lst (l.map .int)) (.lst []) = some l.isEmpty := by
  have h0 : SeqAt.shaped (.list []) = true := by decide
  simp only [eqP, toPy, toPys_ints, Option.map_some, toPys, sh_ints, h0, and_self, if_true]
  cases l <;> simp [PyData.eqv, PyData.eqvAll]
theorem any_ints (v : Int) (l : List Int) : ((l.map PyData.int).any fun z => PyData.eqv z (.int v)) = decide (v ∈ l) := by
  induction l with
  | nil => simp
  | cons a l ih =>
    rw [List.map_cons, List.any_cons, ih]
    by_cases h : v = a
    · subst h; simp [PyData.eqv]
    · simp [PyData.eqv, h, Ne.symm h]
theorem inP_ints (v : Int) (l : List Int) : inP (.int v) (.lst (l.map .int)) = some (decide (v ∈ l)) := by
  have h0 : SeqAt.shaped (.int v) = true := by simp [SeqAt.shaped, PyData.canLay0, PyData.depth]
  simp only [inP, toPy, toPys_ints, sh_ints, h0, and_self, if_true, any_ints]
end VM

set_option linter.all false
set_option maxRecDepth 100000
set_option maxHeartbeats 1000000
namespace VM
open PySem PySem.Spec L2
theorem bindM_of {m : M} {k : Slot} {ls ls1 : LS} {f : Slot → LS → R} {r : R} (h : m ls = .ok k ls1) (h2 : f k ls1 = r) : (m ls).bind f = r := by rw [h]; exact h2
theorem ifS_t {c : M} {a b : SM} {ls ls1 : LS} {r : S} (h : c ls = .ok (.dat (.bl true)) ls1) (h2 : a ls1 = r) : ifS c a b ls = r := by simp only [ifS_ap, h, RbS_ok, h2]
theorem ifS_f {c : M} {a b : SM} {ls ls1 : LS} {r : S} (h : c ls = .ok (.dat (.bl false)) ls1) (h2 : b ls1 = r) : ifS c a b ls = r := by simp only [ifS_ap, h, RbS_ok, h2]
theorem notM_of {a : M} {ls ls1 : LS} {b : Bool} (h : a ls = .ok (.dat (.bl b)) ls1) : notM a ls = .ok (.dat (.bl (!b))) ls1 := by simp only [notM_ap, h, Rb_ok]
theorem andM_t {a b : M} {ls ls1 : LS} {r : R} (h : a ls = .ok (.dat (.bl true)) ls1) (h2 : b ls1 = r) : andM a b ls = r := by simp only [andM_ap, h, Rb_ok, h2]
theorem andM_f {a b : M} {ls ls1 : LS} (h : a ls = .ok (.dat (.bl false)) ls1) : andM a b ls = .ok (.dat (.bl false)) ls1 := by simp only [andM_ap, h, Rb_ok]
theorem orM_f {a b : M} {ls ls1 : LS} {r : R} (h : a ls = .ok (.dat (.bl false)) ls1) (h2 : b ls1 = r) : orM a b ls = r := by simp only [orM_ap, h, Rb_ok, h2]
theorem orM_t {a b : M} {ls ls1 : LS} (h : a ls = .ok (.dat (.bl true)) ls1) : orM a b ls = .ok (.dat (.bl true)) ls1 := by simp only [orM_ap, h, Rb_ok]
theorem retM_of {m : M} {k : Slot} {ls ls1 : LS} (h : m ls = .ok k ls1) : retM m ls = .ret k ls1 := by simp only [retM_ap, h, RbS_ok]
theorem seqM_of {a b : SM} {ls ls1 : LS} {r : S} (h : a ls = .nx ls1) (h2 : b ls1 = r) : seqM a b ls = r := by simp only [seqM_ap, h, Sb_nx, h2]
theorem seqM_ret {a b : SM} {ls ls1 : LS} {k : Slot} (h : a ls = .ret k ls1) : seqM a b ls = .ret k ls1 := by simp only [seqM_ap, h, Sb_ret]
theorem tr4_t {bs : List D} (h : 2 ≤ bs.length ∧ bs.length ≤ 40) {t : Slot} : tr4 (tLS bs t .emp .emp .emp .emp .emp .emp) = .nx (tLS bs t .emp .emp .emp .emp .emp .emp) := by
  have i1 : (2 : Int) ≤ (bs.length : Int) := by omega
  have i2 : (bs.length : Int) ≤ 40 := by omega
  simp [tr4, tLS, i1, i2]
theorem tr4_f {bs : List D} (h : ¬ (2 ≤ bs.length ∧ bs.length ≤ 40)) : tr4 (tLS bs (.dat (.int (-1))) .emp .emp .emp .emp .emp .emp) = .ret (.dat (.bl true)) (tLS bs (.dat (.int (-1))) .emp .emp .emp .emp .emp .emp) := by
  by_cases i1 : (2 : Int) ≤ (bs.length : Int)
  · have i2 : ¬ (bs.length : Int) ≤ 40 := by omega
    simp [tr4, tLS, i1, i2, isiD, tbNo]
  · simp [tr4, tLS, i1, isiD, tbNo]
theorem tr6_e {bs : List D} {t : Slot} : tr6 (tLS bs t (.own (.lst [])) .emp .emp .emp .emp .emp) = .nx (tLS bs t (.own (.lst [])) .emp .emp .emp .emp .emp) := by
  have e := eqP_ints0 []
  simp at e
  simp [tr6, tLS, e]
theorem tr6_c {bs : List D} {m : Int} {r : List Int} : tr6 (tLS bs (.dat (.int m)) (.own (.lst ((m :: r).map .int))) .emp .emp .emp .emp .emp) = .ret (.dat (.bl true)) (tLS bs (.dat (.int m)) (.own (.lst ((m :: r).map .int))) .emp .emp .emp .emp .emp) := by
  have e := eqP_ints0 (m :: r)
  simp at e
  simp [tr6, tLS, e, isiD, tbNo]
theorem code_ok {bs : List D} {c : Slot} (hc : c = .par (Pg bs) ∨ c = .dat (Pg bs)) : m_Program_code [c] = .ok (.own (.lst bs)) [c] := by
  rcases hc with rfl | rfl <;> simp [m_Program_code, funM_ap, Pg, List.lookup]
theorem tr7_ok {bs : List D} (h : Bs bs) {b : Slot} : tr7 (tLS bs (.own (Pg bs)) b .emp .emp .emp .emp .emp) = .nx (tLS bs (.own (Pg bs)) b .emp .emp .emp .emp .emp) := by
  have e := code_ok (bs := bs) (.inl rfl)
  have hp : ∃ gs, Pg bs = .ins "Program" gs := ⟨_, rfl⟩
  obtain ⟨gs, hp⟩ := hp
  rw [hp] at e ⊢
  have t : tc_Program "Program" = some true := by decide +kernel
  simp [tr7, tLS, isiD, t, e, h.rep, h.reps]
theorem peq_ok {bs cs : List D} {q : Bool} (e : eqP (.lst bs) (.lst cs) = some q) {a b : Slot} (ha : a = .par (Pg bs) ∨ a = .dat (Pg bs)) (hb : b = .par (Pg cs) ∨ b = .dat (Pg cs)) :
    m_Program___eq__ [a, b] = .ok (.dat (.bl q)) [a, b] := by
  have t : tc_Program "Program" = some true := by decide +kernel
  rcases ha with rfl | rfl <;> rcases hb with rfl | rfl <;> simp [m_Program___eq__, funM_ap, Pg, isiD, t, List.lookup, e]
theorem tr8_ok {bs : List D} (h : Bs bs) (hr : 2 ≤ bs.length ∧ bs.length ≤ 40) (hf : fbad bs.length 0 bs = none) {b : Slot} : tr8 (tLS bs (.own (Pg bs)) b .emp .emp .emp .emp .emp) = .nx (tLS bs (.own (Pg bs)) b .emp .emp .emp .emp .emp) := by
  have e := peq_ok h.self (.inl rfl) (.inl rfl)
  have e2 := prog_ok h.1
  unfold prR at e2
  rw [if_pos hr] at e2
  simp only [hf] at e2
  have ek : eqk_Program (Pg bs) = true := by simp [Pg, eqk_Program]
  have hp : ∃ gs, Pg bs = .ins "Program" gs := ⟨_, rfl⟩
  obtain ⟨gs, hp⟩ := hp
  rw [hp] at e e2 ek ⊢
  simp [tr8, tLS, e, e2, ek]
/-! the jumps of the law -/
def rowL (n : Nat) (u : Int) (ts : List Int) : List JJ := (((List.range n).map fun i => (0 : Int) + (i : Nat)).filter fun v => decide (v ∈ ts)).map fun v => (u, v)
def jm2 (n : Nat) : Nat → List D → List JJ
  | _, [] => []
  | u, d :: ds => rowL n u (tgB d) ++ jm2 n (u + 1) ds
theorem rowL_len (n : Nat) (u : Int) (ts : List Int) : (rowL n u ts).length ≤ n := by
  unfold rowL
  rw [List.length_map]
  refine Nat.le_trans (List.length_filter_le _ _) ?_
  simp
theorem rowL_perm {n : Nat} {u : Int} {ts : List Int} (h : ts.Nodup) (hb : ∀ t ∈ ts, 0 ≤ t ∧ t ≤ (n : Int) - 1) : (rowL n u ts).Perm (ts.map fun v => (u, v)) := by
  unfold rowL
  refine List.Perm.map _ ?_
  refine (List.perm_ext_iff_of_nodup ?_ h).mpr fun v => ?_
  · have nd : ((List.range n).map fun i => (0 : Int) + (i : Nat)).Nodup := by
      rw [List.nodup_iff_pairwise_ne, List.pairwise_map]
      exact List.pairwise_lt_range.imp fun h => by omega
    exact List.Pairwise.filter _ nd
  · rw [List.mem_filter]
    constructor
    · intro z; simpa using z.2
    · intro z
      refine ⟨?_, by simpa using z⟩
      have := hb v z
      exact List.mem_map.mpr ⟨v.toNat, by simp; omega, by omega⟩
theorem jm2_perm {n : Nat} : ∀ {ds : List D} {u : Nat}, fbad n u ds = none → (jm2 n u ds).Perm (jmps u ds)
  | [], u, _ => .refl _
  | d :: ds, u, h => by
    obtain ⟨hb, hf⟩ := fbad_cons h
    obtain ⟨ls, e, rfl, hk⟩ := blB_shape hb
    obtain ⟨a, b⟩ := tgE_ok hk
    exact (rowL_perm (ts := tgE e) a fun t ht => by have := b t ht; omega).append (jm2_perm hf)
theorem sortP_congr {a b : List JJ} (h : a.Perm b) : sortP a = sortP b := sortP_eq ((sortP_perm a).trans h) (sortP_srtd a)
end VM

set_option linter.all false
set_option maxRecDepth 100000
set_option maxHeartbeats 1000000
namespace VM
open PySem PySem.Spec L2
theorem binM_of {g : D → D → Option Slot} {a b : M} {ls ls1 ls2 : LS} {k1 k2 k : Slot} {x y : D} (h1 : a ls = .ok k1 ls1) (h2 : b ls1 = .ok k2 ls2) (l1 : look ls2 k1 = some x) (l2 : look ls2 k2 = some y) (e : g x y = some k) : binM g a b ls = .ok k ls2 := by
  simp only [binM_ap, h1, Rb_ok, h2, lift2_ap, l1, l2, e]
abbrev jl9 : M := lcM [9] (rng1 (consA (varM 1) nilA)) (tgN 9) (binM inD (varM 9) (varM 8)) (tupM (consA (frzM (varM 6)) (consA (frzM (varM 9)) nilA)))
def uLS (bs : List D) (b : Slot) (js : List JJ) (u : Int) (e : D) (ts : List Int) : LS := [.par (.lst bs), .dat (.int bs.length), .own (.lst bs), .own (Pg bs), b, .own (JL js), .dat (.int u), .dat e, .own (.lst (ts.map .int)), .emp]
theorem rng_u {bs : List D} (h : Bs bs) {b : Slot} {js : List JJ} {u : Int} {e : D} {ts : List Int} : rng1 (consA (varM 1) nilA) (uLS bs b js u e ts) = .ok (rangeD 0 bs.length) none (uLS bs b js u e ts) := by
  have r : inR (bs.length : Int) = true := inR_of (by omega) (by have := h.2; omega)
  have e0 : rng1 (consA (varM 1) nilA) (uLS bs b js u e ts) = if inR (bs.length : Int) = true then .ok (rangeD 0 (bs.length : Int).toNat) none (uLS bs b js u e ts) else .stk := rfl
  rw [e0, if_pos r, Int.toNat_natCast]
theorem jl9_ok {bs : List D} (h : Bs bs) {b : Slot} {js : List JJ} {u : Int} {e : D} {ts : List Int} : jl9 (uLS bs b js u e ts) = .ok (.own (JL (rowL bs.length u ts))) (uLS bs b js u e ts) := by
  have key := lcL_pure (i := 9) (ls := uLS bs b js u e ts) (t := binM inD (varM 9) (varM 8)) (e := tupM (consA (frzM (varM 6)) (consA (frzM (varM 9)) nilA)))
    (fun d => match d with
      | .int v => decide (v ∈ ts)
      | _ => false) (fun d => match d with
      | .int v => tupP (u, v)
      | _ => .non) rfl (rangeD 0 bs.length) [] (fun d hd => by
        rw [rangeD_map] at hd
        obtain ⟨v, _, rfl⟩ := List.mem_map.mp hd
        simp only [uLS]
        simp [inP_ints]) (fun d hd _ => by
        rw [rangeD_map] at hd
        obtain ⟨v, _, rfl⟩ := List.mem_map.mp hd
        refine ⟨_, ?_, freezeK_dat⟩
        simp only [uLS]
        simp [tupP]) (by have := h.2; simp [rangeD_len]; omega)
  refine lcM_of (rng_u h) rfl ?_
  rw [key]
  congr 3
  rw [rangeD_map, List.filter_map, List.map_map, List.nil_append]
  unfold rowL
  rw [List.map_map]
  rfl
theorem gone_go {bs : List D} {b : Slot} {js : List JJ} {u t : Int} {v : Slot} (hg : Gv (.tup [.str "go", .int t])) : tr10_2 [.par (.lst bs), .dat (.int bs.length), .own (.lst bs), .own (Pg bs), b, .own (JL js), .dat (.int u), .dat (.tup [.str "go", .int t]), v, .emp] = .nx (uLS bs b js u (.tup [.str "go", .int t]) [t]) := by
  have s3 : isS "go" (.str "go") = true := by decide +kernel
  have e1 := eqP_S g_go (hg.t _ List.mem_cons_self)
  rw [s3] at e1
  simp [tr10_2, uLS, e1]
theorem gone_if {bs : List D} {b : Slot} {js : List JJ} {u t t' : Int} {x y z : D} {v : Slot} (hg : Gv (.tup [.str "if", x, y, z, .int t, .int t'])) : tr10_2 [.par (.lst bs), .dat (.int bs.length), .own (.lst bs), .own (Pg bs), b, .own (JL js), .dat (.int u), .dat (.tup [.str "if", x, y, z, .int t, .int t']), v, .emp] = .nx (uLS bs b js u (.tup [.str "if", x, y, z, .int t, .int t']) [t, t']) := by
  have s4 : isS "go" (.str "if") = false := by decide +kernel
  have e1 := eqP_S g_go (hg.t _ List.mem_cons_self)
  rw [s4] at e1
  have l : listD [.tup [.int t, .int t']] = some (.own (.lst [.int t, .int t'])) := rfl
  simp [tr10_2, uLS, e1, slM, atO, noO, slD_4, l]
theorem gone_stop {bs : List D} {b : Slot} {js : List JJ} {u : Int} {v : Slot} (hg : Gv (.tup [.str "stop"])) : tr10_2 [.par (.lst bs), .dat (.int bs.length), .own (.lst bs), .own (Pg bs), b, .own (JL js), .dat (.int u), .dat (.tup [.str "stop"]), v, .emp] = .nx (uLS bs b js u (.tup [.str "stop"]) []) := by
  have s1 : isS "go" (.str "stop") = false := by decide +kernel
  have e1 := eqP_S g_go (hg.t _ List.mem_cons_self)
  rw [s1] at e1
  have l : slD (.tup [.str "stop"]) (some 4) none = some (.dat (.tup [])) := by rfl
  have l2 : listD [.tup []] = some (.own (.lst [])) := rfl
  simp [tr10_2, uLS, e1, slM, atO, noO, l, l2]
theorem gone_ok {bs : List D} {b : Slot} {js : List JJ} {u n : Int} {e : D} {v : Slot} (hg : Gv e) (hk : EndK u n e) : tr10_2 [.par (.lst bs), .dat (.int bs.length), .own (.lst bs), .own (Pg bs), b, .own (JL js), .dat (.int u), .dat e, v, .emp] = .nx (uLS bs b js u e (tgE e)) := by
  cases hk with
  | stop _ => exact gone_stop hg
  | go t _ _ _ => exact gone_go hg
  | cif _ _ _ t t' _ _ _ _ _ _ =>
    have := gone_if (bs := bs) (b := b) (js := js) (u := u) (v := v) hg
    simpa only [tgE] using this
def vLS (bs : List D) (b : Slot) (js : List JJ) (u e g : Slot) : LS := [.par (.lst bs), .dat (.int bs.length), .own (.lst bs), .own (Pg bs), b, .own (JL js), u, e, g, .emp]
theorem tr10_3_ok {bs : List D} (h : Bs bs) {b : Slot} {js : List JJ} {u : Int} {e : D} {ts : List Int} (hl : js.length ≤ 10000) : tr10_3 (uLS bs b js u e ts) = .nx (vLS bs b (js ++ rowL bs.length u ts) (.dat (.int u)) (.dat e) (.own (.lst (ts.map .int)))) := by
  have e1 := jl9_ok h (b := b) (js := js) (u := u) (e := e) (ts := ts)
  have e2 : varM 5 (uLS bs b js u e ts) = .ok (.ali 5) (uLS bs b js u e ts) := rfl
  have hl2 := rowL_len bs.length u ts
  have e3 : addD (JL js) (JL (rowL bs.length u ts)) = some (.own (JL (js ++ rowL bs.length u ts))) := by
    rw [addD_JL, if_pos (by have := h.2; omega)]
  have e4 : look (uLS bs b js u e ts) (.ali 5) = some (JL js) := rfl
  unfold tr10_3
  exact asgM_of (binM_of e2 e1 e4 look_own e3) rfl
theorem tr10_loop {bs : List D} (h : Bs bs) {b : Slot} : ∀ (ds : List D) (k : Nat) (js : List JJ) (u e g : Slot), bs.drop k = ds → fbad bs.length k ds = none → js.length + 50 * ds.length ≤ 5000 →
    ∃ u' e' g', forL none (tgN 6) (seqM tr10_1 (seqM tr10_2 tr10_3)) (rangeD k ds.length) (vLS bs b js u e g) = .nx (vLS bs b (js ++ jm2 bs.length k ds) u' e' g')
  | [], k, js, u, e, g, _, _, _ => ⟨u, e, g, by simp [rangeD_0, jm2]⟩
  | d :: ds, k, js, u, e, g, hd, hf, hl => by
    have hu : k < bs.length := by
      refine Nat.lt_of_not_le fun z => ?_
      rw [List.drop_eq_nil_of_le z] at hd; cases hd
    have hd' : bs.drop (k + 1) = ds := by rw [← List.drop_drop, hd]; rfl
    have hm : bs[k]? = some d := by
      have : (bs.drop k)[0]? = some d := by rw [hd]; rfl
      simpa using this
    have hx : d ∈ bs := List.mem_of_getElem? hm
    obtain ⟨hb, hf'⟩ := fbad_cons hf
    obtain ⟨ls, x, rfl, hk⟩ := blB_shape hb
    have hg : Gv x := (h.1 _ hx).1.t x (by simp)
    have e2 : atI bs (k : Int) = some (.tup [.tup ls, x]) := atI_nat hm
    have e3 : tr10_1 (vLS bs b js (.dat (.int k)) e g) = .nx [.par (.lst bs), .dat (.int bs.length), .own (.lst bs), .own (Pg bs), b, .own (JL js), .dat (.int k), .dat x, g, .emp] := by
      simp only [vLS]
      simp [tr10_1, e2]
    have e4 := gone_ok (bs := bs) (b := b) (js := js) (v := g) hg hk
    have hl2 := rowL_len bs.length k (tgE x)
    have h45 := h.2
    simp at hl
    have e5 := tr10_3_ok h (b := b) (js := js) (u := (k : Int)) (e := x) (ts := tgE x) (by omega)
    obtain ⟨u', e', g', e6⟩ := tr10_loop h (b := b) ds (k + 1) (js ++ rowL bs.length k (tgE x)) (.dat (.int k)) (.dat x) (.own (.lst ((tgE x).map .int))) hd' hf' (by simp; omega)
    refine ⟨u', e', g', ?_⟩
    have e7 : seqM tr10_1 (seqM tr10_2 tr10_3) (vLS bs b js (.dat (.int k)) e g) = .nx (vLS bs b (js ++ rowL bs.length k (tgE x)) (.dat (.int k)) (.dat x) (.own (.lst ((tgE x).map .int)))) :=
      seqM_of e3 (seqM_of e4 e5)
    rw [List.length_cons, rangeD_succ, forL_cons]
    have e8 : tgN 6 (.int k) (vLS bs b js u e g) = some (vLS bs b js (.dat (.int k)) e g) := rfl
    rw [e8]
    simp only [e7]
    rw [jm2, tgB, ← List.append_assoc]
    exact e6
theorem eq_Rt' {B : Int} {js ks : List JJ} (h : sortP js = sortP ks) : m_Routine___eq__ [.dat (Rt B js), .par (Rt B ks)] = .ok (.dat (.bl true)) [.dat (Rt B js), .par (Rt B ks)] := by
  have t : tc_Routine "Routine" = some true := by decide +kernel
  simp [m_Routine___eq__, funM_ap, Rt, isiD, t, List.lookup, h]
theorem tr11_ok {bs : List D} (hr : 2 ≤ bs.length ∧ bs.length ≤ 40) (hf : fbad bs.length 0 bs = none) {b u e g : Slot} : tr11 (vLS bs b (jm2 bs.length 0 bs) u e g) = .ret (.dat (.bl true)) (vLS bs b (jm2 bs.length 0 bs) u e g) := by
  have pm := jm2_perm hf
  obtain ⟨jn, jo⟩ := jmps_ok hf
  have jl := jmps_len hf
  have e1 := rt_ok (n := bs.length) (js := jm2 bs.length 0 bs) (by omega) (by omega) (pm.nodup_iff.mpr jn) (fun p hp => by have := jo p (pm.mem_iff.mp hp); simp at this; omega) (by rw [pm.length_eq]; omega)
  have e2 := eq_Rt' (B := bs.length) (sortP_congr pm.symm)
  have ek : eqk_Routine (Rt bs.length (jm2 bs.length 0 bs)) = true := by simp [Rt, eqk_Routine]
  have h1 : ∃ gs, Rt bs.length (jmps 0 bs) = .ins "Routine" gs := ⟨_, rfl⟩
  have h2 : ∃ gs, Rt bs.length (jm2 bs.length 0 bs) = .ins "Routine" gs := ⟨_, rfl⟩
  have hp : Pg bs = .ins "Program" [("listed", .lst bs), ("routine", Rt bs.length (jmps 0 bs))] := rfl
  obtain ⟨g1, h1⟩ := h1
  obtain ⟨g2, h2⟩ := h2
  rw [h1, h2] at e2
  rw [h2] at e1 ek
  rw [h1] at hp
  simp only [vLS, hp]
  simp [tr11, List.lookup, e1, e2, ek]
theorem told_ok {bs : List D} (h : Bs bs) : m__law_told_right [.par (.lst bs)] = .ok (.dat (.bl true)) [.par (.lst bs)] := by
  rw [tr_split]
  have fin : ∀ {ls : LS}, ls[0]? = some (.par (.lst bs)) → finF [.par (.lst bs)] (.ret (.dat (.bl true)) ls) = .ok (.dat (.bl true)) [.par (.lst bs)] := fun {ls} h => by
    cases ls with
    | nil => cases h
    | cons a ls =>
      simp at h
      subst h
      simp
  have start : ∀ {s : SM} {ls : LS}, ls[0]? = some (.par (.lst bs)) → seqM tr1 s [.par (.lst bs), .emp, .emp, .emp, .emp, .emp, .emp, .emp, .emp, .emp] = .ret (.dat (.bl true)) ls → funM 10 (seqM tr1 s) [.par (.lst bs)] = .ok (.dat (.bl true)) [.par (.lst bs)] := fun {s ls} h0 e => by
    rw [funM_ap]
    have : startLS 10 [.par (.lst bs)] = [.par (.lst bs), .emp, .emp, .emp, .emp, .emp, .emp, .emp, .emp, .emp] := rfl
    rw [this, e]
    exact fin h0
  by_cases hr : 2 ≤ bs.length ∧ bs.length ≤ 40
  · cases hf : fbad bs.length 0 bs with
    | some m =>
      have ht : tdS bs = .dat (.int (m : Nat)) := by unfold tdS; rw [if_pos hr]; simp only [hf]
      have hh := badL_fbad (n := bs.length) (u := 0) (ds := bs)
      rw [hf] at hh
      obtain ⟨r, hb⟩ : ∃ r, badL bs.length 0 bs = (m : Int) :: r := by
        cases hbl : badL bs.length 0 bs with
        | nil => rw [hbl] at hh; cases hh
        | cons x r => rw [hbl] at hh; simp at hh; exact ⟨r, by rw [hh]⟩
      have e2 := tr2_ok h
      rw [ht] at e2
      have e5 := tr5_ok h (t := .dat (.int (m : Nat)))
      rw [hb] at e5
      exact start (ls := tLS bs (.dat (.int (m : Nat))) (.own (.lst (((m : Int) :: r).map .int))) .emp .emp .emp .emp .emp) rfl (seqM_of tr1_ok (seqM_of e2 (seqM_of (tr3_ok h) (seqM_of (tr4_t hr) (seqM_of e5 (seqM_ret tr6_c))))))
    | none =>
      have ht : tdS bs = .own (Pg bs) := by unfold tdS; rw [if_pos hr]; simp only [hf]
      have hb : badL bs.length 0 bs = [] := by
        have hh := badL_fbad (n := bs.length) (u := 0) (ds := bs)
        rw [hf] at hh
        cases hbl : badL bs.length 0 bs with
        | nil => rfl
        | cons x r => rw [hbl] at hh; cases hh
      have e2 := tr2_ok h
      rw [ht] at e2
      have e5 := tr5_ok h (t := .own (Pg bs))
      rw [hb] at e5
      have e9 : tr9 (tLS bs (.own (Pg bs)) (.own (.lst (([] : List Int).map .int))) .emp .emp .emp .emp .emp) = .nx (vLS bs (.own (.lst [])) [] .emp .emp .emp) := by
        simp [tr9, tLS, vLS, JL]
      obtain ⟨u', e', g', e10⟩ := tr10_loop h (b := .own (.lst [])) bs 0 [] .emp .emp .emp rfl hf (by have := h.2; simp; omega)
      have r10 : rng1 (consA (varM 1) nilA) (vLS bs (.own (.lst [])) [] .emp .emp .emp) = .ok (rangeD 0 bs.length) none (vLS bs (.own (.lst [])) [] .emp .emp .emp) := by
        have r : inR (bs.length : Int) = true := inR_of (by omega) (by have := h.2; omega)
        have e0 : rng1 (consA (varM 1) nilA) (vLS bs (.own (.lst [])) [] .emp .emp .emp) = if inR (bs.length : Int) = true then .ok (rangeD 0 (bs.length : Int).toNat) none (vLS bs (.own (.lst [])) [] .emp .emp .emp) else .stk := rfl
        rw [e0, if_pos r, Int.toNat_natCast]
      have e10' : tr10 (vLS bs (.own (.lst [])) [] .emp .emp .emp) = .nx (vLS bs (.own (.lst [])) (jm2 bs.length 0 bs) u' e' g') := by
        unfold tr10
        rw [forM_ap, r10, RIb_ok]
        exact e10
      exact start (ls := vLS bs (.own (.lst [])) (jm2 bs.length 0 bs) u' e' g') rfl (seqM_of tr1_ok (seqM_of e2 (seqM_of (tr3_ok h) (seqM_of (tr4_t hr) (seqM_of e5 (seqM_of tr6_e (seqM_of (tr7_ok h) (seqM_of (tr8_ok h hr hf) (seqM_of e9 (seqM_of e10' (tr11_ok hr hf)))))))))))
  · have ht : tdS bs = .dat (.int (-1)) := by unfold tdS; rw [if_neg hr]
    have e2 := tr2_ok h
    rw [ht] at e2
    exact start (ls := tLS bs (.dat (.int (-1))) .emp .emp .emp .emp .emp .emp) rfl (seqM_of tr1_ok (seqM_of e2 (seqM_of (tr3_ok h) (seqM_ret (tr4_f hr)))))
end VM

set_option linter.all false
set_option Elab.async false
set_option maxRecDepth 100000
set_option maxHeartbeats 1000000
namespace VM
open PySem PySem.Spec L2
theorem callN_of {n : Nat} {f : List Slot → RF} {am : AM} {ls ls1 ls2 : LS} {as ps ps' : List Slot} {k : Slot} (h1 : am ls = .ok as ls1) (h2 : as.length = n) (h3 : (alis as).Nodup) (h4 : hands ls1 as = some ps) (h5 : f ps = .ok k ps') (h6 : backs as ps' ls1 = some ls2) (h7 : k.res = true) : callN n f am ls = .ok k ls2 := by
  simp only [callN_ap, h1, RAb_ok, h2, if_true, callK_ap, if_pos h3, h4, h5, h6, if_pos h7]
theorem consA_of {m : M} {r : AM} {ls ls1 ls2 : LS} {k : Slot} {as : List Slot} (h : m ls = .ok k ls1) (h2 : r ls1 = .ok as ls2) : consA m r ls = .ok (k :: as) ls2 := by
  simp only [consA_ap, h, RbA_ok, h2]
theorem tupM_of {am : AM} {ls ls1 : LS} {as : List Slot} {ds : List D} (h : am ls = .ok as ls1) (h2 : dats as = some ds) (h3 : ds.length ≤ 1000) : tupM am ls = .ok (.dat (.tup ds)) ls1 := by
  simp only [tupM_ap, h, RAb_ok, h2, if_pos h3]
theorem lstM_of {am : AM} {ls ls1 : LS} {as : List Slot} {ds : List D} (h : am ls = .ok as ls1) (h2 : dats as = some ds) (h3 : ds.length ≤ 1000) : lstM am ls = .ok (.own (.lst ds)) ls1 := by
  simp only [lstM_ap, h, RAb_ok, h2, if_pos h3]
theorem frzM_of {m : M} {ls ls1 ls2 : LS} {k : Slot} {d : D} (h : m ls = .ok k ls1) (h2 : freezeK k ls1 = some (d, ls2)) : frzM m ls = .ok (.dat d) ls2 := by
  simp only [frzM_ap, h, Rb_ok, h2]
/-! draws -/
def FD (f : Int × Int) : D := .lst [.int f.1, .int f.2]
theorem take_ok (f : Int × Int) {n : Int} (h : 0 < n) (h2 : n < 2 ^ 64) : ∃ f' r, m__law_take [.par (FD f), .dat (.int n)] = .ok (.dat (.int r)) [.par (FD f'), .dat (.int n)] ∧ 0 ≤ r ∧ r < n := by
  obtain ⟨a, b⟩ := f
  by_cases ha : 0 < a
  · refine ⟨(a / n, b), a % n, ?_, Int.emod_nonneg _ (by omega), Int.emod_lt_of_pos _ h⟩
    simp [m__law_take, funM_ap, FD, ha, h, fdivD_i h h2]
  · refine ⟨(a, (b * 1181783497276652981 + 2862933555777941757) % 2305843009213693951), ((b * 1181783497276652981 + 2862933555777941757) % 2305843009213693951 / 65536) % n, ?_, Int.emod_nonneg _ (by omega), Int.emod_lt_of_pos _ h⟩
    simp [m__law_take, funM_ap, FD, ha, h, fdivD_i (b := 65536) (by decide) (by decide)]
theorem feed_ok (ns : List Int) {k : Int} (h : 0 ≤ k) : ∃ f, m__law_feed [.dat (.scr ns), .dat (.int k)] = .ok (.own (FD f)) [.dat (.scr ns), .dat (.int k)] := by
  by_cases hk : k < ns.length
  · have : ∃ n, atI ns k = some n := by
      obtain ⟨j, rfl⟩ := Int.eq_ofNat_of_zero_le h
      have hj : j < ns.length := by omega
      exact ⟨_, atI_nat (List.getElem?_eq_getElem hj)⟩
    obtain ⟨n, hn⟩ := this
    refine ⟨(if 0 < (if n < 0 then -n else n) - 1000000000000000000 then (if n < 0 then -n else n) - 1000000000000000000 else 0, (n * 1181783497276652981 + 104729 * k + 2862933555777941757) % 2305843009213693951), ?_⟩
    simp [m__law_feed, funM_ap, FD, hk, hn]
  · refine ⟨(if 0 < (if 61 * k + 17 < 0 then -(61 * k + 17) else 61 * k + 17) - 1000000000000000000 then (if 61 * k + 17 < 0 then -(61 * k + 17) else 61 * k + 17) - 1000000000000000000 else 0, ((61 * k + 17) * 1181783497276652981 + 104729 * k + 2862933555777941757) % 2305843009213693951), ?_⟩
    simp [m__law_feed, funM_ap, FD, hk]
theorem pick_ok (f : Int × Int) {xs : List D} (h : xs ≠ []) (hl : xs.length < 2 ^ 60) : ∃ f' x, m__law_pick [.par (FD f), .par (.lst xs)] = .ok (.dat x) [.par (FD f'), .par (.lst xs)] ∧ x ∈ xs := by
  have h0 : 0 < xs.length := List.length_pos_iff.mpr h
  obtain ⟨f', r, h1, h2, h3⟩ := take_ok f (n := (xs.length : Int)) (by omega) (by omega)
  obtain ⟨j, rfl⟩ := Int.eq_ofNat_of_zero_le h2
  have hj : j < xs.length := by omega
  have h4 : atI xs (j : Int) = some xs[j] := atI_nat (List.getElem?_eq_getElem hj)
  refine ⟨f', xs[j], ?_, List.getElem_mem hj⟩
  simp [m__law_pick, funM_ap, h1, h4]
/-! small values -/
def Li (d : D) : Prop := d.gd = true ∧ d.dp ≤ 3 ∧ d.wt ≤ 500
def LiL (ds : List D) : Prop := ∀ d ∈ ds, Li d
theorem LiL_of {ds : List D} (h1 : D.gds ds = true) (h2 : Nat.ble (D.dps ds) 3 = true) (h3 : (ds.all fun d => Nat.ble d.wt 500) = true) : LiL ds := fun d hd =>
  ⟨gds_iff.mp h1 d hd, dps_le.mp (Nat.le_of_ble_eq_true h2) d hd, Nat.le_of_ble_eq_true (List.all_eq_true.mp h3 d hd)⟩
theorem LiL.app {a b : List D} (h : LiL a) (h' : LiL b) : LiL (a ++ b) := fun d hd => (List.mem_append.mp hd).elim (h d) (h' d)
theorem gq_tup {ds : List D} : (D.tup ds).gd = D.gds ds := by simp [D.gd]
theorem gq_lst {ds : List D} : (D.lst ds).gd = D.gds ds := by simp [D.gd]
theorem gq_nil : D.gds [] = true := by simp [D.gds]
theorem gq_cons {d : D} {ds : List D} : D.gds (d :: ds) = (d.gd && D.gds ds) := by simp [D.gds]
theorem gq_bl {b : Bool} : (D.bl b).gd = true := by simp [D.gd]
theorem gq_non : D.non.gd = true := by simp [D.gd]
theorem gq_int {i : Int} (h1 : -2000000000 ≤ i) (h2 : i ≤ 2000000000) : (D.int i).gd = true := by
  simp only [D.gd, decide_eq_true_eq]
  have : i.natAbs ≤ 2000000000 := by omega
  exact Nat.lt_of_le_of_lt this (by decide)

theorem gs0 : (D.str "").gd = true := by decide +kernel
theorem gs1 : (D.str " ").gd = true := by decide +kernel
theorem gs2 : (D.str "!=").gd = true := by decide +kernel
theorem gs3 : (D.str "*").gd = true := by decide +kernel
theorem gs4 : (D.str "+").gd = true := by decide +kernel
theorem gs5 : (D.str "+-").gd = true := by decide +kernel
theorem gs6 : (D.str "-").gd = true := by decide +kernel
theorem gs7 : (D.str "1").gd = true := by decide +kernel
theorem gs8 : (D.str "<").gd = true := by decide +kernel
theorem gs9 : (D.str "<<").gd = true := by decide +kernel
theorem gs10 : (D.str "<=").gd = true := by decide +kernel
theorem gs11 : (D.str "=").gd = true := by decide +kernel
theorem gs12 : (D.str "==").gd = true := by decide +kernel
theorem gs13 : (D.str ">").gd = true := by decide +kernel
theorem gs14 : (D.str "A").gd = true := by decide +kernel
theorem gs15 : (D.str "B").gd = true := by decide +kernel
theorem gs16 : (D.str "_").gd = true := by decide +kernel
theorem gs17 : (D.str "a").gd = true := by decide +kernel
theorem gs18 : (D.str "aa").gd = true := by decide +kernel
theorem gs19 : (D.str "ab").gd = true := by decide +kernel
theorem gs20 : (D.str "abcdefghijklmnopqrstuvwxyz").gd = true := by decide +kernel
theorem gs21 : (D.str "b").gd = true := by decide +kernel
theorem gs22 : (D.str "bc").gd = true := by decide +kernel
theorem gs23 : (D.str "c").gd = true := by decide +kernel
theorem gs24 : (D.str "go").gd = true := by decide +kernel
theorem gs25 : (D.str "if").gd = true := by decide +kernel
theorem gs26 : (D.str "iff").gd = true := by decide +kernel
theorem gs27 : (D.str "jump").gd = true := by decide +kernel
theorem gs28 : (D.str "s").gd = true := by decide +kernel
theorem gs29 : (D.str "stop").gd = true := by decide +kernel
theorem gs30 : (D.str "t").gd = true := by decide +kernel
theorem gs31 : (D.str "u").gd = true := by decide +kernel
theorem gs32 : (D.str "unless").gd = true := by decide +kernel
theorem gs33 : (D.str "z").gd = true := by decide +kernel
theorem gi0 : (D.int 0).gd = true := gq_int (by decide) (by decide)
theorem gi1 : (D.int 1).gd = true := gq_int (by decide) (by decide)
theorem gi2 : (D.int 2).gd = true := gq_int (by decide) (by decide)
theorem gi3 : (D.int 1000000000).gd = true := gq_int (by decide) (by decide)
theorem gi4 : (D.int (-1000000000)).gd = true := gq_int (by decide) (by decide)
theorem gi5 : (D.int 1000000001).gd = true := gq_int (by decide) (by decide)
theorem gi6 : (D.int (-1000000001)).gd = true := gq_int (by decide) (by decide)
def ol1 : SM := (asgM 1 (lstM (consA (tupM (consA (conM (.str "a")) (consA (conM (.int 1)) (consA (conM (.str "+")) (consA (conM (.int 1)) nilA))))) (consA (frzM (lstM (consA (conM (.str "a")) (consA (conM (.int 1)) (consA (conM (.str "+")) (consA (conM (.int 1)) nilA)))))) (consA (tupM (consA (conM (.str "a")) (consA (conM (.int 1)) (consA (conM (.str "+")) nilA)))) (consA (tupM (consA (conM (.str "a")) (consA (conM (.int 1)) (consA (conM (.str "*")) (consA (conM (.int 1)) nilA))))) (consA (tupM (consA (conM (.str "A")) (consA (conM (.int 1)) (consA (conM (.str "+")) (consA (conM (.int 1)) nilA))))) (consA (tupM (consA (conM (.str "ab")) (consA (conM (.int 1)) (consA (conM (.str "+")) (consA (conM (.int 1)) nilA))))) nilA))))))))
def ol2 : SM := (asgM 1 (binM addD (varM 1) (lstM (consA (tupM (consA (conM (.str "")) (consA (conM (.int 1)) (consA (conM (.str "+")) (consA (conM (.int 1)) nilA))))) (consA (tupM (consA (conM (.int 1)) (consA (conM (.int 1)) (consA (conM (.str "+")) (consA (conM (.int 1)) nilA))))) (consA (tupM (consA (conM (.str "a")) (consA (conM (.bl true)) (consA (conM (.str "+")) (consA (conM (.int 1)) nilA))))) (consA (tupM (consA (conM (.str "a")) (consA (frzM (binM addD (binM powD (conM (.int 10)) (conM (.int 9))) (conM (.int 1)))) (consA (conM (.str "+")) (consA (conM (.int 1)) nilA))))) (consA (conM .non) (consA (conM (.str "a")) (consA (tupM nilA) nilA))))))))))
def ol3 : SM := (asgM 1 (binM addD (varM 1) (lstM (consA (tupM (consA (conM (.str "a")) (consA (conM (.int 1)) (consA (conM (.str "+")) (consA (binM subD (unM negD (binM powD (conM (.int 10)) (conM (.int 9)))) (conM (.int 1))) nilA))))) (consA (tupM (consA (conM (.str "a")) (consA (conM .non) (consA (conM (.str "+")) (consA (conM (.int 1)) nilA))))) (consA (tupM (consA (conM (.str "a")) (consA (conM (.int 1)) (consA (conM (.str "+")) (consA (frzM (lstM (consA (conM (.int 1)) nilA))) nilA))))) (consA (tupM (consA (conM (.str "a")) (consA (conM (.str "B")) (consA (conM (.str "+")) (consA (conM (.int 1)) nilA))))) nilA)))))))
def ol4 : SM := (asgM 1 (binM addD (varM 1) (lstM (consA (tupM (consA (conM (.str "z")) (consA (binM powD (conM (.int 10)) (conM (.int 9))) (consA (conM (.str "-")) (consA (unM negD (binM powD (conM (.int 10)) (conM (.int 9)))) nilA))))) (consA (tupM (consA (conM (.str "a")) (consA (conM (.str "b")) (consA (conM (.str "-")) (consA (conM (.str "a")) nilA))))) nilA)))))
def ol5 : SM := (asgM 1 (binM addD (varM 1) (lstM (consA (tupM (consA (conM (.str "a")) (consA (conM (.int 1)) (consA (conM (.str "+-")) (consA (conM (.int 1)) nilA))))) (consA (tupM (consA (conM (.str "a")) (consA (conM (.int 1)) (consA (conM .non) (consA (conM (.int 1)) nilA))))) (consA (tupM (consA (conM (.str "a")) (consA (conM (.int 1)) (consA (frzM (lstM (consA (conM (.str "+")) nilA))) (consA (conM (.int 1)) nilA))))) (consA (tupM (consA (conM (.str "a")) (consA (conM (.int 1)) (consA (conM (.str "+")) (consA (conM (.int 1)) (consA (conM (.int 0)) nilA)))))) (consA (tupM (consA (conM (.str "a")) (consA (conM (.str "bc")) (consA (conM (.str "+")) (consA (conM (.int 1)) nilA))))) nilA))))))))
def ol6 : SM := (asgM 1 (binM addD (varM 1) (lstM (consA (tupM (consA (conM (.str "1")) (consA (conM (.int 1)) (consA (conM (.str "+")) (consA (conM (.int 1)) nilA))))) (consA (tupM (consA (conM (.str "_")) (consA (conM (.int 1)) (consA (conM (.str "+")) (consA (conM (.int 1)) nilA))))) (consA (tupM (consA (conM (.str " ")) (consA (conM (.int 1)) (consA (conM (.str "+")) (consA (conM (.int 1)) nilA))))) (consA (tupM (consA (conM (.str "a")) (consA (conM (.str "1")) (consA (conM (.str "+")) (consA (conM (.int 1)) nilA))))) (consA (tupM (consA (conM (.str "a")) (consA (conM (.int 1)) (consA (conM (.str "+")) (consA (conM (.str "B")) nilA))))) nilA))))))))
def ol7 : SM := (asgM 1 (binM addD (varM 1) (lstM (consA (tupM (consA (conM (.str "a")) (consA (conM (.int 1)) (consA (conM (.str "+")) (consA (conM (.bl true)) nilA))))) (consA (tupM (consA (conM (.str "a")) (consA (conM (.int 1)) (consA (conM (.str "+")) (consA (conM .non) nilA))))) (consA (tupM (consA (conM (.str "a")) (consA (conM (.int 1)) (consA (conM (.str "+")) (consA (conM (.str "ab")) nilA))))) (consA (tupM (consA (conM (.str "a")) (consA (conM (.int 1)) (consA (conM (.int 0)) (consA (conM (.int 1)) nilA))))) (consA (tupM (consA (conM (.str "s")) (consA (conM (.str "t")) (consA (conM (.str "-")) (consA (conM (.str "u")) nilA))))) nilA))))))))
def ol8 : SM := (retM (callN 2 m__law_pick (consA (varM 0) (consA (binM addD (varM 1) (lstM (consA (tupM (consA (conM (.str "a")) (consA (conM (.int 1)) (consA (conM (.str "")) (consA (conM (.int 1)) nilA))))) (consA (tupM (consA (conM (.str "a")) (consA (conM (.str "")) (consA (conM (.str "+")) (consA (conM (.int 1)) nilA))))) nilA)))) nilA))))
theorem ol_split : m__law_odd_line = funM 2 (seqM ol1 (seqM ol2 (seqM ol3 (seqM ol4 (seqM ol5 (seqM ol6 (seqM ol7 ol8))))))) := rfl
def OL1 : List D := [.tup [.str "a", .int 1, .str "+", .int 1], .lst [.str "a", .int 1, .str "+", .int 1], .tup [.str "a", .int 1, .str "+"], .tup [.str "a", .int 1, .str "*", .int 1], .tup [.str "A", .int 1, .str "+", .int 1], .tup [.str "ab", .int 1, .str "+", .int 1]]
def OL2 : List D := [.tup [.str "", .int 1, .str "+", .int 1], .tup [.int 1, .int 1, .str "+", .int 1], .tup [.str "a", .bl true, .str "+", .int 1], .tup [.str "a", .int 1000000001, .str "+", .int 1], .non, .str "a", .tup []]
def OL3 : List D := [.tup [.str "a", .int 1, .str "+", .int (-1000000001)], .tup [.str "a", .non, .str "+", .int 1], .tup [.str "a", .int 1, .str "+", .lst [.int 1]], .tup [.str "a", .str "B", .str "+", .int 1]]
def OL4 : List D := [.tup [.str "z", .int 1000000000, .str "-", .int (-1000000000)], .tup [.str "a", .str "b", .str "-", .str "a"]]
def OL5 : List D := [.tup [.str "a", .int 1, .str "+-", .int 1], .tup [.str "a", .int 1, .non, .int 1], .tup [.str "a", .int 1, .lst [.str "+"], .int 1], .tup [.str "a", .int 1, .str "+", .int 1, .int 0], .tup [.str "a", .str "bc", .str "+", .int 1]]
def OL6 : List D := [.tup [.str "1", .int 1, .str "+", .int 1], .tup [.str "_", .int 1, .str "+", .int 1], .tup [.str " ", .int 1, .str "+", .int 1], .tup [.str "a", .str "1", .str "+", .int 1], .tup [.str "a", .int 1, .str "+", .str "B"]]
def OL7 : List D := [.tup [.str "a", .int 1, .str "+", .bl true], .tup [.str "a", .int 1, .str "+", .non], .tup [.str "a", .int 1, .str "+", .str "ab"], .tup [.str "a", .int 1, .int 0, .int 1], .tup [.str "s", .str "t", .str "-", .str "u"]]
def OLr : List D := [.tup [.str "a", .int 1, .str "", .int 1], .tup [.str "a", .str "", .str "+", .int 1]]
theorem OL1_li : LiL OL1 := LiL_of (by simp only [OL1, gq_tup, gq_lst, gq_nil, gq_cons, gq_bl, gq_non, gs0, gs1, gs2, gs3, gs4, gs5, gs6, gs7, gs8, gs9, gs10, gs11, gs12, gs13, gs14, gs15, gs16, gs17, gs18, gs19, gs20, gs21, gs22, gs23, gs24, gs25, gs26, gs27, gs28, gs29, gs30, gs31, gs32, gs33, gi0, gi1, gi2, gi3, gi4, gi5, gi6, Bool.and_true]) (by kernel_rfl) (by kernel_rfl)
theorem OL2_li : LiL OL2 := LiL_of (by simp only [OL2, gq_tup, gq_lst, gq_nil, gq_cons, gq_bl, gq_non, gs0, gs1, gs2, gs3, gs4, gs5, gs6, gs7, gs8, gs9, gs10, gs11, gs12, gs13, gs14, gs15, gs16, gs17, gs18, gs19, gs20, gs21, gs22, gs23, gs24, gs25, gs26, gs27, gs28, gs29, gs30, gs31, gs32, gs33, gi0, gi1, gi2, gi3, gi4, gi5, gi6, Bool.and_true]) (by kernel_rfl) (by kernel_rfl)
theorem OL3_li : LiL OL3 := LiL_of (by simp only [OL3, gq_tup, gq_lst, gq_nil, gq_cons, gq_bl, gq_non, gs0, gs1, gs2, gs3, gs4, gs5, gs6, gs7, gs8, gs9, gs10, gs11, gs12, gs13, gs14, gs15, gs16, gs17, gs18, gs19, gs20, gs21, gs22, gs23, gs24, gs25, gs26, gs27, gs28, gs29, gs30, gs31, gs32, gs33, gi0, gi1, gi2, gi3, gi4, gi5, gi6, Bool.and_true]) (by kernel_rfl) (by kernel_rfl)
theorem OL4_li : LiL OL4 := LiL_of (by simp only [OL4, gq_tup, gq_lst, gq_nil, gq_cons, gq_bl, gq_non, gs0, gs1, gs2, gs3, gs4, gs5, gs6, gs7, gs8, gs9, gs10, gs11, gs12, gs13, gs14, gs15, gs16, gs17, gs18, gs19, gs20, gs21, gs22, gs23, gs24, gs25, gs26, gs27, gs28, gs29, gs30, gs31, gs32, gs33, gi0, gi1, gi2, gi3, gi4, gi5, gi6, Bool.and_true]) (by kernel_rfl) (by kernel_rfl)
theorem OL5_li : LiL OL5 := LiL_of (by simp only [OL5, gq_tup, gq_lst, gq_nil, gq_cons, gq_bl, gq_non, gs0, gs1, gs2, gs3, gs4, gs5, gs6, gs7, gs8, gs9, gs10, gs11, gs12, gs13, gs14, gs15, gs16, gs17, gs18, gs19, gs20, gs21, gs22, gs23, gs24, gs25, gs26, gs27, gs28, gs29, gs30, gs31, gs32, gs33, gi0, gi1, gi2, gi3, gi4, gi5, gi6, Bool.and_true]) (by kernel_rfl) (by kernel_rfl)
theorem OL6_li : LiL OL6 := LiL_of (by simp only [OL6, gq_tup, gq_lst, gq_nil, gq_cons, gq_bl, gq_non, gs0, gs1, gs2, gs3, gs4, gs5, gs6, gs7, gs8, gs9, gs10, gs11, gs12, gs13, gs14, gs15, gs16, gs17, gs18, gs19, gs20, gs21, gs22, gs23, gs24, gs25, gs26, gs27, gs28, gs29, gs30, gs31, gs32, gs33, gi0, gi1, gi2, gi3, gi4, gi5, gi6, Bool.and_true]) (by kernel_rfl) (by kernel_rfl)
theorem OL7_li : LiL OL7 := LiL_of (by simp only [OL7, gq_tup, gq_lst, gq_nil, gq_cons, gq_bl, gq_non, gs0, gs1, gs2, gs3, gs4, gs5, gs6, gs7, gs8, gs9, gs10, gs11, gs12, gs13, gs14, gs15, gs16, gs17, gs18, gs19, gs20, gs21, gs22, gs23, gs24, gs25, gs26, gs27, gs28, gs29, gs30, gs31, gs32, gs33, gi0, gi1, gi2, gi3, gi4, gi5, gi6, Bool.and_true]) (by kernel_rfl) (by kernel_rfl)
theorem OLr_li : LiL OLr := LiL_of (by simp only [OLr, gq_tup, gq_lst, gq_nil, gq_cons, gq_bl, gq_non, gs0, gs1, gs2, gs3, gs4, gs5, gs6, gs7, gs8, gs9, gs10, gs11, gs12, gs13, gs14, gs15, gs16, gs17, gs18, gs19, gs20, gs21, gs22, gs23, gs24, gs25, gs26, gs27, gs28, gs29, gs30, gs31, gs32, gs33, gi0, gi1, gi2, gi3, gi4, gi5, gi6, Bool.and_true]) (by kernel_rfl) (by kernel_rfl)
def lS (f : Int × Int) (x : Slot) : LS := [.par (FD f), x]
theorem ol1_ok {f : Int × Int} : ol1 (lS f .emp) = .nx (lS f (.own (.lst OL1))) := by kernel_rfl
theorem ol2_ok {f : Int × Int} {acc : List D} (h : acc.length ≤ 500) : ol2 (lS f (.own (.lst acc))) = .nx (lS f (.own (.lst (acc ++ OL2)))) := by
  have l : OL2.length ≤ 100 := Nat.le_of_ble_eq_true (by kernel_rfl)
  unfold ol2
  exact asgM_of (binM_of (k1 := .ali 1) (k2 := .own (.lst OL2)) (ls1 := lS f (.own (.lst acc))) (ls2 := lS f (.own (.lst acc))) (x := .lst acc) (y := .lst OL2) (k := .own (.lst (acc ++ OL2))) rfl (by kernel_rfl) rfl rfl (by rw [addD_l, if_pos (by omega)])) rfl
theorem ol3_ok {f : Int × Int} {acc : List D} (h : acc.length ≤ 500) : ol3 (lS f (.own (.lst acc))) = .nx (lS f (.own (.lst (acc ++ OL3)))) := by
  have l : OL3.length ≤ 100 := Nat.le_of_ble_eq_true (by kernel_rfl)
  unfold ol3
  exact asgM_of (binM_of (k1 := .ali 1) (k2 := .own (.lst OL3)) (ls1 := lS f (.own (.lst acc))) (ls2 := lS f (.own (.lst acc))) (x := .lst acc) (y := .lst OL3) (k := .own (.lst (acc ++ OL3))) rfl (by kernel_rfl) rfl rfl (by rw [addD_l, if_pos (by omega)])) rfl
theorem ol4_ok {f : Int × Int} {acc : List D} (h : acc.length ≤ 500) : ol4 (lS f (.own (.lst acc))) = .nx (lS f (.own (.lst (acc ++ OL4)))) := by
  have l : OL4.length ≤ 100 := Nat.le_of_ble_eq_true (by kernel_rfl)
  unfold ol4
  exact asgM_of (binM_of (k1 := .ali 1) (k2 := .own (.lst OL4)) (ls1 := lS f (.own (.lst acc))) (ls2 := lS f (.own (.lst acc))) (x := .lst acc) (y := .lst OL4) (k := .own (.lst (acc ++ OL4))) rfl (by kernel_rfl) rfl rfl (by rw [addD_l, if_pos (by omega)])) rfl
theorem ol5_ok {f : Int × Int} {acc : List D} (h : acc.length ≤ 500) : ol5 (lS f (.own (.lst acc))) = .nx (lS f (.own (.lst (acc ++ OL5)))) := by
  have l : OL5.length ≤ 100 := Nat.le_of_ble_eq_true (by kernel_rfl)
  unfold ol5
  exact asgM_of (binM_of (k1 := .ali 1) (k2 := .own (.lst OL5)) (ls1 := lS f (.own (.lst acc))) (ls2 := lS f (.own (.lst acc))) (x := .lst acc) (y := .lst OL5) (k := .own (.lst (acc ++ OL5))) rfl (by kernel_rfl) rfl rfl (by rw [addD_l, if_pos (by omega)])) rfl
theorem ol6_ok {f : Int × Int} {acc : List D} (h : acc.length ≤ 500) : ol6 (lS f (.own (.lst acc))) = .nx (lS f (.own (.lst (acc ++ OL6)))) := by
  have l : OL6.length ≤ 100 := Nat.le_of_ble_eq_true (by kernel_rfl)
  unfold ol6
  exact asgM_of (binM_of (k1 := .ali 1) (k2 := .own (.lst OL6)) (ls1 := lS f (.own (.lst acc))) (ls2 := lS f (.own (.lst acc))) (x := .lst acc) (y := .lst OL6) (k := .own (.lst (acc ++ OL6))) rfl (by kernel_rfl) rfl rfl (by rw [addD_l, if_pos (by omega)])) rfl
theorem ol7_ok {f : Int × Int} {acc : List D} (h : acc.length ≤ 500) : ol7 (lS f (.own (.lst acc))) = .nx (lS f (.own (.lst (acc ++ OL7)))) := by
  have l : OL7.length ≤ 100 := Nat.le_of_ble_eq_true (by kernel_rfl)
  unfold ol7
  exact asgM_of (binM_of (k1 := .ali 1) (k2 := .own (.lst OL7)) (ls1 := lS f (.own (.lst acc))) (ls2 := lS f (.own (.lst acc))) (x := .lst acc) (y := .lst OL7) (k := .own (.lst (acc ++ OL7))) rfl (by kernel_rfl) rfl rfl (by rw [addD_l, if_pos (by omega)])) rfl
theorem odd_line_ok (f : Int × Int) : ∃ f' x, m__law_odd_line [.par (FD f)] = .ok (.dat x) [.par (FD f')] ∧ Li x := by
  have hli : LiL (((((((OL1 ++ OL2) ++ OL3) ++ OL4) ++ OL5) ++ OL6) ++ OL7) ++ OLr) := LiL.app (LiL.app (LiL.app (LiL.app (LiL.app (LiL.app (LiL.app OL1_li OL2_li) OL3_li) OL4_li) OL5_li) OL6_li) OL7_li) OLr_li
  have hl : (((((((OL1 ++ OL2) ++ OL3) ++ OL4) ++ OL5) ++ OL6) ++ OL7) ++ OLr).length ≤ 200 := Nat.le_of_ble_eq_true (by kernel_rfl)
  obtain ⟨f', x, e, hx⟩ := pick_ok f (xs := ((((((OL1 ++ OL2) ++ OL3) ++ OL4) ++ OL5) ++ OL6) ++ OL7) ++ OLr) (fun z => by have := congrArg List.length z; revert this; exact fun this => absurd this (by decide +kernel)) (by omega)
  refine ⟨f', x, ?_, hli x hx⟩
  rw [ol_split, funM_ap]
  have := (show ((seqM ol1 (seqM ol2 (seqM ol3 (seqM ol4 (seqM ol5 (seqM ol6 (seqM ol7 ol8)))))))) (lS f .emp) = .ret (.dat x) (lS f' (.own (.lst ((((((OL1 ++ OL2) ++ OL3) ++ OL4) ++ OL5) ++ OL6) ++ OL7)))) from seqM_of ol1_ok (seqM_of (ol2_ok (acc := OL1) (Nat.le_of_ble_eq_true (by kernel_rfl))) (seqM_of (ol3_ok (acc := (OL1 ++ OL2)) (Nat.le_of_ble_eq_true (by kernel_rfl))) (seqM_of (ol4_ok (acc := ((OL1 ++ OL2) ++ OL3)) (Nat.le_of_ble_eq_true (by kernel_rfl))) (seqM_of (ol5_ok (acc := (((OL1 ++ OL2) ++ OL3) ++ OL4)) (Nat.le_of_ble_eq_true (by kernel_rfl))) (seqM_of (ol6_ok (acc := ((((OL1 ++ OL2) ++ OL3) ++ OL4) ++ OL5)) (Nat.le_of_ble_eq_true (by kernel_rfl))) (seqM_of (ol7_ok (acc := (((((OL1 ++ OL2) ++ OL3) ++ OL4) ++ OL5) ++ OL6)) (Nat.le_of_ble_eq_true (by kernel_rfl))) (retM_of (callN_of (as := [.ali 0, .own (.lst (((((((OL1 ++ OL2) ++ OL3) ++ OL4) ++ OL5) ++ OL6) ++ OL7) ++ OLr))]) (ls1 := lS f (.own (.lst ((((((OL1 ++ OL2) ++ OL3) ++ OL4) ++ OL5) ++ OL6) ++ OL7)))) (ps := [.par (FD f), .par (.lst (((((((OL1 ++ OL2) ++ OL3) ++ OL4) ++ OL5) ++ OL6) ++ OL7) ++ OLr))]) (ls2 := lS f' (.own (.lst ((((((OL1 ++ OL2) ++ OL3) ++ OL4) ++ OL5) ++ OL6) ++ OL7)))) (by kernel_rfl) rfl (by decide) rfl e rfl rfl)))))))))
  have st : startLS 2 [.par (FD f)] = lS f .emp := rfl
  rw [st, this]
  simp [lS]
end VM

set_option linter.all false
set_option Elab.async false
set_option maxRecDepth 100000
set_option maxHeartbeats 1000000
namespace VM
open PySem PySem.Spec L2
def UN (u n : Int) : Prop := 0 ≤ u ∧ u ≤ 100 ∧ 0 ≤ n ∧ n ≤ 100
theorem UN.a {u n : Int} (h : UN u n) : (D.int u).gd = true := gq_int (by have := h.1; omega) (by have := h.2.1; omega)
theorem UN.b {u n : Int} (h : UN u n) : (D.int (u + 1)).gd = true := gq_int (by have := h.1; omega) (by have := h.2.1; omega)
theorem UN.c {u n : Int} (h : UN u n) : (D.int n).gd = true := gq_int (by have := h.2.2.1; omega) (by have := h.2.2.2; omega)
theorem UN.d {u n : Int} (h : UN u n) : (D.int (n - 1)).gd = true := gq_int (by have := h.2.2.1; omega) (by have := h.2.2.2; omega)
def oe1 : SM := (asgM 3 (binM subD (varM 2) (conM (.int 1))))
def oe2 : SM := (asgM 4 (lstM (consA (tupM (consA (conM (.str "stop")) nilA)) (consA (tupM (consA (conM (.str "go")) nilA)) (consA (tupM (consA (conM (.str "go")) (consA (frzM (varM 1)) nilA))) (consA (tupM (consA (conM (.str "go")) (consA (frzM (binM addD (varM 1) (conM (.int 1)))) nilA))) (consA (tupM (consA (conM (.str "go")) (consA (frzM (varM 2)) nilA))) (consA (tupM (consA (conM (.str "go")) (consA (conM (.bl true)) nilA))) (consA (conM .non) (consA (tupM nilA) nilA))))))))))
def oe3 : SM := (asgM 4 (binM addD (varM 4) (lstM (consA (tupM (consA (conM (.str "go")) (consA (frzM (binM addD (varM 1) (conM (.int 1)))) (consA (conM (.int 0)) nilA)))) (consA (frzM (lstM (consA (conM (.str "go")) (consA (frzM (binM addD (varM 1) (conM (.int 1)))) nilA)))) (consA (tupM (consA (conM (.str "jump")) (consA (frzM (binM addD (varM 1) (conM (.int 1)))) nilA))) (consA (conM (.str "stop")) (consA (frzM (lstM (consA (conM (.str "stop")) nilA))) (consA (tupM (consA (conM (.str "stop")) (consA (conM (.int 0)) nilA))) nilA)))))))))
def oe4 : SM := (asgM 4 (binM addD (varM 4) (lstM (consA (tupM (consA (conM (.str "if")) (consA (conM (.str "a")) (consA (conM (.str "<")) (consA (conM (.int 0)) (consA (frzM (binM addD (varM 1) (conM (.int 1)))) (consA (frzM (binM addD (varM 1) (conM (.int 1)))) nilA))))))) (consA (tupM (consA (conM (.str "if")) (consA (conM (.str "a")) (consA (conM (.str "<")) (consA (conM (.int 0)) (consA (frzM (binM addD (varM 1) (conM (.int 1)))) (consA (frzM (varM 3)) nilA))))))) nilA)))))
def oe5 : SM := (asgM 4 (binM addD (varM 4) (lstM (consA (tupM (consA (conM (.str "if")) (consA (conM (.str "a")) (consA (conM (.str ">")) (consA (conM (.int 0)) (consA (frzM (binM addD (varM 1) (conM (.int 1)))) (consA (frzM (varM 3)) nilA))))))) (consA (tupM (consA (conM (.str "if")) (consA (conM (.str "a")) (consA (conM (.str "==")) (consA (conM .non) (consA (frzM (binM addD (varM 1) (conM (.int 1)))) (consA (frzM (varM 3)) nilA))))))) nilA)))))
def oe6 : SM := (asgM 4 (binM addD (varM 4) (lstM (consA (tupM (consA (conM (.str "if")) (consA (conM (.str "a")) (consA (conM (.str "<")) (consA (conM (.int 0)) (consA (frzM (varM 3)) (consA (frzM (varM 1)) nilA))))))) (consA (tupM (consA (conM (.str "if")) (consA (conM (.str "a")) (consA (conM (.str "<")) (consA (conM (.int 0)) (consA (frzM (varM 3)) nilA)))))) nilA)))))
def oe7 : SM := (asgM 4 (binM addD (varM 4) (lstM (consA (tupM (consA (conM (.str "if")) (consA (conM (.bl true)) (consA (conM (.str "<")) (consA (conM (.int 0)) (consA (frzM (binM addD (varM 1) (conM (.int 1)))) (consA (frzM (varM 3)) nilA))))))) nilA))))
def oe8 : SM := (asgM 4 (binM addD (varM 4) (lstM (consA (tupM (consA (conM (.str "if")) (consA (conM (.str "a")) (consA (conM (.str "==")) (consA (binM powD (conM (.int 10)) (conM (.int 9))) (consA (frzM (varM 3)) (consA (frzM (binM addD (varM 1) (conM (.int 1)))) nilA))))))) (consA (tupM (consA (conM (.str "go")) (consA (frzM (varM 3)) nilA))) nilA)))))
def oe9 : SM := (asgM 5 (callN 2 m__law_pick (consA (varM 0) (consA (lstM (consA (conM .non) (consA (conM (.bl true)) (consA (conM (.str "")) (consA (conM (.str "B")) (consA (conM (.str "ab")) (consA (frzM (lstM (consA (conM (.int 0)) nilA))) (consA (tupM (consA (conM (.int 0)) nilA)) (consA (frzM (binM addD (binM powD (conM (.int 10)) (conM (.int 9))) (conM (.int 1)))) (consA (binM subD (unM negD (binM powD (conM (.int 10)) (conM (.int 9)))) (conM (.int 1))) (consA (conM (.str "_")) nilA))))))))))) nilA))))
def oe10 : SM := (asgM 4 (binM addD (varM 4) (lstM (consA (tupM (consA (conM (.str "if")) (consA (frzM (varM 5)) (consA (conM (.str "<")) (consA (conM (.int 0)) (consA (frzM (binM addD (varM 1) (conM (.int 1)))) (consA (frzM (varM 3)) nilA))))))) (consA (tupM (consA (conM (.str "if")) (consA (conM (.str "a")) (consA (conM (.str "<")) (consA (frzM (varM 5)) (consA (frzM (binM addD (varM 1) (conM (.int 1)))) (consA (frzM (varM 3)) nilA))))))) nilA)))))
def oe11 : SM := (asgM 4 (binM addD (varM 4) (lstM (consA (tupM (consA (conM (.str "if")) (consA (frzM (varM 5)) (consA (conM (.str "==")) (consA (conM (.int 0)) (consA (frzM (varM 3)) (consA (frzM (binM addD (varM 1) (conM (.int 1)))) nilA))))))) nilA))))
def oe12 : SM := (asgM 6 (callN 2 m__law_pick (consA (varM 0) (consA (lstM (consA (conM (.str "<=")) (consA (conM (.str "=")) (consA (conM (.str "")) (consA (conM (.str "!=")) (consA (conM .non) (consA (conM (.int 0)) (consA (frzM (lstM (consA (conM (.str "<")) nilA))) (consA (conM (.str "<<")) nilA))))))))) nilA))))
def oe13 : SM := (asgM 4 (binM addD (varM 4) (lstM (consA (tupM (consA (conM (.str "if")) (consA (conM (.str "a")) (consA (frzM (varM 6)) (consA (conM (.int 0)) (consA (frzM (binM addD (varM 1) (conM (.int 1)))) (consA (frzM (varM 3)) nilA))))))) (consA (tupM (consA (conM (.str "if")) (consA (conM (.str "a")) (consA (conM (.str "<")) (consA (conM (.int 0)) (consA (frzM (binM addD (varM 1) (conM (.int 1)))) (consA (frzM (varM 3)) (consA (frzM (varM 3)) nilA)))))))) nilA)))))
def oe14 : SM := (asgM 7 (callN 2 m__law_pick (consA (varM 0) (consA (lstM (consA (conM (.str "go")) (consA (conM (.str "iff")) (consA (conM .non) (consA (conM (.str "unless")) (consA (conM (.str "stop")) nilA)))))) nilA))))
def oe15 : SM := (asgM 4 (binM addD (varM 4) (lstM (consA (tupM (consA (frzM (varM 7)) (consA (conM (.str "a")) (consA (conM (.str "<")) (consA (conM (.int 0)) (consA (frzM (binM addD (varM 1) (conM (.int 1)))) (consA (frzM (varM 3)) nilA))))))) (consA (tupM (consA (conM (.str "if")) (consA (conM (.str "a")) (consA (conM (.str "<")) (consA (conM (.int 0)) (consA (frzM (varM 1)) (consA (frzM (varM 3)) nilA))))))) (consA (tupM (consA (conM (.str "if")) (consA (conM (.str "a")) (consA (conM (.str "<")) (consA (conM (.int 0)) (consA (frzM (varM 2)) (consA (frzM (binM addD (varM 1) (conM (.int 1)))) nilA))))))) nilA))))))
def oe16 : SM := (asgM 4 (binM addD (varM 4) (lstM (consA (tupM (consA (conM (.str "if")) (consA (conM (.str "a")) (consA (conM (.str "<")) (consA (conM (.int 0)) (consA (frzM (binM addD (varM 1) (conM (.int 1)))) (consA (frzM (varM 2)) nilA))))))) (consA (tupM (consA (conM (.str "if")) (consA (conM (.str "a")) (consA (conM (.str "==")) (consA (conM (.int 0)) (consA (conM .non) (consA (frzM (varM 3)) nilA))))))) (consA (tupM (consA (conM (.str "if")) (consA (conM (.str "a")) (consA (conM (.str "<")) (consA (conM (.int 0)) (consA (conM (.bl true)) (consA (frzM (varM 3)) nilA))))))) nilA))))))
def oe17 : SM := (asgM 4 (binM addD (varM 4) (lstM (consA (tupM (consA (conM (.str "if")) (consA (conM (.str "a")) (consA (conM (.str "<")) (consA (conM (.int 0)) (consA (frzM (varM 3)) (consA (conM (.str "1")) nilA))))))) (consA (tupM (consA (conM (.str "go")) (consA (conM .non) nilA))) (consA (tupM (consA (conM (.str "go")) (consA (conM (.str "1")) nilA))) (consA (tupM (consA (conM (.str "if")) (consA (conM (.str "a")) (consA (conM (.str "<")) (consA (conM (.int 0)) (consA (conM (.int 0)) (consA (frzM (varM 3)) nilA))))))) nilA)))))))
def oe18 : SM := (retM (callN 2 m__law_pick (consA (varM 0) (consA (binM addD (varM 4) (lstM (consA (tupM (consA (conM (.str "if")) (consA (conM (.str "aa")) (consA (conM (.str "<")) (consA (conM (.int 0)) (consA (frzM (binM addD (varM 1) (conM (.int 1)))) (consA (frzM (varM 3)) nilA))))))) nilA))) nilA))))
theorem oe_split : m__law_odd_end = funM 8 (seqM oe1 (seqM oe2 (seqM oe3 (seqM oe4 (seqM oe5 (seqM oe6 (seqM oe7 (seqM oe8 (seqM oe9 (seqM oe10 (seqM oe11 (seqM oe12 (seqM oe13 (seqM oe14 (seqM oe15 (seqM oe16 (seqM oe17 oe18))))))))))))))))) := rfl
def eS (f : Int × Int) (u n : Int) (acc : Slot) (x t w : Slot) : LS := [.par (FD f), .dat (.int u), .dat (.int n), .dat (.int (n - 1)), acc, x, t, w]
theorem oe1_ok {f : Int × Int} {u n : Int} : oe1 [.par (FD f), .dat (.int u), .dat (.int n), .emp, .emp, .emp, .emp, .emp] = .nx (eS f u n .emp .emp .emp .emp) := by kernel_rfl
def OE2 (u n : Int) : List D := [.tup [.str "stop"], .tup [.str "go"], .tup [.str "go", .int u], .tup [.str "go", .int (u + 1)], .tup [.str "go", .int n], .tup [.str "go", .bl true], .non, .tup []]
theorem OE2_li {u n : Int} (h : UN u n) : LiL (OE2 u n) := LiL_of (by simp only [OE2, gq_tup, gq_lst, gq_nil, gq_cons, gq_bl, gq_non, gs0, gs1, gs2, gs3, gs4, gs5, gs6, gs7, gs8, gs9, gs10, gs11, gs12, gs13, gs14, gs15, gs16, gs17, gs18, gs19, gs20, gs21, gs22, gs23, gs24, gs25, gs26, gs27, gs28, gs29, gs30, gs31, gs32, gs33, gi0, gi1, gi2, gi3, gi4, gi5, gi6, h.a, h.b, h.c, h.d, Bool.and_true]) (by kernel_rfl) (by kernel_rfl)
def OE3 (u n : Int) : List D := [.tup [.str "go", .int (u + 1), .int 0], .lst [.str "go", .int (u + 1)], .tup [.str "jump", .int (u + 1)], .str "stop", .lst [.str "stop"], .tup [.str "stop", .int 0]]
theorem OE3_li {u n : Int} (h : UN u n) : LiL (OE3 u n) := LiL_of (by simp only [OE3, gq_tup, gq_lst, gq_nil, gq_cons, gq_bl, gq_non, gs0, gs1, gs2, gs3, gs4, gs5, gs6, gs7, gs8, gs9, gs10, gs11, gs12, gs13, gs14, gs15, gs16, gs17, gs18, gs19, gs20, gs21, gs22, gs23, gs24, gs25, gs26, gs27, gs28, gs29, gs30, gs31, gs32, gs33, gi0, gi1, gi2, gi3, gi4, gi5, gi6, h.a, h.b, h.c, h.d, Bool.and_true]) (by kernel_rfl) (by kernel_rfl)
theorem oe3_ok {f : Int × Int} {u n : Int} {acc : List D} {y0 : Slot} {y1 : Slot} {y2 : Slot} (h : acc.length ≤ 500) : oe3 (eS f u n (.own (.lst acc)) y0 y1 y2) = .nx (eS f u n (.own (.lst (acc ++ (OE3 u n)))) y0 y1 y2) := by
  have l : (OE3 u n).length ≤ 100 := Nat.le_of_ble_eq_true (by kernel_rfl)
  unfold oe3
  exact asgM_of (binM_of (k1 := .ali 4) (k2 := .own (.lst (OE3 u n))) (ls1 := (eS f u n (.own (.lst acc)) y0 y1 y2)) (ls2 := (eS f u n (.own (.lst acc)) y0 y1 y2)) (x := .lst acc) (y := .lst (OE3 u n)) (k := .own (.lst (acc ++ (OE3 u n)))) rfl (by kernel_rfl) rfl rfl (by rw [addD_l, if_pos (by omega)])) rfl
def OE4 (u n : Int) : List D := [.tup [.str "if", .str "a", .str "<", .int 0, .int (u + 1), .int (u + 1)], .tup [.str "if", .str "a", .str "<", .int 0, .int (u + 1), .int (n - 1)]]
theorem OE4_li {u n : Int} (h : UN u n) : LiL (OE4 u n) := LiL_of (by simp only [OE4, gq_tup, gq_lst, gq_nil, gq_cons, gq_bl, gq_non, gs0, gs1, gs2, gs3, gs4, gs5, gs6, gs7, gs8, gs9, gs10, gs11, gs12, gs13, gs14, gs15, gs16, gs17, gs18, gs19, gs20, gs21, gs22, gs23, gs24, gs25, gs26, gs27, gs28, gs29, gs30, gs31, gs32, gs33, gi0, gi1, gi2, gi3, gi4, gi5, gi6, h.a, h.b, h.c, h.d, Bool.and_true]) (by kernel_rfl) (by kernel_rfl)
theorem oe4_ok {f : Int × Int} {u n : Int} {acc : List D} {y0 : Slot} {y1 : Slot} {y2 : Slot} (h : acc.length ≤ 500) : oe4 (eS f u n (.own (.lst acc)) y0 y1 y2) = .nx (eS f u n (.own (.lst (acc ++ (OE4 u n)))) y0 y1 y2) := by
  have l : (OE4 u n).length ≤ 100 := Nat.le_of_ble_eq_true (by kernel_rfl)
  unfold oe4
  exact asgM_of (binM_of (k1 := .ali 4) (k2 := .own (.lst (OE4 u n))) (ls1 := (eS f u n (.own (.lst acc)) y0 y1 y2)) (ls2 := (eS f u n (.own (.lst acc)) y0 y1 y2)) (x := .lst acc) (y := .lst (OE4 u n)) (k := .own (.lst (acc ++ (OE4 u n)))) rfl (by kernel_rfl) rfl rfl (by rw [addD_l, if_pos (by omega)])) rfl
def OE5 (u n : Int) : List D := [.tup [.str "if", .str "a", .str ">", .int 0, .int (u + 1), .int (n - 1)], .tup [.str "if", .str "a", .str "==", .non, .int (u + 1), .int (n - 1)]]
theorem OE5_li {u n : Int} (h : UN u n) : LiL (OE5 u n) := LiL_of (by simp only [OE5, gq_tup, gq_lst, gq_nil, gq_cons, gq_bl, gq_non, gs0, gs1, gs2, gs3, gs4, gs5, gs6, gs7, gs8, gs9, gs10, gs11, gs12, gs13, gs14, gs15, gs16, gs17, gs18, gs19, gs20, gs21, gs22, gs23, gs24, gs25, gs26, gs27, gs28, gs29, gs30, gs31, gs32, gs33, gi0, gi1, gi2, gi3, gi4, gi5, gi6, h.a, h.b, h.c, h.d, Bool.and_true]) (by kernel_rfl) (by kernel_rfl)
theorem oe5_ok {f : Int × Int} {u n : Int} {acc : List D} {y0 : Slot} {y1 : Slot} {y2 : Slot} (h : acc.length ≤ 500) : oe5 (eS f u n (.own (.lst acc)) y0 y1 y2) = .nx (eS f u n (.own (.lst (acc ++ (OE5 u n)))) y0 y1 y2) := by
  have l : (OE5 u n).length ≤ 100 := Nat.le_of_ble_eq_true (by kernel_rfl)
  unfold oe5
  exact asgM_of (binM_of (k1 := .ali 4) (k2 := .own (.lst (OE5 u n))) (ls1 := (eS f u n (.own (.lst acc)) y0 y1 y2)) (ls2 := (eS f u n (.own (.lst acc)) y0 y1 y2)) (x := .lst acc) (y := .lst (OE5 u n)) (k := .own (.lst (acc ++ (OE5 u n)))) rfl (by kernel_rfl) rfl rfl (by rw [addD_l, if_pos (by omega)])) rfl
def OE6 (u n : Int) : List D := [.tup [.str "if", .str "a", .str "<", .int 0, .int (n - 1), .int u], .tup [.str "if", .str "a", .str "<", .int 0, .int (n - 1)]]
theorem OE6_li {u n : Int} (h : UN u n) : LiL (OE6 u n) := LiL_of (by simp only [OE6, gq_tup, gq_lst, gq_nil, gq_cons, gq_bl, gq_non, gs0, gs1, gs2, gs3, gs4, gs5, gs6, gs7, gs8, gs9, gs10, gs11, gs12, gs13, gs14, gs15, gs16, gs17, gs18, gs19, gs20, gs21, gs22, gs23, gs24, gs25, gs26, gs27, gs28, gs29, gs30, gs31, gs32, gs33, gi0, gi1, gi2, gi3, gi4, gi5, gi6, h.a, h.b, h.c, h.d, Bool.and_true]) (by kernel_rfl) (by kernel_rfl)
theorem oe6_ok {f : Int × Int} {u n : Int} {acc : List D} {y0 : Slot} {y1 : Slot} {y2 : Slot} (h : acc.length ≤ 500) : oe6 (eS f u n (.own (.lst acc)) y0 y1 y2) = .nx (eS f u n (.own (.lst (acc ++ (OE6 u n)))) y0 y1 y2) := by
  have l : (OE6 u n).length ≤ 100 := Nat.le_of_ble_eq_true (by kernel_rfl)
  unfold oe6
  exact asgM_of (binM_of (k1 := .ali 4) (k2 := .own (.lst (OE6 u n))) (ls1 := (eS f u n (.own (.lst acc)) y0 y1 y2)) (ls2 := (eS f u n (.own (.lst acc)) y0 y1 y2)) (x := .lst acc) (y := .lst (OE6 u n)) (k := .own (.lst (acc ++ (OE6 u n)))) rfl (by kernel_rfl) rfl rfl (by rw [addD_l, if_pos (by omega)])) rfl
def OE7 (u n : Int) : List D := [.tup [.str "if", .bl true, .str "<", .int 0, .int (u + 1), .int (n - 1)]]
theorem OE7_li {u n : Int} (h : UN u n) : LiL (OE7 u n) := LiL_of (by simp only [OE7, gq_tup, gq_lst, gq_nil, gq_cons, gq_bl, gq_non, gs0, gs1, gs2, gs3, gs4, gs5, gs6, gs7, gs8, gs9, gs10, gs11, gs12, gs13, gs14, gs15, gs16, gs17, gs18, gs19, gs20, gs21, gs22, gs23, gs24, gs25, gs26, gs27, gs28, gs29, gs30, gs31, gs32, gs33, gi0, gi1, gi2, gi3, gi4, gi5, gi6, h.a, h.b, h.c, h.d, Bool.and_true]) (by kernel_rfl) (by kernel_rfl)
theorem oe7_ok {f : Int × Int} {u n : Int} {acc : List D} {y0 : Slot} {y1 : Slot} {y2 : Slot} (h : acc.length ≤ 500) : oe7 (eS f u n (.own (.lst acc)) y0 y1 y2) = .nx (eS f u n (.own (.lst (acc ++ (OE7 u n)))) y0 y1 y2) := by
  have l : (OE7 u n).length ≤ 100 := Nat.le_of_ble_eq_true (by kernel_rfl)
  unfold oe7
  exact asgM_of (binM_of (k1 := .ali 4) (k2 := .own (.lst (OE7 u n))) (ls1 := (eS f u n (.own (.lst acc)) y0 y1 y2)) (ls2 := (eS f u n (.own (.lst acc)) y0 y1 y2)) (x := .lst acc) (y := .lst (OE7 u n)) (k := .own (.lst (acc ++ (OE7 u n)))) rfl (by kernel_rfl) rfl rfl (by rw [addD_l, if_pos (by omega)])) rfl
def OE8 (u n : Int) : List D := [.tup [.str "if", .str "a", .str "==", .int 1000000000, .int (n - 1), .int (u + 1)], .tup [.str "go", .int (n - 1)]]
theorem OE8_li {u n : Int} (h : UN u n) : LiL (OE8 u n) := LiL_of (by simp only [OE8, gq_tup, gq_lst, gq_nil, gq_cons, gq_bl, gq_non, gs0, gs1, gs2, gs3, gs4, gs5, gs6, gs7, gs8, gs9, gs10, gs11, gs12, gs13, gs14, gs15, gs16, gs17, gs18, gs19, gs20, gs21, gs22, gs23, gs24, gs25, gs26, gs27, gs28, gs29, gs30, gs31, gs32, gs33, gi0, gi1, gi2, gi3, gi4, gi5, gi6, h.a, h.b, h.c, h.d, Bool.and_true]) (by kernel_rfl) (by kernel_rfl)
theorem oe8_ok {f : Int × Int} {u n : Int} {acc : List D} {y0 : Slot} {y1 : Slot} {y2 : Slot} (h : acc.length ≤ 500) : oe8 (eS f u n (.own (.lst acc)) y0 y1 y2) = .nx (eS f u n (.own (.lst (acc ++ (OE8 u n)))) y0 y1 y2) := by
  have l : (OE8 u n).length ≤ 100 := Nat.le_of_ble_eq_true (by kernel_rfl)
  unfold oe8
  exact asgM_of (binM_of (k1 := .ali 4) (k2 := .own (.lst (OE8 u n))) (ls1 := (eS f u n (.own (.lst acc)) y0 y1 y2)) (ls2 := (eS f u n (.own (.lst acc)) y0 y1 y2)) (x := .lst acc) (y := .lst (OE8 u n)) (k := .own (.lst (acc ++ (OE8 u n)))) rfl (by kernel_rfl) rfl rfl (by rw [addD_l, if_pos (by omega)])) rfl
def XS9 : List D := [.non, .bl true, .str "", .str "B", .str "ab", .lst [.int 0], .tup [.int 0], .int 1000000001, .int (-1000000001), .str "_"]
def OE10 (u n : Int) (x : D) : List D := [.tup [.str "if", x, .str "<", .int 0, .int (u + 1), .int (n - 1)], .tup [.str "if", .str "a", .str "<", x, .int (u + 1), .int (n - 1)]]
theorem OE10_li {u n : Int} (h : UN u n) : ∀ x ∈ XS9, LiL (OE10 u n x) := (List.forall_mem_cons.mpr ⟨LiL_of (by simp only [OE10, gq_tup, gq_lst, gq_nil, gq_cons, gq_bl, gq_non, gs0, gs1, gs2, gs3, gs4, gs5, gs6, gs7, gs8, gs9, gs10, gs11, gs12, gs13, gs14, gs15, gs16, gs17, gs18, gs19, gs20, gs21, gs22, gs23, gs24, gs25, gs26, gs27, gs28, gs29, gs30, gs31, gs32, gs33, gi0, gi1, gi2, gi3, gi4, gi5, gi6, h.a, h.b, h.c, h.d, Bool.and_true]) (by kernel_rfl) (by kernel_rfl), (List.forall_mem_cons.mpr ⟨LiL_of (by simp only [OE10, gq_tup, gq_lst, gq_nil, gq_cons, gq_bl, gq_non, gs0, gs1, gs2, gs3, gs4, gs5, gs6, gs7, gs8, gs9, gs10, gs11, gs12, gs13, gs14, gs15, gs16, gs17, gs18, gs19, gs20, gs21, gs22, gs23, gs24, gs25, gs26, gs27, gs28, gs29, gs30, gs31, gs32, gs33, gi0, gi1, gi2, gi3, gi4, gi5, gi6, h.a, h.b, h.c, h.d, Bool.and_true]) (by kernel_rfl) (by kernel_rfl), (List.forall_mem_cons.mpr ⟨LiL_of (by simp only [OE10, gq_tup, gq_lst, gq_nil, gq_cons, gq_bl, gq_non, gs0, gs1, gs2, gs3, gs4, gs5, gs6, gs7, gs8, gs9, gs10, gs11, gs12, gs13, gs14, gs15, gs16, gs17, gs18, gs19, gs20, gs21, gs22, gs23, gs24, gs25, gs26, gs27, gs28, gs29, gs30, gs31, gs32, gs33, gi0, gi1, gi2, gi3, gi4, gi5, gi6, h.a, h.b, h.c, h.d, Bool.and_true]) (by kernel_rfl) (by kernel_rfl), (List.forall_mem_cons.mpr ⟨LiL_of (by simp only [OE10, gq_tup, gq_lst, gq_nil, gq_cons, gq_bl, gq_non, gs0, gs1, gs2, gs3, gs4, gs5, gs6, gs7, gs8, gs9, gs10, gs11, gs12, gs13, gs14, gs15, gs16, gs17, gs18, gs19, gs20, gs21, gs22, gs23, gs24, gs25, gs26, gs27, gs28, gs29, gs30, gs31, gs32, gs33, gi0, gi1, gi2, gi3, gi4, gi5, gi6, h.a, h.b, h.c, h.d, Bool.and_true]) (by kernel_rfl) (by kernel_rfl), (List.forall_mem_cons.mpr ⟨LiL_of (by simp only [OE10, gq_tup, gq_lst, gq_nil, gq_cons, gq_bl, gq_non, gs0, gs1, gs2, gs3, gs4, gs5, gs6, gs7, gs8, gs9, gs10, gs11, gs12, gs13, gs14, gs15, gs16, gs17, gs18, gs19, gs20, gs21, gs22, gs23, gs24, gs25, gs26, gs27, gs28, gs29, gs30, gs31, gs32, gs33, gi0, gi1, gi2, gi3, gi4, gi5, gi6, h.a, h.b, h.c, h.d, Bool.and_true]) (by kernel_rfl) (by kernel_rfl), (List.forall_mem_cons.mpr ⟨LiL_of (by simp only [OE10, gq_tup, gq_lst, gq_nil, gq_cons, gq_bl, gq_non, gs0, gs1, gs2, gs3, gs4, gs5, gs6, gs7, gs8, gs9, gs10, gs11, gs12, gs13, gs14, gs15, gs16, gs17, gs18, gs19, gs20, gs21, gs22, gs23, gs24, gs25, gs26, gs27, gs28, gs29, gs30, gs31, gs32, gs33, gi0, gi1, gi2, gi3, gi4, gi5, gi6, h.a, h.b, h.c, h.d, Bool.and_true]) (by kernel_rfl) (by kernel_rfl), (List.forall_mem_cons.mpr ⟨LiL_of (by simp only [OE10, gq_tup, gq_lst, gq_nil, gq_cons, gq_bl, gq_non, gs0, gs1, gs2, gs3, gs4, gs5, gs6, gs7, gs8, gs9, gs10, gs11, gs12, gs13, gs14, gs15, gs16, gs17, gs18, gs19, gs20, gs21, gs22, gs23, gs24, gs25, gs26, gs27, gs28, gs29, gs30, gs31, gs32, gs33, gi0, gi1, gi2, gi3, gi4, gi5, gi6, h.a, h.b, h.c, h.d, Bool.and_true]) (by kernel_rfl) (by kernel_rfl), (List.forall_mem_cons.mpr ⟨LiL_of (by simp only [OE10, gq_tup, gq_lst, gq_nil, gq_cons, gq_bl, gq_non, gs0, gs1, gs2, gs3, gs4, gs5, gs6, gs7, gs8, gs9, gs10, gs11, gs12, gs13, gs14, gs15, gs16, gs17, gs18, gs19, gs20, gs21, gs22, gs23, gs24, gs25, gs26, gs27, gs28, gs29, gs30, gs31, gs32, gs33, gi0, gi1, gi2, gi3, gi4, gi5, gi6, h.a, h.b, h.c, h.d, Bool.and_true]) (by kernel_rfl) (by kernel_rfl), (List.forall_mem_cons.mpr ⟨LiL_of (by simp only [OE10, gq_tup, gq_lst, gq_nil, gq_cons, gq_bl, gq_non, gs0, gs1, gs2, gs3, gs4, gs5, gs6, gs7, gs8, gs9, gs10, gs11, gs12, gs13, gs14, gs15, gs16, gs17, gs18, gs19, gs20, gs21, gs22, gs23, gs24, gs25, gs26, gs27, gs28, gs29, gs30, gs31, gs32, gs33, gi0, gi1, gi2, gi3, gi4, gi5, gi6, h.a, h.b, h.c, h.d, Bool.and_true]) (by kernel_rfl) (by kernel_rfl), (List.forall_mem_cons.mpr ⟨LiL_of (by simp only [OE10, gq_tup, gq_lst, gq_nil, gq_cons, gq_bl, gq_non, gs0, gs1, gs2, gs3, gs4, gs5, gs6, gs7, gs8, gs9, gs10, gs11, gs12, gs13, gs14, gs15, gs16, gs17, gs18, gs19, gs20, gs21, gs22, gs23, gs24, gs25, gs26, gs27, gs28, gs29, gs30, gs31, gs32, gs33, gi0, gi1, gi2, gi3, gi4, gi5, gi6, h.a, h.b, h.c, h.d, Bool.and_true]) (by kernel_rfl) (by kernel_rfl), (List.forall_mem_nil _)⟩)⟩)⟩)⟩)⟩)⟩)⟩)⟩)⟩)⟩)
theorem oe10_ok {f : Int × Int} {u n : Int} {x : D} {acc : List D} {y1 : Slot} {y2 : Slot} (h : acc.length ≤ 500) : oe10 (eS f u n (.own (.lst acc)) (.dat x) y1 y2) = .nx (eS f u n (.own (.lst (acc ++ (OE10 u n x)))) (.dat x) y1 y2) := by
  have l : (OE10 u n x).length ≤ 100 := Nat.le_of_ble_eq_true (by kernel_rfl)
  unfold oe10
  exact asgM_of (binM_of (k1 := .ali 4) (k2 := .own (.lst (OE10 u n x))) (ls1 := (eS f u n (.own (.lst acc)) (.dat x) y1 y2)) (ls2 := (eS f u n (.own (.lst acc)) (.dat x) y1 y2)) (x := .lst acc) (y := .lst (OE10 u n x)) (k := .own (.lst (acc ++ (OE10 u n x)))) rfl (by kernel_rfl) rfl rfl (by rw [addD_l, if_pos (by omega)])) rfl
def OE11 (u n : Int) (x : D) : List D := [.tup [.str "if", x, .str "==", .int 0, .int (n - 1), .int (u + 1)]]
theorem OE11_li {u n : Int} (h : UN u n) : ∀ x ∈ XS9, LiL (OE11 u n x) := (List.forall_mem_cons.mpr ⟨LiL_of (by simp only [OE11, gq_tup, gq_lst, gq_nil, gq_cons, gq_bl, gq_non, gs0, gs1, gs2, gs3, gs4, gs5, gs6, gs7, gs8, gs9, gs10, gs11, gs12, gs13, gs14, gs15, gs16, gs17, gs18, gs19, gs20, gs21, gs22, gs23, gs24, gs25, gs26, gs27, gs28, gs29, gs30, gs31, gs32, gs33, gi0, gi1, gi2, gi3, gi4, gi5, gi6, h.a, h.b, h.c, h.d, Bool.and_true]) (by kernel_rfl) (by kernel_rfl), (List.forall_mem_cons.mpr ⟨LiL_of (by simp only [OE11, gq_tup, gq_lst, gq_nil, gq_cons, gq_bl, gq_non, gs0, gs1, gs2, gs3, gs4, gs5, gs6, gs7, gs8, gs9, gs10, gs11, gs12, gs13, gs14, gs15, gs16, gs17, gs18, gs19, gs20, gs21, gs22, gs23, gs24, gs25, gs26, gs27, gs28, gs29, gs30, gs31, gs32, gs33, gi0, gi1, gi2, gi3, gi4, gi5, gi6, h.a, h.b, h.c, h.d, Bool.and_true]) (by kernel_rfl) (by kernel_rfl), (List.forall_mem_cons.mpr ⟨LiL_of (by simp only [OE11, gq_tup, gq_lst, gq_nil, gq_cons, gq_bl, gq_non, gs0, gs1, gs2, gs3, gs4, gs5, gs6, gs7, gs8, gs9, gs10, gs11, gs12, gs13, gs14, gs15, gs16, gs17, gs18, gs19, gs20, gs21, gs22, gs23, gs24, gs25, gs26, gs27, gs28, gs29, gs30, gs31, gs32, gs33, gi0, gi1, gi2, gi3, gi4, gi5, gi6, h.a, h.b, h.c, h.d, Bool.and_true]) (by kernel_rfl) (by kernel_rfl), (List.forall_mem_cons.mpr ⟨LiL_of (by simp only [OE11, gq_tup, gq_lst, gq_nil, gq_cons, gq_bl, gq_non, gs0, gs1, gs2, gs3, gs4, gs5, gs6, gs7, gs8, gs9, gs10, gs11, gs12, gs13, gs14, gs15, gs16, gs17, gs18, gs19, gs20, gs21, gs22, gs23, gs24, gs25, gs26, gs27, gs28, gs29, gs30, gs31, gs32, gs33, gi0, gi1, gi2, gi3, gi4, gi5, gi6, h.a, h.b, h.c, h.d, Bool.and_true]) (by kernel_rfl) (by kernel_rfl), (List.forall_mem_cons.mpr ⟨LiL_of (by simp only [OE11, gq_tup, gq_lst, gq_nil, gq_cons, gq_bl, gq_non, gs0, gs1, gs2, gs3, gs4, gs5, gs6, gs7, gs8, gs9, gs10, gs11, gs12, gs13, gs14, gs15, gs16, gs17, gs18, gs19, gs20, gs21, gs22, gs23, gs24, gs25, gs26, gs27, gs28, gs29, gs30, gs31, gs32, gs33, gi0, gi1, gi2, gi3, gi4, gi5, gi6, h.a, h.b, h.c, h.d, Bool.and_true]) (by kernel_rfl) (by kernel_rfl), (List.forall_mem_cons.mpr ⟨LiL_of (by simp only [OE11, gq_tup, gq_lst, gq_nil, gq_cons, gq_bl, gq_non, gs0, gs1, gs2, gs3, gs4, gs5, gs6, gs7, gs8, gs9, gs10, gs11, gs12, gs13, gs14, gs15, gs16, gs17, gs18, gs19, gs20, gs21, gs22, gs23, gs24, gs25, gs26, gs27, gs28, gs29, gs30, gs31, gs32, gs33, gi0, gi1, gi2, gi3, gi4, gi5, gi6, h.a, h.b, h.c, h.d, Bool.and_true]) (by kernel_rfl) (by kernel_rfl), (List.forall_mem_cons.mpr ⟨LiL_of (by simp only [OE11, gq_tup, gq_lst, gq_nil, gq_cons, gq_bl, gq_non, gs0, gs1, gs2, gs3, gs4, gs5, gs6, gs7, gs8, gs9, gs10, gs11, gs12, gs13, gs14, gs15, gs16, gs17, gs18, gs19, gs20, gs21, gs22, gs23, gs24, gs25, gs26, gs27, gs28, gs29, gs30, gs31, gs32, gs33, gi0, gi1, gi2, gi3, gi4, gi5, gi6, h.a, h.b, h.c, h.d, Bool.and_true]) (by kernel_rfl) (by kernel_rfl), (List.forall_mem_cons.mpr ⟨LiL_of (by simp only [OE11, gq_tup, gq_lst, gq_nil, gq_cons, gq_bl, gq_non, gs0, gs1, gs2, gs3, gs4, gs5, gs6, gs7, gs8, gs9, gs10, gs11, gs12, gs13, gs14, gs15, gs16, gs17, gs18, gs19, gs20, gs21, gs22, gs23, gs24, gs25, gs26, gs27, gs28, gs29, gs30, gs31, gs32, gs33, gi0, gi1, gi2, gi3, gi4, gi5, gi6, h.a, h.b, h.c, h.d, Bool.and_true]) (by kernel_rfl) (by kernel_rfl), (List.forall_mem_cons.mpr ⟨LiL_of (by simp only [OE11, gq_tup, gq_lst, gq_nil, gq_cons, gq_bl, gq_non, gs0, gs1, gs2, gs3, gs4, gs5, gs6, gs7, gs8, gs9, gs10, gs11, gs12, gs13, gs14, gs15, gs16, gs17, gs18, gs19, gs20, gs21, gs22, gs23, gs24, gs25, gs26, gs27, gs28, gs29, gs30, gs31, gs32, gs33, gi0, gi1, gi2, gi3, gi4, gi5, gi6, h.a, h.b, h.c, h.d, Bool.and_true]) (by kernel_rfl) (by kernel_rfl), (List.forall_mem_cons.mpr ⟨LiL_of (by simp only [OE11, gq_tup, gq_lst, gq_nil, gq_cons, gq_bl, gq_non, gs0, gs1, gs2, gs3, gs4, gs5, gs6, gs7, gs8, gs9, gs10, gs11, gs12, gs13, gs14, gs15, gs16, gs17, gs18, gs19, gs20, gs21, gs22, gs23, gs24, gs25, gs26, gs27, gs28, gs29, gs30, gs31, gs32, gs33, gi0, gi1, gi2, gi3, gi4, gi5, gi6, h.a, h.b, h.c, h.d, Bool.and_true]) (by kernel_rfl) (by kernel_rfl), (List.forall_mem_nil _)⟩)⟩)⟩)⟩)⟩)⟩)⟩)⟩)⟩)⟩)
theorem oe11_ok {f : Int × Int} {u n : Int} {x : D} {acc : List D} {y1 : Slot} {y2 : Slot} (h : acc.length ≤ 500) : oe11 (eS f u n (.own (.lst acc)) (.dat x) y1 y2) = .nx (eS f u n (.own (.lst (acc ++ (OE11 u n x)))) (.dat x) y1 y2) := by
  have l : (OE11 u n x).length ≤ 100 := Nat.le_of_ble_eq_true (by kernel_rfl)
  unfold oe11
  exact asgM_of (binM_of (k1 := .ali 4) (k2 := .own (.lst (OE11 u n x))) (ls1 := (eS f u n (.own (.lst acc)) (.dat x) y1 y2)) (ls2 := (eS f u n (.own (.lst acc)) (.dat x) y1 y2)) (x := .lst acc) (y := .lst (OE11 u n x)) (k := .own (.lst (acc ++ (OE11 u n x)))) rfl (by kernel_rfl) rfl rfl (by rw [addD_l, if_pos (by omega)])) rfl
def XS12 : List D := [.str "<=", .str "=", .str "", .str "!=", .non, .int 0, .lst [.str "<"], .str "<<"]
def OE13 (u n : Int) (x : D) : List D := [.tup [.str "if", .str "a", x, .int 0, .int (u + 1), .int (n - 1)], .tup [.str "if", .str "a", .str "<", .int 0, .int (u + 1), .int (n - 1), .int (n - 1)]]
theorem OE13_li {u n : Int} (h : UN u n) : ∀ x ∈ XS12, LiL (OE13 u n x) := (List.forall_mem_cons.mpr ⟨LiL_of (by simp only [OE13, gq_tup, gq_lst, gq_nil, gq_cons, gq_bl, gq_non, gs0, gs1, gs2, gs3, gs4, gs5, gs6, gs7, gs8, gs9, gs10, gs11, gs12, gs13, gs14, gs15, gs16, gs17, gs18, gs19, gs20, gs21, gs22, gs23, gs24, gs25, gs26, gs27, gs28, gs29, gs30, gs31, gs32, gs33, gi0, gi1, gi2, gi3, gi4, gi5, gi6, h.a, h.b, h.c, h.d, Bool.and_true]) (by kernel_rfl) (by kernel_rfl), (List.forall_mem_cons.mpr ⟨LiL_of (by simp only [OE13, gq_tup, gq_lst, gq_nil, gq_cons, gq_bl, gq_non, gs0, gs1, gs2, gs3, gs4, gs5, gs6, gs7, gs8, gs9, gs10, gs11, gs12, gs13, gs14, gs15, gs16, gs17, gs18, gs19, gs20, gs21, gs22, gs23, gs24, gs25, gs26, gs27, gs28, gs29, gs30, gs31, gs32, gs33, gi0, gi1, gi2, gi3, gi4, gi5, gi6, h.a, h.b, h.c, h.d, Bool.and_true]) (by kernel_rfl) (by kernel_rfl), (List.forall_mem_cons.mpr ⟨LiL_of (by simp only [OE13, gq_tup, gq_lst, gq_nil, gq_cons, gq_bl, gq_non, gs0, gs1, gs2, gs3, gs4, gs5, gs6, gs7, gs8, gs9, gs10, gs11, gs12, gs13, gs14, gs15, gs16, gs17, gs18, gs19, gs20, gs21, gs22, gs23, gs24, gs25, gs26, gs27, gs28, gs29, gs30, gs31, gs32, gs33, gi0, gi1, gi2, gi3, gi4, gi5, gi6, h.a, h.b, h.c, h.d, Bool.and_true]) (by kernel_rfl) (by kernel_rfl), (List.forall_mem_cons.mpr ⟨LiL_of (by simp only [OE13, gq_tup, gq_lst, gq_nil, gq_cons, gq_bl, gq_non, gs0, gs1, gs2, gs3, gs4, gs5, gs6, gs7, gs8, gs9, gs10, gs11, gs12, gs13, gs14, gs15, gs16, gs17, gs18, gs19, gs20, gs21, gs22, gs23, gs24, gs25, gs26, gs27, gs28, gs29, gs30, gs31, gs32, gs33, gi0, gi1, gi2, gi3, gi4, gi5, gi6, h.a, h.b, h.c, h.d, Bool.and_true]) (by kernel_rfl) (by kernel_rfl), (List.forall_mem_cons.mpr ⟨LiL_of (by simp only [OE13, gq_tup, gq_lst, gq_nil, gq_cons, gq_bl, gq_non, gs0, gs1, gs2, gs3, gs4, gs5, gs6, gs7, gs8, gs9, gs10, gs11, gs12, gs13, gs14, gs15, gs16, gs17, gs18, gs19, gs20, gs21, gs22, gs23, gs24, gs25, gs26, gs27, gs28, gs29, gs30, gs31, gs32, gs33, gi0, gi1, gi2, gi3, gi4, gi5, gi6, h.a, h.b, h.c, h.d, Bool.and_true]) (by kernel_rfl) (by kernel_rfl), (List.forall_mem_cons.mpr ⟨LiL_of (by simp only [OE13, gq_tup, gq_lst, gq_nil, gq_cons, gq_bl, gq_non, gs0, gs1, gs2, gs3, gs4, gs5, gs6, gs7, gs8, gs9, gs10, gs11, gs12, gs13, gs14, gs15, gs16, gs17, gs18, gs19, gs20, gs21, gs22, gs23, gs24, gs25, gs26, gs27, gs28, gs29, gs30, gs31, gs32, gs33, gi0, gi1, gi2, gi3, gi4, gi5, gi6, h.a, h.b, h.c, h.d, Bool.and_true]) (by kernel_rfl) (by kernel_rfl), (List.forall_mem_cons.mpr ⟨LiL_of (by simp only [OE13, gq_tup, gq_lst, gq_nil, gq_cons, gq_bl, gq_non, gs0, gs1, gs2, gs3, gs4, gs5, gs6, gs7, gs8, gs9, gs10, gs11, gs12, gs13, gs14, gs15, gs16, gs17, gs18, gs19, gs20, gs21, gs22, gs23, gs24, gs25, gs26, gs27, gs28, gs29, gs30, gs31, gs32, gs33, gi0, gi1, gi2, gi3, gi4, gi5, gi6, h.a, h.b, h.c, h.d, Bool.and_true]) (by kernel_rfl) (by kernel_rfl), (List.forall_mem_cons.mpr ⟨LiL_of (by simp only [OE13, gq_tup, gq_lst, gq_nil, gq_cons, gq_bl, gq_non, gs0, gs1, gs2, gs3, gs4, gs5, gs6, gs7, gs8, gs9, gs10, gs11, gs12, gs13, gs14, gs15, gs16, gs17, gs18, gs19, gs20, gs21, gs22, gs23, gs24, gs25, gs26, gs27, gs28, gs29, gs30, gs31, gs32, gs33, gi0, gi1, gi2, gi3, gi4, gi5, gi6, h.a, h.b, h.c, h.d, Bool.and_true]) (by kernel_rfl) (by kernel_rfl), (List.forall_mem_nil _)⟩)⟩)⟩)⟩)⟩)⟩)⟩)⟩)
theorem oe13_ok {f : Int × Int} {u n : Int} {x : D} {acc : List D} {y0 : Slot} {y2 : Slot} (h : acc.length ≤ 500) : oe13 (eS f u n (.own (.lst acc)) y0 (.dat x) y2) = .nx (eS f u n (.own (.lst (acc ++ (OE13 u n x)))) y0 (.dat x) y2) := by
  have l : (OE13 u n x).length ≤ 100 := Nat.le_of_ble_eq_true (by kernel_rfl)
  unfold oe13
  exact asgM_of (binM_of (k1 := .ali 4) (k2 := .own (.lst (OE13 u n x))) (ls1 := (eS f u n (.own (.lst acc)) y0 (.dat x) y2)) (ls2 := (eS f u n (.own (.lst acc)) y0 (.dat x) y2)) (x := .lst acc) (y := .lst (OE13 u n x)) (k := .own (.lst (acc ++ (OE13 u n x)))) rfl (by kernel_rfl) rfl rfl (by rw [addD_l, if_pos (by omega)])) rfl
def XS14 : List D := [.str "go", .str "iff", .non, .str "unless", .str "stop"]
def OE15 (u n : Int) (x : D) : List D := [.tup [x, .str "a", .str "<", .int 0, .int (u + 1), .int (n - 1)], .tup [.str "if", .str "a", .str "<", .int 0, .int u, .int (n - 1)], .tup [.str "if", .str "a", .str "<", .int 0, .int n, .int (u + 1)]]
theorem OE15_li {u n : Int} (h : UN u n) : ∀ x ∈ XS14, LiL (OE15 u n x) := (List.forall_mem_cons.mpr ⟨LiL_of (by simp only [OE15, gq_tup, gq_lst, gq_nil, gq_cons, gq_bl, gq_non, gs0, gs1, gs2, gs3, gs4, gs5, gs6, gs7, gs8, gs9, gs10, gs11, gs12, gs13, gs14, gs15, gs16, gs17, gs18, gs19, gs20, gs21, gs22, gs23, gs24, gs25, gs26, gs27, gs28, gs29, gs30, gs31, gs32, gs33, gi0, gi1, gi2, gi3, gi4, gi5, gi6, h.a, h.b, h.c, h.d, Bool.and_true]) (by kernel_rfl) (by kernel_rfl), (List.forall_mem_cons.mpr ⟨LiL_of (by simp only [OE15, gq_tup, gq_lst, gq_nil, gq_cons, gq_bl, gq_non, gs0, gs1, gs2, gs3, gs4, gs5, gs6, gs7, gs8, gs9, gs10, gs11, gs12, gs13, gs14, gs15, gs16, gs17, gs18, gs19, gs20, gs21, gs22, gs23, gs24, gs25, gs26, gs27, gs28, gs29, gs30, gs31, gs32, gs33, gi0, gi1, gi2, gi3, gi4, gi5, gi6, h.a, h.b, h.c, h.d, Bool.and_true]) (by kernel_rfl) (by kernel_rfl), (List.forall_mem_cons.mpr ⟨LiL_of (by simp only [OE15, gq_tup, gq_lst, gq_nil, gq_cons, gq_bl, gq_non, gs0, gs1, gs2, gs3, gs4, gs5, gs6, gs7, gs8, gs9, gs10, gs11, gs12, gs13, gs14, gs15, gs16, gs17, gs18, gs19, gs20, gs21, gs22, gs23, gs24, gs25, gs26, gs27, gs28, gs29, gs30, gs31, gs32, gs33, gi0, gi1, gi2, gi3, gi4, gi5, gi6, h.a, h.b, h.c, h.d, Bool.and_true]) (by kernel_rfl) (by kernel_rfl), (List.forall_mem_cons.mpr ⟨LiL_of (by simp only [OE15, gq_tup, gq_lst, gq_nil, gq_cons, gq_bl, gq_non, gs0, gs1, gs2, gs3, gs4, gs5, gs6, gs7, gs8, gs9, gs10, gs11, gs12, gs13, gs14, gs15, gs16, gs17, gs18, gs19, gs20, gs21, gs22, gs23, gs24, gs25, gs26, gs27, gs28, gs29, gs30, gs31, gs32, gs33, gi0, gi1, gi2, gi3, gi4, gi5, gi6, h.a, h.b, h.c, h.d, Bool.and_true]) (by kernel_rfl) (by kernel_rfl), (List.forall_mem_cons.mpr ⟨LiL_of (by simp only [OE15, gq_tup, gq_lst, gq_nil, gq_cons, gq_bl, gq_non, gs0, gs1, gs2, gs3, gs4, gs5, gs6, gs7, gs8, gs9, gs10, gs11, gs12, gs13, gs14, gs15, gs16, gs17, gs18, gs19, gs20, gs21, gs22, gs23, gs24, gs25, gs26, gs27, gs28, gs29, gs30, gs31, gs32, gs33, gi0, gi1, gi2, gi3, gi4, gi5, gi6, h.a, h.b, h.c, h.d, Bool.and_true]) (by kernel_rfl) (by kernel_rfl), (List.forall_mem_nil _)⟩)⟩)⟩)⟩)⟩)
theorem oe15_ok {f : Int × Int} {u n : Int} {x : D} {acc : List D} {y0 : Slot} {y1 : Slot} (h : acc.length ≤ 500) : oe15 (eS f u n (.own (.lst acc)) y0 y1 (.dat x)) = .nx (eS f u n (.own (.lst (acc ++ (OE15 u n x)))) y0 y1 (.dat x)) := by
  have l : (OE15 u n x).length ≤ 100 := Nat.le_of_ble_eq_true (by kernel_rfl)
  unfold oe15
  exact asgM_of (binM_of (k1 := .ali 4) (k2 := .own (.lst (OE15 u n x))) (ls1 := (eS f u n (.own (.lst acc)) y0 y1 (.dat x))) (ls2 := (eS f u n (.own (.lst acc)) y0 y1 (.dat x))) (x := .lst acc) (y := .lst (OE15 u n x)) (k := .own (.lst (acc ++ (OE15 u n x)))) rfl (by kernel_rfl) rfl rfl (by rw [addD_l, if_pos (by omega)])) rfl
def OE16 (u n : Int) : List D := [.tup [.str "if", .str "a", .str "<", .int 0, .int (u + 1), .int n], .tup [.str "if", .str "a", .str "==", .int 0, .non, .int (n - 1)], .tup [.str "if", .str "a", .str "<", .int 0, .bl true, .int (n - 1)]]
theorem OE16_li {u n : Int} (h : UN u n) : LiL (OE16 u n) := LiL_of (by simp only [OE16, gq_tup, gq_lst, gq_nil, gq_cons, gq_bl, gq_non, gs0, gs1, gs2, gs3, gs4, gs5, gs6, gs7, gs8, gs9, gs10, gs11, gs12, gs13, gs14, gs15, gs16, gs17, gs18, gs19, gs20, gs21, gs22, gs23, gs24, gs25, gs26, gs27, gs28, gs29, gs30, gs31, gs32, gs33, gi0, gi1, gi2, gi3, gi4, gi5, gi6, h.a, h.b, h.c, h.d, Bool.and_true]) (by kernel_rfl) (by kernel_rfl)
theorem oe16_ok {f : Int × Int} {u n : Int} {acc : List D} {y0 : Slot} {y1 : Slot} {y2 : Slot} (h : acc.length ≤ 500) : oe16 (eS f u n (.own (.lst acc)) y0 y1 y2) = .nx (eS f u n (.own (.lst (acc ++ (OE16 u n)))) y0 y1 y2) := by
  have l : (OE16 u n).length ≤ 100 := Nat.le_of_ble_eq_true (by kernel_rfl)
  unfold oe16
  exact asgM_of (binM_of (k1 := .ali 4) (k2 := .own (.lst (OE16 u n))) (ls1 := (eS f u n (.own (.lst acc)) y0 y1 y2)) (ls2 := (eS f u n (.own (.lst acc)) y0 y1 y2)) (x := .lst acc) (y := .lst (OE16 u n)) (k := .own (.lst (acc ++ (OE16 u n)))) rfl (by kernel_rfl) rfl rfl (by rw [addD_l, if_pos (by omega)])) rfl
def OE17 (u n : Int) : List D := [.tup [.str "if", .str "a", .str "<", .int 0, .int (n - 1), .str "1"], .tup [.str "go", .non], .tup [.str "go", .str "1"], .tup [.str "if", .str "a", .str "<", .int 0, .int 0, .int (n - 1)]]
theorem OE17_li {u n : Int} (h : UN u n) : LiL (OE17 u n) := LiL_of (by simp only [OE17, gq_tup, gq_lst, gq_nil, gq_cons, gq_bl, gq_non, gs0, gs1, gs2, gs3, gs4, gs5, gs6, gs7, gs8, gs9, gs10, gs11, gs12, gs13, gs14, gs15, gs16, gs17, gs18, gs19, gs20, gs21, gs22, gs23, gs24, gs25, gs26, gs27, gs28, gs29, gs30, gs31, gs32, gs33, gi0, gi1, gi2, gi3, gi4, gi5, gi6, h.a, h.b, h.c, h.d, Bool.and_true]) (by kernel_rfl) (by kernel_rfl)
theorem oe17_ok {f : Int × Int} {u n : Int} {acc : List D} {y0 : Slot} {y1 : Slot} {y2 : Slot} (h : acc.length ≤ 500) : oe17 (eS f u n (.own (.lst acc)) y0 y1 y2) = .nx (eS f u n (.own (.lst (acc ++ (OE17 u n)))) y0 y1 y2) := by
  have l : (OE17 u n).length ≤ 100 := Nat.le_of_ble_eq_true (by kernel_rfl)
  unfold oe17
  exact asgM_of (binM_of (k1 := .ali 4) (k2 := .own (.lst (OE17 u n))) (ls1 := (eS f u n (.own (.lst acc)) y0 y1 y2)) (ls2 := (eS f u n (.own (.lst acc)) y0 y1 y2)) (x := .lst acc) (y := .lst (OE17 u n)) (k := .own (.lst (acc ++ (OE17 u n)))) rfl (by kernel_rfl) rfl rfl (by rw [addD_l, if_pos (by omega)])) rfl
def OEr (u n : Int) : List D := [.tup [.str "if", .str "aa", .str "<", .int 0, .int (u + 1), .int (n - 1)]]
theorem OEr_li {u n : Int} (h : UN u n) : LiL (OEr u n) := LiL_of (by simp only [OEr, gq_tup, gq_lst, gq_nil, gq_cons, gq_bl, gq_non, gs0, gs1, gs2, gs3, gs4, gs5, gs6, gs7, gs8, gs9, gs10, gs11, gs12, gs13, gs14, gs15, gs16, gs17, gs18, gs19, gs20, gs21, gs22, gs23, gs24, gs25, gs26, gs27, gs28, gs29, gs30, gs31, gs32, gs33, gi0, gi1, gi2, gi3, gi4, gi5, gi6, h.a, h.b, h.c, h.d, Bool.and_true]) (by kernel_rfl) (by kernel_rfl)
theorem oe18_a {f : Int × Int} {u n : Int} {acc : List D} {y0 : Slot} {y1 : Slot} {y2 : Slot} (h : acc.length ≤ 500) : (consA (varM 0) (consA (binM addD (varM 4) (lstM (consA (tupM (consA (conM (.str "if")) (consA (conM (.str "aa")) (consA (conM (.str "<")) (consA (conM (.int 0)) (consA (frzM (binM addD (varM 1) (conM (.int 1)))) (consA (frzM (varM 3)) nilA))))))) nilA))) nilA)) (eS f u n (.own (.lst acc)) y0 y1 y2) = .ok [.ali 0, .own (.lst (acc ++ (OEr u n)))] (eS f u n (.own (.lst acc)) y0 y1 y2) := by
  have l : (OEr u n).length ≤ 100 := Nat.le_of_ble_eq_true (by kernel_rfl)
  exact consA_of rfl (consA_of (binM_of (k1 := .ali 4) (k2 := .own (.lst (OEr u n))) (ls1 := (eS f u n (.own (.lst acc)) y0 y1 y2)) (ls2 := (eS f u n (.own (.lst acc)) y0 y1 y2)) (x := .lst acc) (y := .lst (OEr u n)) (k := .own (.lst (acc ++ (OEr u n)))) rfl (by kernel_rfl) rfl rfl (by rw [addD_l, if_pos (by omega)])) rfl)
theorem odd_end_ok (f : Int × Int) {u n : Int} (h : UN u n) : ∃ f' x, m__law_odd_end [.par (FD f), .dat (.int u), .dat (.int n)] = .ok (.dat x) [.par (FD f'), .dat (.int u), .dat (.int n)] ∧ Li x := by
  obtain ⟨f1, x9, e9, hx9⟩ := pick_ok f (xs := XS9) (by simp [XS9]) (by decide)
  obtain ⟨f2, x12, e12, hx12⟩ := pick_ok f1 (xs := XS12) (by simp [XS12]) (by decide)
  obtain ⟨f3, x14, e14, hx14⟩ := pick_ok f2 (xs := XS14) (by simp [XS14]) (by decide)
  have hli : LiL ((((((((((((((OE2 u n) ++ (OE3 u n)) ++ (OE4 u n)) ++ (OE5 u n)) ++ (OE6 u n)) ++ (OE7 u n)) ++ (OE8 u n)) ++ (OE10 u n x9)) ++ (OE11 u n x9)) ++ (OE13 u n x12)) ++ (OE15 u n x14)) ++ (OE16 u n)) ++ (OE17 u n)) ++ (OEr u n)) := LiL.app (LiL.app (LiL.app (LiL.app (LiL.app (LiL.app (LiL.app (LiL.app (LiL.app (LiL.app (LiL.app (LiL.app (LiL.app (OE2_li h) (OE3_li h)) (OE4_li h)) (OE5_li h)) (OE6_li h)) (OE7_li h)) (OE8_li h)) (OE10_li h _ hx9)) (OE11_li h _ hx9)) (OE13_li h _ hx12)) (OE15_li h _ hx14)) (OE16_li h)) (OE17_li h)) (OEr_li h)
  have hl : ((((((((((((((OE2 u n) ++ (OE3 u n)) ++ (OE4 u n)) ++ (OE5 u n)) ++ (OE6 u n)) ++ (OE7 u n)) ++ (OE8 u n)) ++ (OE10 u n x9)) ++ (OE11 u n x9)) ++ (OE13 u n x12)) ++ (OE15 u n x14)) ++ (OE16 u n)) ++ (OE17 u n)) ++ (OEr u n)).length ≤ 300 := Nat.le_of_ble_eq_true (by kernel_rfl)
  obtain ⟨f', z, e, hz⟩ := pick_ok f3 (xs := ((((((((((((((OE2 u n) ++ (OE3 u n)) ++ (OE4 u n)) ++ (OE5 u n)) ++ (OE6 u n)) ++ (OE7 u n)) ++ (OE8 u n)) ++ (OE10 u n x9)) ++ (OE11 u n x9)) ++ (OE13 u n x12)) ++ (OE15 u n x14)) ++ (OE16 u n)) ++ (OE17 u n)) ++ (OEr u n))) (fun q => by have := congrArg List.length q; rw [List.length_append] at this; exact absurd this (Nat.succ_ne_zero _)) (by omega)
  refine ⟨f', z, ?_, hli z hz⟩
  rw [oe_split, funM_ap]
  have st : startLS 8 [.par (FD f), .dat (.int u), .dat (.int n)] = [.par (FD f), .dat (.int u), .dat (.int n), .emp, .emp, .emp, .emp, .emp] := rfl
  have := (show (seqM oe1 (seqM oe2 (seqM oe3 (seqM oe4 (seqM oe5 (seqM oe6 (seqM oe7 (seqM oe8 (seqM oe9 (seqM oe10 (seqM oe11 (seqM oe12 (seqM oe13 (seqM oe14 (seqM oe15 (seqM oe16 (seqM oe17 oe18))))))))))))))))) [.par (FD f), .dat (.int u), .dat (.int n), .emp, .emp, .emp, .emp, .emp] = .ret (.dat z) (eS f' u n (.own (.lst (((((((((((((OE2 u n) ++ (OE3 u n)) ++ (OE4 u n)) ++ (OE5 u n)) ++ (OE6 u n)) ++ (OE7 u n)) ++ (OE8 u n)) ++ (OE10 u n x9)) ++ (OE11 u n x9)) ++ (OE13 u n x12)) ++ (OE15 u n x14)) ++ (OE16 u n)) ++ (OE17 u n)))) (.dat x9) (.dat x12) (.dat x14)) from seqM_of oe1_ok (seqM_of (show oe2 (eS f u n .emp .emp .emp .emp) = .nx (eS f u n (.own (.lst (OE2 u n))) .emp .emp .emp) from by kernel_rfl) (seqM_of (oe3_ok (acc := (OE2 u n)) (Nat.le_of_ble_eq_true (by kernel_rfl))) (seqM_of (oe4_ok (acc := ((OE2 u n) ++ (OE3 u n))) (Nat.le_of_ble_eq_true (by kernel_rfl))) (seqM_of (oe5_ok (acc := (((OE2 u n) ++ (OE3 u n)) ++ (OE4 u n))) (Nat.le_of_ble_eq_true (by kernel_rfl))) (seqM_of (oe6_ok (acc := ((((OE2 u n) ++ (OE3 u n)) ++ (OE4 u n)) ++ (OE5 u n))) (Nat.le_of_ble_eq_true (by kernel_rfl))) (seqM_of (oe7_ok (acc := (((((OE2 u n) ++ (OE3 u n)) ++ (OE4 u n)) ++ (OE5 u n)) ++ (OE6 u n))) (Nat.le_of_ble_eq_true (by kernel_rfl))) (seqM_of (oe8_ok (acc := ((((((OE2 u n) ++ (OE3 u n)) ++ (OE4 u n)) ++ (OE5 u n)) ++ (OE6 u n)) ++ (OE7 u n))) (Nat.le_of_ble_eq_true (by kernel_rfl))) (seqM_of (show oe9 (eS f u n (.own (.lst (((((((OE2 u n) ++ (OE3 u n)) ++ (OE4 u n)) ++ (OE5 u n)) ++ (OE6 u n)) ++ (OE7 u n)) ++ (OE8 u n)))) .emp .emp .emp) = .nx (eS f1 u n (.own (.lst (((((((OE2 u n) ++ (OE3 u n)) ++ (OE4 u n)) ++ (OE5 u n)) ++ (OE6 u n)) ++ (OE7 u n)) ++ (OE8 u n)))) (.dat x9) .emp .emp) from asgM_of (callN_of (as := [.ali 0, .own (.lst XS9)]) (ls1 := (eS f u n (.own (.lst (((((((OE2 u n) ++ (OE3 u n)) ++ (OE4 u n)) ++ (OE5 u n)) ++ (OE6 u n)) ++ (OE7 u n)) ++ (OE8 u n)))) .emp .emp .emp)) (ps := [.par (FD f), .par (.lst XS9)]) (ls2 := (eS f1 u n (.own (.lst (((((((OE2 u n) ++ (OE3 u n)) ++ (OE4 u n)) ++ (OE5 u n)) ++ (OE6 u n)) ++ (OE7 u n)) ++ (OE8 u n)))) .emp .emp .emp)) (by kernel_rfl) rfl (show ([0] : List Nat).Nodup by decide) rfl e9 rfl rfl) rfl) (seqM_of (oe10_ok (acc := (((((((OE2 u n) ++ (OE3 u n)) ++ (OE4 u n)) ++ (OE5 u n)) ++ (OE6 u n)) ++ (OE7 u n)) ++ (OE8 u n))) (Nat.le_of_ble_eq_true (by kernel_rfl))) (seqM_of (oe11_ok (acc := ((((((((OE2 u n) ++ (OE3 u n)) ++ (OE4 u n)) ++ (OE5 u n)) ++ (OE6 u n)) ++ (OE7 u n)) ++ (OE8 u n)) ++ (OE10 u n x9))) (Nat.le_of_ble_eq_true (by kernel_rfl))) (seqM_of (show oe12 (eS f1 u n (.own (.lst (((((((((OE2 u n) ++ (OE3 u n)) ++ (OE4 u n)) ++ (OE5 u n)) ++ (OE6 u n)) ++ (OE7 u n)) ++ (OE8 u n)) ++ (OE10 u n x9)) ++ (OE11 u n x9)))) (.dat x9) .emp .emp) = .nx (eS f2 u n (.own (.lst (((((((((OE2 u n) ++ (OE3 u n)) ++ (OE4 u n)) ++ (OE5 u n)) ++ (OE6 u n)) ++ (OE7 u n)) ++ (OE8 u n)) ++ (OE10 u n x9)) ++ (OE11 u n x9)))) (.dat x9) (.dat x12) .emp) from asgM_of (callN_of (as := [.ali 0, .own (.lst XS12)]) (ls1 := (eS f1 u n (.own (.lst (((((((((OE2 u n) ++ (OE3 u n)) ++ (OE4 u n)) ++ (OE5 u n)) ++ (OE6 u n)) ++ (OE7 u n)) ++ (OE8 u n)) ++ (OE10 u n x9)) ++ (OE11 u n x9)))) (.dat x9) .emp .emp)) (ps := [.par (FD f1), .par (.lst XS12)]) (ls2 := (eS f2 u n (.own (.lst (((((((((OE2 u n) ++ (OE3 u n)) ++ (OE4 u n)) ++ (OE5 u n)) ++ (OE6 u n)) ++ (OE7 u n)) ++ (OE8 u n)) ++ (OE10 u n x9)) ++ (OE11 u n x9)))) (.dat x9) .emp .emp)) (by kernel_rfl) rfl (show ([0] : List Nat).Nodup by decide) rfl e12 rfl rfl) rfl) (seqM_of (oe13_ok (acc := (((((((((OE2 u n) ++ (OE3 u n)) ++ (OE4 u n)) ++ (OE5 u n)) ++ (OE6 u n)) ++ (OE7 u n)) ++ (OE8 u n)) ++ (OE10 u n x9)) ++ (OE11 u n x9))) (Nat.le_of_ble_eq_true (by kernel_rfl))) (seqM_of (show oe14 (eS f2 u n (.own (.lst ((((((((((OE2 u n) ++ (OE3 u n)) ++ (OE4 u n)) ++ (OE5 u n)) ++ (OE6 u n)) ++ (OE7 u n)) ++ (OE8 u n)) ++ (OE10 u n x9)) ++ (OE11 u n x9)) ++ (OE13 u n x12)))) (.dat x9) (.dat x12) .emp) = .nx (eS f3 u n (.own (.lst ((((((((((OE2 u n) ++ (OE3 u n)) ++ (OE4 u n)) ++ (OE5 u n)) ++ (OE6 u n)) ++ (OE7 u n)) ++ (OE8 u n)) ++ (OE10 u n x9)) ++ (OE11 u n x9)) ++ (OE13 u n x12)))) (.dat x9) (.dat x12) (.dat x14)) from asgM_of (callN_of (as := [.ali 0, .own (.lst XS14)]) (ls1 := (eS f2 u n (.own (.lst ((((((((((OE2 u n) ++ (OE3 u n)) ++ (OE4 u n)) ++ (OE5 u n)) ++ (OE6 u n)) ++ (OE7 u n)) ++ (OE8 u n)) ++ (OE10 u n x9)) ++ (OE11 u n x9)) ++ (OE13 u n x12)))) (.dat x9) (.dat x12) .emp)) (ps := [.par (FD f2), .par (.lst XS14)]) (ls2 := (eS f3 u n (.own (.lst ((((((((((OE2 u n) ++ (OE3 u n)) ++ (OE4 u n)) ++ (OE5 u n)) ++ (OE6 u n)) ++ (OE7 u n)) ++ (OE8 u n)) ++ (OE10 u n x9)) ++ (OE11 u n x9)) ++ (OE13 u n x12)))) (.dat x9) (.dat x12) .emp)) (by kernel_rfl) rfl (show ([0] : List Nat).Nodup by decide) rfl e14 rfl rfl) rfl) (seqM_of (oe15_ok (acc := ((((((((((OE2 u n) ++ (OE3 u n)) ++ (OE4 u n)) ++ (OE5 u n)) ++ (OE6 u n)) ++ (OE7 u n)) ++ (OE8 u n)) ++ (OE10 u n x9)) ++ (OE11 u n x9)) ++ (OE13 u n x12))) (Nat.le_of_ble_eq_true (by kernel_rfl))) (seqM_of (oe16_ok (acc := (((((((((((OE2 u n) ++ (OE3 u n)) ++ (OE4 u n)) ++ (OE5 u n)) ++ (OE6 u n)) ++ (OE7 u n)) ++ (OE8 u n)) ++ (OE10 u n x9)) ++ (OE11 u n x9)) ++ (OE13 u n x12)) ++ (OE15 u n x14))) (Nat.le_of_ble_eq_true (by kernel_rfl))) (seqM_of (oe17_ok (acc := ((((((((((((OE2 u n) ++ (OE3 u n)) ++ (OE4 u n)) ++ (OE5 u n)) ++ (OE6 u n)) ++ (OE7 u n)) ++ (OE8 u n)) ++ (OE10 u n x9)) ++ (OE11 u n x9)) ++ (OE13 u n x12)) ++ (OE15 u n x14)) ++ (OE16 u n))) (Nat.le_of_ble_eq_true (by kernel_rfl))) (retM_of (callN_of (as := [.ali 0, .own (.lst ((((((((((((((OE2 u n) ++ (OE3 u n)) ++ (OE4 u n)) ++ (OE5 u n)) ++ (OE6 u n)) ++ (OE7 u n)) ++ (OE8 u n)) ++ (OE10 u n x9)) ++ (OE11 u n x9)) ++ (OE13 u n x12)) ++ (OE15 u n x14)) ++ (OE16 u n)) ++ (OE17 u n)) ++ (OEr u n)))]) (ls1 := (eS f3 u n (.own (.lst (((((((((((((OE2 u n) ++ (OE3 u n)) ++ (OE4 u n)) ++ (OE5 u n)) ++ (OE6 u n)) ++ (OE7 u n)) ++ (OE8 u n)) ++ (OE10 u n x9)) ++ (OE11 u n x9)) ++ (OE13 u n x12)) ++ (OE15 u n x14)) ++ (OE16 u n)) ++ (OE17 u n)))) (.dat x9) (.dat x12) (.dat x14))) (ps := [.par (FD f3), .par (.lst ((((((((((((((OE2 u n) ++ (OE3 u n)) ++ (OE4 u n)) ++ (OE5 u n)) ++ (OE6 u n)) ++ (OE7 u n)) ++ (OE8 u n)) ++ (OE10 u n x9)) ++ (OE11 u n x9)) ++ (OE13 u n x12)) ++ (OE15 u n x14)) ++ (OE16 u n)) ++ (OE17 u n)) ++ (OEr u n)))]) (ls2 := (eS f' u n (.own (.lst (((((((((((((OE2 u n) ++ (OE3 u n)) ++ (OE4 u n)) ++ (OE5 u n)) ++ (OE6 u n)) ++ (OE7 u n)) ++ (OE8 u n)) ++ (OE10 u n x9)) ++ (OE11 u n x9)) ++ (OE13 u n x12)) ++ (OE15 u n x14)) ++ (OE16 u n)) ++ (OE17 u n)))) (.dat x9) (.dat x12) (.dat x14))) (oe18_a (acc := (((((((((((((OE2 u n) ++ (OE3 u n)) ++ (OE4 u n)) ++ (OE5 u n)) ++ (OE6 u n)) ++ (OE7 u n)) ++ (OE8 u n)) ++ (OE10 u n x9)) ++ (OE11 u n x9)) ++ (OE13 u n x12)) ++ (OE15 u n x14)) ++ (OE16 u n)) ++ (OE17 u n))) (Nat.le_of_ble_eq_true (by kernel_rfl))) rfl (show ([0] : List Nat).Nodup by decide) rfl e rfl rfl)))))))))))))))))))
  rw [st, this]
  simp [eS]
end VM

set_option linter.all false
set_option Elab.async false
set_option maxRecDepth 100000
set_option maxHeartbeats 1000000
namespace VM
open PySem PySem.Spec L2
/-! operands, lines -/
def Op (d : D) : Prop := d.gd = true ∧ d.dp = 0 ∧ d.wt ≤ 64 ∧ opB d = true
theorem Op_str {w : Str} (h : ((D.str w).gd && (Nat.ble (D.str w).wt 64 && opB (.str w))) = true) : Op (.str w) := by
  simp only [Bool.and_eq_true] at h
  exact ⟨h.1, by simp [D.dp], Nat.le_of_ble_eq_true h.2.1, h.2.2⟩
theorem Op_int {i : Int} (h1 : -1000000000 ≤ i) (h2 : i ≤ 1000000000) : Op (.int i) :=
  ⟨gq_int (by omega) (by omega), by simp [D.dp], by simp [D.wt], by simp [opB, nmB, whF, h1, h2]⟩
theorem operand_draw (f : Int × Int) : ∃ f' x, m__law_operand [.par (FD f)] = .ok (.dat x) [.par (FD f')] ∧ Op x := by
  obtain ⟨f1, r0, e0, a0, b0⟩ := take_ok f (n := 2) (by decide) (by decide)
  obtain ⟨f2, r1, e1, a1, b1⟩ := take_ok f1 (n := 7) (by decide) (by decide)
  obtain ⟨f3, r2, e2, a2, b2⟩ := take_ok f2 (n := 7) (by decide) (by decide)
  obtain ⟨f4, x, e3, hx⟩ := pick_ok f3 (xs := [.str "a", .str "b", .str "c", .str "z", .int (r1 - 3), .int (r2 - 3), .int (1000000000 - 2000000000 * r0)]) (by simp) (by simp)
  refine ⟨f4, x, by simp [m__law_operand, funM_ap, e0, e1, e2, e3], ?_⟩
  simp at hx
  rcases hx with rfl | rfl | rfl | rfl | rfl | rfl | rfl
  · exact Op_str (by decide +kernel)
  · exact Op_str (by decide +kernel)
  · exact Op_str (by decide +kernel)
  · exact Op_str (by decide +kernel)
  · exact Op_int (by omega) (by omega)
  · exact Op_int (by omega) (by omega)
  · exact Op_int (by omega) (by omega)
def Ln (d : D) : Prop := Li d ∧ lnB d = true
theorem Ln_of {nm x sg y : D} (hn : nm ∈ [D.str "a", .str "b", .str "c", .str "z"]) (hs : sg ∈ [D.str "+", .str "-"]) (hx : Op x) (hy : Op y) : Ln (.tup [nm, x, sg, y]) := by
  have an : nm.gd = true ∧ nm.dp = 0 ∧ nm.wt = 3 ∧ nmB nm = true := by
    simp at hn
    rcases hn with rfl | rfl | rfl | rfl <;> exact ⟨by decide +kernel, by kernel_rfl, by kernel_rfl, by kernel_rfl⟩
  have as : sg.gd = true ∧ sg.dp = 0 ∧ sg.wt = 3 ∧ (isS "+" sg || isS "-" sg) = true := by
    simp at hs
    rcases hs with rfl | rfl <;> exact ⟨by decide +kernel, by kernel_rfl, by kernel_rfl, by decide +kernel⟩
  have h1 := hx.2.2.1
  have h2 := hy.2.2.1
  refine ⟨⟨by simp [gq_tup, gq_cons, gq_nil, an.1, as.1, hx.1, hy.1], by simp [D.dp, D.dps, an.2.1, as.2.1, hx.2.1, hy.2.1], ?_⟩, by simp only [lnB, an.2.2.2, as.2.2.2, hx.2.2.2, hy.2.2.2, Bool.and_self]⟩
  simp only [D.wt, D.wts, an.2.2.1, as.2.2.1]
  omega
def li1 : SM := (asgM 1 (lstM nilA))
def li2_1 : SM := (asg2 3 4 (consA (callN 2 m__law_pick (consA (varM 0) (consA (lstM (consA (conM (.str "a")) (consA (conM (.str "b")) (consA (conM (.str "c")) (consA (conM (.str "z")) nilA))))) nilA))) (consA (callN 2 m__law_pick (consA (varM 0) (consA (lstM (consA (conM (.str "+")) (consA (conM (.str "-")) nilA))) nilA))) nilA)))
def li2_2 : SM := (dropM (mutM isLst appG (varM 1) (consA (tupM (consA (frzM (varM 3)) (consA (frzM (callN 1 m__law_operand (consA (varM 0) nilA))) (consA (frzM (varM 4)) (consA (frzM (callN 1 m__law_operand (consA (varM 0) nilA))) nilA))))) nilA)))
def li2 : SM := (forM (rng1 (consA (callN 2 m__law_take (consA (varM 0) (consA (conM (.int 5)) nilA))) nilA)) (tgN 2) (seqM li2_1 li2_2))
def li3 : SM := (retM (bltM tupleD (consA (varM 1) nilA)))
theorem li_split : m__law_lines = funM 5 (seqM li1 (seqM li2 li3)) := rfl
def nS (f : Int × Int) (acc : List D) (a b c : Slot) : LS := [.par (FD f), .own (.lst acc), a, b, c]
theorem li2_body (f : Int × Int) {acc : List D} (ha : acc.length < 1000) (a b c : Slot) : ∃ f' l b' c', (seqM li2_1 li2_2) (nS f acc a b c) = .nx (nS f' (acc ++ [l]) a b' c') ∧ Ln l := by
  obtain ⟨f1, nm, e1, hn⟩ := pick_ok f (xs := [.str "a", .str "b", .str "c", .str "z"]) (by simp) (by decide)
  obtain ⟨f2, sg, e2, hs⟩ := pick_ok f1 (xs := [.str "+", .str "-"]) (by simp) (by decide)
  obtain ⟨f3, x, e3, hx⟩ := operand_draw f2
  obtain ⟨f4, y, e4, hy⟩ := operand_draw f3
  refine ⟨f4, .tup [nm, x, sg, y], .dat nm, .dat sg, ?_, Ln_of hn hs hx hy⟩
  have s1 : li2_1 (nS f acc a b c) = .nx (nS f2 acc a (.dat nm) (.dat sg)) := by
    simp only [nS]
    simp [li2_1, e1, e2]
  have s2 : li2_2 (nS f2 acc a (.dat nm) (.dat sg)) = .nx (nS f4 (acc ++ [.tup [nm, x, sg, y]]) a (.dat nm) (.dat sg)) := by
    have h : acc.length < 1000000 := by omega
    simp only [nS]
    simp [li2_2, e3, e4, h]
  exact seqM_of s1 s2
theorem li2_loop : ∀ (ds : List D) (f : Int × Int) (acc : List D) (a b c : Slot), acc.length + ds.length ≤ 1000 → (∀ l ∈ acc, Ln l) →
    ∃ f' acc' a' b' c', forL none (tgN 2) (seqM li2_1 li2_2) ds (nS f acc a b c) = .nx (nS f' acc' a' b' c') ∧ acc'.length = acc.length + ds.length ∧ ∀ l ∈ acc', Ln l
  | [], f, acc, a, b, c, _, h => ⟨f, acc, a, b, c, rfl, rfl, h⟩
  | d :: ds, f, acc, a, b, c, hl, h => by
    simp at hl
    obtain ⟨f1, l, b1, c1, e1, h1⟩ := li2_body f (acc := acc) (by omega) (.dat d) b c
    obtain ⟨f', acc', a', b', c', e2, l2, h2⟩ := li2_loop ds f1 (acc ++ [l]) (.dat d) b1 c1 (by simp; omega) (fun x hx => by
      rcases List.mem_append.mp hx with z | z
      · exact h x z
      · simp at z; subst z; exact h1)
    refine ⟨f', acc', a', b', c', ?_, by simp at l2 ⊢; omega, h2⟩
    rw [forL_cons]
    have e8 : tgN 2 d (nS f acc a b c) = some (nS f acc (.dat d) b c) := rfl
    rw [e8]
    simp only [e1]
    exact e2
theorem lines_draw (f : Int × Int) : ∃ f' ls, m__law_lines [.par (FD f)] = .ok (.dat (.tup ls)) [.par (FD f')] ∧ ls.length ≤ 4 ∧ ∀ l ∈ ls, Ln l := by
  obtain ⟨f1, k, e0, k0, k1⟩ := take_ok f (n := 5) (by decide) (by decide)
  obtain ⟨f', acc, a, b, c, e1, l1, h1⟩ := li2_loop (rangeD 0 k.toNat) f1 [] .emp .emp .emp (by simp [rangeD_len]; omega) (by simp)
  rw [rangeD_len] at l1
  simp at l1
  refine ⟨f', acc, ?_, by omega, h1⟩
  rw [li_split, funM_ap]
  have s0 : startLS 5 [.par (FD f)] = [.par (FD f), .emp, .emp, .emp, .emp] := rfl
  have s1 : li1 [.par (FD f), .emp, .emp, .emp, .emp] = .nx (nS f [] .emp .emp .emp) := by kernel_rfl
  have r1 : inR k = true := inR_of (by omega) (by omega)
  have s2 : li2 (nS f [] .emp .emp .emp) = .nx (nS f' acc a b c) := by
    have q : rng1 (consA (callN 2 m__law_take (consA (varM 0) (consA (conM (.int 5)) nilA))) nilA) (nS f [] .emp .emp .emp) = .ok (rangeD 0 k.toNat) none (nS f1 [] .emp .emp .emp) := by
      simp only [nS]
      simp [e0, r1]
    unfold li2
    rw [forM_ap, q, RIb_ok]
    exact e1
  have s3 : li3 (nS f' acc a b c) = .ret (.dat (.tup acc)) (nS f' acc a b c) := by
    simp only [nS]
    simp [li3]
  rw [s0, seqM_of s1 (seqM_of s2 s3)]
  simp [nS]
end VM

set_option linter.all false
set_option Elab.async false
set_option maxRecDepth 100000
set_option maxHeartbeats 1000000
namespace VM
open PySem PySem.Spec L2
/-! code -/
def CB (d : D) (u n : Int) : Prop := ∃ ls e, d = .tup [.tup ls, e] ∧ ls.length ≤ 4 ∧ (∀ l ∈ ls, Ln l) ∧ Li e ∧ enB e u n = true
theorem Gv.of {d : D} (h : d.gd = true) (h2 : d.dp ≤ 20) : Gv d := ⟨h, h2⟩
theorem bk_of {ls : List D} {e : D} {k : Nat} (hl : ls.length ≤ k) (hk : k ≤ 30) (h : LiL ls) (he : Li e) : Bk (.tup [.tup ls, e]) := by
  have g1 : D.gds ls = true := gds_iff.mpr fun d hd => (h d hd).1
  have g2 : D.dps ls ≤ 3 := dps_le.mpr fun d hd => (h d hd).2.1
  have g3 := wts_le (w := 500) fun d hd => (h d hd).2.2
  have g4 := he.2.1
  have g5 := he.2.2
  refine ⟨⟨by simp [gq_tup, gq_cons, gq_nil, g1, he.1], ?_⟩, ?_⟩
  · simp [D.dp, D.dps]; omega
  · simp only [D.wt, D.wts]; omega
theorem CB.bk {d : D} {u n : Int} (h : CB d u n) : Bk d := by
  obtain ⟨ls, e, rfl, h1, h2, h3, _⟩ := h
  exact bk_of h1 (by decide) (fun d hd => (h2 d hd).1) h3
theorem CB.bl {d : D} {u n : Int} (h : CB d u n) : blB d u n = true := by
  obtain ⟨ls, e, rfl, h1, h2, _, h4⟩ := h
  simp only [blB, Bool.and_eq_true, decide_eq_true_eq]
  exact ⟨h1, List.all_eq_true.mpr fun l hl => (h2 l hl).2, h4⟩
theorem en_go {u v n : Int} (h0 : u ≠ n - 1) (h1 : u + 1 ≤ v) (h2 : v ≤ n - 1) : enB (.tup [.str "go", .int v]) u n = true := by
  have s : isS "go" (.str "go") = true := by decide +kernel
  simp [enB, h0, s, whF, h1, h2]
theorem li_go {v : Int} (h1 : 0 ≤ v) (h2 : v ≤ 100) : Li (.tup [.str "go", .int v]) := by
  have g : (D.int v).gd = true := gq_int (by omega) (by omega)
  exact ⟨by simp only [gq_tup, gq_cons, gq_nil, g_go, g, Bool.and_self], Nat.le_of_ble_eq_true (by kernel_rfl), Nat.le_of_ble_eq_true (by kernel_rfl)⟩
theorem en_if {u v w n : Int} {x y t : D} (h0 : u ≠ n - 1) (h1 : u + 1 ≤ v) (h2 : v ≤ n - 1) (h3 : u + 1 ≤ w) (h4 : w ≤ n - 1) (h5 : v ≠ w) (hx : Op x) (hy : Op y) (ht : t ∈ [D.str "<", .str "<", .str "=="]) : enB (.tup [.str "if", x, t, y, .int v, .int w]) u n = true := by
  have s : isS "if" (.str "if") = true := by decide +kernel
  have st : (isS "<" t || isS "==" t) = true := by
    simp at ht
    rcases ht with rfl | rfl <;> decide +kernel
  simp only [enB, if_neg h0, s, st, hx.2.2.2, hy.2.2.2, whF, dif]
  simp [h1, h2, h3, h4, h5]
theorem li_if {v w : Int} {x y t : D} (h1 : 0 ≤ v) (h2 : v ≤ 100) (h3 : 0 ≤ w) (h4 : w ≤ 100) (hx : Op x) (hy : Op y) (ht : t ∈ [D.str "<", .str "<", .str "=="]) : Li (.tup [.str "if", x, t, y, .int v, .int w]) := by
  have g : (D.int v).gd = true := gq_int (by omega) (by omega)
  have g' : (D.int w).gd = true := gq_int (by omega) (by omega)
  have at' : t.gd = true ∧ t.dp = 0 ∧ t.wt ≤ 4 := by
    simp at ht
    rcases ht with rfl | rfl <;> exact ⟨by decide +kernel, by kernel_rfl, Nat.le_of_ble_eq_true (by kernel_rfl)⟩
  have wi : (D.str "if").wt = 4 := by kernel_rfl
  have h5 := hx.2.2.1
  have h6 := hy.2.2.1
  have h7 := at'.2.2
  refine ⟨by simp only [gq_tup, gq_cons, gq_nil, g_if, g, g', hx.1, hy.1, at'.1, Bool.and_self], by simp [D.dp, D.dps, hx.2.1, hy.2.1, at'.2.1], ?_⟩
  simp only [D.wt, D.wts]
  simp only [D.wt] at wi
  omega
theorem li_stop : Li (.tup [.str "stop"]) := ⟨by simp only [gq_tup, gq_cons, gq_nil, g_stop, Bool.and_self], Nat.le_of_ble_eq_true (by kernel_rfl), Nat.le_of_ble_eq_true (by kernel_rfl)⟩
def co1 : SM := (asgM 2 (lstM nilA))
def co2_1 : SM := (asgM 4 (callN 1 m__law_lines (consA (varM 0) nilA)))
def co2_2 : SM := (asgM 5 (binM addD (binM addD (varM 3) (conM (.int 1))) (callN 2 m__law_take (consA (varM 0) (consA (binM subD (binM subD (varM 1) (conM (.int 1))) (varM 3)) nilA)))))
def co2_3 : SM := (asgM 6 (binM addD (binM addD (varM 3) (conM (.int 1))) (callN 2 m__law_take (consA (varM 0) (consA (binM subD (binM subD (varM 1) (conM (.int 1))) (varM 3)) nilA)))))
def co2_4 : SM := (asgM 7 (tupM (consA (conM (.str "go")) (consA (frzM (varM 5)) nilA))))
def co2_5 : SM := (ifS (andM (binM neD (varM 5) (varM 6)) (binM gtD (callN 2 m__law_take (consA (varM 0) (consA (conM (.int 5)) nilA))) (conM (.int 0)))) (seqM (asgM 8 (callN 2 m__law_pick (consA (varM 0) (consA (lstM (consA (conM (.str "<")) (consA (conM (.str "<")) (consA (conM (.str "==")) nilA)))) nilA))))
    (asgM 7 (tupM (consA (conM (.str "if")) (consA (frzM (callN 1 m__law_operand (consA (varM 0) nilA))) (consA (frzM (varM 8)) (consA (frzM (callN 1 m__law_operand (consA (varM 0) nilA))) (consA (frzM (varM 5)) (consA (frzM (varM 6)) nilA)))))))))
    nxM)
def co2_6 : SM := (dropM (mutM isLst appG (varM 2) (consA (tupM (consA (frzM (varM 4)) (consA (frzM (varM 7)) nilA))) nilA)))
def co2 : SM := (forM (rng1 (consA (binM subD (varM 1) (conM (.int 1))) nilA)) (tgN 3) (seqM co2_1 (seqM co2_2 (seqM co2_3 (seqM co2_4 (seqM co2_5 co2_6))))))
def co3 : SM := (retM (binM addD (varM 2) (lstM (consA (tupM (consA (frzM (callN 1 m__law_lines (consA (varM 0) nilA))) (consA (tupM (consA (conM (.str "stop")) nilA)) nilA))) nilA))))
theorem co_split : m__law_code = funM 9 (seqM co1 (seqM co2 co3)) := rfl
def cS (f : Int × Int) (n : Int) (acc : List D) (u a b c d e : Slot) : LS := [.par (FD f), .dat (.int n), .own (.lst acc), u, a, b, c, d, e]
theorem co2_body (f : Int × Int) {n u : Int} {acc : List D} (ha : acc.length < 1000) (hu : 0 ≤ u) (hn : u < n - 1) (hn2 : n ≤ 100) (a b c d e : Slot) :
    ∃ f' x a' b' c' d' e', (seqM co2_1 (seqM co2_2 (seqM co2_3 (seqM co2_4 (seqM co2_5 co2_6))))) (cS f n acc (.dat (.int u)) a b c d e) = .nx (cS f' n (acc ++ [x]) (.dat (.int u)) a' b' c' d' e') ∧ CB x u n := by
  obtain ⟨f1, ls, e1, l1, l2⟩ := lines_draw f
  obtain ⟨f2, r, e2, r1, r2⟩ := take_ok f1 (n := n - 1 - u) (by omega) (by omega)
  obtain ⟨f3, q, e3, q1, q2⟩ := take_ok f2 (n := n - 1 - u) (by omega) (by omega)
  have h : acc.length < 1000000 := by omega
  have s1 : co2_1 (cS f n acc (.dat (.int u)) a b c d e) = .nx (cS f1 n acc (.dat (.int u)) (.dat (.tup ls)) b c d e) := by
    simp only [cS]
    simp [co2_1, e1]
  have s2 : co2_2 (cS f1 n acc (.dat (.int u)) (.dat (.tup ls)) b c d e) = .nx (cS f2 n acc (.dat (.int u)) (.dat (.tup ls)) (.dat (.int (u + 1 + r))) c d e) := by
    simp only [cS]
    simp [co2_2, e2]
  have s3 : co2_3 (cS f2 n acc (.dat (.int u)) (.dat (.tup ls)) (.dat (.int (u + 1 + r))) c d e) = .nx (cS f3 n acc (.dat (.int u)) (.dat (.tup ls)) (.dat (.int (u + 1 + r))) (.dat (.int (u + 1 + q))) d e) := by
    simp only [cS]
    simp [co2_3, e3]
  have s4 : co2_4 (cS f3 n acc (.dat (.int u)) (.dat (.tup ls)) (.dat (.int (u + 1 + r))) (.dat (.int (u + 1 + q))) d e) = .nx (cS f3 n acc (.dat (.int u)) (.dat (.tup ls)) (.dat (.int (u + 1 + r))) (.dat (.int (u + 1 + q))) (.dat (.tup [.str "go", .int (u + 1 + r)])) e) := by
    simp only [cS]
    simp [co2_4]
  have s6 : ∀ (g : Int × Int) (y : D) (t : Slot), co2_6 (cS g n acc (.dat (.int u)) (.dat (.tup ls)) (.dat (.int (u + 1 + r))) (.dat (.int (u + 1 + q))) (.dat y) t) = .nx (cS g n (acc ++ [.tup [.tup ls, y]]) (.dat (.int u)) (.dat (.tup ls)) (.dat (.int (u + 1 + r))) (.dat (.int (u + 1 + q))) (.dat y) t) := fun g y t => by
    simp only [cS]
    simp [co2_6, h]
  have cgo : CB (.tup [.tup ls, .tup [.str "go", .int (u + 1 + r)]]) u n := ⟨ls, _, rfl, l1, l2, li_go (by omega) (by omega), en_go (by omega) (by omega) (by omega)⟩
  by_cases hq : u + 1 + r = u + 1 + q
  · have s5 : co2_5 (cS f3 n acc (.dat (.int u)) (.dat (.tup ls)) (.dat (.int (u + 1 + r))) (.dat (.int (u + 1 + q))) (.dat (.tup [.str "go", .int (u + 1 + r)])) e) = .nx (cS f3 n acc (.dat (.int u)) (.dat (.tup ls)) (.dat (.int (u + 1 + r))) (.dat (.int (u + 1 + q))) (.dat (.tup [.str "go", .int (u + 1 + r)])) e) := by
      have hq' : r = q := by omega
      simp only [cS]
      simp [co2_5, hq']
    exact ⟨f3, _, _, _, _, _, _, seqM_of s1 (seqM_of s2 (seqM_of s3 (seqM_of s4 (seqM_of s5 (s6 _ _ _))))), cgo⟩
  · obtain ⟨f4, z, e4, z1, z2⟩ := take_ok f3 (n := 5) (by decide) (by decide)
    have hq' : ¬ r = q := by omega
    by_cases hz : 0 < z
    · obtain ⟨f5, t, e5, ht⟩ := pick_ok f4 (xs := [.str "<", .str "<", .str "=="]) (by simp) (by decide)
      obtain ⟨f6, x, e6, hx⟩ := operand_draw f5
      obtain ⟨f7, y, e7, hy⟩ := operand_draw f6
      have s5 : co2_5 (cS f3 n acc (.dat (.int u)) (.dat (.tup ls)) (.dat (.int (u + 1 + r))) (.dat (.int (u + 1 + q))) (.dat (.tup [.str "go", .int (u + 1 + r)])) e) = .nx (cS f7 n acc (.dat (.int u)) (.dat (.tup ls)) (.dat (.int (u + 1 + r))) (.dat (.int (u + 1 + q))) (.dat (.tup [.str "if", x, t, y, .int (u + 1 + r), .int (u + 1 + q)])) (.dat t)) := by
        simp only [cS]
        simp [co2_5, hq', e4, hz, e5, e6, e7]
      exact ⟨f7, _, _, _, _, _, _, seqM_of s1 (seqM_of s2 (seqM_of s3 (seqM_of s4 (seqM_of s5 (s6 _ _ _))))), ls, _, rfl, l1, l2, li_if (by omega) (by omega) (by omega) (by omega) hx hy ht, en_if (by omega) (by omega) (by omega) (by omega) (by omega) hq hx hy ht⟩
    · have s5 : co2_5 (cS f3 n acc (.dat (.int u)) (.dat (.tup ls)) (.dat (.int (u + 1 + r))) (.dat (.int (u + 1 + q))) (.dat (.tup [.str "go", .int (u + 1 + r)])) e) = .nx (cS f4 n acc (.dat (.int u)) (.dat (.tup ls)) (.dat (.int (u + 1 + r))) (.dat (.int (u + 1 + q))) (.dat (.tup [.str "go", .int (u + 1 + r)])) e) := by
        simp only [cS]
        simp [co2_5, hq', e4, hz]
      exact ⟨f4, _, _, _, _, _, _, seqM_of s1 (seqM_of s2 (seqM_of s3 (seqM_of s4 (seqM_of s5 (s6 _ _ _))))), cgo⟩
/-- the blocks from one on -/
def CBs (n : Int) : Nat → List D → Prop
  | _, [] => True
  | u, d :: ds => CB d (u : Int) n ∧ CBs n (u + 1) ds
theorem CBs_snoc {n : Int} {x : D} : ∀ {u : Nat} {ds : List D}, CBs n u ds → CB x ((u + ds.length : Nat) : Int) n → CBs n u (ds ++ [x])
  | u, [], _, h => ⟨by simpa using h, trivial⟩
  | u, d :: ds, h, h' => ⟨h.1, CBs_snoc h.2 (by
      have e : u + (d :: ds).length = u + 1 + ds.length := by simp; omega
      rwa [e] at h')⟩
theorem co2_loop {n : Int} (hn2 : n ≤ 100) : ∀ (m : Nat) (f : Int × Int) (acc : List D) (u a b c d e : Slot), (acc.length : Int) + m = n - 1 → CBs n 0 acc →
    ∃ f' acc' u' a' b' c' d' e', forL none (tgN 3) (seqM co2_1 (seqM co2_2 (seqM co2_3 (seqM co2_4 (seqM co2_5 co2_6))))) (rangeD acc.length m) (cS f n acc u a b c d e) = .nx (cS f' n acc' u' a' b' c' d' e') ∧ (acc'.length : Int) = n - 1 ∧ CBs n 0 acc'
  | 0, f, acc, u, a, b, c, d, e, h, hc => ⟨f, acc, u, a, b, c, d, e, by rw [rangeD_0]; rfl, by omega, hc⟩
  | m + 1, f, acc, u, a, b, c, d, e, h, hc => by
    obtain ⟨f1, x, a1, b1, c1, d1, g1, e1, h1⟩ := co2_body f (n := n) (u := (acc.length : Int)) (acc := acc) (by omega) (by omega) (by omega) hn2 a b c d e
    have hc' : CBs n 0 (acc ++ [x]) := CBs_snoc hc (by simpa using h1)
    obtain ⟨f', acc', u', a', b', c', d', e', e2, l2, h2⟩ := co2_loop hn2 m f1 (acc ++ [x]) (.dat (.int acc.length)) a1 b1 c1 d1 g1 (by simp; omega) hc'
    refine ⟨f', acc', u', a', b', c', d', e', ?_, l2, h2⟩
    rw [rangeD_succ, forL_cons]
    have e8 : tgN 3 (.int acc.length) (cS f n acc u a b c d e) = some (cS f n acc (.dat (.int acc.length)) a b c d e) := rfl
    rw [e8]
    simp only [e1]
    simp at e2
    exact e2
theorem CBs_fbad {n : Int} : ∀ {u : Nat} {ds : List D}, CBs n u ds → fbad n u ds = none
  | u, [], _ => rfl
  | u, d :: ds, h => by rw [fbad, if_pos h.1.bl]; exact CBs_fbad h.2
theorem CBs_mem {n : Int} : ∀ {u : Nat} {ds : List D}, CBs n u ds → ∀ d ∈ ds, ∃ k, CB d k n
  | u, [], _, d, h => by cases h
  | u, x :: ds, h, d, hd => by
    rcases List.mem_cons.mp hd with rfl | z
    · exact ⟨_, h.1⟩
    · exact CBs_mem h.2 d z
theorem code_draw (f : Int × Int) {n : Int} (h1 : 2 ≤ n) (h2 : n ≤ 40) : ∃ f' bs, m__law_code [.par (FD f), .dat (.int n)] = .ok (.own (.lst bs)) [.par (FD f'), .dat (.int n)] ∧ (bs.length : Int) = n ∧ CBs n 0 bs := by
  obtain ⟨f1, acc, u1, a1, b1, c1, d1, g1, e1, l1, hc⟩ := co2_loop (n := n) (by omega) (n - 1).toNat f [] .emp .emp .emp .emp .emp .emp (by simp; omega) trivial
  obtain ⟨f2, ls, e2, l2, h3⟩ := lines_draw f1
  have hx : CB (.tup [.tup ls, .tup [.str "stop"]]) ((0 + acc.length : Nat) : Int) n := by
    refine ⟨ls, _, rfl, l2, h3, li_stop, ?_⟩
    have : ((0 + acc.length : Nat) : Int) = n - 1 := by omega
    rw [this]
    simp only [enB, if_true]
    decide +kernel
  refine ⟨f2, acc ++ [.tup [.tup ls, .tup [.str "stop"]]], ?_, by simp; omega, CBs_snoc hc hx⟩
  rw [co_split, funM_ap]
  have s0 : startLS 9 [.par (FD f), .dat (.int n)] = [.par (FD f), .dat (.int n), .emp, .emp, .emp, .emp, .emp, .emp, .emp] := rfl
  have s1 : co1 [.par (FD f), .dat (.int n), .emp, .emp, .emp, .emp, .emp, .emp, .emp] = .nx (cS f n [] .emp .emp .emp .emp .emp .emp) := by kernel_rfl
  have r1 : inR (n - 1) = true := inR_of (by omega) (by omega)
  have s2 : co2 (cS f n [] .emp .emp .emp .emp .emp .emp) = .nx (cS f1 n acc u1 a1 b1 c1 d1 g1) := by
    have q : rng1 (consA (binM subD (varM 1) (conM (.int 1))) nilA) (cS f n [] .emp .emp .emp .emp .emp .emp) = .ok (rangeD 0 (n - 1).toNat) none (cS f n [] .emp .emp .emp .emp .emp .emp) := by
      simp only [cS]
      simp [r1]
    unfold co2
    rw [forM_ap, q, RIb_ok]
    exact e1
  have s3 : co3 (cS f1 n acc u1 a1 b1 c1 d1 g1) = .ret (.own (.lst (acc ++ [.tup [.tup ls, .tup [.str "stop"]]]))) (cS f2 n acc u1 a1 b1 c1 d1 g1) := by
    have hl : acc.length + 1 ≤ 1000000 := by omega
    have hl' : acc.length ≤ 999999 := by omega
    simp only [cS]
    simp [co3, e2, hl, hl']
  rw [s0, seqM_of s1 (seqM_of s2 s3)]
  simp [cS]
end VM

set_option linter.all false
set_option Elab.async false
set_option maxRecDepth 100000
set_option maxHeartbeats 1000000
namespace VM
open PySem PySem.Spec L2
def od1 : SM := (asgT (tgT [(tgN 4), (tgN 5)]) (varM 1))
def od2 : SM := (asgM 6 (callN 2 m__law_take (consA (varM 0) (consA (conM (.int 6)) nilA))))
def od3 : SM := (ifS (binM eqD (varM 6) (conM (.int 0))) (seqM (asgM 7 (lstM (consA (conM .non) (consA (conM (.int 0)) (consA (tupM nilA) (consA (tupM (consA (frzM (varM 4)) nilA)) (consA (tupM (consA (frzM (varM 4)) (consA (frzM (varM 5)) (consA (conM (.int 0)) nilA)))) (consA (frzM (lstM (consA (frzM (varM 4)) (consA (frzM (varM 5)) nilA)))) (consA (conM (.str "go")) nilA)))))))))
    (seqM (asgM 7 (binM addD (varM 7) (lstM (consA (tupM (consA (frzM (bltM listD (consA (varM 4) nilA))) (consA (frzM (varM 5)) nilA))) (consA (tupM (consA (conM .non) (consA (frzM (varM 5)) nilA))) (consA (tupM (consA (frzM (varM 5)) (consA (frzM (varM 4)) nilA))) (consA (tupM (consA (tupM (consA (conM (.str "a")) (consA (conM (.int 1)) (consA (conM (.str "+")) (consA (conM (.int 1)) nilA))))) (consA (frzM (varM 5)) nilA))) nilA)))))))
    (retM (callN 2 m__law_pick (consA (varM 0) (consA (binM addD (varM 7) (lstM (consA (tupM (consA (frzM (varM 4)) (consA (frzM (bltM listD (consA (varM 5) nilA))) nilA))) (consA (tupM (consA (frzM (varM 4)) (consA (conM .non) nilA))) nilA)))) nilA))))))
    nxM)
def od4 : SM := (ifS (binM eqD (varM 6) (conM (.int 1))) (seqM (asgM 8 (callN 2 m__law_take (consA (varM 0) (consA (bltM minD (consA (conM (.int 4)) (consA (binM addD (bltM lenD (consA (varM 4) nilA)) (conM (.int 1))) nilA))) nilA))))
    (retM (tupM (consA (frzM (binM addD (binM addD (slM (varM 4) noO (atO (varM 8))) (tupM (consA (frzM (callN 1 m__law_odd_line (consA (varM 0) nilA))) nilA))) (slM (varM 4) (atO (varM 8)) (atO (conM (.int 3)))))) (consA (frzM (varM 5)) nilA)))))
    nxM)
def od5 : SM := (ifS (binM eqD (varM 6) (conM (.int 2))) (retM (tupM (consA (binM mulTD (tupM (consA (tupM (consA (conM (.str "a")) (consA (conM (.int 1)) (consA (conM (.str "+")) (consA (conM (.int 1)) nilA))))) nilA)) (binM addD (conM (.int 3)) (callN 2 m__law_take (consA (varM 0) (consA (conM (.int 3)) nilA))))) (consA (frzM (varM 5)) nilA))))
    nxM)
def od6 : SM := (retM (tupM (consA (frzM (varM 4)) (consA (frzM (callN 3 m__law_odd_end (consA (varM 0) (consA (varM 2) (consA (varM 3) nilA))))) nilA))))
theorem od_split : m__law_odd = funM 9 (seqM od1 (seqM od2 (seqM od3 (seqM od4 (seqM od5 od6))))) := rfl
def oS (f : Int × Int) (ls es : List D) (u n k : Int) (x y : Slot) : LS := [.par (FD f), .dat (.tup [.tup ls, .tup es]), .dat (.int u), .dat (.int n), .dat (.tup ls), .dat (.tup es), .dat (.int k), x, y]
theorem od1_ok {f : Int × Int} {ls es : List D} {u n : Int} : od1 [.par (FD f), .dat (.tup [.tup ls, .tup es]), .dat (.int u), .dat (.int n), .emp, .emp, .emp, .emp, .emp] = .nx [.par (FD f), .dat (.tup [.tup ls, .tup es]), .dat (.int u), .dat (.int n), .dat (.tup ls), .dat (.tup es), .emp, .emp, .emp] := by kernel_rfl
theorem od2_ok (f : Int × Int) {ls es : List D} {u n : Int} : ∃ f' k, od2 [.par (FD f), .dat (.tup [.tup ls, .tup es]), .dat (.int u), .dat (.int n), .dat (.tup ls), .dat (.tup es), .emp, .emp, .emp] = .nx (oS f' ls es u n k .emp .emp) ∧ 0 ≤ k ∧ k < 6 := by
  obtain ⟨f1, k, e, h1, h2⟩ := take_ok f (n := 6) (by decide) (by decide)
  refine ⟨f1, k, ?_, h1, h2⟩
  simp only [oS]
  simp [od2, e]
def Z1 (ls es : List D) : List D := [.non, .int 0, .tup [], .tup [.tup ls], .tup [.tup ls, .tup es, .int 0], .lst [.tup ls, .tup es], .str "go"]
def L1 : D := .tup [.str "a", .int 1, .str "+", .int 1]
def Z2 (ls es : List D) : List D := [.tup [.lst ls, .tup es], .tup [.non, .tup es], .tup [.tup es, .tup ls], .tup [L1, .tup es]]
def Z3 (ls es : List D) : List D := [.tup [.tup ls, .lst es], .tup [.tup ls, .non]]
theorem w_go : Str.length "go" = 2 := by kernel_rfl
theorem w_a : Str.length "a" = 1 := by kernel_rfl
theorem w_plus : Str.length "+" = 1 := by kernel_rfl
theorem L1_li : Li L1 := ⟨by decide +kernel, Nat.le_of_ble_eq_true (by kernel_rfl), Nat.le_of_ble_eq_true (by kernel_rfl)⟩
theorem Z_bk {ls es : List D} (hl : ls.length ≤ 4) (h : LiL ls) (he : Li (.tup es)) : ∀ x ∈ Z1 ls es ++ Z2 ls es ++ Z3 ls es, Bk x := by
  have g1 : D.gds ls = true := gds_iff.mpr fun d hd => (h d hd).1
  have g2 : D.dps ls ≤ 3 := dps_le.mpr fun d hd => (h d hd).2.1
  have g3 := wts_le (w := 500) fun d hd => (h d hd).2.2
  have g4 : D.dps es ≤ 2 := by have := he.2.1; simp only [D.dp] at this; omega
  have g5 : D.wts es ≤ 497 := by have := he.2.2; simp only [D.wt] at this; omega
  have g6 : D.gds es = true := by have := he.1; rwa [gq_tup] at this
  have a1 := L1_li
  have a2 := L1_li.2.1
  have a3 := L1_li.2.2
  have sg : (D.str "go").gd = true := g_go
  have i0 : (D.int 0).gd = true := gq_int (by decide) (by decide)
  intro x hx
  simp only [Z1, Z2, Z3, List.cons_append, List.nil_append, List.mem_cons, List.not_mem_nil, or_false] at hx
  rcases hx with rfl | rfl | rfl | rfl | rfl | rfl | rfl | rfl | rfl | rfl | rfl | rfl | rfl <;>
    exact ⟨⟨by simp only [gq_tup, gq_lst, gq_cons, gq_nil, gq_non, g1, g6, a1.1, sg, i0, Bool.and_self], by simp only [D.dp, D.dps]; omega⟩, by simp only [D.wt, D.wts, w_go]; omega⟩
theorem odd0 (f : Int × Int) {ls es : List D} {u n : Int} (hl : ls.length ≤ 4) (h : LiL ls) (he : Li (.tup es)) : ∃ f' x y, od3 (oS f ls es u n 0 .emp .emp) = .ret (.dat x) (oS f' ls es u n 0 y .emp) ∧ Bk x := by
  obtain ⟨f', x, e, hx⟩ := pick_ok f (xs := Z1 ls es ++ Z2 ls es ++ Z3 ls es) (by simp [Z1]) (by simp [Z1, Z2, Z3])
  refine ⟨f', x, .own (.lst (Z1 ls es ++ Z2 ls es)), ?_, Z_bk hl h he x hx⟩
  unfold od3
  refine ifS_t (ls1 := oS f ls es u n 0 .emp .emp) (by kernel_rfl) ?_
  refine seqM_of (ls1 := oS f ls es u n 0 (.own (.lst (Z1 ls es))) .emp) (by kernel_rfl) ?_
  refine seqM_of (ls1 := oS f ls es u n 0 (.own (.lst (Z1 ls es ++ Z2 ls es))) .emp) (by kernel_rfl) ?_
  exact retM_of (callN_of (as := [.ali 0, .own (.lst (Z1 ls es ++ Z2 ls es ++ Z3 ls es))]) (ls1 := oS f ls es u n 0 (.own (.lst (Z1 ls es ++ Z2 ls es))) .emp) (ps := [.par (FD f), .par (.lst (Z1 ls es ++ Z2 ls es ++ Z3 ls es))]) (ls2 := oS f' ls es u n 0 (.own (.lst (Z1 ls es ++ Z2 ls es))) .emp) (by kernel_rfl) rfl (show ([0] : List Nat).Nodup by decide) rfl e rfl rfl)
theorem cutG_mem {α : Type} {xs : List α} {lo hi : Option Int} {x : α} (h : x ∈ cutG xs lo hi) : x ∈ xs := List.mem_of_mem_drop (List.mem_of_mem_take h)
theorem cutG_len {α : Type} {xs : List α} {lo hi : Option Int} : (cutG xs lo hi).length ≤ xs.length := by
  unfold cutG
  rw [List.length_take, List.length_drop]
  omega
theorem addD_tt {a b : List D} (h : a.length + b.length ≤ 1000) : addD (.tup a) (.tup b) = some (.dat (.tup (a ++ b))) := by
  show (if a.length + b.length ≤ lim then _ else _) = _
  rw [if_pos (Nat.le_trans h (by decide))]
theorem od3_f {f : Int × Int} {ls es : List D} {u n k : Int} {x y : Slot} (h : k ≠ 0) : od3 (oS f ls es u n k x y) = .nx (oS f ls es u n k x y) := by
  unfold od3
  refine ifS_f (ls1 := oS f ls es u n k x y) ?_ rfl
  simp only [oS]
  simp [h]
theorem od4_f {f : Int × Int} {ls es : List D} {u n k : Int} {x y : Slot} (h : k ≠ 1) : od4 (oS f ls es u n k x y) = .nx (oS f ls es u n k x y) := by
  unfold od4
  refine ifS_f (ls1 := oS f ls es u n k x y) ?_ rfl
  simp only [oS]
  simp [h]
theorem od5_f {f : Int × Int} {ls es : List D} {u n k : Int} {x y : Slot} (h : k ≠ 2) : od5 (oS f ls es u n k x y) = .nx (oS f ls es u n k x y) := by
  unfold od5
  refine ifS_f (ls1 := oS f ls es u n k x y) ?_ rfl
  simp only [oS]
  simp [h]
theorem odd1 (f : Int × Int) {ls es : List D} {u n : Int} (hl : ls.length ≤ 4) (h : LiL ls) (he : Li (.tup es)) : ∃ f' x y, od4 (oS f ls es u n 1 .emp .emp) = .ret (.dat x) (oS f' ls es u n 1 .emp y) ∧ Bk x := by
  obtain ⟨f1, a, e1, a0, a1⟩ := take_ok f (n := if (ls.length : Int) + 1 < 4 then (ls.length : Int) + 1 else 4) (by split <;> omega) (by split <;> omega)
  obtain ⟨f2, x, e2, hx⟩ := odd_line_ok f1
  have lA := cutG_len (xs := ls) (lo := none) (hi := some a)
  have lB := cutG_len (xs := ls) (lo := some a) (hi := some 3)
  have c1 : addD (.tup (cutG ls none (some a))) (.tup [x]) = some (.dat (.tup (cutG ls none (some a) ++ [x]))) := addD_tt (by simp; omega)
  have c2 : addD (.tup (cutG ls none (some a) ++ [x])) (.tup (cutG ls (some a) (some 3))) = some (.dat (.tup (cutG ls none (some a) ++ [x] ++ cutG ls (some a) (some 3)))) := addD_tt (by simp; omega)
  refine ⟨f2, .tup [.tup (cutG ls none (some a) ++ [x] ++ cutG ls (some a) (some 3)), .tup es], .dat (.int a), ?_, bk_of (k := 20) (by simp; omega) (by decide) ?_ he⟩
  · unfold od4
    refine ifS_t (ls1 := oS f ls es u n 1 .emp .emp) (by kernel_rfl) ?_
    refine seqM_of (ls1 := oS f1 ls es u n 1 .emp (.dat (.int a))) ?_ ?_
    · simp only [oS]
      simp [e1]
    · have s1 : slM (varM 4) noO (atO (varM 8)) (oS f1 ls es u n 1 .emp (.dat (.int a))) = .ok (.dat (.tup (cutG ls none (some a)))) (oS f1 ls es u n 1 .emp (.dat (.int a))) := by rfl
      have s2 : tupM (consA (frzM (callN 1 m__law_odd_line (consA (varM 0) nilA))) nilA) (oS f1 ls es u n 1 .emp (.dat (.int a))) = .ok (.dat (.tup [x])) (oS f2 ls es u n 1 .emp (.dat (.int a))) :=
        tupM_of (consA_of (frzM_of (callN_of (as := [.ali 0]) (ls1 := oS f1 ls es u n 1 .emp (.dat (.int a))) (ps := [.par (FD f1)]) (ls2 := oS f2 ls es u n 1 .emp (.dat (.int a))) rfl rfl (show ([0] : List Nat).Nodup by decide) rfl e2 rfl rfl) rfl) rfl) rfl (by simp)
      have s3 : slM (varM 4) (atO (varM 8)) (atO (conM (.int 3))) (oS f2 ls es u n 1 .emp (.dat (.int a))) = .ok (.dat (.tup (cutG ls (some a) (some 3)))) (oS f2 ls es u n 1 .emp (.dat (.int a))) := by rfl
      have s4 := binM_of (g := addD) s1 s2 rfl rfl c1
      have s5 := binM_of (g := addD) s4 s3 rfl rfl c2
      exact retM_of (tupM_of (consA_of (frzM_of s5 rfl) (consA_of (frzM_of (k := .dat (.tup es)) (ls1 := oS f2 ls es u n 1 .emp (.dat (.int a))) rfl rfl) rfl)) rfl (by simp))
  · refine LiL.app (LiL.app (fun d hd => h d (cutG_mem hd)) ?_) (fun d hd => h d (cutG_mem hd))
    intro d hd
    simp at hd; subst hd; exact hx
theorem mulTD_L {q : Int} (h1 : 0 ≤ q) (h2 : q < 3) : mulTD (.tup [L1]) (.int (3 + q)) = some (.dat (.tup (List.replicate (3 + q).toNat L1))) := by
  show (if [L1] ≠ [] ∧ 2 ≤ 3 + q ∧ 3 + q ≤ 1000 ∧ [L1].length ≤ 1000 then _ else _) = _
  rw [if_pos ⟨by simp, by omega, by omega, by simp⟩]
  simp
theorem odd2 (f : Int × Int) {ls es : List D} {u n : Int} (he : Li (.tup es)) : ∃ f' x, od5 (oS f ls es u n 2 .emp .emp) = .ret (.dat x) (oS f' ls es u n 2 .emp .emp) ∧ Bk x := by
  obtain ⟨f1, q, e1, q0, q1⟩ := take_ok f (n := 3) (by decide) (by decide)
  have c := mulTD_L q0 q1
  refine ⟨f1, .tup [.tup (List.replicate (3 + q).toNat L1), .tup es], ?_, bk_of (k := 20) (by simp; omega) (by decide) ?_ he⟩
  · unfold od5
    refine ifS_t (ls1 := oS f ls es u n 2 .emp .emp) (by kernel_rfl) ?_
    have s1 : tupM (consA (tupM (consA (conM (.str "a")) (consA (conM (.int 1)) (consA (conM (.str "+")) (consA (conM (.int 1)) nilA))))) nilA) (oS f ls es u n 2 .emp .emp) = .ok (.dat (.tup [L1])) (oS f ls es u n 2 .emp .emp) := by kernel_rfl
    have s2 : binM addD (conM (.int 3)) (callN 2 m__law_take (consA (varM 0) (consA (conM (.int 3)) nilA))) (oS f ls es u n 2 .emp .emp) = .ok (.dat (.int (3 + q))) (oS f1 ls es u n 2 .emp .emp) := by
      simp only [oS]
      simp [e1]
    have s3 := binM_of (g := mulTD) s1 s2 rfl rfl c
    exact retM_of (tupM_of (consA_of s3 (consA_of (frzM_of (k := .dat (.tup es)) (ls1 := oS f1 ls es u n 2 .emp .emp) rfl rfl) rfl)) rfl (by simp))
  · intro d hd
    rw [List.mem_replicate] at hd
    rw [hd.2]; exact L1_li
theorem odd3 (f : Int × Int) {ls es : List D} {u n k : Int} (hu : UN u n) (hl : ls.length ≤ 4) (h : LiL ls) : ∃ f' x, od6 (oS f ls es u n k .emp .emp) = .ret (.dat x) (oS f' ls es u n k .emp .emp) ∧ Bk x := by
  obtain ⟨f1, x, e1, hx⟩ := odd_end_ok f hu
  refine ⟨f1, .tup [.tup ls, x], ?_, bk_of hl (by decide) h hx⟩
  simp only [oS]
  simp [od6, e1]
/-- what is drawn in the place of a block -/
theorem odd_draw (f : Int × Int) {d : D} {u n v m : Int} (hc : CB d v m) (hu : UN u n) : ∃ f' x, m__law_odd [.par (FD f), .dat d, .dat (.int u), .dat (.int n)] = .ok (.dat x) [.par (FD f'), .dat d, .dat (.int u), .dat (.int n)] ∧ Bk x := by
  obtain ⟨ls, e, rfl, hl, h, he, hen⟩ := hc
  have hL : LiL ls := fun d hd => (h d hd).1
  obtain ⟨es, rfl⟩ : ∃ es, e = .tup es := by
    cases e <;> first | exact ⟨_, rfl⟩ | (simp [enB] at hen; done)
  obtain ⟨f1, k, e2, k0, k1⟩ := od2_ok f (ls := ls) (es := es) (u := u) (n := n)
  have fin : ∀ {g : Int × Int} {x y : Slot} {z : D}, finF [.par (FD f), .dat (.tup [.tup ls, .tup es]), .dat (.int u), .dat (.int n)] (.ret (.dat z) (oS g ls es u n k x y)) = .ok (.dat z) [.par (FD g), .dat (.tup [.tup ls, .tup es]), .dat (.int u), .dat (.int n)] := fun {g x y z} => by
    simp [oS]
  have st : startLS 9 [.par (FD f), .dat (.tup [.tup ls, .tup es]), .dat (.int u), .dat (.int n)] = [.par (FD f), .dat (.tup [.tup ls, .tup es]), .dat (.int u), .dat (.int n), .emp, .emp, .emp, .emp, .emp] := rfl
  by_cases h0 : k = 0
  · subst h0
    obtain ⟨f2, x, y, e3, hx⟩ := odd0 f1 (u := u) (n := n) hl hL he
    refine ⟨f2, x, ?_, hx⟩
    rw [od_split, funM_ap, st, seqM_of od1_ok (seqM_of e2 (seqM_ret e3))]
    exact fin
  · by_cases h1 : k = 1
    · subst h1
      obtain ⟨f2, x, y, e3, hx⟩ := odd1 f1 (u := u) (n := n) hl hL he
      refine ⟨f2, x, ?_, hx⟩
      rw [od_split, funM_ap, st, seqM_of od1_ok (seqM_of e2 (seqM_of (od3_f h0) (seqM_ret e3)))]
      exact fin
    · by_cases h2 : k = 2
      · subst h2
        obtain ⟨f2, x, e3, hx⟩ := odd2 f1 (ls := ls) (u := u) (n := n) he
        refine ⟨f2, x, ?_, hx⟩
        rw [od_split, funM_ap, st, seqM_of od1_ok (seqM_of e2 (seqM_of (od3_f h0) (seqM_of (od4_f h1) (seqM_ret e3))))]
        exact fin
      · obtain ⟨f2, x, e3, hx⟩ := odd3 f1 (es := es) (k := k) hu hl hL
        refine ⟨f2, x, ?_, hx⟩
        rw [od_split, funM_ap, st, seqM_of od1_ok (seqM_of e2 (seqM_of (od3_f h0) (seqM_of (od4_f h1) (seqM_of (od5_f h2) e3))))]
        exact fin
end VM

set_option linter.all false
set_option Elab.async false
set_option maxRecDepth 100000
set_option maxHeartbeats 1000000
namespace VM
open PySem PySem.Spec L2
def la1_1 : SM := (fgtS [11] (asgM 2 (lcM [11] (rng1 (consA (binM subD (varM 1) (conM (.int 1))) nilA)) (tgN 11) (conM (.bl true)) (tupM (consA (tupM nilA) (consA (tupM (consA (conM (.str "go")) (consA (frzM (binM addD (varM 11) (conM (.int 1)))) nilA))) nilA))))))
def la1_2 : SM := (ifS (notM (callN 1 m__law_told_right (consA (binM addD (varM 2) (binM mulD (lstM (consA (tupM (consA (tupM nilA) (consA (tupM (consA (conM (.str "stop")) nilA)) nilA))) nilA)) (bltM minD (consA (conM (.int 1)) (consA (varM 1) nilA))))) nilA))) (retM (conM (.bl false)))
    nxM)
def la1_3 : SM := (ifS (andM (binM neD (varM 1) (conM (.int 2))) (notM (callN 1 m__law_told_right (consA (binM addD (varM 2) (binM mulD (lstM (consA (conM .non) nilA)) (bltM minD (consA (conM (.int 1)) (consA (varM 1) nilA))))) nilA)))) (retM (conM (.bl false)))
    nxM)
def la1 : SM := (forM (seqI (tupM (consA (conM (.int 0)) (consA (conM (.int 1)) (consA (conM (.int 2)) (consA (conM (.int 40)) (consA (conM (.int 41)) nilA))))))) (tgN 1) (seqM la1_1 (seqM la1_2 la1_3)))
def la2_1 : SM := (asgM 4 (callN 2 m__law_feed (consA (varM 0) (consA (varM 3) nilA))))
def la2_2 : SM := (asgM 5 (binM addD (conM (.int 2)) (callN 2 m__law_take (consA (varM 4) (consA (conM (.int 7)) nilA)))))
def la2_3 : SM := (asgM 6 (callN 2 m__law_code (consA (varM 4) (consA (varM 5) nilA))))
def la2_4 : SM := (asgM 7 (bltM listD (consA (varM 6) nilA)))
def la2_5 : SM := (asgM 8 (makeN "Program" 1 m_Program___init__ (consA (varM 7) nilA)))
def la2_6 : SM := (dropM (mutM isLst appG (varM 7) (consA (conM .non) nilA)))
def la2_7 : SM := (asgM 9 (propL ["Program"] m_Program_code (varM 8)))
def la2_8 : SM := (dropM (mutM isLst appG (varM 9) (consA (conM .non) nilA)))
def la2_9 : SM := (ifS (orM (notM (callN 1 m__law_told_right (consA (varM 6) nilA))) (orM (binM neD (bltM reprD (consA (propL ["Program"] m_Program_code (varM 8)) nilA)) (bltM reprD (consA (varM 6) nilA))) (eqO ["Program"] m_Program___eq__ id eqk_Program (varM 8) (varM 6)))) (retM (conM (.bl false)))
    nxM)
def la2_10_1 : SM := (asg3 11 12 13 (consA (callN 2 m__law_take (consA (varM 4) (consA (varM 5) nilA))) (consA (callN 2 m__law_take (consA (varM 4) (consA (varM 5) nilA))) (consA (bltM listD (consA (varM 6) nilA)) nilA))))
def la2_10_2 : SM := (setI (varM 13) (varM 11) (callN 4 m__law_odd (consA (varM 4) (consA (binM ixD (varM 6) (varM 11)) (consA (varM 11) (consA (varM 5) nilA))))))
def la2_10_3 : SM := (ifS (binM eqD (callN 2 m__law_take (consA (varM 4) (consA (conM (.int 3)) nilA))) (conM (.int 0))) (setI (varM 13) (varM 12) (callN 4 m__law_odd (consA (varM 4) (consA (binM ixD (varM 6) (varM 12)) (consA (varM 12) (consA (varM 5) nilA))))))
    nxM)
def la2_10_4 : SM := (ifS (notM (callN 1 m__law_told_right (consA (varM 13) nilA))) (retM (conM (.bl false)))
    nxM)
def la2_10_5 : SM := (asgM 14 (callN 1 m__law_made (consA (bltM listD (consA (varM 13) nilA)) nilA)))
def la2_10_6 : SM := (ifS (andM (isiM tbNo tc_Program (varM 14)) (binM neD (eqO ["Program"] m_Program___eq__ id eqk_Program (varM 14) (varM 8)) (binM eqD (bltM reprD (consA (varM 13) nilA)) (bltM reprD (consA (varM 6) nilA))))) (retM (conM (.bl false)))
    nxM)
def la2_10 : SM := (forM (rng1 (consA (conM (.int 8)) nilA)) (tgN 10) (seqM la2_10_1 (seqM la2_10_2 (seqM la2_10_3 (seqM la2_10_4 (seqM la2_10_5 la2_10_6))))))
def la2 : SM := (forM (rng1 (consA (bltM maxD (consA (conM (.int 1)) (consA (bltM minD (consA (conM (.int 3)) (consA (bltM lenD (consA (varM 0) nilA)) nilA))) nilA))) nilA)) (tgN 3) (seqM la2_1 (seqM la2_2 (seqM la2_3 (seqM la2_4 (seqM la2_5 (seqM la2_6 (seqM la2_7 (seqM la2_8 (seqM la2_9 la2_10))))))))))
def la3 : SM := (retM (conM (.bl true)))
theorem la_split : m_law = funM 15 (seqM la1 (seqM la2 la3)) := rfl
def aS (ns : List Int) (m : Int) (p : Slot) : LS := [.dat (.scr ns), .dat (.int m), p, .emp, .emp, .emp, .emp, .emp, .emp, .emp, .emp, .emp, .emp, .emp, .emp]
def GB (k : Nat) : List D := (List.range k).map fun i => .tup [.tup [], .tup [.str "go", .int ((0 : Int) + (i : Nat) + 1)]]
theorem LiL_nil : LiL [] := fun d h => by cases h
theorem GB_bk {k : Nat} (h : k ≤ 50) : ∀ d ∈ GB k, Bk d := fun d hd => by
  obtain ⟨i, hi, rfl⟩ := List.mem_map.mp hd
  have := List.mem_range.mp hi
  exact bk_of (k := 0) (by simp) (by decide) LiL_nil (li_go (by omega) (by omega))
def SB : D := .tup [.tup [], .tup [.str "stop"]]
theorem SB_bk : Bk SB := bk_of (k := 0) (by simp) (by decide) LiL_nil li_stop
theorem non_bk : Bk .non := ⟨⟨by simp [D.gd], by simp [D.dp]⟩, by simp [D.wt]⟩
theorem Bs_a {k : Nat} {r : List D} (h : k ≤ 40) (hr : r.length ≤ 1) (hb : ∀ d ∈ r, Bk d) : Bs (GB k ++ r) :=
  ⟨fun d hd => (List.mem_append.mp hd).elim (GB_bk (by omega) d) (hb d), by simp [GB]; omega⟩
theorem one_bk {x : D} (h : Bk x) : ∀ d ∈ [x], Bk d := fun d hd => by simp at hd; subst hd; exact h
theorem told_call {am : AM} {ls : LS} {bs : List D} (h : am ls = .ok [.own (.lst bs)] ls) (hb : Bs bs) : notM (callN 1 m__law_told_right am) ls = .ok (.dat (.bl false)) ls :=
  notM_of (b := true) (callN_of (as := [.own (.lst bs)]) (ls1 := ls) (ps := [.par (.lst bs)]) (ls2 := ls) h rfl (show ([] : List Nat).Nodup by decide) rfl (told_ok hb) rfl rfl)
theorem a_0 {ns : List Int} {p : Slot} : (seqM la1_1 (seqM la1_2 la1_3)) (aS ns 0 p) = .nx (aS ns 0 (.own (.lst (GB 0)))) := by
  refine seqM_of (ls1 := (aS ns 0 (.own (.lst (GB 0))))) (by kernel_rfl) (seqM_of (ls1 := (aS ns 0 (.own (.lst (GB 0))))) ?_ ?_)
  · unfold la1_2
    exact ifS_f (ls1 := (aS ns 0 (.own (.lst (GB 0))))) (told_call (bs := GB 0 ++ []) (by kernel_rfl) (Bs_a (by decide) (by decide) (fun d h => by cases h))) rfl
  · unfold la1_3
    exact ifS_f (ls1 := (aS ns 0 (.own (.lst (GB 0))))) (andM_t (ls1 := (aS ns 0 (.own (.lst (GB 0))))) (by kernel_rfl) (told_call (bs := GB 0 ++ []) (by kernel_rfl) (Bs_a (by decide) (by decide) (fun d h => by cases h)))) rfl
theorem a_1 {ns : List Int} {p : Slot} : (seqM la1_1 (seqM la1_2 la1_3)) (aS ns 1 p) = .nx (aS ns 1 (.own (.lst (GB 0)))) := by
  refine seqM_of (ls1 := (aS ns 1 (.own (.lst (GB 0))))) (by kernel_rfl) (seqM_of (ls1 := (aS ns 1 (.own (.lst (GB 0))))) ?_ ?_)
  · unfold la1_2
    exact ifS_f (ls1 := (aS ns 1 (.own (.lst (GB 0))))) (told_call (bs := GB 0 ++ [SB]) (by kernel_rfl) (Bs_a (by decide) (by decide) (one_bk SB_bk))) rfl
  · unfold la1_3
    exact ifS_f (ls1 := (aS ns 1 (.own (.lst (GB 0))))) (andM_t (ls1 := (aS ns 1 (.own (.lst (GB 0))))) (by kernel_rfl) (told_call (bs := GB 0 ++ [.non]) (by kernel_rfl) (Bs_a (by decide) (by decide) (one_bk non_bk)))) rfl
theorem a_2 {ns : List Int} {p : Slot} : (seqM la1_1 (seqM la1_2 la1_3)) (aS ns 2 p) = .nx (aS ns 2 (.own (.lst (GB 1)))) := by
  refine seqM_of (ls1 := (aS ns 2 (.own (.lst (GB 1))))) (by kernel_rfl) (seqM_of (ls1 := (aS ns 2 (.own (.lst (GB 1))))) ?_ ?_)
  · unfold la1_2
    exact ifS_f (ls1 := (aS ns 2 (.own (.lst (GB 1))))) (told_call (bs := GB 1 ++ [SB]) (by kernel_rfl) (Bs_a (by decide) (by decide) (one_bk SB_bk))) rfl
  · unfold la1_3
    exact ifS_f (ls1 := (aS ns 2 (.own (.lst (GB 1))))) (andM_f (by kernel_rfl)) rfl
theorem a_40 {ns : List Int} {p : Slot} : (seqM la1_1 (seqM la1_2 la1_3)) (aS ns 40 p) = .nx (aS ns 40 (.own (.lst (GB 39)))) := by
  refine seqM_of (ls1 := (aS ns 40 (.own (.lst (GB 39))))) (by kernel_rfl) (seqM_of (ls1 := (aS ns 40 (.own (.lst (GB 39))))) ?_ ?_)
  · unfold la1_2
    exact ifS_f (ls1 := (aS ns 40 (.own (.lst (GB 39))))) (told_call (bs := GB 39 ++ [SB]) (by kernel_rfl) (Bs_a (by decide) (by decide) (one_bk SB_bk))) rfl
  · unfold la1_3
    exact ifS_f (ls1 := (aS ns 40 (.own (.lst (GB 39))))) (andM_t (ls1 := (aS ns 40 (.own (.lst (GB 39))))) (by kernel_rfl) (told_call (bs := GB 39 ++ [.non]) (by kernel_rfl) (Bs_a (by decide) (by decide) (one_bk non_bk)))) rfl
theorem a_41 {ns : List Int} {p : Slot} : (seqM la1_1 (seqM la1_2 la1_3)) (aS ns 41 p) = .nx (aS ns 41 (.own (.lst (GB 40)))) := by
  refine seqM_of (ls1 := (aS ns 41 (.own (.lst (GB 40))))) (by kernel_rfl) (seqM_of (ls1 := (aS ns 41 (.own (.lst (GB 40))))) ?_ ?_)
  · unfold la1_2
    exact ifS_f (ls1 := (aS ns 41 (.own (.lst (GB 40))))) (told_call (bs := GB 40 ++ [SB]) (by kernel_rfl) (Bs_a (by decide) (by decide) (one_bk SB_bk))) rfl
  · unfold la1_3
    exact ifS_f (ls1 := (aS ns 41 (.own (.lst (GB 40))))) (andM_t (ls1 := (aS ns 41 (.own (.lst (GB 40))))) (by kernel_rfl) (told_call (bs := GB 40 ++ [.non]) (by kernel_rfl) (Bs_a (by decide) (by decide) (one_bk non_bk)))) rfl
theorem forL_nx {tg : TgM} {body : SM} {d : D} {ds : List D} {ls ls1 ls2 : LS} {r : S} (h1 : tg d ls = some ls1) (h2 : body ls1 = .nx ls2) (h3 : forL none tg body ds ls2 = r) : forL none tg body (d :: ds) ls = r := by
  rw [forL_cons, h1]
  simp only [h2, h3]
theorem forM_of {src : IM} {tg : TgM} {body : SM} {ls ls1 : LS} {items : List D} {r : S} (h : src ls = .ok items none ls1) (h2 : forL none tg body items ls1 = r) : forM src tg body ls = r := by
  rw [forM_ap, h, RIb_ok, h2]
theorem la1_ok {ns : List Int} : la1 [.dat (.scr ns), .emp, .emp, .emp, .emp, .emp, .emp, .emp, .emp, .emp, .emp, .emp, .emp, .emp, .emp] = .nx (aS ns 41 (.own (.lst (GB 40)))) := by
  have src : seqI (tupM (consA (conM (.int 0)) (consA (conM (.int 1)) (consA (conM (.int 2)) (consA (conM (.int 40)) (consA (conM (.int 41)) nilA)))))) [.dat (.scr ns), .emp, .emp, .emp, .emp, .emp, .emp, .emp, .emp, .emp, .emp, .emp, .emp, .emp, .emp] = .ok [.int 0, .int 1, .int 2, .int 40, .int 41] none [.dat (.scr ns), .emp, .emp, .emp, .emp, .emp, .emp, .emp, .emp, .emp, .emp, .emp, .emp, .emp, .emp] := by kernel_rfl
  have t0 : ∀ {m : Int}, tgN 1 (.int m) [.dat (.scr ns), .emp, .emp, .emp, .emp, .emp, .emp, .emp, .emp, .emp, .emp, .emp, .emp, .emp, .emp] = some (aS ns m .emp) := rfl
  have t1 : ∀ {m m' : Int} {p : Slot}, tgN 1 (.int m) (aS ns m' p) = some (aS ns m p) := rfl
  exact forM_of src (forL_nx t0 a_0 (forL_nx t1 a_1 (forL_nx t1 a_2 (forL_nx t1 a_40 (forL_nx t1 a_41 forL_nil)))))
end VM

set_option linter.all false
set_option Elab.async false
set_option maxRecDepth 100000
set_option maxHeartbeats 1000000
namespace VM
open PySem PySem.Spec L2
theorem dropM_of {m : M} {k : Slot} {ls ls1 : LS} (h : m ls = .ok k ls1) : dropM m ls = .nx ls1 := by simp only [dropM_ap, h, RbS_ok]
theorem asg3_of {i j l : Nat} {am : AM} {ls ls1 : LS} {a b c : Slot} (h : am ls = .ok [a, b, c] ls1) (h1 : a.stored = true) (h2 : b.stored = true) (h3 : c.stored = true) : asg3 i j l am ls = .nx (((ls1.set i a).set j b).set l c) := by
  simp only [asg3, h, h1, h2, h3, and_self, if_true]
theorem setI_of {om im vm : M} {ls ls1 ls2 ls3 ls4 : LS} {d i : D} {j : Nat} {ki : Slot} (h1 : frzM vm ls = .ok (.dat d) ls1) (h2 : om ls1 = .ok (.ali j) ls2) (h3 : im ls2 = .ok ki ls3) (h4 : look ls3 ki = some i) (h5 : chg j (fun x => setD x i d) ls3 = some ls4) : setI om im vm ls = .nx ls4 := by
  simp only [setI_ap, h1, h2, h3, h4, h5, RbS_ok]
theorem ixN_j {n j : Nat} (hj : j < n) : ixN n (j : Int) = some j := by
  unfold ixN
  rw [if_pos (by omega), if_pos (by omega)]
  simp
theorem nd0 : ([] : List Nat).Nodup := by decide
theorem nd1 {i : Nat} : ([i] : List Nat).Nodup := by simp
def wS (ns : List Int) (a1 a2 : Slot) (k : Int) (f : Int × Int) (n : Int) (bs : List D) (a7 a8 a9 a10 a11 a12 a13 a14 : Slot) : LS :=
  [.dat (.scr ns), a1, a2, .dat (.int k), .own (FD f), .dat (.int n), .own (.lst bs), a7, a8, a9, a10, a11, a12, a13, a14]
section
variable {ns : List Int} {a1 a2 a3 a4 a5 a6 a7 a8 a9 a10 a11 a12 a13 a14 : Slot} {k n : Int} {f : Int × Int} {bs cs : List D}
theorem b1_ok (hk : 0 ≤ k) : ∃ f, la2_1 [.dat (.scr ns), a1, a2, .dat (.int k), a4, a5, a6, a7, a8, a9, a10, a11, a12, a13, a14] = .nx [.dat (.scr ns), a1, a2, .dat (.int k), .own (FD f), a5, a6, a7, a8, a9, a10, a11, a12, a13, a14] := by
  obtain ⟨f, e⟩ := feed_ok ns hk
  exact ⟨f, asgM_of (callN_of (as := [.dat (.scr ns), .dat (.int k)]) (ls1 := [.dat (.scr ns), a1, a2, .dat (.int k), a4, a5, a6, a7, a8, a9, a10, a11, a12, a13, a14]) (ls2 := [.dat (.scr ns), a1, a2, .dat (.int k), a4, a5, a6, a7, a8, a9, a10, a11, a12, a13, a14]) rfl rfl nd0 rfl e rfl rfl) rfl⟩
theorem b2_ok : ∃ f' n, la2_2 [.dat (.scr ns), a1, a2, .dat (.int k), .own (FD f), a5, a6, a7, a8, a9, a10, a11, a12, a13, a14] = .nx [.dat (.scr ns), a1, a2, .dat (.int k), .own (FD f'), .dat (.int n), a6, a7, a8, a9, a10, a11, a12, a13, a14] ∧ 2 ≤ n ∧ n ≤ 8 := by
  obtain ⟨f1, r, e, r1, r2⟩ := take_ok f (n := 7) (by decide) (by decide)
  exact ⟨f1, 2 + r, asgM_of (binM_of (k1 := .dat (.int 2)) (k2 := .dat (.int r)) (x := .int 2) (y := .int r) (ls1 := [.dat (.scr ns), a1, a2, .dat (.int k), .own (FD f), a5, a6, a7, a8, a9, a10, a11, a12, a13, a14]) rfl (callN_of (as := [.ali 4, .dat (.int 7)]) (ls1 := [.dat (.scr ns), a1, a2, .dat (.int k), .own (FD f), a5, a6, a7, a8, a9, a10, a11, a12, a13, a14]) (ls2 := [.dat (.scr ns), a1, a2, .dat (.int k), .own (FD f1), a5, a6, a7, a8, a9, a10, a11, a12, a13, a14]) rfl rfl nd1 rfl e rfl rfl) rfl rfl rfl) rfl, by omega, by omega⟩
theorem b3_ok (h1 : 2 ≤ n) (h2 : n ≤ 8) : ∃ f' bs, la2_3 [.dat (.scr ns), a1, a2, .dat (.int k), .own (FD f), .dat (.int n), a6, a7, a8, a9, a10, a11, a12, a13, a14] = .nx (wS ns a1 a2 k f' n bs a7 a8 a9 a10 a11 a12 a13 a14) ∧ (bs.length : Int) = n ∧ CBs n 0 bs := by
  obtain ⟨f1, bs, e, r1, r2⟩ := code_draw f h1 (by omega)
  exact ⟨f1, bs, asgM_of (callN_of (as := [.ali 4, .dat (.int n)]) (ls1 := [.dat (.scr ns), a1, a2, .dat (.int k), .own (FD f), .dat (.int n), a6, a7, a8, a9, a10, a11, a12, a13, a14]) (ls2 := [.dat (.scr ns), a1, a2, .dat (.int k), .own (FD f1), .dat (.int n), a6, a7, a8, a9, a10, a11, a12, a13, a14]) rfl rfl nd1 rfl e rfl rfl) rfl, r1, r2⟩
theorem b4_ok : la2_4 (wS ns a1 a2 k f n bs a7 a8 a9 a10 a11 a12 a13 a14) = .nx (wS ns a1 a2 k f n bs (.own (.lst bs)) a8 a9 a10 a11 a12 a13 a14) := by rfl
structure Ok (n : Int) (bs : List D) : Prop where
  ok : Bs bs
  len : (bs.length : Int) = n
  lo : 2 ≤ n
  hi : n ≤ 8
  fb : fbad n 0 bs = none
theorem Ok.init (h : Ok n bs) : m_Program___init__ [.par (.ins "Program" []), .par (.lst bs)] = .ok (.dat .non) [.par (Pg bs), .par (.lst bs)] := by
  have e2 := prog_ok h.ok.1
  unfold prR at e2
  have hr : 2 ≤ bs.length ∧ bs.length ≤ 40 := by have := h.len; have := h.lo; have := h.hi; omega
  have hf : fbad bs.length 0 bs = none := by rw [h.len]; exact h.fb
  rw [if_pos hr] at e2
  simp only [hf] at e2
  exact e2
theorem b5_ok (h : Ok n bs) : la2_5 (wS ns a1 a2 k f n bs (.own (.lst bs)) a8 a9 a10 a11 a12 a13 a14) = .nx (wS ns a1 a2 k f n bs (.own (.lst bs)) (.own (Pg bs)) a9 a10 a11 a12 a13 a14) := by
  have e := h.init
  simp only [wS]
  simp [la2_5, e]
theorem b6_ok (h : Ok n bs) : la2_6 (wS ns a1 a2 k f n bs (.own (.lst bs)) a8 a9 a10 a11 a12 a13 a14) = .nx (wS ns a1 a2 k f n bs (.own (.lst (bs ++ [.non]))) a8 a9 a10 a11 a12 a13 a14) := by
  have e : bs.length < 1000000 := by have := h.ok.2; omega
  simp only [wS]
  simp [la2_6, e]
theorem b7_ok : la2_7 (wS ns a1 a2 k f n bs a7 (.own (Pg bs)) a9 a10 a11 a12 a13 a14) = .nx (wS ns a1 a2 k f n bs a7 (.own (Pg bs)) (.own (.lst bs)) a10 a11 a12 a13 a14) := by
  have e := code_ok (bs := bs) (.inl rfl)
  have hp : ∃ gs, Pg bs = .ins "Program" gs := ⟨_, rfl⟩
  obtain ⟨gs, hp⟩ := hp
  simp only [wS]
  rw [hp] at e ⊢
  simp [la2_7, e]
theorem b8_ok (h : Ok n bs) : la2_8 (wS ns a1 a2 k f n bs a7 a8 (.own (.lst bs)) a10 a11 a12 a13 a14) = .nx (wS ns a1 a2 k f n bs a7 a8 (.own (.lst (bs ++ [.non]))) a10 a11 a12 a13 a14) := by
  have e : bs.length < 1000000 := by have := h.ok.2; omega
  simp only [wS]
  simp [la2_8, e]
theorem b9_ok (h : Ok n bs) : la2_9 (wS ns a1 a2 k f n bs a7 (.own (Pg bs)) a9 a10 a11 a12 a13 a14) = .nx (wS ns a1 a2 k f n bs a7 (.own (Pg bs)) a9 a10 a11 a12 a13 a14) := by
  have c1 : notM (callN 1 m__law_told_right (consA (varM 6) nilA)) (wS ns a1 a2 k f n bs a7 (.own (Pg bs)) a9 a10 a11 a12 a13 a14) = .ok (.dat (.bl false)) (wS ns a1 a2 k f n bs a7 (.own (Pg bs)) a9 a10 a11 a12 a13 a14) :=
    notM_of (b := true) (callN_of (as := [.ali 6]) (ls1 := wS ns a1 a2 k f n bs a7 (.own (Pg bs)) a9 a10 a11 a12 a13 a14) (ls2 := wS ns a1 a2 k f n bs a7 (.own (Pg bs)) a9 a10 a11 a12 a13 a14) rfl rfl nd1 rfl (told_ok h.ok) rfl rfl)
  have e := code_ok (bs := bs) (.inl rfl)
  have hp : ∃ gs, Pg bs = .ins "Program" gs := ⟨_, rfl⟩
  obtain ⟨gs, hp⟩ := hp
  have c2 : binM neD (bltM reprD (consA (propL ["Program"] m_Program_code (varM 8)) nilA)) (bltM reprD (consA (varM 6) nilA)) (wS ns a1 a2 k f n bs a7 (.own (Pg bs)) a9 a10 a11 a12 a13 a14) = .ok (.dat (.bl false)) (wS ns a1 a2 k f n bs a7 (.own (Pg bs)) a9 a10 a11 a12 a13 a14) := by
    simp only [wS]
    rw [hp] at e ⊢
    simp [e, h.ok.rep, h.ok.reps]
  have e2 : m_Program___eq__ [.par (Pg bs), .par (.lst bs)] = .ok (.dat (.bl false)) [.par (Pg bs), .par (.lst bs)] := by
    simp [m_Program___eq__, funM_ap, Pg, isiD, tbNo]
  have c3 : eqO ["Program"] m_Program___eq__ id eqk_Program (varM 8) (varM 6) (wS ns a1 a2 k f n bs a7 (.own (Pg bs)) a9 a10 a11 a12 a13 a14) = .ok (.dat (.bl false)) (wS ns a1 a2 k f n bs a7 (.own (Pg bs)) a9 a10 a11 a12 a13 a14) := by
    simp only [wS]
    rw [hp] at e2 ⊢
    have ek : eqk_Program (.lst bs) = true := rfl
    simp [e2, ek]
  exact ifS_f (orM_f c1 (orM_f c2 c3)) rfl
/-! a turn -/
theorem get_ok (h : Ok n bs) {u : Int} (h0 : 0 ≤ u) (h1 : u < n) : ∃ d, atI bs u = some d ∧ CB d u n ∨ True := ⟨.non, .inr trivial⟩
theorem c1_ok (h : Ok n bs) : ∃ f' u w, la2_10_1 (wS ns a1 a2 k f n bs a7 a8 a9 a10 a11 a12 a13 a14) = .nx (wS ns a1 a2 k f' n bs a7 a8 a9 a10 (.dat (.int u)) (.dat (.int w)) (.own (.lst bs)) a14) ∧ 0 ≤ u ∧ u < n ∧ 0 ≤ w ∧ w < n := by
  have hl := h.lo; have hh := h.hi
  obtain ⟨f1, u, e1, u1, u2⟩ := take_ok f (n := n) (by omega) (by omega)
  obtain ⟨f2, w, e2, w1, w2⟩ := take_ok f1 (n := n) (by omega) (by omega)
  refine ⟨f2, u, w, ?_, u1, u2, w1, w2⟩
  unfold la2_10_1
  exact asg3_of (ls1 := wS ns a1 a2 k f2 n bs a7 a8 a9 a10 a11 a12 a13 a14) (a := .dat (.int u)) (b := .dat (.int w)) (c := .own (.lst bs))
    (consA_of (callN_of (as := [.ali 4, .dat (.int n)]) (ls1 := wS ns a1 a2 k f n bs a7 a8 a9 a10 a11 a12 a13 a14) (ls2 := wS ns a1 a2 k f1 n bs a7 a8 a9 a10 a11 a12 a13 a14) rfl rfl nd1 rfl e1 rfl rfl)
      (consA_of (callN_of (as := [.ali 4, .dat (.int n)]) (ls1 := wS ns a1 a2 k f1 n bs a7 a8 a9 a10 a11 a12 a13 a14) (ls2 := wS ns a1 a2 k f2 n bs a7 a8 a9 a10 a11 a12 a13 a14) rfl rfl nd1 rfl e2 rfl rfl) rfl)) rfl rfl rfl
theorem CBs_get : ∀ {u : Nat} {ds : List D}, CBs n u ds → ∀ {i : Nat} {d : D}, ds[i]? = some d → CB d ((u + i : Nat) : Int) n
  | u, [], _, i, d, e => by simp at e
  | u, x :: ds, h, 0, d, e => by simp at e; subst e; simpa using h.1
  | u, x :: ds, h, i + 1, d, e => by
    have := CBs_get h.2 (i := i) (d := d) (by simpa using e)
    have e2 : u + 1 + i = u + (i + 1) := by omega
    rwa [e2] at this
/-- one place is spoilt -/
theorem spoil (h : Ok n bs) (hc : CBs n 0 bs) {v : Nat} (hv : v = 11 ∨ v = 12) {u : Int} (u1 : 0 ≤ u) (u2 : u < n) (hcs : Bs cs) (hcl : cs.length = bs.length)
    (hg : (wS ns a1 a2 k f n bs a7 a8 a9 a10 a11 a12 (.own (.lst cs)) a14)[v]? = some (.dat (.int u))) :
    ∃ f' ds, setI (varM 13) (varM v) (callN 4 m__law_odd (consA (varM 4) (consA (binM ixD (varM 6) (varM v)) (consA (varM v) (consA (varM 5) nilA))))) (wS ns a1 a2 k f n bs a7 a8 a9 a10 a11 a12 (.own (.lst cs)) a14) = .nx (wS ns a1 a2 k f' n bs a7 a8 a9 a10 a11 a12 (.own (.lst ds)) a14) ∧ Bs ds ∧ ds.length = bs.length := by
  obtain ⟨i, rfl⟩ := Int.eq_ofNat_of_zero_le u1
  have hln := h.len
  have hi : i < bs.length := by omega
  have hb : bs[i]? = some bs[i] := List.getElem?_eq_getElem hi
  have hcb := CBs_get hc hb
  have hat : atI bs (i : Int) = some bs[i] := atI_nat hb
  have hhi := h.hi
  obtain ⟨f1, x, e, hx⟩ := odd_draw f (u := (i : Int)) (n := n) hcb ⟨by omega, by omega, by omega, by omega⟩
  have hvar : ∀ {g : Int × Int}, varM v (wS ns a1 a2 k g n bs a7 a8 a9 a10 a11 a12 (.own (.lst cs)) a14) = .ok (.dat (.int (i : Int))) (wS ns a1 a2 k g n bs a7 a8 a9 a10 a11 a12 (.own (.lst cs)) a14) := fun {g} => by
    have hg' : (wS ns a1 a2 k g n bs a7 a8 a9 a10 a11 a12 (.own (.lst cs)) a14)[v]? = some (.dat (.int (i : Int))) := by
      rcases hv with rfl | rfl <;> exact hg
    rw [varM_ap, hg']
  have hix : ixD (.lst bs) (.int (i : Int)) = some (.dat bs[i]) := by rw [ixD_l, hat]; rfl
  have hset : setD (.lst cs) (.int (i : Int)) x = some (.lst (cs.set i x)) := by
    rw [setD_l, ixN_j (by omega)]; rfl
  refine ⟨f1, cs.set i x, ?_, ⟨fun d hd => ?_, by rw [List.length_set]; exact hcs.2⟩, by rw [List.length_set, hcl]⟩
  · refine setI_of (d := x) (i := .int (i : Int)) (j := 13) (ki := .dat (.int (i : Int))) (ls1 := wS ns a1 a2 k f1 n bs a7 a8 a9 a10 a11 a12 (.own (.lst cs)) a14) (ls2 := wS ns a1 a2 k f1 n bs a7 a8 a9 a10 a11 a12 (.own (.lst cs)) a14) (ls3 := wS ns a1 a2 k f1 n bs a7 a8 a9 a10 a11 a12 (.own (.lst cs)) a14) ?_ rfl hvar rfl ?_
    · refine frzM_of (callN_of (as := [.ali 4, .dat bs[i], .dat (.int (i : Int)), .dat (.int n)]) (ls1 := wS ns a1 a2 k f n bs a7 a8 a9 a10 a11 a12 (.own (.lst cs)) a14) (ls2 := wS ns a1 a2 k f1 n bs a7 a8 a9 a10 a11 a12 (.own (.lst cs)) a14) ?_ rfl nd1 rfl e rfl rfl) rfl
      exact consA_of rfl (consA_of (binM_of (k1 := .ali 6) (ls1 := wS ns a1 a2 k f n bs a7 a8 a9 a10 a11 a12 (.own (.lst cs)) a14) rfl hvar rfl rfl hix) (consA_of hvar rfl))
    · have : chg 13 (fun y => setD y (.int (i : Int)) x) (wS ns a1 a2 k f1 n bs a7 a8 a9 a10 a11 a12 (.own (.lst cs)) a14) = (setD (.lst cs) (.int (i : Int)) x).map fun d' => (wS ns a1 a2 k f1 n bs a7 a8 a9 a10 a11 a12 (.own (.lst cs)) a14).set 13 (.own d') := rfl
      rw [this, hset]
      rfl
  · rcases List.mem_or_eq_of_mem_set hd with z | z
    · exact hcs.1 d z
    · rw [z]; exact hx
theorem c3_ok (h : Ok n bs) (hc : CBs n 0 bs) {u : Int} (u1 : 0 ≤ u) (u2 : u < n) (hcs : Bs cs) (hcl : cs.length = bs.length) : ∃ f' ds, la2_10_3 (wS ns a1 a2 k f n bs a7 a8 a9 a10 a11 (.dat (.int u)) (.own (.lst cs)) a14) = .nx (wS ns a1 a2 k f' n bs a7 a8 a9 a10 a11 (.dat (.int u)) (.own (.lst ds)) a14) ∧ Bs ds ∧ ds.length = bs.length := by
  obtain ⟨f1, r, e, r1, r2⟩ := take_ok f (n := 3) (by decide) (by decide)
  have cond : binM eqD (callN 2 m__law_take (consA (varM 4) (consA (conM (.int 3)) nilA))) (conM (.int 0)) (wS ns a1 a2 k f n bs a7 a8 a9 a10 a11 (.dat (.int u)) (.own (.lst cs)) a14) = .ok (.dat (.bl (decide (r = 0)))) (wS ns a1 a2 k f1 n bs a7 a8 a9 a10 a11 (.dat (.int u)) (.own (.lst cs)) a14) :=
    binM_of (k1 := .dat (.int r)) (k2 := .dat (.int 0)) (callN_of (as := [.ali 4, .dat (.int 3)]) (ls1 := wS ns a1 a2 k f n bs a7 a8 a9 a10 a11 (.dat (.int u)) (.own (.lst cs)) a14) rfl rfl nd1 rfl e rfl rfl) rfl rfl rfl (by rw [eqD_ap, eqP_i]; rfl)
  unfold la2_10_3
  by_cases h0 : r = 0
  · rw [decide_eq_true h0] at cond
    obtain ⟨f', ds, e2, b1, b2⟩ := spoil (ns := ns) (a1 := a1) (a2 := a2) (k := k) (f := f1) (a7 := a7) (a8 := a8) (a9 := a9) (a10 := a10) (a11 := a11) (a12 := .dat (.int u)) (a14 := a14) h hc (v := 12) (.inr rfl) u1 u2 hcs hcl rfl
    exact ⟨f', ds, ifS_t cond e2, b1, b2⟩
  · rw [decide_eq_false h0] at cond
    exact ⟨f1, cs, ifS_f cond rfl, hcs, hcl⟩
theorem c4_ok (hcs : Bs cs) : la2_10_4 (wS ns a1 a2 k f n bs a7 a8 a9 a10 a11 a12 (.own (.lst cs)) a14) = .nx (wS ns a1 a2 k f n bs a7 a8 a9 a10 a11 a12 (.own (.lst cs)) a14) := by
  unfold la2_10_4
  exact ifS_f (notM_of (b := true) (callN_of (as := [.ali 13]) (ls1 := wS ns a1 a2 k f n bs a7 a8 a9 a10 a11 a12 (.own (.lst cs)) a14) (ls2 := wS ns a1 a2 k f n bs a7 a8 a9 a10 a11 a12 (.own (.lst cs)) a14) rfl rfl nd1 rfl (told_ok hcs) rfl rfl)) rfl
theorem c5_ok (hcs : Bs cs) : la2_10_5 (wS ns a1 a2 k f n bs a7 a8 a9 a10 a11 a12 (.own (.lst cs)) a14) = .nx (wS ns a1 a2 k f n bs a7 a8 a9 a10 a11 a12 (.own (.lst cs)) (tdS cs)) := by
  have e := made_ok hcs.1
  unfold mdR at e
  unfold tdS la2_10_5
  by_cases hr : 2 ≤ cs.length ∧ cs.length ≤ 40
  · rw [if_pos hr] at e ⊢
    cases hf : fbad cs.length 0 cs with
    | some m =>
      simp only [hf] at e
      exact asgM_of (callN_of (as := [.own (.lst cs)]) (ls1 := wS ns a1 a2 k f n bs a7 a8 a9 a10 a11 a12 (.own (.lst cs)) a14) (ls2 := wS ns a1 a2 k f n bs a7 a8 a9 a10 a11 a12 (.own (.lst cs)) a14) rfl rfl nd0 rfl e rfl rfl) rfl
    | none =>
      simp only [hf] at e
      exact asgM_of (callN_of (as := [.own (.lst cs)]) (ls1 := wS ns a1 a2 k f n bs a7 a8 a9 a10 a11 a12 (.own (.lst cs)) a14) (ls2 := wS ns a1 a2 k f n bs a7 a8 a9 a10 a11 a12 (.own (.lst cs)) a14) rfl rfl nd0 rfl e rfl rfl) rfl
  · rw [if_neg hr] at e ⊢
    exact asgM_of (callN_of (as := [.own (.lst cs)]) (ls1 := wS ns a1 a2 k f n bs a7 a8 a9 a10 a11 a12 (.own (.lst cs)) a14) (ls2 := wS ns a1 a2 k f n bs a7 a8 a9 a10 a11 a12 (.own (.lst cs)) a14) rfl rfl nd0 rfl e rfl rfl) rfl
end
/-! no bools in what is a block -/
theorem nb_op {d : D} (h : opB d = true) : pnb (py d) = true := by
  cases d <;> first | (simp [opB, nmB, whF] at h; done) | simp [py, pnb]
theorem nb_nm {d : D} (h : nmB d = true) : pnb (py d) = true := by
  cases d <;> first | (simp [nmB] at h; done) | simp [py, pnb]
theorem nb_is {w : Str} {d : D} (h : isS w d = true) : pnb (py d) = true := by
  rw [isS_eq h]; simp [py, pnb]
theorem nb_ln {d : D} (h : lnB d = true) : pnb (py d) = true := by
  unfold lnB at h
  split at h
  · rename_i a b c e
    simp only [Bool.and_eq_true, Bool.or_eq_true] at h
    have hc : pnb (py c) = true := h.2.2.1.elim nb_is nb_is
    simp [py, pys, pnb, pnbs, nb_nm h.1, nb_op h.2.1, hc, nb_op h.2.2.2]
  · cases h
theorem nb_en {d : D} {u n : Int} (h : enB d u n = true) : pnb (py d) = true := by
  cases d with
  | tup ds =>
    by_cases hu : u = n - 1
    · simp only [enB, if_pos hu] at h
      rw [stB_iff] at h
      rw [h]; simp [py, pys, pnb, pnbs]
    · by_cases h2 : ds.length = 2
      · obtain ⟨a, t, rfl⟩ := len2 h2
        simp only [enB, if_neg hu, Bool.and_eq_true] at h
        obtain ⟨i, rfl⟩ := whF_int h.2
        simp [py, pys, pnb, pnbs, nb_is h.1]
      · by_cases h6 : ds.length = 6
        · obtain ⟨a, b, c, e, t, t', rfl⟩ := len6 h6
          simp only [enB, if_neg hu, Bool.and_eq_true, Bool.or_eq_true] at h
          obtain ⟨i, rfl⟩ := whF_int h.2.2.2.2.1
          obtain ⟨j, rfl⟩ := whF_int h.2.2.2.2.2.1
          have hc : pnb (py c) = true := h.2.1.elim nb_is nb_is
          simp [py, pys, pnb, pnbs, nb_is h.1, hc, nb_op h.2.2.1, nb_op h.2.2.2.1]
        · rw [enB_not hu h2 h6] at h; cases h
  | _ => cases h
theorem nbs_all : ∀ {ls : List D}, (∀ l ∈ ls, pnb (py l) = true) → pnbs (pys ls) = true
  | [], _ => by simp [pys, pnbs]
  | d :: ds, h => by simp [pys, pnbs, h d List.mem_cons_self, nbs_all fun l hl => h l (List.mem_cons_of_mem _ hl)]
theorem nb_bl {d : D} {u n : Int} (h : blB d u n = true) : pnb (py d) = true := by
  unfold blB at h
  split at h
  · rename_i ls e
    simp only [Bool.and_eq_true] at h
    have := nbs_all fun l hl => nb_ln (List.all_eq_true.mp h.2.1 l hl)
    simp [py, pys, pnb, pnbs, this, nb_en h.2.2]
  · cases h
theorem nb_fb {n : Int} : ∀ {u : Nat} {ds : List D}, fbad n u ds = none → pnbs (pys ds) = true
  | u, [], _ => by simp [pys, pnbs]
  | u, d :: ds, h => by
    obtain ⟨h1, h2⟩ := fbad_cons h
    simp [pys, pnbs, nb_bl h1, nb_fb h2]
theorem same_ok {m n : Int} {bs cs : List D} (hb : Bs bs) (hc : Bs cs) (fb : fbad n 0 bs = none) (fc : fbad m 0 cs = none) : eqP (.lst cs) (.lst bs) = some (shD (.lst cs) == shD (.lst bs)) := by
  rw [eqP_gd hc.gd hb.gd (Nat.le_trans hc.dp (by decide)) (Nat.le_trans hb.dp (by decide))]
  congr 1
  have e1 := eqv_nb (py (.lst cs)) (py (.lst bs)) (by simp [py, pnb, nb_fb fc]) (by simp [py, pnb, nb_fb fb])
  have e2 := shD_inj hc.gd hb.gd
  rw [Bool.eq_iff_iff, e1, beq_iff_eq, e2]
  constructor
  · exact py_inj hc.gd hb.gd
  · intro h; rw [h]
section
variable {ns : List Int} {a1 a2 a3 a4 a5 a6 a7 a8 a9 a10 a11 a12 a13 a14 : Slot} {k n : Int} {f : Int × Int} {bs cs : List D}
theorem c6_d {i : Int} : la2_10_6 (wS ns a1 a2 k f n bs a7 a8 a9 a10 a11 a12 a13 (.dat (.int i))) = .nx (wS ns a1 a2 k f n bs a7 a8 a9 a10 a11 a12 a13 (.dat (.int i))) := by
  unfold la2_10_6
  exact ifS_f (andM_f (ls1 := wS ns a1 a2 k f n bs a7 a8 a9 a10 a11 a12 a13 (.dat (.int i))) rfl) rfl
theorem c6_o (h : Ok n bs) (hcs : Bs cs) (fc : fbad cs.length 0 cs = none) : la2_10_6 (wS ns a1 a2 k f n bs a7 (.own (Pg bs)) a9 a10 a11 a12 (.own (.lst cs)) (.own (Pg cs))) = .nx (wS ns a1 a2 k f n bs a7 (.own (Pg bs)) a9 a10 a11 a12 (.own (.lst cs)) (.own (Pg cs))) := by
  have e := peq_ok (same_ok h.ok hcs h.fb fc) (.inl rfl) (.inl rfl)
  have q := eqP_sh hcs.gd h.ok.gd
  have ek : eqk_Program (Pg bs) = true := by simp [Pg, eqk_Program]
  have t : tc_Program "Program" = some true := by decide +kernel
  have c1 : isiM tbNo tc_Program (varM 14) (wS ns a1 a2 k f n bs a7 (.own (Pg bs)) a9 a10 a11 a12 (.own (.lst cs)) (.own (Pg cs))) = .ok (.dat (.bl true)) (wS ns a1 a2 k f n bs a7 (.own (Pg bs)) a9 a10 a11 a12 (.own (.lst cs)) (.own (Pg cs))) := by
    have hp : ∃ gs, Pg cs = .ins "Program" gs := ⟨_, rfl⟩
    obtain ⟨gs, hp⟩ := hp
    simp only [wS]
    rw [hp]
    simp [isiD, t]
  have c2 : eqO ["Program"] m_Program___eq__ id eqk_Program (varM 14) (varM 8) (wS ns a1 a2 k f n bs a7 (.own (Pg bs)) a9 a10 a11 a12 (.own (.lst cs)) (.own (Pg cs))) = .ok (.dat (.bl (shD (.lst cs) == shD (.lst bs)))) (wS ns a1 a2 k f n bs a7 (.own (Pg bs)) a9 a10 a11 a12 (.own (.lst cs)) (.own (Pg cs))) := by
    have hp : ∃ gs, Pg cs = .ins "Program" gs := ⟨_, rfl⟩
    obtain ⟨gs, hp⟩ := hp
    simp only [wS]
    rw [hp] at e ⊢
    simp [e, ek]
  have c3 : binM eqD (bltM reprD (consA (varM 13) nilA)) (bltM reprD (consA (varM 6) nilA)) (wS ns a1 a2 k f n bs a7 (.own (Pg bs)) a9 a10 a11 a12 (.own (.lst cs)) (.own (Pg cs))) = .ok (.dat (.bl (shD (.lst cs) == shD (.lst bs)))) (wS ns a1 a2 k f n bs a7 (.own (Pg bs)) a9 a10 a11 a12 (.own (.lst cs)) (.own (Pg cs))) := by
    simp only [wS]
    simp [hcs.rep, h.ok.rep, q]
  unfold la2_10_6
  refine ifS_f (andM_t c1 (binM_of c2 c3 rfl rfl ?_)) rfl
  rw [neD_ap, eqP_b]
  simp
theorem turn_ok (h : Ok n bs) (hc : CBs n 0 bs) : ∃ f' b11 b12 b13 b14, (seqM la2_10_1 (seqM la2_10_2 (seqM la2_10_3 (seqM la2_10_4 (seqM la2_10_5 la2_10_6))))) (wS ns a1 a2 k f n bs a7 (.own (Pg bs)) a9 a10 a11 a12 a13 a14) = .nx (wS ns a1 a2 k f' n bs a7 (.own (Pg bs)) a9 a10 b11 b12 b13 b14) := by
  obtain ⟨f1, u, w, e1, u1, u2, w1, w2⟩ := c1_ok (ns := ns) (a1 := a1) (a2 := a2) (k := k) (f := f) (a7 := a7) (a8 := .own (Pg bs)) (a9 := a9) (a10 := a10) (a11 := a11) (a12 := a12) (a13 := a13) (a14 := a14) h
  obtain ⟨f2, cs, e2, c1, c2⟩ := spoil (ns := ns) (a1 := a1) (a2 := a2) (k := k) (f := f1) (a7 := a7) (a8 := .own (Pg bs)) (a9 := a9) (a10 := a10) (a11 := .dat (.int u)) (a12 := .dat (.int w)) (a14 := a14) h hc (v := 11) (.inl rfl) u1 u2 h.ok rfl rfl
  obtain ⟨f3, ds, e3, d1, d2⟩ := c3_ok (ns := ns) (a1 := a1) (a2 := a2) (k := k) (f := f2) (a7 := a7) (a8 := .own (Pg bs)) (a9 := a9) (a10 := a10) (a11 := .dat (.int u)) (a14 := a14) h hc w1 w2 c1 c2
  have e4 := c4_ok (ns := ns) (a1 := a1) (a2 := a2) (k := k) (f := f3) (n := n) (bs := bs) (a7 := a7) (a8 := .own (Pg bs)) (a9 := a9) (a10 := a10) (a11 := .dat (.int u)) (a12 := .dat (.int w)) (a14 := a14) d1
  have e5 := c5_ok (ns := ns) (a1 := a1) (a2 := a2) (k := k) (f := f3) (n := n) (bs := bs) (a7 := a7) (a8 := .own (Pg bs)) (a9 := a9) (a10 := a10) (a11 := .dat (.int u)) (a12 := .dat (.int w)) (a14 := a14) d1
  have e6 : la2_10_6 (wS ns a1 a2 k f3 n bs a7 (.own (Pg bs)) a9 a10 (.dat (.int u)) (.dat (.int w)) (.own (.lst ds)) (tdS ds)) = .nx (wS ns a1 a2 k f3 n bs a7 (.own (Pg bs)) a9 a10 (.dat (.int u)) (.dat (.int w)) (.own (.lst ds)) (tdS ds)) := by
    unfold tdS
    split
    · split
      · exact c6_d
      · rename_i z; exact c6_o h d1 z
    · exact c6_d
  exact ⟨f3, _, _, _, _, seqM_of e1 (seqM_of e2 (seqM_of e3 (seqM_of e4 (seqM_of e5 e6))))⟩
theorem turns (h : Ok n bs) (hc : CBs n 0 bs) : ∀ (l : List D) (f : Int × Int) (a10 a11 a12 a13 a14 : Slot), ∃ f' b10 b11 b12 b13 b14, forL none (tgN 10) (seqM la2_10_1 (seqM la2_10_2 (seqM la2_10_3 (seqM la2_10_4 (seqM la2_10_5 la2_10_6))))) l (wS ns a1 a2 k f n bs a7 (.own (Pg bs)) a9 a10 a11 a12 a13 a14) = .nx (wS ns a1 a2 k f' n bs a7 (.own (Pg bs)) a9 b10 b11 b12 b13 b14)
  | [], f, a10, a11, a12, a13, a14 => ⟨f, a10, a11, a12, a13, a14, rfl⟩
  | d :: l, f, a10, a11, a12, a13, a14 => by
    obtain ⟨f1, b11, b12, b13, b14, e1⟩ := turn_ok (ns := ns) (a1 := a1) (a2 := a2) (k := k) (f := f) (a7 := a7) (a9 := a9) (a10 := .dat d) (a11 := a11) (a12 := a12) (a13 := a13) (a14 := a14) h hc
    obtain ⟨f', c10, c11, c12, c13, c14, e2⟩ := turns h hc l f1 (.dat d) b11 b12 b13 b14
    exact ⟨f', c10, c11, c12, c13, c14, forL_nx rfl e1 e2⟩
theorem cell_ok (hk : 0 ≤ k) : ∃ b4 b5 b6 b7 b8 b9 b10 b11 b12 b13 b14, (seqM la2_1 (seqM la2_2 (seqM la2_3 (seqM la2_4 (seqM la2_5 (seqM la2_6 (seqM la2_7 (seqM la2_8 (seqM la2_9 la2_10))))))))) [.dat (.scr ns), a1, a2, .dat (.int k), a4, a5, a6, a7, a8, a9, a10, a11, a12, a13, a14] = .nx [.dat (.scr ns), a1, a2, .dat (.int k), b4, b5, b6, b7, b8, b9, b10, b11, b12, b13, b14] := by
  obtain ⟨f1, e1⟩ := b1_ok (ns := ns) (a1 := a1) (a2 := a2) (a4 := a4) (a5 := a5) (a6 := a6) (a7 := a7) (a8 := a8) (a9 := a9) (a10 := a10) (a11 := a11) (a12 := a12) (a13 := a13) (a14 := a14) hk
  obtain ⟨f2, n, e2, n1, n2⟩ := b2_ok (ns := ns) (k := k) (f := f1) (a1 := a1) (a2 := a2) (a5 := a5) (a6 := a6) (a7 := a7) (a8 := a8) (a9 := a9) (a10 := a10) (a11 := a11) (a12 := a12) (a13 := a13) (a14 := a14)
  obtain ⟨f3, bs, e3, l1, hc⟩ := b3_ok (ns := ns) (k := k) (f := f2) (a1 := a1) (a2 := a2) (a6 := a6) (a7 := a7) (a8 := a8) (a9 := a9) (a10 := a10) (a11 := a11) (a12 := a12) (a13 := a13) (a14 := a14) n1 n2
  have ok : Ok n bs := ⟨⟨fun d hd => by obtain ⟨_, h⟩ := CBs_mem hc d hd; exact h.bk, by omega⟩, l1, n1, n2, CBs_fbad hc⟩
  obtain ⟨f4, c10, c11, c12, c13, c14, e10⟩ := turns (ns := ns) (a1 := a1) (a2 := a2) (k := k) (a7 := .own (.lst (bs ++ [.non]))) (a9 := .own (.lst (bs ++ [.non]))) ok hc (rangeD 0 8) f3 a10 a11 a12 a13 a14
  have e11 : la2_10 (wS ns a1 a2 k f3 n bs (.own (.lst (bs ++ [.non]))) (.own (Pg bs)) (.own (.lst (bs ++ [.non]))) a10 a11 a12 a13 a14) = .nx (wS ns a1 a2 k f4 n bs (.own (.lst (bs ++ [.non]))) (.own (Pg bs)) (.own (.lst (bs ++ [.non]))) c10 c11 c12 c13 c14) := forM_of rfl e10
  exact ⟨_, _, _, _, _, _, _, _, _, _, _, seqM_of e1 (seqM_of e2 (seqM_of e3 (seqM_of b4_ok (seqM_of (b5_ok ok) (seqM_of (b6_ok ok) (seqM_of b7_ok (seqM_of (b8_ok ok) (seqM_of (b9_ok ok) e11))))))))⟩
theorem cells : ∀ (l : List Int) (a3 a4 a5 a6 a7 a8 a9 a10 a11 a12 a13 a14 : Slot), (∀ k ∈ l, 0 ≤ k) → ∃ b3 b4 b5 b6 b7 b8 b9 b10 b11 b12 b13 b14, forL none (tgN 3) (seqM la2_1 (seqM la2_2 (seqM la2_3 (seqM la2_4 (seqM la2_5 (seqM la2_6 (seqM la2_7 (seqM la2_8 (seqM la2_9 la2_10))))))))) (l.map D.int) [.dat (.scr ns), a1, a2, a3, a4, a5, a6, a7, a8, a9, a10, a11, a12, a13, a14] = .nx [.dat (.scr ns), a1, a2, b3, b4, b5, b6, b7, b8, b9, b10, b11, b12, b13, b14]
  | [], a3, a4, a5, a6, a7, a8, a9, a10, a11, a12, a13, a14, _ => ⟨a3, a4, a5, a6, a7, a8, a9, a10, a11, a12, a13, a14, rfl⟩
  | k :: l, a3, a4, a5, a6, a7, a8, a9, a10, a11, a12, a13, a14, h => by
    obtain ⟨b4, b5, b6, b7, b8, b9, b10, b11, b12, b13, b14, e1⟩ := cell_ok (ns := ns) (a1 := a1) (a2 := a2) (a4 := a4) (a5 := a5) (a6 := a6) (a7 := a7) (a8 := a8) (a9 := a9) (a10 := a10) (a11 := a11) (a12 := a12) (a13 := a13) (a14 := a14) (h k List.mem_cons_self)
    obtain ⟨c3, c4, c5, c6, c7, c8, c9, c10, c11, c12, c13, c14, e2⟩ := cells l (.dat (.int k)) b4 b5 b6 b7 b8 b9 b10 b11 b12 b13 b14 fun x hx => h x (List.mem_cons_of_mem _ hx)
    exact ⟨c3, c4, c5, c6, c7, c8, c9, c10, c11, c12, c13, c14, forL_nx rfl e1 e2⟩
end
theorem src_ok {ns : List Int} (hn : ns.length ≤ 63) {p : Slot} : ∃ c : Nat, rng1 (consA (bltM maxD (consA (conM (.int 1)) (consA (bltM minD (consA (conM (.int 3)) (consA (bltM lenD (consA (varM 0) nilA)) nilA))) nilA))) nilA) (aS ns 41 p) = .ok (rangeD 0 c) none (aS ns 41 p) := by
  have key : ∀ {m : Int}, -1000000 ≤ m → m ≤ 1000000 → ∀ {mm : M}, mm (aS ns 41 p) = .ok (.dat (.int m)) (aS ns 41 p) → ∃ c : Nat, rng1 (consA mm nilA) (aS ns 41 p) = .ok (rangeD 0 c) none (aS ns 41 p) := fun {m} h1 h2 {mm} h => by
    refine ⟨m.toNat, ?_⟩
    have := inR_of h1 h2
    rw [rng1_ap, consA_ap, h, RbA_ok, nilA_ap]
    simp only [this, if_true]
  have hm : bltM minD (consA (conM (.int 3)) (consA (bltM lenD (consA (varM 0) nilA)) nilA)) (aS ns 41 p) = .ok (.dat (.int (if (ns.length : Int) < 3 then ns.length else 3))) (aS ns 41 p) := by
    simp only [aS]
    simp
  refine key (m := if (if (ns.length : Int) < 3 then (ns.length : Int) else 3) > 1 then (if (ns.length : Int) < 3 then (ns.length : Int) else 3) else 1) ?_ ?_ ?_
  · split <;> (try split) <;> omega
  · split <;> (try split) <;> omega
  · rw [bltM_ap, consA_ap, conM_ap, RbA_ok, consA_ap, hm, RbA_ok, nilA_ap]
    rfl
theorem pure_k52 (ns : List Int) (hn : ns.length ≤ 63) : ∃ ps, m_law [.dat (.scr ns)] = .ok (.dat (.bl true)) ps := by
  have s0 : startLS 15 [.dat (.scr ns)] = [.dat (.scr ns), .emp, .emp, .emp, .emp, .emp, .emp, .emp, .emp, .emp, .emp, .emp, .emp, .emp, .emp] := rfl
  obtain ⟨c, hs⟩ := src_ok hn (p := .own (.lst (GB 40)))
  obtain ⟨b3, b4, b5, b6, b7, b8, b9, b10, b11, b12, b13, b14, e⟩ := cells (ns := ns) (a1 := .dat (.int 41)) (a2 := .own (.lst (GB 40))) ((List.range c).map fun (i : Nat) => (0 : Int) + (i : Int)) .emp .emp .emp .emp .emp .emp .emp .emp .emp .emp .emp .emp (fun k hk => by simp at hk; obtain ⟨i, hi, rfl⟩ := hk; omega)
  rw [← rangeD_map] at e
  have e2 : la2 (aS ns 41 (.own (.lst (GB 40)))) = .nx [.dat (.scr ns), .dat (.int 41), .own (.lst (GB 40)), b3, b4, b5, b6, b7, b8, b9, b10, b11, b12, b13, b14] := forM_of hs e
  refine ⟨[.dat (.scr ns)], ?_⟩
  rw [la_split, funM_ap, s0, seqM_of la1_ok (seqM_of e2 (show la3 _ = .ret (.dat (.bl true)) _ from rfl))]
  rfl
end VM

open PySem PySem.W PyProof.Rows
theorem PySem.Challenge.cw_runledger_k52_what_is_a_program_holds : PySem.Challenge.rw_runledger_k52_what_is_a_program.Holds := by
  exact VM.holds_of VM.pure_k52
